/- The program's parts of values: bins. -/
import Derived.Test.YthkmckmfgglafaaGreatQopkphcpilh
import Derived.Test.YthkmckmfgglafaaGreatQeiellgheod
import Derived.Test.YthkmckmfgglafaaGreatQfffdgmglkb
import Derived.Test.YthkmckmfgglafaaGreatQeblgjmhjig
import Derived.Test.YthkmckmfgglafaaGreatQmhlbijnfcd
import Derived.Test.YthkmckmfgglafaaGreatQmkjlcblnfm
namespace Go.Proofs.YthkmckmfgglafaaGreat.Civ
set_option linter.unusedVariables false
set_option linter.unusedSimpArgs false
open Go.RowKit Go.Proofs.YthkmckmfgglafaaGreat.P Go.Proofs.YthkmckmfgglafaaGreatW.PrintWords Go.Proofs.YthkmckmfgglafaaGreatW.PrintLast Go.Proofs.YthkmckmfgglafaaGreatW.PrintMore
def SOk (i m d u : Int) : Prop :=
  (i = 0 ∧ -2147483647 ≤ m ∧ m ≤ 2147483647 ∧ -2147483647 ≤ d ∧ d ≤ 2147483647 ∧ -9223372036854775807 ≤ u ∧ u ≤ 9223372036854775807) ∨ ((i = -1 ∨ i = 1) ∧ m = 0 ∧ d = 0 ∧ u = 0)
instance (i m d u : Int) : Decidable (SOk i m d u) := inferInstanceAs (Decidable (_ ∨ _))
theorem within_eq (n : Int) : span_within.f n = some (decide (-2147483647 ≤ n ∧ n ≤ 2147483647)) := by
  unfold span_within.f
  by_cases h : n ≥ -2147483647
  · rw [if_pos h]; congr 1; apply decide_eq_decide.2; omega
  · rw [if_neg h, decide_eq_false (by omega)]
theorem zeros_iff (m d u : Int) : ((m == 0 && (d == 0 && (u == 0))) = true) ↔ (m = 0 ∧ d = 0 ∧ u = 0) := by simp
theorem sright_eq (i m d u : Int) (hu : I64 u) : span_Right.f i m d u = some (decide (SOk i m d u)) := by
  unfold span_Right.f
  by_cases h : i = 0
  · rw [if_pos h, neg_eq u hu, within_eq, within_eq]
    simp only [Option.bind_some, decide_eq_true_eq]
    have e : ((out (-u)).2 == 0) = decide (-9223372036854775807 ≤ u) := by
      unfold I64 at hu
      by_cases g : -9223372036854775807 ≤ u
      · rw [decide_eq_true g, out_in (by unfold I64; omega)]; rfl
      · rw [decide_eq_false g, out_no (by unfold I64; omega)]; rfl
    unfold I64 at hu
    by_cases h1 : -2147483647 ≤ m ∧ m ≤ 2147483647
    · rw [if_pos h1]
      by_cases h2 : -2147483647 ≤ d ∧ d ≤ 2147483647
      · rw [if_pos h2, e]; congr 1; apply decide_eq_decide.2; unfold SOk; omega
      · rw [if_neg h2, decide_eq_false (by unfold SOk; omega)]
    · rw [if_neg h1, decide_eq_false (by unfold SOk; omega)]
  · rw [if_neg h]
    by_cases h1 : m = 0 ∧ d = 0 ∧ u = 0
    · rw [if_pos ((zeros_iff m d u).2 h1)]
      by_cases h2 : i ≥ -1
      · rw [if_pos h2]; congr 1; apply decide_eq_decide.2; unfold SOk; omega
      · rw [if_neg h2, decide_eq_false (by unfold SOk; omega)]
    · rw [if_neg (fun f => h1 ((zeros_iff m d u).1 f)), decide_eq_false (by unfold SOk; omega)]
theorem out_i64 (z : Int) : I64 (out z).1 := by
  by_cases h : I64 z
  · rw [out_in h]; exact h
  · rw [out_no h]; unfold I64; decide
theorem errno_ev (a b c : Int) : Ev (fun k => api_Errno.f k [a, b, c, 0]) (mx (mx (mx a b) c) 0) := by
  refine Ev.of (api_Errno.mono [a, b, c, 0]) (k := 6) ?_
  have e0 : rd [a, b, c, 0] 0 = a := rfl
  have e1 : rd [a, b, c, 0] 1 = b := rfl
  have e2 : rd [a, b, c, 0] 2 = c := rfl
  have e3 : rd [a, b, c, 0] 3 = 0 := rfl
  have w2 : wrap64 2 = 2 := w64 (by omega) (by omega)
  have w3 : wrap64 3 = 3 := w64 (by omega) (by omega)
  have w4 : wrap64 4 = 4 := w64 (by omega) (by omega)
  unfold api_Errno.f
  simp [api_Errno.l0, e0, e1, e2, e3, w2, w3, w4]
theorem made_ev (u a b c : Int) (hu : I64 u) : Ev (fun k => ops_made.f k u [a, b, c]) (if mx (mx (mx a b) c) 0 = 0 ∧ DRS 0 u then (0, u, 0) else (0, 0, 10)) := by
  unfold ops_made.f
  refine Ev.pos (by simp) ?_
  refine Ev.bind (errno_ev a b c) ?_
  by_cases h : mx (mx (mx a b) c) 0 = 0
  · refine Ev.pos h (Ev.bind (drightS_ev 0 u hu) ?_)
    by_cases g : DRS 0 u
    · exact Ev.cast (Ev.pos (decide_eq_true g) (Ev.now _)) (if_pos ⟨h, g⟩).symm
    · exact Ev.cast (Ev.neg (by simp [g]) (Ev.now _)) (if_neg (fun e => g e.2)).symm
  · exact Ev.cast (Ev.neg h (Ev.now _)) (if_neg (fun e => h e.1)).symm
theorem mx_zero {a b c : Int} (h : mx (mx (mx a b) c) 0 = 0) : a ≤ 0 ∧ b ≤ 0 ∧ c ≤ 0 := by
  unfold mx at h; split at h <;> split at h <;> split at h <;> omega
/-- A whole number of days and microseconds, neither below 0. -/
theorem exact_ev (d u : Int) (hd : 0 ≤ d ∧ d ≤ 999) (hu : 0 ≤ u ∧ u < 86400000000000) : Ev (fun k => ops_exact.f k d 86400000000 u) (d * 86400000000 + u, 0) := by
  have ed : wrap64 (Int.tdiv u 86400000000) = u / 86400000000 := by rw [td_pos hu.1, w64 (by omega) (by omega)]
  have es : wrap64 (d + u / 86400000000) = d + u / 86400000000 := w64 (by omega) (by omega)
  have em : Int.tmod u 86400000000 = u % 86400000000 := tm_pos hu.1
  unfold ops_exact.f
  rw [ed, es, em]
  refine Ev.neg (by omega) (Ev.neg (by omega) (Ev.succ ?_))
  simp only [ops_exact.j0]
  refine Ev.neg (by simp) ?_
  have hm : Ev (fun k => num_Mul.f k (d + u / 86400000000) 86400000000) ((d + u / 86400000000) * 86400000000, 0) :=
    Ev.cast (Ev.at1 fun k => mul_eq k _ _ (by unfold I64; omega) (by unfold I64; omega)) (out_in (by unfold I64; omega))
  have fin : Ev (fun k => ops_exact.j1 k (d + u / 86400000000) 86400000000 (u % 86400000000)) (d * 86400000000 + u, 0) := by
    refine Ev.succ ?_
    simp only [ops_exact.j1]
    refine Ev.bind hm ?_
    refine Ev.pos (by simp) ?_
    refine Ev.bind0 (add_eq _ _ (by unfold I64; omega) (by unfold I64; omega)) ?_
    refine Ev.cast (Ev.now _) ?_
    rw [out_in (by unfold I64; omega)]
    congr 1; omega
  by_cases h : d + u / 86400000000 > 0
  · exact Ev.pos h (Ev.neg (by omega) fin)
  · exact Ev.neg h fin
theorem bin_ev (d u i t j o : Int) (hd : 0 ≤ d ∧ d ≤ 999) (hu : 0 ≤ u ∧ u < 86400000000000) (ht : I64 t) (ho : I64 o) : ∃ r, Ev (fun k => ops_Bin.f k 0 0 d u i t j o) r ∧
    (d * 86400000000 + u = 0 → r.2.2 ≠ 0) ∧ (d * 86400000000 + u ≠ 0 → r.2.2 = 0 → i = 0 → r.2.1 = t - (t - o) % (d * 86400000000 + u) ∧ I64 r.2.1) := by
  have hu64 : I64 u := by unfold I64; omega
  have no : ∀ k' : Nat → Option (Int × Int × Int), Ev (fun k => k' k) ((0, 0, 1) : Int × Int × Int) → ∃ r, Ev (fun k => k' k) r ∧ (d * 86400000000 + u = 0 → r.2.2 ≠ 0) ∧ (d * 86400000000 + u ≠ 0 → r.2.2 = 0 → i = 0 → r.2.1 = t - (t - o) % (d * 86400000000 + u) ∧ I64 r.2.1) :=
    fun k' h => ⟨_, h, fun _ => by decide, fun _ g => by simp at g⟩
  have j1 : ∀ i t j o, Ev (fun k => ops_Bin.j0 k true 0 0 d u i t j o) (0, 0, 1) := fun i t j o => by
    refine Ev.succ ?_
    simp only [ops_Bin.j0]
    exact Ev.pos (by simp) (Ev.now _)
  by_cases h1 : DRS i t
  case neg =>
    refine no (fun k => ops_Bin.f k 0 0 d u i t j o) ?_
    unfold ops_Bin.f
    refine Ev.bind0 (sright_eq 0 0 d u hu64) (Ev.pos (decide_eq_true (by unfold SOk; omega)) (Ev.bind (drightS_ev i t ht) (Ev.neg (by simp [h1]) (j1 _ _ _ _))))
  by_cases h2 : DRS j o
  case neg =>
    refine no (fun k => ops_Bin.f k 0 0 d u i t j o) ?_
    unfold ops_Bin.f
    refine Ev.bind0 (sright_eq 0 0 d u hu64) (Ev.pos (decide_eq_true (by unfold SOk; omega)) (Ev.bind (drightS_ev i t ht) (Ev.pos (decide_eq_true h1) (Ev.bind (drightS_ev j o ho) ?_))))
    rw [decide_eq_false h2]
    exact j1 _ _ _ _
  suffices H : ∃ r, Ev (fun k => ops_Bin.j0 k false 0 0 d u i t j o) r ∧ (d * 86400000000 + u = 0 → r.2.2 ≠ 0) ∧ (d * 86400000000 + u ≠ 0 → r.2.2 = 0 → i = 0 → r.2.1 = t - (t - o) % (d * 86400000000 + u) ∧ I64 r.2.1) by
    obtain ⟨r, H, H2⟩ := H
    refine ⟨r, ?_, H2⟩
    unfold ops_Bin.f
    refine Ev.bind0 (sright_eq 0 0 d u hu64) (Ev.pos (decide_eq_true (by unfold SOk; omega)) (Ev.bind (drightS_ev i t ht) (Ev.pos (decide_eq_true h1) (Ev.bind (drightS_ev j o ho) ?_))))
    rw [decide_eq_true h2]
    exact H
  obtain ⟨n, hn⟩ : ∃ n, n = d * 86400000000 + u := ⟨_, rfl⟩
  rw [← hn]
  have hex := exact_ev d u hd hu
  rw [← hn] at hex
  have hn0 : 0 ≤ n := by omega
  have hn1 : n ≤ 172800000000000 := by omega
  by_cases hj : j = 0
  case neg =>
    refine ⟨(0, 0, 10), Ev.succ ?_, fun _ => by simp, fun _ h => by simp at h⟩
    simp only [ops_Bin.j0]
    refine Ev.neg (by simp) (Ev.bind hex (Ev.pos (by simp) (Ev.pos (by simp) (Ev.neg hj (Ev.succ ?_)))))
    simp only [ops_Bin.j1]
    exact Ev.pos (by simp) (Ev.now _)
  have hd0 : decide (n < 0) = false := decide_eq_false (by omega)
  suffices H : ∃ r, Ev (fun k => ops_Bin.j1 k n false i t j o) r ∧ (n = 0 → r.2.2 ≠ 0) ∧ (n ≠ 0 → r.2.2 = 0 → i = 0 → r.2.1 = t - (t - o) % n ∧ I64 r.2.1) by
    obtain ⟨r, H, H2⟩ := H
    refine ⟨r, Ev.succ ?_, H2⟩
    simp only [ops_Bin.j0]
    refine Ev.neg (by simp) (Ev.bind hex (Ev.pos (by simp) (Ev.pos (by simp) (Ev.pos hj (Ev.pos (by simp) ?_)))))
    rw [hd0]
    exact H
  by_cases h0 : n = 0
  · refine ⟨(0, 0, 11), Ev.succ ?_, fun _ => by simp, fun h => (h h0).elim⟩
    simp only [ops_Bin.j1]
    exact Ev.neg (by simp) (Ev.pos h0 (Ev.now _))
  by_cases hi : i = 0
  case neg =>
    refine ⟨(i, t, 0), Ev.succ ?_, fun h => (h0 h).elim, fun _ _ h => (hi h).elim⟩
    simp only [ops_Bin.j1]
    exact Ev.neg (by simp) (Ev.neg h0 (Ev.neg hi (Ev.now _)))
  have hN : I64 n := by unfold I64; omega
  have hg : I64 (out (t - o)).1 := out_i64 _
  have hmd : md (out (t - o)).1 n = (out (t - o)).1 % n := md_pos (by omega)
  have hm : num_Mod.f (out (t - o)).1 n = some ((out (t - o)).1 % n, 0) := by rw [mod_eq _ _ hg hN h0, hmd]
  have hr0 := Int.emod_nonneg (out (t - o)).1 h0
  have hr1 := Int.emod_lt_of_pos (out (t - o)).1 (show 0 < n by omega)
  have hrI : I64 ((out (t - o)).1 % n) := by unfold I64; omega
  have ho2 : I64 (out (t - (out (t - o)).1 % n)).1 := out_i64 _
  refine ⟨if mx (mx (mx (out (t - o)).2 0) (out (t - (out (t - o)).1 % n)).2) 0 = 0 ∧ DRS 0 (out (t - (out (t - o)).1 % n)).1 then (0, (out (t - (out (t - o)).1 % n)).1, 0) else (0, 0, 10), Ev.succ ?_, fun h => (h0 h).elim, ?_⟩
  · simp only [ops_Bin.j1]
    exact Ev.neg (by simp) (Ev.neg h0 (Ev.pos hi (Ev.bind0 (sub_eq t o ht ho) (Ev.bind0 hm (Ev.bind0 (sub_eq _ _ ht hrI) (Ev.bind (made_ev _ _ _ _ ho2) (Ev.now _)))))))
  · intro _ he _
    split at he
    case isFalse => simp at he
    rename_i hc
    obtain ⟨e1, e2, e3⟩ := mx_zero hc.1
    have i1 : I64 (t - o) := by
      apply Classical.byContradiction; intro h; rw [out_no h] at e1; simp at e1
    rw [if_pos hc]
    rw [out_in i1] at e3 ⊢
    try dsimp only at e3 ⊢
    have i2 : I64 (t - (t - o) % n) := by
      apply Classical.byContradiction; intro h; rw [out_no h] at e3; simp at e3
    rw [out_in i2]
    exact ⟨rfl, i2⟩
end Go.Proofs.YthkmckmfgglafaaGreat.Civ
namespace Go.Proofs.YthkmckmfgglafaaGreat.Pure
set_option linter.unusedVariables false
set_option linter.unusedSimpArgs false
open Go.RowKit Go.Proofs.YthkmckmfgglafaaGreat.P Go.Proofs.YthkmckmfgglafaaGreatW.PrintWords Go.Proofs.YthkmckmfgglafaaGreatW.PrintLast Go.Proofs.YthkmckmfgglafaaGreat.Civ
theorem known_fin : Ev (fun _ => (computuslaw20_known.f).bind fun t => some t) true := Ev.now _
theorem tmod_up {a n : Int} (h : 0 < n) (hn : n ≤ 172800000000000) : (if Int.tmod a n < 0 then wrap64 (Int.tmod a n + n) else Int.tmod a n) = a % n := by
  have c := cut_floor a h
  have h1 := Int.emod_nonneg a (Int.ne_of_gt h)
  have h2 := Int.emod_lt_of_pos a h
  split
  · rename_i g; rw [(c.1 g).2.1, Int.sub_add_cancel, w64 (by omega) (by omega)]
  · rename_i g; exact (c.2 g).2
theorem whole_j1 (d u i t j o : Int) (hd : 0 ≤ d ∧ d ≤ 999) (hu : 0 ≤ u ∧ u < 86400000000000) (ht : I64 t) (ho : I64 o) : Ev (fun k => computuslaw20_OpsWhole.j1 k d u i t j o) true := by
  obtain ⟨r, hb, h0, h1⟩ := bin_ev d u i t j o hd hu ht ho
  have e1 : wrap64 (d * 86400000000) = d * 86400000000 := w64 (by omega) (by omega)
  have e2 : wrap64 (d * 86400000000 + u) = d * 86400000000 + u := w64 (by omega) (by omega)
  have ex : ∀ n i t j o a b, Ev (fun k => computuslaw20_OpsWhole.j2 k n true i t j o a b) true := fun n i t j o a b => by
    refine Ev.succ ?_
    simp only [computuslaw20_OpsWhole.j2]
    exact Ev.pos (by simp) known_fin
  refine Ev.succ ?_
  simp only [computuslaw20_OpsWhole.j1]
  rw [e1, e2]
  obtain ⟨n, hn⟩ : ∃ n, n = d * 86400000000 + u := ⟨_, rfl⟩
  rw [← hn] at h0 h1 ⊢
  refine Ev.bind hb ?_
  by_cases hz : n = 0
  · exact Ev.pos hz (Ev.neg (h0 hz) known_fin)
  refine Ev.neg hz ?_
  by_cases he : r.2.2 = 0
  case neg => exact Ev.neg he (ex _ _ _ _ _ _ _)
  refine Ev.pos he ?_
  by_cases hi : i = 0
  case neg =>
    rw [show (i != 0) = true by simpa using hi]
    exact ex _ _ _ _ _ _ _
  rw [show (i != 0) = false by simpa using hi]
  obtain ⟨g1, g2⟩ := h1 hz he hi
  have hp : 0 < n := by omega
  have hle : n ≤ 172800000000000 := by omega
  have r0 := Int.emod_nonneg (t - o) hz
  have r1 := Int.emod_lt_of_pos (t - o) hp
  have same : r.2.1 % n = o % n := by
    have e := Int.mul_ediv_add_emod (t - o) n
    have : r.2.1 = o + n * ((t - o) / n) := by rw [g1]; omega
    rw [this, Int.add_mul_emod_self_left]
  have w1 : wrap64 (t - r.2.1) = t - r.2.1 := w64 (by omega) (by omega)
  have up1 := tmod_up (a := r.2.1) hp hle
  have up2 := tmod_up (a := o) hp hle
  refine Ev.succ ?_
  simp only [computuslaw20_OpsWhole.j2]
  refine Ev.neg (by simp) (Ev.neg hz ?_)
  rw [w1]
  by_cases a1 : Int.tmod r.2.1 n < 0 <;> by_cases a2 : Int.tmod o n < 0
  · rw [if_pos a1] at up1; rw [if_pos a2] at up2
    exact Ev.pos a1 (Ev.pos a2 (Ev.pos (by omega) (Ev.pos (by omega) (Ev.pos (by rw [up1, up2, same]) known_fin))))
  · rw [if_pos a1] at up1; rw [if_neg a2] at up2
    exact Ev.pos a1 (Ev.neg a2 (Ev.pos (by omega) (Ev.pos (by omega) (Ev.pos (by rw [up1, up2, same]) known_fin))))
  · rw [if_neg a1] at up1; rw [if_pos a2] at up2
    exact Ev.neg a1 (Ev.pos a2 (Ev.pos (by omega) (Ev.pos (by omega) (Ev.pos (by rw [up1, up2, same]) known_fin))))
  · rw [if_neg a1] at up1; rw [if_neg a2] at up2
    exact Ev.neg a1 (Ev.neg a2 (Ev.pos (by omega) (Ev.pos (by omega) (Ev.pos (by rw [up1, up2, same]) known_fin))))
theorem OpsWhole : computuslaw20_OpsWhole.Pure := by
  intro d u i t j o _ _ _ ht _ ho
  have ht := i64_of_wf ht
  have ho := i64_of_wf ho
  have bd := tmod_bd d (show (0 : Int) < 1000 by decide)
  have bu := tmod_bd u (show (0 : Int) < 86400000000000 by decide)
  refine Ev.rounds ?_
  unfold computuslaw20_OpsWhole.f
  generalize Int.tmod d 1000 = x at bd
  generalize Int.tmod u 86400000000000 = y at bu
  have j0 : ∀ d, 0 ≤ d ∧ d ≤ 999 → Ev (fun k => computuslaw20_OpsWhole.j0 k d y i t j o) true := fun d hd => by
    refine Ev.succ ?_
    simp only [computuslaw20_OpsWhole.j0]
    by_cases h : y < 0
    · rw [w64 (x := -y) (by omega) (by omega)]
      exact Ev.pos h (whole_j1 d (-y) i t j o hd (by omega) ht ho)
    · exact Ev.neg h (whole_j1 d y i t j o hd (by omega) ht ho)
  by_cases h : x < 0
  · rw [w64 (x := -x) (by omega) (by omega)]
    exact Ev.pos h (j0 _ (by omega))
  · exact Ev.neg h (j0 _ (by omega))
end Go.Proofs.YthkmckmfgglafaaGreat.Pure
