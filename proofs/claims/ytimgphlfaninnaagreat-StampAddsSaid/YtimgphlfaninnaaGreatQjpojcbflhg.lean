import Derived.Test.YtimgphlfaninnaaGreatQfcinlhknpo
import Derived.Test.YtimgphlfaninnaaGreatQjhnpenaine
import Derived.Test.YtimgphlfaninnaaGreatQcijmomcihd
import Derived.Test.YtimgphlfaninnaaGreatQciogboaici
import Derived.Test.YtimgphlfaninnaaGreatQdnpmmldpid
namespace Go.Proofs.YtimgphlfaninnaaGreat.P
open Go.RowKit Go.Proofs.YtimgphlfaninnaaGreat.Civ Go.Proofs.YtimgphlfaninnaaGreat.Ft Go.Proofs.YtimgphlfaninnaaGreat.Zn
set_option linter.unusedVariables false
set_option linter.unusedSimpArgs false
open A
def riT (u p e c many first below behind i : Option AV) : List (Option AV) := none :: u :: p :: none :: none :: none :: none :: none :: e :: c :: none :: none :: many :: first :: below :: none :: none :: behind :: i :: none :: n10 (n10 (n10 (n10 (n10 (n10 (n10 (n10 (n10 (n10 (n10 (n10 (none :: none :: none :: []))))))))))))
noncomputable def riHp (z : Zt) (m n : Nat) (d : Nat → Nat → AV) (c : Nat → Int) (o : Tr) : Heap := [some (.cells (avZ z)), some .dead, some (.row 1 m d), some (.vec 2 1 n (cI c)), some (.cells (avT o))]
noncomputable def riH (z : Zt) (u e : Int) (m n : Nat) (d : Nat → Nat → AV) (c : Nat → Int) (o : Tr) (many first below behind i : Int) : St := ⟨riT (some (.int .i64 u)) (some (.ptr 0 0 0 0)) (some (.int .i64 e)) (some (.gs 3 1 n)) (some (.int .i64 many)) (some (.int .i64 first)) (some (.int .i64 below)) (some (.int .i64 behind)) (some (.int .i64 i)), riHp z m n d c o, []⟩
noncomputable def riX (z : Zt) (u : Int) (m n : Nat) (d : Nat → Nat → AV) (c : Nat → Int) (o : Tr) (many first behind : Int) : St := ⟨riT (some (.int .i64 u)) none none none (some (.int .i64 many)) (some (.int .i64 first)) none (some (.int .i64 behind)) none, riHp z m n d c o, []⟩
def riK : List Bool := ((((List.replicate 143 false).set 1 true).set 12 true).set 13 true).set 17 true
def riCS : CS := { m := 5, keep := ((((riK.set 2 true).set 8 true).set 9 true).set 14 true).set 18 true }
def riCSX : CS := { m := 5, keep := riK }
def ix1 (i : Int) (n : Nat) (X : Prop) : Prop := brc (decide (0 ≤ i) && decide (i < n)) (brc (decide (Int.toNat i < n)) X False) False
def riTl2 (n : Nat) (c : Nat → Int) (i : Int) (off mny fst below behind last : Int) (K : Int → Int → Int → Int → Prop) : Prop :=
 ix1 i n (brc (decide (last ≥ c (Int.toNat i))) (brc (decide (last ≥ below)) (K mny fst last off) (K mny fst below behind)) (K mny fst below behind))
def riTl (u : Int) (n : Nat) (c : Nat → Int) (i hi off mny fst below behind : Int) (K : Int → Int → Int → Int → Prop) : Prop :=
 brc (decide (IntKind.wrap .i64 (IntKind.wrap .i64 (u - off) - 1) > hi)) (riTl2 n c i off mny fst below behind hi K) (riTl2 n c i off mny fst below behind (IntKind.wrap .i64 (IntKind.wrap .i64 (u - off) - 1)) K)
def riBody (z : Zt) (u : Int) (n : Nat) (c : Nat → Int) (i hi many first below behind : Int) (K : Int → Int → Int → Int → Prop) : Prop :=
 ix1 i n (brc (tyR z.n (znRow z) && bdZ z.F && decide (-9223372036854775808 ≤ c (Int.toNat i) ∧ c (Int.toNat i) ≤ 9223372036854775807))
  (∀ m0 : Int, m0 = (atE z (c (Int.toNat i))).t → ∀ m1 : Int, m1 = (atE z (c (Int.toNat i))).off → ∀ m2 : Bool, m2 = (atE z (c (Int.toNat i))).dst → ∀ m3 : Int, m3 = zErr z (c (Int.toNat i)) →
   ix1 i n (brc (decide (IntKind.wrap .i64 (u - m1) ≥ c (Int.toNat i))) (brc (decide (IntKind.wrap .i64 (u - m1) ≤ hi))
    (brc (many == 0) (riTl u n c i hi m1 (IntKind.wrap .i64 (many + 1)) (IntKind.wrap .i64 (u - m1)) below behind K) (riTl u n c i hi m1 (IntKind.wrap .i64 (many + 1)) first below behind K))
    (riTl u n c i hi m1 many first below behind K)) (riTl u n c i hi m1 many first below behind K))) False)
def riVC (z : Zt) (u e : Int) (n : Nat) (c : Nat → Int) (many first below behind i : Int) (K : Int → Int → Int → Int → Prop) (E : Prop) : Prop :=
 brc (decide (i < n)) (brc (decide (IntKind.wrap .i64 (i + 1) < n)) (ix1 (IntKind.wrap .i64 (i + 1)) n (riBody z u n c i (IntKind.wrap .i64 (c (Int.toNat (IntKind.wrap .i64 (i + 1))) - 1)) many first below behind K)) (riBody z u n c i e many first below behind K)) E
set_option maxRecDepth 100000 in
theorem ri_round (z : Zt) (u e : Int) (m n : Nat) (d : Nat → Nat → AV) (c : Nat → Int) (o : Tr) (many first below behind i : Int) (R : Option St → Prop) (Q : Ex → Option St → Prop) : aroundN PA Tryz.prog (tab [(32, zyAt)]) noLoops 12 (loopOf Tryz.prog 38 0) (riH z u e m n d c o many first below behind i) (fun st => R (canon riCS st)) (fun e st => Q e (canon riCSX st)) =
 riVC z u e n c many first below behind i (fun mny fst bel beh => R (some (riH z u e m n d c o mny fst bel beh (IntKind.wrap .i64 (i + 1))))) (Q (.exit 0) (some (riX z u m n d c o many first behind))) := by kernel_rfl
set_option maxRecDepth 100000 in
theorem ri_noloops : Code.loops (loopOf Tryz.prog 38 0) = [] := by kernel_rfl
set_option maxRecDepth 100000 in
theorem loops_ri : loopsOf Tryz.prog 38 = [loopOf Tryz.prog 38 0] := by kernel_rfl
set_option maxRecDepth 100000 in
theorem ri_canon (z : Zt) (u e : Int) (m n : Nat) (d : Nat → Nat → AV) (c : Nat → Int) (o : Tr) (many first below behind i : Int) : canon riCS (riH z u e m n d c o many first below behind i) = some (riH z u e m n d c o many first below behind i) := by kernel_rfl
noncomputable def riC (z : Zt) (a b : Int) : Nat → Int
 | 0 => a
 | j + 1 => chC z a b j
def riNx (n : Nat) (c : Nat → Int) (e : Int) (i : Nat) : Int := if i + 1 < n then c (i + 1) else e + 1
noncomputable def riS (z : Zt) (u : Int) (n : Nat) (c : Nat → Int) (e L : Int) : Nat → Ac
 | 0 => ⟨c 0, 0, 0, L, none⟩
 | i + 1 => acS z u (riNx n c e i) (riS z u n c e L i)
def fstF : Option (Nat × (Nat → Int)) → Int
 | none => 0
 | some (_, g) => g 0
structure RiC (z : Zt) (u a b : Int) (n : Nat) (c : Nat → Int) : Prop where
 ok : ZtOk z
 bd : bdZ z.F = true
 ea : a = u - 57600
 eb : b = u + 57600
 ask : Asked u
 aska : Asked a
 askb : Asked b
 pos : 0 < n
 c0 : c 0 = a
 up : ∀ i, i + 1 < n → c i < c (i + 1) ∧ c (i + 1) ≤ b
theorem RiC.at {z : Zt} {u a b : Int} {n : Nat} {c : Nat → Int} (h : RiC z u a b n c) {L : Int} (hL : -57600 ≤ L ∧ L ≤ 57600) : ∀ i, i < n → InC z u a b (riS z u n c b L i) ∧ (riS z u n c b L i).fr = c i
 | 0, _ => by
  refine ⟨⟨h.ok, h.bd, h.ea, h.eb, h.ask, h.aska, h.askb, ?_, ?_, ?_, hL, fun n g e => ?_⟩, rfl⟩
  · show a ≤ c 0; rw [h.c0]; exact Int.le_refl _
  · show c 0 ≤ b
    have h1 := h.ea
    have h2 := h.eb
    rw [h.c0]; omega
  · show ((0 : Nat) : Int) ≤ c 0 - a
    rw [h.c0]; omega
  · cases e
 | i + 1, hi => by
  obtain ⟨h1, h2⟩ := h.at hL i (by omega)
  obtain ⟨h3, h4⟩ := h.up i hi
  have e : riNx n c b i = c (i + 1) := by unfold riNx; rw [if_pos hi]
  show InC z u a b (acS z u (riNx n c b i) (riS z u n c b L i)) ∧ riNx n c b i = c (i + 1)
  rw [e]
  exact ⟨in_next h1 (by omega) h4, rfl⟩
theorem ix1_ok {i n : Nat} {X : Prop} (h : i < n) (hX : X) : ix1 (i : Int) n X := by
 unfold ix1
 refine brcT (by simp; omega) (brcT ?_ hX)
 rw [show Int.toNat (i : Int) = i by omega]
 exact decide_eq_true h
theorem ri_body {z : Zt} {u a b : Int} {s : Ac} (h : InC z u a b s) {i n : Nat} {c : Nat → Int} (hi : i < n) (hc : c i = s.fr) {t hi' : Int} (ht : hi' = t - 1) (hlt : s.fr < t) (htb : t ≤ b + 1) {below : Int} (hb : a ≤ below ∧ below ≤ s.fr) {K : Int → Int → Int → Int → Prop}
 (hK : ∀ bel, a ≤ bel → bel ≤ t → K (cntF (acS z u t s).f) (fstF (acS z u t s).f) bel (acS z u t s).l2) : riBody z u n c i hi' (cntF s.f) (fstF s.f) below s.l2 K := by
 subst ht
 have h1 := h.bdf
 have h2 := h.bdu
 have h3 := h.off
 have hcn := h.cnt
 have hea := h.ea
 have heb := h.eb
 have hlo := h.lo
 have hhi := h.hi
 have ez : zErr z s.fr = 0 := by unfold zErr; rw [if_pos h.ok, if_pos h.askf]
 have eo : (atE z s.fr).off = (atZ z s.fr).off := by unfold atE; simp only; rw [if_pos ez]
 have ti : Int.toNat (i : Int) = i := by omega
 unfold riBody
 rw [ti, hc]
 refine ix1_ok hi (brcT ?_ ?_)
 · rw [tyZ z h.bd, decide_eq_true (show -9223372036854775808 ≤ s.fr ∧ s.fr ≤ 9223372036854775807 by omega)]; rfl
 rintro _ rfl _ rfl _ rfl _ rfl
 rw [eo]
 generalize ho : (atZ z s.fr).off = off at *
 have w1 : IntKind.wrap .i64 (u - off) = u - off := jU (by omega)
 rw [w1]
 have tail : ∀ mny fst, mny = (cntF (acS z u t s).f : Int) → fst = fstF (acS z u t s).f → riTl u n c i (t - 1) off mny fst below s.l2 K := by
  rintro _ _ rfl rfl
  unfold riTl
  rw [w1, show IntKind.wrap .i64 (u - off - 1) = u - off - 1 from jU (by omega)]
  refine kB (fun q => ?_) fun q => ?_
  · have q := of_decide_eq_true q
    unfold riTl2
    rw [ti, hc]
    refine ix1_ok hi (brcT (decide_eq_true (by omega)) (brcT (decide_eq_true (by omega)) ?_))
    have e : (acS z u t s).l2 = off := by simp only [acS]; rw [ho, if_pos (by omega)]
    have := hK (t - 1) (by omega) (by omega)
    rw [e] at this
    exact this
  · have q := of_decide_eq_false q
    unfold riTl2
    rw [ti, hc]
    refine ix1_ok hi (kB (fun r => brcT ?_ ?_) fun r => ?_)
    · have r := of_decide_eq_true r
      exact decide_eq_true (by omega)
    · have r := of_decide_eq_true r
      have e : (acS z u t s).l2 = off := by simp only [acS]; rw [ho, if_pos (by omega)]
      have := hK (u - off - 1) (by omega) (by omega)
      rw [e] at this
      exact this
    · have r := of_decide_eq_false r
      have e : (acS z u t s).l2 = s.l2 := by simp only [acS]; rw [ho, if_neg (by omega)]
      have := hK below hb.1 (by omega)
      rw [e] at this
      exact this
 have same : ¬ (s.fr ≤ u - off ∧ u - off ≤ t - 1) → riTl u n c i (t - 1) off (cntF s.f) (fstF s.f) below s.l2 K := fun q => by
  have e : (acS z u t s).f = s.f := by simp only [acS]; rw [ho, if_neg q]
  exact tail _ _ (by rw [e]) (by rw [e])
 refine ix1_ok hi (kB (fun q => kB (fun r => ?_) fun r => same fun k => of_decide_eq_false r k.2) fun q => same fun k => of_decide_eq_false q k.1)
 have q := of_decide_eq_true q
 have r := of_decide_eq_true r
 have e : (acS z u t s).f = acPush s.f (u - off) := by simp only [acS]; rw [ho, if_pos ⟨q, r⟩]
 have em : IntKind.wrap .i64 ((cntF s.f : Int) + 1) = (cntF (acS z u t s).f : Int) := by
  rw [e, cnt_push, jU (by omega)]; omega
 rw [em]
 refine kB (fun k => tail _ _ rfl ?_) fun k => tail _ _ rfl ?_
 · rw [e]
   cases hf : s.f with
   | none => rfl
   | some p =>
    obtain ⟨m, g⟩ := p
    have := h.pos m g hf
    rw [hf] at k
    have k : (m : Int) = 0 := by simpa [cntF] using k
    omega
 · rw [e]
   cases hf : s.f with
   | none => rw [hf] at k; simp [cntF] at k
   | some p =>
    obtain ⟨m, g⟩ := p
    have := h.pos m g hf
    show g 0 = if decide (0 < m) = true then g 0 else u - off
    rw [if_pos (decide_eq_true this)]
theorem riS_L {z : Zt} {u a b : Int} {n : Nat} {c : Nat → Int} (h : RiC z u a b n c) {L : Int} (hL : -57600 ≤ L ∧ L ≤ 57600) : ∀ i, i ≤ n → (riS z u n c b L i).fr = (riS z u n c b 0 i).fr ∧ (riS z u n c b L i).f = (riS z u n c b 0 i).f ∧ (0 < i → (riS z u n c b 0 i).f = none → (riS z u n c b L i).l2 = (riS z u n c b 0 i).l2)
 | 0, _ => ⟨rfl, rfl, fun q => by omega⟩
 | i + 1, hi => by
  obtain ⟨h1, h2, h3⟩ := riS_L h hL i (by omega)
  have hin := h.at (L := 0) (by omega) i (by omega)
  refine ⟨rfl, ?_, fun _ hn => ?_⟩
  · show (acS z u (riNx n c b i) (riS z u n c b L i)).f = (acS z u (riNx n c b i) (riS z u n c b 0 i)).f
    simp only [acS]
    rw [h1, h2]
  · have hn : (acS z u (riNx n c b i) (riS z u n c b 0 i)).f = none := hn
    show (acS z u (riNx n c b i) (riS z u n c b L i)).l2 = (acS z u (riNx n c b i) (riS z u n c b 0 i)).l2
    simp only [acS] at hn ⊢
    rw [h1]
    split at hn
    · rename_i q
      unfold acPush at hn
      split at hn <;> cases hn
    · rename_i q
      by_cases k : (riS z u n c b 0 i).fr < u - (atZ z (riS z u n c b 0 i).fr).off
      · rw [if_pos k, if_pos k]
      · rw [if_neg k, if_neg k]
        by_cases i0 : 0 < i
        · exact h3 i0 hn
        · exfalso
          have i0 : i = 0 := by omega
          subst i0
          have ho := hin.1.off
          have e0 : (riS z u n c b 0 0).fr = a := h.c0
          rw [e0] at k q ho
          have ea := h.ea
          have eb := h.eb
          have hx : a < riNx n c b 0 := by
           unfold riNx
           split
           · rename_i g; have := (h.up 0 g).1; rw [h.c0] at this; exact this
           · omega
          exact q ⟨by omega, by omega⟩
theorem acR_riS {z : Zt} {u b L : Int} {n : Nat} {c : Nat → Int} : ∀ (m k j : Nat), (∀ i, i < m → j + i + 1 < n ∧ c (j + i + 1) = z.ta (k + i)) → acR z u m k (riS z u n c b L j) = riS z u n c b L (j + m)
 | 0, _, _, _ => rfl
 | m + 1, k, j, h => by
  obtain ⟨h1, h2⟩ := h 0 (by omega)
  have e : riNx n c b j = z.ta k := by unfold riNx; rw [if_pos h1]; exact h2
  have ih := acR_riS (z := z) (u := u) (b := b) (L := L) (n := n) (c := c) m (k + 1) (j + 1) fun i hi => by
   have := h (i + 1) (by omega)
   rw [show j + 1 + i + 1 = j + (i + 1) + 1 by omega, show k + 1 + i = k + (i + 1) by omega]
   exact this
  show acR z u m (k + 1) (acS z u (z.ta k) (riS z u n c b L j)) = _
  rw [← e, show j + (m + 1) = j + 1 + m by omega]
  exact ih
theorem acF_riS {z : Zt} {u b L : Int} {n : Nat} {c : Nat → Int} : ∀ (m : Nat) (k : Int) (j : Nat), (∀ i : Nat, i < m → j + i + 1 < n ∧ c (j + i + 1) = (sI z.F (k + 1 + i)).t) → acF z u m k (riS z u n c b L j) = riS z u n c b L (j + m)
 | 0, _, _, _ => rfl
 | m + 1, k, j, h => by
  obtain ⟨h1, h2⟩ := h 0 (by omega)
  have e : riNx n c b j = (sI z.F (k + 1)).t := by
   unfold riNx; rw [if_pos h1]
   have h2 : c (j + 1) = (sI z.F (k + 1 + ((0 : Nat) : Int))).t := h2
   rw [h2]; simp
  have ih := acF_riS (z := z) (u := u) (b := b) (L := L) (n := n) (c := c) m (k + 1) (j + 1) fun i hi => by
   have := h (i + 1) (by omega)
   rw [show j + 1 + i + 1 = j + (i + 1) + 1 by omega, show k + 1 + 1 + (i : Int) = k + 1 + ((i + 1 : Nat) : Int) by omega]
   exact this
  show acF z u m (k + 1) (acS z u (sI z.F (k + 1)).t (riS z u n c b L j)) = _
  rw [← e, show j + (m + 1) = j + 1 + m by omega]
  exact ih
end Go.Proofs.YtimgphlfaninnaaGreat.P
namespace Go.Proofs.YtimgphlfaninnaaGreat.P
open Go.RowKit Go.Proofs.YtimgphlfaninnaaGreat.Ft Go.Proofs.YtimgphlfaninnaaGreat.Zn
set_option linter.unusedVariables false
set_option linter.unusedSimpArgs false
open A
def raKeep : List Bool := (((((List.replicate 57 false).set 1 true).set 2 true).set 4 true).set 6 true).set 7 true
def raKeepX : List Bool := ((List.replicate 57 false).set 4 true).set 6 true
def raCS : CS := { m := 3, keep := raKeep }
def raCX : CS := { m := 3, keep := raKeepX }
def raHead' (z : Zt) (u i : Int) (x : Tr) : St := ⟨(((((List.replicate 57 none).set 1 (some (.int .i64 u))).set 2 (some (.ptr 0 0 0 0))).set 4 (some (.ptr 1 0 0 0))).set 6 (some (.ptr 2 0 0 0))).set 7 (some (.int .i64 i)), raH z x, []⟩
def raHead (z : Zt) (u : Int) (i : Nat) : St := raHead' z u i (rowTr z i)
set_option maxRecDepth 100000 in
theorem ra_round (z : Zt) (u i : Int) (x : Tr) (R : Option St → Prop) (Q : Ex → Option St → Prop) : aroundN PA Tryz.prog (tab []) noLoops 6 (loopOf Tryz.prog 32 0) (raHead' z u i x) (fun st => R (canon raCS st)) (fun e st => Q e (canon raCX st)) =
 brc (decide (i < z.n)) (brc (decide (0 ≤ i) && decide (i < z.n)) (brc (decide (z.ta (Int.toNat i) ≤ u)) (brc (decide (0 ≤ i) && decide (i < z.n)) (R (some (raHead' z u (IntKind.wrap .i64 (i + 1)) ⟨z.ta (Int.toNat i), z.tf (Int.toNat i), z.td (Int.toNat i), z.tb (Int.toNat i)⟩))) False) (Q (.exit 0) (some (raEnd z x)))) False) (Q (.exit 0) (some (raEnd z x))) := by kernel_rfl
def raG (z : Zt) (u : Int) (i : Nat) (Q : Ex → St → Prop) : Prop := (i ≤ kz z u z.n ∧ z.n ≤ 8192 ∧ RowsOk z 0) ∧ Q (.exit 0) (raEnd z (rowTr z (kz z u z.n)))
set_option maxRecDepth 100000 in
theorem ra_noloops : Code.loops (loopOf Tryz.prog 32 0) = [] := by kernel_rfl
set_option maxRecDepth 100000 in
theorem loops_ra : loopsOf Tryz.prog 32 = [loopOf Tryz.prog 32 0] := by kernel_rfl
attribute [local irreducible] aroundN
theorem ra_hround (z : Zt) (u : Int) (i : Nat) (Q : Ex → St → Prop) (hG : raG z u i Q) : aroundN PA Tryz.prog (tab []) noLoops 6 (loopOf Tryz.prog 32 0) (raHead z u i) (fun st' => again (raHead z u) (znMu z) (raG z u) i Q (canon raCS st')) (fun e st' => left Q e (canon raCX st')) := by
 have hv := ra_round z u i (rowTr z i) (again (raHead z u) (znMu z) (raG z u) i Q) (left Q)
 refine Eq.mpr hv ?_
 obtain ⟨⟨h1, h2, h3⟩, hq⟩ := hG
 have hle := kz_le z u z.n
 rw [Int.toNat_natCast]
 have stop : i = kz z u z.n → left Q (.exit 0) (some (raEnd z (rowTr z i))) := fun e => ⟨_, rfl, by rw [e]; exact hq⟩
 refine kB (fun a => ?_) fun a => stop (by have := of_decide_eq_false a; omega)
 have a : i < z.n := by have := of_decide_eq_true a; omega
 have iff := kz_iff h3 u z.n i (Nat.le_refl _) a
 refine brcT (by simp; omega) (kB (fun b => brcT (by simp; omega) ?_) fun b => stop ?_)
 · have := iff.2 (of_decide_eq_true b)
   refine ⟨i + 1, by unfold znMu; omega, ⟨⟨by omega, h2, h3⟩, hq⟩, ?_⟩
   rw [jU (by omega)]; rfl
 · have b := of_decide_eq_false b
   have : ¬ i < kz z u z.n := fun q => b (iff.1 q)
   omega
theorem ra_lc (z : Zt) (u : Int) (i : Nat) : LcOk Tryz.prog (loopOf Tryz.prog 32 0) (lcOf raCS (raHead z u) (raG z u) i) :=
 lc_ok (T := tab []) mixed bE (LT := noLoops) (n := 6) (noLoops_in ra_noloops) (c := raCS) (cX := raCX) rfl (ra_hround z u) i
def SHOWrat (z : Zt) (u : Int) (P : Prop) : Prop := isH (some (raHead z u 0)) (raHead z u 0) ∧ ((0 ≤ kz z u z.n ∧ z.n ≤ 8192 ∧ RowsOk z 0) ∧ P)
set_option maxRecDepth 100000 in
theorem rat_vc (z : Zt) (u : Int) (K : AV → Prop) : AFL (tab [(25, zyRight), (63, cyYear), (64, cyStand 0)]) (fun k => if k = 10 then some (lcOf raCS (raHead z u) (raG z u) 0) else none) 6 32 [.agg (avZ z), .int .i64 u] K =
 (brc (tyR (Zt.n z) (znRow z) && bdZ (Zt.F z)) (∀ m0 : Bool, m0 = decide (ZtOk z) → brc (!m0) (K (AV.tup [.agg [.int .i64 0, .int .i64 0, .bool false, .str (ByteArray.mk #[])], .int .i64 1])) (brc (decide (-9223372036854775808 ≤ u ∧ u ≤ 9223372036854775807)) (∀ m1 : Int, m1 = yAt u → brc (decide (m1 ≥ -4714)) (brc (!decide (m1 ≤ 294278)) (K (AV.tup [.agg [.int .i64 0, .int .i64 0, .bool false, .str (ByteArray.mk #[])], .int .i64 10])) (brc (Ft.z (Zt.F z)) (brc (decide (u ≥ Ft.fr (Zt.F z))) (brc (decide (-9223372036854775808 ≤ u ∧ u ≤ 9223372036854775807 ∧ -9223372036854775808 ≤ Hf.m (Ft.a (Zt.F z)) ∧ Hf.m (Ft.a (Zt.F z)) ≤ 9223372036854775807 ∧ -9223372036854775808 ≤ Hf.m (Ft.b (Zt.F z)) ∧ Hf.m (Ft.b (Zt.F z)) ≤ 9223372036854775807)) (∀ m2 : Int, m2 = Tr.t (tZ (Zt.F z) u (ix (Zt.F z) u + 0)) → ∀ m3 : Int, m3 = Tr.off (tZ (Zt.F z) u (ix (Zt.F z) u + 0)) → ∀ m4 : Bool, m4 = Tr.dst (tZ (Zt.F z) u (ix (Zt.F z) u + 0)) → ∀ m5 : Int, m5 = err2 (Zt.F z) u → K (AV.tup [.agg [.int .i64 m2, .int .i64 m3, .bool m4, .str (Tr.ab (tZ (Zt.F z) u (ix (Zt.F z) u + 0)))], .int .i64 m5])) False) (SHOWrat z u (K (AV.tup [.agg [.int .i64 (Tr.t (rowTr z (kz z u (Zt.n z)))), .int .i64 (Tr.off (rowTr z (kz z u (Zt.n z)))), .bool (Tr.dst (rowTr z (kz z u (Zt.n z)))), .str (Tr.ab (rowTr z (kz z u (Zt.n z))))], .int .i64 0])))) (SHOWrat z u (K (AV.tup [.agg [.int .i64 (Tr.t (rowTr z (kz z u (Zt.n z)))), .int .i64 (Tr.off (rowTr z (kz z u (Zt.n z)))), .bool (Tr.dst (rowTr z (kz z u (Zt.n z)))), .str (Tr.ab (rowTr z (kz z u (Zt.n z))))], .int .i64 0]))))) (K (AV.tup [.agg [.int .i64 0, .int .i64 0, .bool false, .str (ByteArray.mk #[])], .int .i64 10]))) False)) False) := by kernel_rfl
theorem rat_ok {z : Zt} {u : Int} (hb : bdZ z.F = true) (h1 : -9223372036854775808 ≤ u) (h2 : u ≤ 9223372036854775807) : AFL (tab [(25, zyRight), (63, cyYear), (64, cyStand 0)]) (fun k => if k = 10 then some (lcOf raCS (raHead z u) (raG z u) 0) else none) 6 32 [.agg (avZ z), .int .i64 u] (Res (.tup [.agg (avT (atE z u)), .int .i64 (zErr z u)])) := by
 rw [rat_vc]
 have no : ∀ e : Int, zErr z u = e → e ≠ 0 → Res (.tup [.agg (avT (atE z u)), .int .i64 (zErr z u)]) (AV.tup [.agg [.int .i64 0, .int .i64 0, .bool false, .str (ByteArray.mk #[])], .int .i64 e]) := fun e he h => by
  rw [atE_no (by rw [he]; exact h), he]; exact zN rfl
 refine brcT (tyZ z hb) ?_
 rintro _ rfl
 refine kB (fun a => ?_) fun a => ?_
 · exact no 1 (by unfold zErr; rw [if_neg (by simpa using a)]) (by omega)
 have hz : ZtOk z := by simpa using a
 refine brcT (decide_eq_true ⟨h1, h2⟩) ?_
 rintro _ rfl
 have far : ¬ Asked u → Res (.tup [.agg (avT (atE z u)), .int .i64 (zErr z u)]) (AV.tup [.agg [.int .i64 0, .int .i64 0, .bool false, .str (ByteArray.mk #[])], .int .i64 10]) := fun h => no 10 (by unfold zErr; rw [if_pos hz, if_neg h]) (by omega)
 refine kB (fun b => ?_) fun b => far fun q => of_decide_eq_false b q.1
 refine kB (fun c => far fun q => by simp at c; have := q.2; omega) fun c => ?_
 have hk : Asked u := ⟨of_decide_eq_true b, by simpa using c⟩
 rw [atE_ok hz hk, zErr_ok hz hk]
 have rows : ¬ (z.F.z = true ∧ z.F.fr ≤ u) → SHOWrat z u (Res (.tup [.agg (avT (atZ z u)), .int .i64 0]) (AV.tup [.agg [.int .i64 (Tr.t (rowTr z (kz z u (Zt.n z)))), .int .i64 (Tr.off (rowTr z (kz z u (Zt.n z)))), .bool (Tr.dst (rowTr z (kz z u (Zt.n z)))), .str (Tr.ab (rowTr z (kz z u (Zt.n z))))], .int .i64 0])) := fun hf => by
  refine ⟨isH_rfl _, ⟨Nat.zero_le _, hz.2.2.1, hz.rows⟩, ?_⟩
  have e0 : atZ z u = rowTr z (kz z u z.n) := by unfold atZ; rw [if_neg hf]
  rw [e0]
  exact zN rfl
 refine kB (fun d => ?_) fun d => rows fun q => by rw [q.1] at d; cases d
 refine kB (fun e => ?_) fun e => rows fun q => of_decide_eq_false e q.2
 refine brcT (dec6 hb h1 h2) ?_
 rintro _ rfl _ rfl _ rfl _ rfl
 have e := of_decide_eq_true e
 have hk2 : AskOk z.F u := ⟨(hz.foot d).1.1, hk.1, hk.2⟩
 have e0 : atZ z u = tZ z.F u (ix z.F u + 0) := by
  unfold atZ tZ; rw [if_pos ⟨d, e⟩]; simp only [if_pos hk2]; rw [Int.add_zero]
 rw [e0, err_zero.2 hk2]
 exact zN rfl
theorem rzAt_ok : COk Tryz.prog 32 zyAt := afl_con (kD rzRight_ok (kD cyYearR_ok (kD cyAtR_ok bE))) (by kernel_rfl) fun args p v hc hp => by
 unfold zyAt at hc
 split at hc
 case h_2 => cases hc
 split at hc
 case h_2 => cases hc
 rename_i u _ q z hl
 simp only [Option.some.injEq, Prod.mk.injEq] at hc
 obtain ⟨rfl, rfl⟩ := hc
 rw [Bool.and_eq_true] at hp
 obtain ⟨rfl, hq⟩ := hp
 obtain ⟨h3, h4⟩ := of_decide_eq_true hq
 obtain ⟨k1, k2⟩ := rdZ_move hl
 exact ⟨_, _, _, fun w A hA => rl_1 (fun V h => k2 h) hA, lt_of loops_ra (ra_lc z u 0), rat_ok k1 h3 h4⟩
end Go.Proofs.YtimgphlfaninnaaGreat.P
namespace Go.Proofs.YtimgphlfaninnaaGreat.P
open Go.RowKit Go.Proofs.YtimgphlfaninnaaGreat.Civ Go.Proofs.YtimgphlfaninnaaGreat.Ft Go.Proofs.YtimgphlfaninnaaGreat.Zn
set_option linter.unusedVariables false
set_option linter.unusedSimpArgs false
open A
theorem chC_in {z : Zt} {a b : Int} (hz : ZtOk z) (ha : Asked a) (hb : Asked b) {j : Nat} (hj : j < chN z a b) : a < chC z a b j ∧ chC z a b j ≤ b ∧ (nR z a b ≤ j → z.F.z = true ∧ z.F.fr ≤ chC z a b j) := by
 have kb := kz_le z b z.n
 unfold chN at hj
 unfold chC
 split
 · rename_i h
   have h' := h
   unfold nR at h'
   have h1 := kz_iff hz.rows a z.n (kz z a z.n + j) (Nat.le_refl _) (by omega)
   have h2 := kz_iff hz.rows b z.n (kz z a z.n + j) (Nat.le_refl _) (by omega)
   refine ⟨?_, h2.1 (by omega), fun q => by omega⟩
   have : ¬ z.ta (kz z a z.n + j) ≤ a := fun q => by have := h1.2 q; omega
   omega
 · rename_i h
   by_cases hf : z.F.z = true
   · have hF := (hz.foot hf).1.1
     have e : nF z a b = (ix z.F b - ix z.F (fCur z a)).toNat := by unfold nF; rw [if_pos hf]
     have := (in_iff (z := z) (a := a) (b := b) hF (ix z.F (fCur z a) + 1 + ((j - nR z a b : Nat) : Int))).2 ⟨by omega, by omega⟩
     exact ⟨this.1, this.2.1, fun _ => ⟨hf, this.2.2⟩⟩
   · have e : nF z a b = 0 := by unfold nF; rw [if_neg hf]
     omega
theorem chC_up {z : Zt} {a b : Int} (hz : ZtOk z) (ha : Asked a) (hb : Asked b) {j : Nat} (hj : j + 1 < chN z a b) : chC z a b j < chC z a b (j + 1) := by
 have kb := kz_le z b z.n
 obtain ⟨h1, h2, h3⟩ := chC_in hz ha hb hj
 by_cases c1 : j + 1 < nR z a b
 · unfold chC
   rw [if_pos (by omega), if_pos c1]
   unfold nR at c1
   exact rows_lt' hz.rows (by omega) (by omega)
 · obtain ⟨hf, h4⟩ := h3 (by omega)
   by_cases c2 : j < nR z a b
   · have e : chC z a b j = z.ta (kz z a z.n + j) := by unfold chC; rw [if_pos c2]
     rw [e]
     unfold nR at c2
     have := row_foot hz hf (k := kz z a z.n + j) (by omega)
     omega
   · unfold chC
     rw [if_neg c2, if_neg c1]
     exact sI_lt (hz.foot hf).1.1 (by omega)
theorem riC_ok {z : Zt} {u a b : Int} (hz : ZtOk z) (hbd : bdZ z.F = true) (hu : Asked u) (ha : Asked a) (hb : Asked b) (ea : a = u - 57600) (eb : b = u + 57600) : RiC z u a b (1 + chN z a b) (riC z a b) := by
 refine ⟨hz, hbd, ea, eb, hu, ha, hb, by omega, rfl, fun i hi => ?_⟩
 cases i with
 | zero =>
  have := chC_in hz ha hb (j := 0) (by omega)
  exact ⟨this.1, this.2.1⟩
 | succ j =>
  have := chC_in hz ha hb (j := j + 1) (by omega)
  exact ⟨chC_up hz ha hb (by omega), this.2.1⟩
theorem end_riS {z : Zt} {u a b : Int} (h : CanIn z u) (ea : a = u - 57600) (eb : b = u + 57600) : sEnd z u = riS z u (1 + chN z a b) (riC z a b) b 0 (chN z a b) := by
 obtain ⟨hz, hu, ha, hb⟩ := h.zt
 obtain ⟨w1, w2, _⟩ := h.start
 subst ea eb
 have kb := kz_le z (u + 57600) z.n
 have e1 : s1Of z u = riS z u (1 + chN z (u - 57600) (u + 57600)) (riC z (u - 57600) (u + 57600)) (u + 57600) 0 (0 + nR z (u - 57600) (u + 57600)) := by
  unfold s1Of fin1
  rw [w1, w2]
  refine acR_riS (z := z) (n := 1 + chN z (u - 57600) (u + 57600)) (c := riC z (u - 57600) (u + 57600)) _ _ 0 fun i hi => ?_
  have hi : i < nR z (u - 57600) (u + 57600) := hi
  refine ⟨by unfold chN; omega, ?_⟩
  rw [show 0 + i + 1 = i + 1 by omega]
  show chC z (u - 57600) (u + 57600) i = _
  unfold chC
  rw [if_pos hi]
 rw [Nat.zero_add] at e1
 unfold sEnd
 split
 · rename_i hf
   have hF := (hz.foot hf).1.1
   have ec : curOf z u = fCur z (u - 57600) := by
    have hk := (hz.foot hf).1
    have := asked_bd (u := z.F.fr) ⟨hk.2.1, hk.2.2⟩
    unfold curOf fCur
    rw [w1, jU (show -9223372036854775808 ≤ z.F.fr - 1 ∧ z.F.fr - 1 ≤ 9223372036854775807 by omega)]
   have en : nF z (u - 57600) (u + 57600) = (ix z.F (u + 57600) - ix z.F (fCur z (u - 57600))).toNat := by unfold nF; rw [if_pos hf]
   unfold s2Of fin2
   rw [w2, ec, e1, ← en]
   refine acF_riS (z := z) (n := 1 + chN z (u - 57600) (u + 57600)) (c := riC z (u - 57600) (u + 57600)) _ _ _ fun i hi => ?_
   refine ⟨by unfold chN; omega, ?_⟩
   show chC z (u - 57600) (u + 57600) (nR z (u - 57600) (u + 57600) + i) = _
   unfold chC
   rw [if_neg (by omega), show nR z (u - 57600) (u + 57600) + i - nR z (u - 57600) (u + 57600) = i by omega]
 · rename_i hf
   have en : chN z (u - 57600) (u + 57600) = nR z (u - 57600) (u + 57600) := by unfold chN nF; rw [if_neg hf]; rfl
   rw [e1, en]
theorem inst_riS {z : Zt} {u a b L : Int} (h : CanIn z u) (ea : a = u - 57600) (eb : b = u + 57600) (hL : -57600 ≤ L ∧ L ≤ 57600) : instE z u = instF u (riS z u (1 + chN z a b) (riC z a b) b L (1 + chN z a b)) := by
 obtain ⟨hz, hu, ha, hb⟩ := h.zt
 have hc := riC_ok hz h.bd hu (ea ▸ ha) (eb ▸ hb) ea eb
 obtain ⟨_, h2, h3⟩ := riS_L hc hL _ (Nat.le_refl _)
 have e0 : instE z u = instF u (riS z u (1 + chN z a b) (riC z a b) b 0 (1 + chN z a b)) := by
  unfold instE
  rw [if_pos h.ok]
  unfold instZ
  rw [end_riS h ea eb, show 1 + chN z a b = chN z a b + 1 by omega]
  show _ = instF u (acS z u (riNx (chN z a b + 1) (riC z a b) b (chN z a b)) _)
  rw [show riNx (chN z a b + 1) (riC z a b) b (chN z a b) = u + 57601 by unfold riNx; rw [if_neg (by omega)]; omega]
 rw [e0]
 unfold instF
 rw [h2]
 cases hf : (riS z u (1 + chN z a b) (riC z a b) b 0 (1 + chN z a b)).f with
 | none => simp only; rw [h3 (by omega) hf]
 | some p => rfl
theorem chN_le {z : Zt} {a b : Int} (hz : ZtOk z) (hbd : bdZ z.F = true) (ha : Asked a) (hb : Asked b) (hab : a ≤ b) (hn : b ≤ a + 4194304) : chN z a b ≤ 9000 := by
 by_cases hf : z.F.z = true
 · have ym := yAt_mono ha hb hab
   have cc : ChC z a b (yAt b + 2) := ⟨hz, hbd, hf, hab, ha, hb, hn, by omega, Int.le_refl _⟩
   rw [← cnt_end cc]
   exact cc.cnt _
 · have h1 := hz.2.2.1
   have kb := kz_le z b z.n
   unfold chN nF nR
   rw [if_neg hf]
   omega
noncomputable def riSt (z : Zt) (u a b : Int) : Nat → Ac := riS z u (1 + chN z a b) (riC z a b) b (atE z a).off
noncomputable def riHx (z : Zt) (u a b : Int) (x : Nat × Int) : St := riH z u b (chN z a b) (1 + chN z a b) (cI (chC z a b)) (riC z a b) (atE z a) (cntF (riSt z u a b x.1).f) (fstF (riSt z u a b x.1).f) x.2 (riSt z u a b x.1).l2 x.1
noncomputable def riMu (z : Zt) (a b : Int) (x : Nat × Int) : Nat := 1 + chN z a b - x.1
noncomputable def riEnd (z : Zt) (u : Int) : Ac := riSt z u (IntKind.wrap .i64 (u - 57600)) (IntKind.wrap .i64 (u + 57600)) (1 + chN z (IntKind.wrap .i64 (u - 57600)) (IntKind.wrap .i64 (u + 57600)))
noncomputable def riMany (z : Zt) (u : Int) : Int := (cntF (riEnd z u).f : Int)
noncomputable def riFirst (z : Zt) (u : Int) : Int := fstF (riEnd z u).f
noncomputable def riBehind (z : Zt) (u : Int) : Int := (riEnd z u).l2
noncomputable def riXe (z : Zt) (u a b : Int) : St := riX z u (chN z a b) (1 + chN z a b) (cI (chC z a b)) (riC z a b) (atE z a) (cntF (riSt z u a b (1 + chN z a b)).f) (fstF (riSt z u a b (1 + chN z a b)).f) (riSt z u a b (1 + chN z a b)).l2
def RiInv (z : Zt) (u a b : Int) (x : Nat × Int) : Prop := RiC z u a b (1 + chN z a b) (riC z a b) ∧ x.1 ≤ 1 + chN z a b ∧ chN z a b ≤ 9000 ∧ a ≤ x.2 ∧ x.2 ≤ (riSt z u a b x.1).fr
noncomputable def riG (z : Zt) (u a b : Int) (x : Nat × Int) (Q : Ex → St → Prop) : Prop := RiInv z u a b x ∧ Q (.exit 0) (riXe z u a b)
theorem at_off {z : Zt} {a : Int} (hz : ZtOk z) (ha : Asked a) : (atE z a).off = (atZ z a).off ∧ -57600 ≤ (atE z a).off ∧ (atE z a).off ≤ 57600 := by
 have ez : zErr z a = 0 := by unfold zErr; rw [if_pos hz, if_pos ha]
 have eo : (atE z a).off = (atZ z a).off := by unfold atE; simp only; rw [if_pos ez]
 have := atZ_off hz a
 rw [eo]
 exact ⟨rfl, this⟩
theorem ri_vc {z : Zt} {u a b : Int} {x : Nat × Int} {Q : Ex → St → Prop} (hG : riG z u a b x Q) : riVC z u b (1 + chN z a b) (riC z a b) (cntF (riSt z u a b x.1).f) (fstF (riSt z u a b x.1).f) x.2 (riSt z u a b x.1).l2 x.1
 (fun mny fst bel beh => again (riHx z u a b) (riMu z a b) (riG z u a b) x Q (some (riH z u b (chN z a b) (1 + chN z a b) (cI (chC z a b)) (riC z a b) (atE z a) mny fst bel beh (IntKind.wrap .i64 ((x.1 : Int) + 1)))))
 (left Q (.exit 0) (some (riX z u (chN z a b) (1 + chN z a b) (cI (chC z a b)) (riC z a b) (atE z a) (cntF (riSt z u a b x.1).f) (fstF (riSt z u a b x.1).f) (riSt z u a b x.1).l2))) := by
 obtain ⟨i, below⟩ := x
 obtain ⟨⟨hc, hi, hn, hb1, hb2⟩, hq⟩ := hG
 simp only at hi hb1 hb2 ⊢
 have w : IntKind.wrap .i64 ((i : Int) + 1) = ((i + 1 : Nat) : Int) := by rw [jU (by omega)]; omega
 unfold riVC
 rw [w]
 refine kB (fun c1 => ?_) fun c1 => ?_
 · have c1 : i < 1 + chN z a b := by have := of_decide_eq_true c1; omega
   obtain ⟨hin, hfr⟩ := hc.at (at_off hc.ok hc.aska).2 i c1
   have hin : InC z u a b (riSt z u a b i) := hin
   have hfr : (riSt z u a b i).fr = riC z a b i := hfr
   have nx : ∀ t, t = riNx (1 + chN z a b) (riC z a b) b i → ∀ bel, a ≤ bel → bel ≤ t → again (riHx z u a b) (riMu z a b) (riG z u a b) (i, below) Q (some (riH z u b (chN z a b) (1 + chN z a b) (cI (chC z a b)) (riC z a b) (atE z a) (cntF (acS z u t (riSt z u a b i)).f) (fstF (acS z u t (riSt z u a b i)).f) bel (acS z u t (riSt z u a b i)).l2 ((i + 1 : Nat) : Int))) := by
    rintro _ rfl bel h1 h2
    exact ⟨(i + 1, bel), by unfold riMu; simp only; omega, ⟨⟨hc, by simp only; omega, hn, h1, h2⟩, hq⟩, rfl⟩
   refine kB (fun c2 => ?_) fun c2 => ?_
   · have c2 : i + 1 < 1 + chN z a b := by have := of_decide_eq_true c2; omega
     have et : riNx (1 + chN z a b) (riC z a b) b i = riC z a b (i + 1) := by unfold riNx; rw [if_pos c2]
     obtain ⟨h1, h2⟩ := hc.up i c2
     refine ix1_ok c2 ?_
     rw [show Int.toNat ((i + 1 : Nat) : Int) = i + 1 by omega]
     have ha := asked_bd hc.aska
     have hbb := asked_bd hc.askb
     have hlo := hin.lo
     refine ri_body hin c1 hfr.symm (t := riC z a b (i + 1)) (jU (by omega)) (by omega) (by omega) ⟨hb1, hb2⟩ fun bel g1 g2 => nx _ et.symm bel g1 g2
   · have c2 : ¬ i + 1 < 1 + chN z a b := by have := of_decide_eq_false c2; omega
     have et : riNx (1 + chN z a b) (riC z a b) b i = b + 1 := by unfold riNx; rw [if_neg c2]
     have hhi := hin.hi
     exact ri_body hin c1 hfr.symm (t := b + 1) (by omega) (by omega) (by omega) ⟨hb1, hb2⟩ fun bel g1 g2 => nx _ et.symm bel g1 g2
 · have e : i = 1 + chN z a b := by have := of_decide_eq_false c1; omega
   subst e
   exact ⟨_, rfl, hq⟩
attribute [local irreducible] aroundN
theorem ri_hround (z : Zt) (u a b : Int) (x : Nat × Int) (Q : Ex → St → Prop) (hG : riG z u a b x Q) : aroundN PA Tryz.prog (tab [(32, zyAt)]) noLoops 12 (loopOf Tryz.prog 38 0) (riHx z u a b x) (fun st' => again (riHx z u a b) (riMu z a b) (riG z u a b) x Q (canon riCS st')) (fun e st' => left Q e (canon riCSX st')) :=
 Eq.mpr (ri_round z u b (chN z a b) (1 + chN z a b) (cI (chC z a b)) (riC z a b) (atE z a) (cntF (riSt z u a b x.1).f) (fstF (riSt z u a b x.1).f) x.2 (riSt z u a b x.1).l2 x.1 (again (riHx z u a b) (riMu z a b) (riG z u a b) x Q) (left Q)) (ri_vc hG)
theorem ri_lc (z : Zt) (u a b : Int) (x : Nat × Int) : LcOk Tryz.prog (loopOf Tryz.prog 38 0) (lcOfE riCS (riHx z u a b) (riG z u a b) x) :=
 lcOfE_ok (lc_ok (T := tab [(32, zyAt)]) mixed (kD rzAt_ok bE) (LT := noLoops) (n := 12) (noLoops_in ri_noloops) (c := riCS) (cX := riCSX) rfl (ri_hround z u a b) x) (ri_canon ..) rfl
noncomputable def riLT (z : Zt) (u : Int) : LTab Prop := fun k => if k = 17 then some (lcOfE riCS (riHx z u (IntKind.wrap .i64 (u - 57600)) (IntKind.wrap .i64 (u + 57600))) (riG z u (IntKind.wrap .i64 (u - 57600)) (IntKind.wrap .i64 (u + 57600))) (0, IntKind.wrap .i64 (u - 57600))) else none
theorem riLT_ok (z : Zt) (u : Int) : LtOk Tryz.prog 38 (riLT z u) := lt_of loops_ri (ri_lc z u _ _ _)
def SHOWi (z : Zt) (u L : Int) (ob : Option Ob) (P : Prop) : Prop :=
 (∃ s, some (⟨riT (some (.int .i64 u)) (some (.ptr 0 0 0 0)) (some (.int .i64 (IntKind.wrap .i64 (u + 57600)))) (some (.gs 3 1 (1 + chN z (IntKind.wrap .i64 (u - 57600)) (IntKind.wrap .i64 (u + 57600))))) (some (.int .i64 0)) (some (.int .i64 0)) (some (.int .i64 (IntKind.wrap .i64 (u - 57600)))) (some (.int .i64 L)) (some (.int .i64 0)),
  [some (.cells (avZ z)), some .dead, some (.row 1 (chN z (IntKind.wrap .i64 (u - 57600)) (IntKind.wrap .i64 (u + 57600))) (cI (chC z (IntKind.wrap .i64 (u - 57600)) (IntKind.wrap .i64 (u + 57600))))), some (.vec 2 1 (1 + chN z (IntKind.wrap .i64 (u - 57600)) (IntKind.wrap .i64 (u + 57600))) (joinC (listC 1 [.int .i64 (IntKind.wrap .i64 (u - 57600))]) 1 (cI (chC z (IntKind.wrap .i64 (u - 57600)) (IntKind.wrap .i64 (u + 57600)))))), ob], []⟩ : St) = some s ∧
  s.t = (riHx z u (IntKind.wrap .i64 (u - 57600)) (IntKind.wrap .i64 (u + 57600)) (0, IntKind.wrap .i64 (u - 57600))).t ∧ s.d = (riHx z u (IntKind.wrap .i64 (u - 57600)) (IntKind.wrap .i64 (u + 57600)) (0, IntKind.wrap .i64 (u - 57600))).d ∧ HpEq s.h (riHx z u (IntKind.wrap .i64 (u - 57600)) (IntKind.wrap .i64 (u + 57600)) (0, IntKind.wrap .i64 (u - 57600))).h) ∧
 (RiInv z u (IntKind.wrap .i64 (u - 57600)) (IntKind.wrap .i64 (u + 57600)) (0, IntKind.wrap .i64 (u - 57600)) ∧ P)
set_option maxRecDepth 100000 in
theorem rins_vc (z : Zt) (u : Int) (K : AV → Prop) : AFL (tab [(25, zyRight), (63, cyYear), (79, csChg), (32, zyAt)]) (riLT z u) 12 38 [.agg (avZ z), .int .i64 u] K =
 (brc (tyR (Zt.n z) (znRow z) && bdZ (Zt.F z)) (∀ m0 : Bool, m0 = decide (ZtOk z) → brc (!m0) (K (AV.tup [.int .i64 0, .int .i64 0, .int .i64 1])) (brc (decide (-9223372036854775808 ≤ u ∧ u ≤ 9223372036854775807)) (∀ m1 : Int, m1 = yAt u → brc (decide (m1 ≥ -4714)) (brc (!decide (m1 ≤ 294278)) (K (AV.tup [.int .i64 0, .int .i64 0, .int .i64 10])) (brc (decide (-9223372036854775808 ≤ IntKind.wrap .i64 (u - 57600) ∧ IntKind.wrap .i64 (u - 57600) ≤ 9223372036854775807)) (∀ m2 : Int, m2 = yAt (IntKind.wrap .i64 (u - 57600)) → brc (decide (m2 ≥ -4714)) (brc (!decide (m2 ≤ 294278)) (K (AV.tup [.int .i64 0, .int .i64 0, .int .i64 10])) (brc (decide (-9223372036854775808 ≤ IntKind.wrap .i64 (u + 57600) ∧ IntKind.wrap .i64 (u + 57600) ≤ 9223372036854775807)) (∀ m3 : Int, m3 = yAt (IntKind.wrap .i64 (u + 57600)) → brc (decide (m3 ≥ -4714)) (brc (!decide (m3 ≤ 294278)) (K (AV.tup [.int .i64 0, .int .i64 0, .int .i64 10])) (brc (tyR (Zt.n z) (znRow z) && bdZ (Zt.F z) && decide (ZtOk z ∧ Asked (IntKind.wrap .i64 (u - 57600)) ∧ Asked (IntKind.wrap .i64 (u + 57600)) ∧ IntKind.wrap .i64 (u - 57600) ≤ IntKind.wrap .i64 (u + 57600) ∧ IntKind.wrap .i64 (u + 57600) ≤ IntKind.wrap .i64 (u - 57600) + 4194304)) (∀ m4 : Int, m4 = 0 → brc (Nat.ble (chN z (IntKind.wrap .i64 (u - 57600)) (IntKind.wrap .i64 (u + 57600))) (chN z (IntKind.wrap .i64 (u - 57600)) (IntKind.wrap .i64 (u + 57600))) && oneC 1 (chN z (IntKind.wrap .i64 (u - 57600)) (IntKind.wrap .i64 (u + 57600))) (cI (chC z (IntKind.wrap .i64 (u - 57600)) (IntKind.wrap .i64 (u + 57600)))) && roomB (1 + chN z (IntKind.wrap .i64 (u - 57600)) (IntKind.wrap .i64 (u + 57600))) 8) (brc (tyR (Zt.n z) (znRow z) && bdZ (Zt.F z) && decide (-9223372036854775808 ≤ IntKind.wrap .i64 (u - 57600) ∧ IntKind.wrap .i64 (u - 57600) ≤ 9223372036854775807)) (∀ m5 : Int, m5 = Tr.t (atE z (IntKind.wrap .i64 (u - 57600))) → ∀ m6 : Int, m6 = Tr.off (atE z (IntKind.wrap .i64 (u - 57600))) → ∀ m7 : Bool, m7 = Tr.dst (atE z (IntKind.wrap .i64 (u - 57600))) → ∀ m8 : Int, m8 = zErr z (IntKind.wrap .i64 (u - 57600)) → SHOWi z u m6 (some (Ob.cells [AV.int .i64 m5, AV.int .i64 m6, AV.bool m7, AV.str (Tr.ab (atE z (IntKind.wrap .i64 (u - 57600))))])) (brc (riMany z u == 0) (K (AV.tup [.int .i64 (IntKind.wrap .i64 (u - riBehind z u)), .int .i64 2, .int .i64 0])) (brc (riMany z u == 1) (K (AV.tup [.int .i64 (riFirst z u), .int .i64 0, .int .i64 0])) (K (AV.tup [.int .i64 (riFirst z u), .int .i64 1, .int .i64 0]))))) False) False) False)) (K (AV.tup [.int .i64 0, .int .i64 0, .int .i64 10]))) False)) (K (AV.tup [.int .i64 0, .int .i64 0, .int .i64 10]))) False)) (K (AV.tup [.int .i64 0, .int .i64 0, .int .i64 10]))) False)) False) := by kernel_rfl
theorem joinC_cut {z : Zt} {a b : Int} (i j : Nat) (hi : i < 1 + chN z a b) (hj : j < 1) : joinC (listC 1 [.int .i64 a]) 1 (cI (chC z a b)) i j = cI (riC z a b) i j := by
 rw [show j = 0 by omega]
 cases i with
 | zero => rfl
 | succ k => rfl
theorem oneC_cI (m : Nat) (g : Nat → Int) : oneC 1 m (cI g) = true := @decide_eq_true _ (Classical.propDecidable _) fun i j _ hj => by
 match j, hj with
 | 0, _ => rfl
theorem show_i {z : Zt} {u : Int} (h : CanIn z u) {P : Prop} (hP : P) : SHOWi z u (atE z (IntKind.wrap .i64 (u - 57600))).off (some (.cells (avT (atE z (IntKind.wrap .i64 (u - 57600)))))) P := by
 obtain ⟨hz, hu, ha, hb⟩ := h.zt
 obtain ⟨w1, w2, _⟩ := h.start
 refine ⟨⟨_, rfl, rfl, rfl, fun n => ?_⟩, ⟨?_, by simp only; omega, ?_, Int.le_refl _, Int.le_refl _⟩, hP⟩
 · match n with
   | 0 => exact .inl rfl
   | 1 => exact .inl rfl
   | 2 => exact .inl rfl
   | 3 => exact .inr ⟨_, _, _, _, _, rfl, rfl, fun i j hi hj => joinC_cut i j hi hj⟩
   | 4 => exact .inl rfl
   | k + 5 => exact .inl rfl
 · rw [w1, w2]; exact riC_ok hz h.bd hu ha hb rfl rfl
 · rw [w1, w2]; exact chN_le hz h.bd ha hb (by omega) (by omega)
theorem rins_ok {z : Zt} {u : Int} (hbd : bdZ z.F = true) (h1 : -9223372036854775808 ≤ u) (h2 : u ≤ 9223372036854775807) : AFL (tab [(25, zyRight), (63, cyYear), (79, csChg), (32, zyAt)]) (riLT z u) 12 38 [.agg (avZ z), .int .i64 u] (Res (.tup [.int .i64 (instE z u).1, .int .i64 (instE z u).2, .int .i64 (iErr z u)])) := by
 have no : ∀ e : Int, iErr z u = e → e ≠ 0 → Res (.tup [.int .i64 (instE z u).1, .int .i64 (instE z u).2, .int .i64 (iErr z u)]) (AV.tup [.int .i64 0, .int .i64 0, .int .i64 e]) := fun e he h => by
  have : instE z u = (0, 0) := by unfold instE; rw [if_neg (by rw [he]; exact h)]
  rw [this, he]
  exact zN rfl
 rw [rins_vc]
 refine brcT (tyZ z hbd) ?_
 rintro _ rfl
 refine kB (fun a => ?_) fun a => ?_
 · exact no 1 (by unfold iErr; rw [if_neg (by simpa using a)]) (by omega)
 have hz : ZtOk z := by simpa using a
 have far : ¬ (Asked u ∧ Asked (u - 57600) ∧ Asked (u + 57600)) → Res (.tup [.int .i64 (instE z u).1, .int .i64 (instE z u).2, .int .i64 (iErr z u)]) (AV.tup [.int .i64 0, .int .i64 0, .int .i64 10]) := fun h => no 10 (by unfold iErr; rw [if_pos hz, if_neg h]) (by omega)
 refine brcT (decide_eq_true ⟨h1, h2⟩) ?_
 rintro _ rfl
 refine kB (fun c1 => kB (fun c2 => far fun q => ?_) fun c2 => ?_) fun c1 => far fun q => of_decide_eq_false c1 q.1.1
 · have := q.1.2; simp at c2; omega
 have hu : Asked u := ⟨of_decide_eq_true c1, by simpa using c2⟩
 have hub := asked_bd hu
 have w1 : IntKind.wrap .i64 (u - 57600) = u - 57600 := jU (by omega)
 have w2 : IntKind.wrap .i64 (u + 57600) = u + 57600 := jU (by omega)
 rw [w1, w2]
 refine brcT (decide_eq_true ⟨by omega, by omega⟩) ?_
 rintro _ rfl
 refine kB (fun c3 => kB (fun c4 => far fun q => ?_) fun c4 => ?_) fun c3 => far fun q => of_decide_eq_false c3 q.2.1.1
 · have := q.2.1.2; simp at c4; omega
 have ha : Asked (u - 57600) := ⟨of_decide_eq_true c3, by simpa using c4⟩
 refine brcT (decide_eq_true ⟨by omega, by omega⟩) ?_
 rintro _ rfl
 refine kB (fun c5 => kB (fun c6 => far fun q => ?_) fun c6 => ?_) fun c5 => far fun q => of_decide_eq_false c5 q.2.2.1
 · have := q.2.2.2; simp at c6; omega
 have hb : Asked (u + 57600) := ⟨of_decide_eq_true c5, by simpa using c6⟩
 have hok : iErr z u = 0 := by unfold iErr; rw [if_pos hz, if_pos ⟨hu, ha, hb⟩]
 have can : CanIn z u := ⟨hbd, hok⟩
 have hn := chN_le hz hbd ha hb (by omega) (by omega)
 refine brcT (by rw [tyZ z hbd, decide_eq_true (show ZtOk z ∧ Asked (u - 57600) ∧ Asked (u + 57600) ∧ u - 57600 ≤ u + 57600 ∧ u + 57600 ≤ u - 57600 + 4194304 from ⟨hz, ha, hb, by omega, by omega⟩)]; rfl) ?_
 rintro _ rfl
 refine brcT ?_ (brcT (by rw [tyZ z hbd, decide_eq_true (show -9223372036854775808 ≤ u - 57600 ∧ u - 57600 ≤ 9223372036854775807 by omega)]; rfl) ?_)
 · rw [Nat.ble_eq_true_of_le (Nat.le_refl _), oneC_cI]
   unfold roomB
   rw [Nat.ble_eq_true_of_le (show 1 + chN z (u - 57600) (u + 57600) ≤ maxLen by unfold maxLen; omega), Nat.ble_eq_true_of_le (show (1 + chN z (u - 57600) (u + 57600)) * 8 ≤ 140737488355328 by omega)]
   rfl
 rintro _ rfl _ rfl _ rfl _ rfl
 have ho := (at_off hz ha).2
 have ei := inst_riS can rfl rfl ho
 have hin : -57600 ≤ (riEnd z u).l2 ∧ (riEnd z u).l2 ≤ 57600 ∧ ∀ n g, (riEnd z u).f = some (n, g) → 0 < n := by
  have hc := riC_ok hz hbd hu ha hb rfl rfl
  obtain ⟨g1, _⟩ := hc.at ho (chN z (u - 57600) (u + 57600)) (by omega)
  have e : riEnd z u = acS z u (riNx (1 + chN z (u - 57600) (u + 57600)) (riC z (u - 57600) (u + 57600)) (u + 57600) (chN z (u - 57600) (u + 57600))) (riS z u (1 + chN z (u - 57600) (u + 57600)) (riC z (u - 57600) (u + 57600)) (u + 57600) (atE z (u - 57600)).off (chN z (u - 57600) (u + 57600))) := by
   unfold riEnd riSt
   rw [w1, w2, show 1 + chN z (u - 57600) (u + 57600) = chN z (u - 57600) (u + 57600) + 1 by omega]
   rfl
  rw [e]
  refine ⟨?_, ?_, acS_pos g1.pos⟩
  · have h3 := g1.off
    have h4 := g1.l2
    simp only [acS]
    split <;> omega
  · have h3 := g1.off
    have h4 := g1.l2
    simp only [acS]
    split <;> omega
 have ee : instE z u = instF u (riEnd z u) := by
  rw [ei]
  unfold riEnd riSt
  rw [w1, w2]
 rw [← w1]
 refine show_i can ?_
 rw [hok, ee]
 unfold riMany riFirst riBehind instF
 obtain ⟨l1, l2, l3⟩ := hin
 rw [jU (show -9223372036854775808 ≤ u - (riEnd z u).l2 ∧ u - (riEnd z u).l2 ≤ 9223372036854775807 by omega)]
 cases hf : (riEnd z u).f with
 | none => exact brcT rfl (zN rfl)
 | some p =>
  obtain ⟨n, g⟩ := p
  have hp := l3 n g hf
  have nz : (((cntF (some (n, g)) : Nat) : Int) == 0) = false := by simp [cntF]; omega
  refine brcF nz (kB (fun q => ?_) fun q => ?_)
  · have q : n = 1 := by have : ((n : Nat) : Int) = 1 := by simpa [cntF] using q
                         omega
    simp only
    rw [if_pos q]
    exact zN rfl
  · have q : ¬ n = 1 := fun e => by subst e; simp [cntF] at q
    simp only
    rw [if_neg q]
    exact zN rfl
theorem rzInst_ok : COk Tryz.prog 38 zyInst := afl_con (kD rzRight_ok (kD cyYearR_ok (kD csChg_ok (kD rzAt_ok bE)))) (by kernel_rfl) fun args p v hc hp => by
 unfold zyInst at hc
 split at hc
 case h_2 => cases hc
 split at hc
 case h_2 => cases hc
 rename_i u _ q z hl
 simp only [Option.some.injEq, Prod.mk.injEq] at hc
 obtain ⟨rfl, rfl⟩ := hc
 rw [Bool.and_eq_true] at hp
 obtain ⟨rfl, hq⟩ := hp
 obtain ⟨h3, h4⟩ := of_decide_eq_true hq
 obtain ⟨k1, k2⟩ := rdZ_move hl
 exact ⟨_, _, _, fun w A hA => rl_1 (fun V h => k2 h) hA, riLT_ok z u, rins_ok k1 h3 h4⟩
theorem crRS_ok : COk Tryz.prog 30 csRS := by
 intro args p v hc hp w A hA
 unfold csRS at hc
 split at hc
 case h_2 => cases hc
 rename_i i u
 simp only [Option.some.injEq, Prod.mk.injEq] at hc
 obtain ⟨rfl, rfl⟩ := hc
 obtain rfl : A = [.agg #[.int .i64 i, .int .i64 u]] := by simpa [kG, kL, kM, kV] using hA
 obtain ⟨K, hK⟩ := rdrightS_ev i u (of_decide_eq_true hp)
 exact kK (fn := Tryz.f30) Tryz.func30 (by kernel_rfl) (by kernel_rfl) (kW.calls K _ _ _ w (hK K (Nat.le_refl _))) (fun _ => by simp [kN]) (fun _ h => by first | exact h | exact h.below)
theorem crSp_ok : COk Tryz.prog 45 csSp := by
 intro args p v hc hp w A hA
 unfold csSp at hc
 split at hc
 case h_2 => cases hc
 rename_i i m d u
 simp only [Option.some.injEq, Prod.mk.injEq] at hc
 obtain ⟨rfl, rfl⟩ := hc
 obtain rfl : A = [.agg #[.int .i64 i, .int .i64 m, .int .i64 d, .int .i64 u]] := by simpa [kG, kL, kM, kV] using hA
 exact kK (fn := Tryz.f45) Tryz.func45 (by kernel_rfl) (by kernel_rfl) (zJ.calls _ _ _ _ _ w (rsright_eq i m d u)) (fun _ => by simp [kN]) (fun _ h => by first | exact h | exact h.below)
theorem crDiv_ok : COk Tryz.prog 70 csDiv := by
 intro args p v hc hp w A hA
 unfold csDiv at hc
 split at hc
 case h_2 => cases hc
 rename_i a b
 simp only [Option.some.injEq, Prod.mk.injEq] at hc
 obtain ⟨rfl, rfl⟩ := hc
 rw [Bool.and_eq_true] at hp
 have h1 := of_decide_eq_true hp.2
 obtain rfl : b = 1000000 := by simpa using hp.1
 obtain rfl : A = [.int .i64 a, .int .i64 1000000] := by simpa [kG, kL, kM] using hA
 obtain ⟨K, hK⟩ := rdiv64_ev a 1000000 h1 (by unfold I64; omega) (by omega)
 have hf := hK K (Nat.le_refl _)
 rw [fl_pos (by omega), out_in (ediv_i64 h1 (by omega))] at hf
 exact kK (fn := Tryz.f70) Tryz.func70 (by kernel_rfl) (by kernel_rfl) (jT.calls K _ _ _ _ w hf) (fun _ => by simp [kG, kL, kM, bK]) (fun _ h => by first | exact h | exact h.below)
theorem crMod_ok : COk Tryz.prog 71 csMod := by
 intro args p v hc hp w A hA
 unfold csMod at hc
 split at hc
 case h_2 => cases hc
 rename_i a b
 simp only [Option.some.injEq, Prod.mk.injEq] at hc
 obtain ⟨rfl, rfl⟩ := hc
 rw [Bool.and_eq_true] at hp
 have h1 := of_decide_eq_true hp.2
 obtain rfl : b = 1000000 := by simpa using hp.1
 obtain rfl : A = [.int .i64 a, .int .i64 1000000] := by simpa [kG, kL, kM] using hA
 obtain ⟨K, hK⟩ := rmod64_ev a 1000000 h1 (by unfold I64; omega) (by omega)
 have hf := hK K (Nat.le_refl _)
 rw [md_pos (by omega)] at hf
 exact kK (fn := Tryz.f71) Tryz.func71 (by kernel_rfl) (by kernel_rfl) (jN.calls K _ _ _ _ w hf) (fun _ => by simp [kG, kL, kM, bK]) (fun _ h => by first | exact h | exact h.below)
theorem crMul_ok : COk Tryz.prog 73 csMul := by
 intro args p v hc hp w A hA
 unfold csMul at hc
 split at hc
 case h_2 => cases hc
 rename_i a b
 simp only [Option.some.injEq, Prod.mk.injEq] at hc
 obtain ⟨rfl, rfl⟩ := hc
 obtain ⟨h1, h2⟩ := of_decide_eq_true hp
 obtain rfl : A = [.int .i64 a, .int .i64 b] := by simpa [kG, kL, kM] using hA
 obtain ⟨K, hK⟩ := rmul_ev a b h1 h2
 have hf : computusref01_Mul.f K a b = some ((out (a * b)).1, (out (a * b)).2) := hK K (Nat.le_refl _)
 exact kK (fn := Tryz.f73) Tryz.func73 (by kernel_rfl) (by kernel_rfl) (computusref01_Mul.calls K _ _ _ _ w hf) (fun _ => by simp [kG, kL, kM, bK]) (fun _ h => by first | exact h | exact h.below)
theorem crAdd_ok : COk Tryz.prog 90 csAdd := by
 intro args p v hc hp w A hA
 unfold csAdd at hc
 split at hc
 case h_2 => cases hc
 rename_i a b
 simp only [Option.some.injEq, Prod.mk.injEq] at hc
 obtain ⟨rfl, rfl⟩ := hc
 obtain ⟨h1, h2⟩ := of_decide_eq_true hp
 obtain rfl : A = [.int .i64 a, .int .i64 b] := by simpa [kG, kL, kM] using hA
 obtain ⟨K, hK⟩ := radd_ev a b h1 h2
 have hf : bJ.f K a b = some ((out (a + b)).1, (out (a + b)).2) := hK K (Nat.le_refl _)
 exact kK (fn := Tryz.f90) Tryz.func90 (by kernel_rfl) (by kernel_rfl) (bJ.calls K _ _ _ _ w hf) (fun _ => by simp [kG, kL, kM, bK]) (fun _ h => by first | exact h | exact h.below)
theorem crDays_ok : COk Tryz.prog 47 csDays := by
 intro args p v hc hp w A hA
 unfold csDays at hc
 split at hc
 case h_2 => cases hc
 rename_i i v j q d s
 simp only [Option.some.injEq, Prod.mk.injEq] at hc
 obtain ⟨rfl, rfl⟩ := hc
 obtain ⟨h1, h2, h3, rfl, rfl⟩ := of_decide_eq_true hp
 obtain rfl : A = [.agg #[.int .i64 0, .int .i64 v], .agg #[.int .i64 0, .int .i64 q, .int .i64 d, .int .i64 s]] := by simpa [kG, kL, kM, kV] using hA
 obtain ⟨K, hK⟩ := rdate17_ev (v := v) (q := q) (d := d) (s := s) h3 h1 h2
 have hf : jA.f K 0 v 0 q d s = some ((daysR v q d).1, (daysR v q d).2.1, (daysR v q d).2.2) := hK K (Nat.le_refl _)
 exact kK (fn := Tryz.f47) Tryz.func47 (by kernel_rfl) (by kernel_rfl) (jA.calls K _ _ _ _ _ _ _ _ _ w hf) (fun _ => by simp [avS, kG, kL, kM, bK, kV]) (fun _ h => by first | exact h | exact h.below)
def tPlus (e w s : Int) (E : Prop) (F : Int → Prop) : Prop := brc (decide (I64 w ∧ I64 s)) (∀ m5 : Int, m5 = (out (w + s)).1 → ∀ m6 : Int, m6 = (out (w + s)).2 → brc (e != 0) E (brc (m6 != 0) E (brc (decide (I64 m5)) (∀ m7 : Bool, m7 = decide (DRS 0 m5) → brc (!m7) E (F m5)) False))) False
theorem tPlus_ok {e w s : Int} (hw : I64 w) (hs : I64 s) {E : Prop} {F : Int → Prop} (h1 : e ≠ 0 → E) (h2 : e = 0 → (onR w s = (0, 0, 10) → E) ∧ (onR w s = (0, w + s, 0) → F (w + s))) : tPlus e w s E F := by
 unfold tPlus
 refine brcT (decide_eq_true ⟨hw, hs⟩) ?_
 rintro _ rfl _ rfl
 refine kB (fun a => h1 (by simpa using a)) fun a => ?_
 obtain ⟨k1, k2⟩ := h2 (by simpa using a)
 by_cases h : I64 (w + s)
 · rw [out_in h]
   refine brcF rfl (brcT (decide_eq_true h) ?_)
   rintro _ rfl
   refine kB (fun a => k1 ?_) fun a => k2 ?_
   · unfold onR; rw [if_neg (fun q => by simp [q.2] at a)]
   · unfold onR; rw [if_pos ⟨h, by simpa using a⟩]
 · rw [out_no h]
   exact brcT rfl (k1 (by unfold onR; rw [if_neg (fun q => h q.1)]))
theorem join_of {x us : Int} (h : I64 ((x - 946684800) * 1000000)) : joinR x us = onR ((x - 946684800) * 1000000) us := by unfold joinR; rw [if_pos h]
theorem drs_low {v : Int} (h : DRS 0 v) : -300000000000000000 ≤ v := by unfold DRS DIn at h; omega
theorem on_join {u x : Int} (hu : I64 u) (hx : -57600 ≤ x ∧ x ≤ 57600) : onR u (x * 1000000) = joinR (secOf u + x) (u % 1000000) := by
 have hv : u + x * 1000000 = (secOf u + x - 946684800) * 1000000 + u % 1000000 := by unfold secOf; omega
 by_cases h : I64 ((secOf u + x - 946684800) * 1000000)
 · rw [join_of h]
   unfold onR
   rw [hv]
 · unfold joinR
   rw [if_neg h]
   unfold onR
   rw [if_neg]
   rintro ⟨k1, k2⟩
   have := drs_low k2
   unfold I64 at *
   omega
set_option maxRecDepth 100000 in
theorem crloc_vc (z : Zt) (i u : Int) (K : AV → Prop) : AFL (tab [(25, zyRight), (30, csRS), (70, csDiv), (71, csMod), (32, zyAt), (73, csMul), (90, csAdd)]) (noLoops) 8 11 [.agg (avZ z), .agg [.int .i64 i, .int .i64 u]] K =
 (brc (tyR (Zt.n z) (znRow z) && bdZ (Zt.F z)) (∀ m0 : Bool, m0 = decide (ZtOk z) → brc (!m0) (K (AV.tup [.agg [.int .i64 0, .int .i64 0], .int .i64 1])) (brc (decide (I64 u)) (∀ m1 : Bool, m1 = decide (DRS i u) → brc (!m1) (K (AV.tup [.agg [.int .i64 0, .int .i64 0], .int .i64 1])) (brc (i != 0) (K (AV.tup [.agg [.int .i64 i, .int .i64 u], .int .i64 0])) (brc (decide (I64 u)) (∀ m2 : Int, m2 = u / 1000000 → ∀ m3 : Int, m3 = 0 → brc (decide (I64 u)) (∀ m4 : Int, m4 = u % 1000000 → ∀ m5 : Int, m5 = 0 → brc (tyR (Zt.n z) (znRow z) && bdZ (Zt.F z) && decide (-9223372036854775808 ≤ IntKind.wrap .i64 (m2 + 946684800) ∧ IntKind.wrap .i64 (m2 + 946684800) ≤ 9223372036854775807)) (∀ m6 : Int, m6 = Tr.t (atE z (IntKind.wrap .i64 (m2 + 946684800))) → ∀ m7 : Int, m7 = Tr.off (atE z (IntKind.wrap .i64 (m2 + 946684800))) → ∀ m8 : Bool, m8 = Tr.dst (atE z (IntKind.wrap .i64 (m2 + 946684800))) → ∀ m9 : Int, m9 = zErr z (IntKind.wrap .i64 (m2 + 946684800)) → brc (m9 != 0) (K (AV.tup [.agg [.int .i64 0, .int .i64 0], .int .i64 m9])) (brc (decide (I64 (IntKind.wrap .i64 (IntKind.wrap .i64 (IntKind.wrap .i64 (m2 + 946684800) + m7) - 946684800)) ∧ I64 1000000)) (∀ m10 : Int, m10 = Prod.fst (out (IntKind.wrap .i64 (IntKind.wrap .i64 (IntKind.wrap .i64 (m2 + 946684800) + m7) - 946684800) * 1000000)) → ∀ m11 : Int, m11 = Prod.snd (out (IntKind.wrap .i64 (IntKind.wrap .i64 (IntKind.wrap .i64 (m2 + 946684800) + m7) - 946684800) * 1000000)) → brc (decide (I64 m10 ∧ I64 m4)) (∀ m12 : Int, m12 = Prod.fst (out (m10 + m4)) → ∀ m13 : Int, m13 = Prod.snd (out (m10 + m4)) → brc (m11 != 0) (K (AV.tup [.agg [.int .i64 0, .int .i64 0], .int .i64 10])) (brc (m13 != 0) (K (AV.tup [.agg [.int .i64 0, .int .i64 0], .int .i64 10])) (brc (decide (I64 m12)) (∀ m14 : Bool, m14 = decide (DRS 0 m12) → brc (!m14) (K (AV.tup [.agg [.int .i64 0, .int .i64 0], .int .i64 10])) (K (AV.tup [.agg [.int .i64 0, .int .i64 m12], .int .i64 0]))) False))) False) False)) False) False) False))) False)) False) := by kernel_rfl
theorem crloc_ok {z : Zt} {i u : Int} (hb : bdZ z.F = true) (hu : I64 u) : AFL (tab [(25, zyRight), (30, csRS), (70, csDiv), (71, csMod), (32, zyAt), (73, csMul), (90, csAdd)]) noLoops 8 11 [.agg (avZ z), .agg [.int .i64 i, .int .i64 u]] (Res (avS (locR z i u))) := by
 rw [crloc_vc]
 refine brcT (tyZ z hb) ?_
 rintro _ rfl
 refine kB (fun a => ?_) fun a => ?_
 · exact resS (by unfold locR; rw [if_neg (fun q => by simp [q.1] at a)])
 have hz : ZtOk z := by simpa using a
 refine brcT (decide_eq_true hu) ?_
 rintro _ rfl
 refine kB (fun b => ?_) fun b => ?_
 · exact resS (by unfold locR; rw [if_neg (fun q => by simp [q.2] at b)])
 have hd : DRS i u := by simpa using b
 refine kB (fun c => ?_) fun c => ?_
 · exact resS (by unfold locR; rw [if_pos ⟨hz, hd⟩, if_neg (by simpa using c)])
 have hi : i = 0 := by simpa using c
 refine brcT (decide_eq_true hu) ?_
 rintro _ rfl _ rfl
 refine brcT (decide_eq_true hu) ?_
 rintro _ rfl _ rfl
 have hs := sec_bd hu
 rw [show IntKind.wrap .i64 (u / 1000000 + 946684800) = secOf u from jU hs]
 refine brcT (by rw [tyZ z hb, decide_eq_true (show -9223372036854775808 ≤ secOf u ∧ secOf u ≤ 9223372036854775807 from hs)]; rfl) ?_
 rintro _ rfl _ rfl _ rfl _ rfl
 have el : locR z i u = if zErr z (secOf u) = 0 then onR u ((atZ z (secOf u)).off * 1000000) else (0, 0, zErr z (secOf u)) := by unfold locR; rw [if_pos ⟨hz, hd⟩, if_pos hi]
 rw [el]
 refine kB (fun c => ?_) fun c => ?_
 · rw [if_neg (by simpa using c)]
   exact resS rfl
 have c : zErr z (secOf u) = 0 := by simpa using c
 rw [if_pos c]
 have eo : (atE z (secOf u)).off = (atZ z (secOf u)).off := by unfold atE; simp only; rw [if_pos c]
 have ho := atZ_off hz (secOf u)
 have su : secOf u = u / 1000000 + 946684800 := rfl
 rw [eo]
 generalize (atZ z (secOf u)).off = x at *
 have hub := hu
 unfold I64 at hub
 have w1 : IntKind.wrap .i64 (secOf u + x) = secOf u + x := jU (by omega)
 have w2 : IntKind.wrap .i64 (secOf u + x - 946684800) = secOf u + x - 946684800 := jU (by omega)
 rw [w1, w2, on_join hu ho]
 refine brcT (decide_eq_true ⟨by unfold I64; omega, by unfold I64; omega⟩) ?_
 rintro _ rfl _ rfl
 by_cases h : I64 ((secOf u + x - 946684800) * 1000000)
 · rw [out_in h, join_of h]
   exact tPlus_ok h (by unfold I64; omega) (fun k => (k rfl).elim) fun _ => ⟨fun k => resS k, fun k => resS k⟩
 · have ej : joinR (secOf u + x) (u % 1000000) = (0, 0, 10) := by unfold joinR; rw [if_neg h]
   rw [out_no h, ej]
   exact tPlus_ok i64_0 (by unfold I64; omega) (fun _ => resS rfl) fun k => by omega
theorem crLoc_ok : COk Tryz.prog 11 csLoc := afl_con (kD rzRight_ok (kD crRS_ok (kD crDiv_ok (kD crMod_ok (kD rzAt_ok (kD crMul_ok (kD crAdd_ok bE))))))) (by kernel_rfl) fun args p v hc hp => by
 unfold csLoc at hc
 split at hc
 case h_2 => cases hc
 split at hc
 case h_2 => cases hc
 rename_i i u _ q z hl
 simp only [Option.some.injEq, Prod.mk.injEq] at hc
 obtain ⟨rfl, rfl⟩ := hc
 rw [Bool.and_eq_true] at hp
 obtain ⟨rfl, hq⟩ := hp
 obtain ⟨k1, k2⟩ := rdZ_move hl
 exact ⟨_, _, _, fun w A hA => rl_1 (fun V h => k2 h) hA, zI _ _, crloc_ok k1 (of_decide_eq_true hq)⟩
set_option maxRecDepth 100000 in
theorem crins_vc (z : Zt) (i u : Int) (K : AV → Prop) : AFL (tab [(25, zyRight), (30, csRS), (70, csDiv), (71, csMod), (38, zyInst), (73, csMul), (90, csAdd)]) (noLoops) 8 13 [.agg (avZ z), .agg [.int .i64 i, .int .i64 u]] K =
 (brc (tyR (Zt.n z) (znRow z) && bdZ (Zt.F z)) (∀ m0 : Bool, m0 = decide (ZtOk z) → brc (!m0) (K (AV.tup [.agg [.int .i64 0, .int .i64 0], .int .i64 0, .int .i64 1])) (brc (decide (I64 u)) (∀ m1 : Bool, m1 = decide (DRS i u) → brc (!m1) (K (AV.tup [.agg [.int .i64 0, .int .i64 0], .int .i64 0, .int .i64 1])) (brc (i != 0) (K (AV.tup [.agg [.int .i64 i, .int .i64 u], .int .i64 0, .int .i64 0])) (brc (decide (I64 u)) (∀ m2 : Int, m2 = u / 1000000 → ∀ m3 : Int, m3 = 0 → brc (decide (I64 u)) (∀ m4 : Int, m4 = u % 1000000 → ∀ m5 : Int, m5 = 0 → brc (tyR (Zt.n z) (znRow z) && bdZ (Zt.F z) && decide (-9223372036854775808 ≤ IntKind.wrap .i64 (m2 + 946684800) ∧ IntKind.wrap .i64 (m2 + 946684800) ≤ 9223372036854775807)) (∀ m6 : Int, m6 = Prod.fst (instE z (IntKind.wrap .i64 (m2 + 946684800))) → ∀ m7 : Int, m7 = Prod.snd (instE z (IntKind.wrap .i64 (m2 + 946684800))) → ∀ m8 : Int, m8 = iErr z (IntKind.wrap .i64 (m2 + 946684800)) → brc (m8 != 0) (K (AV.tup [.agg [.int .i64 0, .int .i64 0], .int .i64 0, .int .i64 m8])) (brc (decide (I64 (IntKind.wrap .i64 (m6 - 946684800)) ∧ I64 1000000)) (∀ m9 : Int, m9 = Prod.fst (out (IntKind.wrap .i64 (m6 - 946684800) * 1000000)) → ∀ m10 : Int, m10 = Prod.snd (out (IntKind.wrap .i64 (m6 - 946684800) * 1000000)) → brc (decide (I64 m9 ∧ I64 m4)) (∀ m11 : Int, m11 = Prod.fst (out (m9 + m4)) → ∀ m12 : Int, m12 = Prod.snd (out (m9 + m4)) → brc (m10 != 0) (K (AV.tup [.agg [.int .i64 0, .int .i64 0], .int .i64 0, .int .i64 10])) (brc (m12 != 0) (K (AV.tup [.agg [.int .i64 0, .int .i64 0], .int .i64 0, .int .i64 10])) (brc (decide (I64 m11)) (∀ m13 : Bool, m13 = decide (DRS 0 m11) → brc (!m13) (K (AV.tup [.agg [.int .i64 0, .int .i64 0], .int .i64 0, .int .i64 10])) (K (AV.tup [.agg [.int .i64 0, .int .i64 m11], .int .i64 m7, .int .i64 0]))) False))) False) False)) False) False) False))) False)) False) := by kernel_rfl
theorem crins_ok {z : Zt} {i u : Int} (hb : bdZ z.F = true) (hu : I64 u) : AFL (tab [(25, zyRight), (30, csRS), (70, csDiv), (71, csMod), (38, zyInst), (73, csMul), (90, csAdd)]) noLoops 8 13 [.agg (avZ z), .agg [.int .i64 i, .int .i64 u]] (Res (.tup [.agg [.int .i64 (insR z i u).1, .int .i64 (insR z i u).2.1], .int .i64 (insR z i u).2.2.1, .int .i64 (insR z i u).2.2.2])) := by
 rw [crins_vc]
 refine brcT (tyZ z hb) ?_
 rintro _ rfl
 refine kB (fun a => ?_) fun a => ?_
 · exact resI4 (by unfold insR; rw [if_neg (fun q => by simp [q.1] at a)])
 have hz : ZtOk z := by simpa using a
 refine brcT (decide_eq_true hu) ?_
 rintro _ rfl
 refine kB (fun b => ?_) fun b => ?_
 · exact resI4 (by unfold insR; rw [if_neg (fun q => by simp [q.2] at b)])
 have hd : DRS i u := by simpa using b
 refine kB (fun c => ?_) fun c => ?_
 · exact resI4 (by unfold insR; rw [if_pos ⟨hz, hd⟩, if_neg (by simpa using c)])
 have hi : i = 0 := by simpa using c
 refine brcT (decide_eq_true hu) ?_
 rintro _ rfl _ rfl
 refine brcT (decide_eq_true hu) ?_
 rintro _ rfl _ rfl
 have hs := sec_bd hu
 rw [show IntKind.wrap .i64 (u / 1000000 + 946684800) = secOf u from jU hs]
 refine brcT (by rw [tyZ z hb, decide_eq_true (show -9223372036854775808 ≤ secOf u ∧ secOf u ≤ 9223372036854775807 from hs)]; rfl) ?_
 rintro _ rfl _ rfl _ rfl
 have el : insR z i u = if iErr z (secOf u) = 0 then insF z (instE z (secOf u)) (u % 1000000) else (0, 0, 0, iErr z (secOf u)) := by unfold insR; rw [if_pos ⟨hz, hd⟩, if_pos hi]
 rw [el]
 refine kB (fun c => ?_) fun c => ?_
 · have c : ¬ iErr z (secOf u) = 0 := by simpa using c
   rw [if_neg c]
   exact resI4 rfl
 have c : iErr z (secOf u) = 0 := by simpa using c
 rw [if_pos c]
 have bd := acS_bd hb c
 have su : secOf u = u / 1000000 + 946684800 := rfl
 have hub := hu
 unfold I64 at hub
 generalize instE z (secOf u) = x at *
 rw [show IntKind.wrap .i64 (x.1 - 946684800) = x.1 - 946684800 from jU (by omega)]
 refine brcT (decide_eq_true ⟨by unfold I64; omega, by unfold I64; omega⟩) ?_
 rintro _ rfl _ rfl
 have bad : joinR x.1 (u % 1000000) = (0, 0, 10) → insF z x (u % 1000000) = (0, 0, 0, 10) := fun k => by unfold insF; rw [k]; rfl
 by_cases h : I64 ((x.1 - 946684800) * 1000000)
 · rw [out_in h]
   have ej := join_of (us := u % 1000000) h
   exact tPlus_ok h (by unfold I64; omega) (fun k => (k rfl).elim) fun _ => ⟨fun k => resI4 (bad (ej.trans k)), fun k => resI4 (by unfold insF; rw [ej, k]; rfl)⟩
 · have ej : joinR x.1 (u % 1000000) = (0, 0, 10) := by unfold joinR; rw [if_neg h]
   rw [out_no h]
   exact tPlus_ok i64_0 (by unfold I64; omega) (fun _ => resI4 (bad ej)) fun k => by omega
theorem crIns_ok : COk Tryz.prog 13 csIns := afl_con (kD rzRight_ok (kD crRS_ok (kD crDiv_ok (kD crMod_ok (kD rzInst_ok (kD crMul_ok (kD crAdd_ok bE))))))) (by kernel_rfl) fun args p v hc hp => by
 unfold csIns at hc
 split at hc
 case h_2 => cases hc
 split at hc
 case h_2 => cases hc
 rename_i i u _ q z hl
 simp only [Option.some.injEq, Prod.mk.injEq] at hc
 obtain ⟨rfl, rfl⟩ := hc
 rw [Bool.and_eq_true] at hp
 obtain ⟨rfl, hq⟩ := hp
 obtain ⟨k1, k2⟩ := rdZ_move hl
 exact ⟨_, _, _, fun w A hA => rl_1 (fun V h => k2 h) hA, zI _ _, crins_ok k1 (of_decide_eq_true hq)⟩
def tInf (i j u : Int) (K : AV → Prop) : Prop := brc (i != 0) (brc (j != 0) (brc (i != j) (K (.tup [.agg [.int .i64 0, .int .i64 0], .int .i64 10])) (brc (i != 0) (K (.tup [.agg [.int .i64 i, .int .i64 u], .int .i64 0])) (K (.tup [.agg [.int .i64 j, .int .i64 0], .int .i64 0])))) (brc (i != 0) (K (.tup [.agg [.int .i64 i, .int .i64 u], .int .i64 0])) (K (.tup [.agg [.int .i64 j, .int .i64 0], .int .i64 0])))) (brc (i != 0) (K (.tup [.agg [.int .i64 i, .int .i64 u], .int .i64 0])) (K (.tup [.agg [.int .i64 j, .int .i64 0], .int .i64 0])))
theorem tInf_ok {i j u : Int} {r : Int × Int × Int} (hi : -1 ≤ i ∧ i ≤ 1) (hj : -1 ≤ j ∧ j ≤ 1) (hu : i ≠ 0 → u = 0) (hn : ¬ (i = 0 ∧ j = 0)) : tInf i j u (Res (avS (infR i j r))) := by
 unfold tInf infR
 by_cases h0 : i = 0
 · subst h0
   refine brcF rfl (brcF rfl (resS ?_))
   rw [if_neg (by omega), if_neg (by omega), if_pos (by omega)]
 · have hu := hu h0
   subst hu
   have ti : (i != 0) = true := by simpa using h0
   have one : ¬ i * j < 0 → Res (avS (if i * j < 0 then (0, 0, 10) else if i ≠ 0 then (i, 0, 0) else if j ≠ 0 then (j, 0, 0) else r)) (.tup [.agg [.int .i64 i, .int .i64 0], .int .i64 0]) := fun h => resS (by rw [if_neg h, if_pos h0])
   refine brcT ti (kB (fun hj0 => kB (fun he => resS ?_) fun he => brcT ti (one ?_)) fun hj0 => brcT ti (one ?_))
   · have hj0 : j ≠ 0 := by simpa using hj0
     have he : i ≠ j := by simpa using he
     rw [if_pos]
     have a1 : i = -1 ∨ i = 1 := by omega
     have a2 : j = -1 ∨ j = 1 := by omega
     rcases a1 with rfl | rfl <;> rcases a2 with rfl | rfl <;> first | omega | exact (he rfl).elim
   · have he : i = j := by simpa using he
     subst he
     have a1 : i = -1 ∨ i = 1 := by omega
     rcases a1 with rfl | rfl <;> omega
   · have hj0 : j = 0 := by simpa using hj0
     subst hj0
     omega
theorem drs_inf {i u : Int} (h : DRS i u) (hi : i ≠ 0) : u = 0 := by unfold DRS at h; omega
theorem daysR_err {v q d : Int} (h : ¬ (daysR v q d).2.2 = 0) : (daysR v q d).2.2 = 10 := by
 unfold daysR at h ⊢
 split
 · rfl
 · rename_i e
   rw [e] at h
   simp only at h
   split at h
   · simp at h
   · rename_i k; rw [if_neg k]
def tPlus0 (w s : Int) (E : Prop) (F : Int → Prop) : Prop := brc (decide (I64 w ∧ I64 s)) (∀ m5 : Int, m5 = (out (w + s)).1 → ∀ m6 : Int, m6 = (out (w + s)).2 → brc (m6 != 0) E (brc (decide (I64 m5)) (∀ m7 : Bool, m7 = decide (DRS 0 m5) → brc (!m7) E (F m5)) False)) False
theorem tPlus0_ok {w s : Int} (hw : I64 w) (hs : I64 s) : tPlus0 w s (Res (avS (onR w s)) (.tup [.agg [.int .i64 0, .int .i64 0], .int .i64 10])) (fun m => Res (avS (onR w s)) (.tup [.agg [.int .i64 0, .int .i64 m], .int .i64 0])) := by
 unfold tPlus0
 refine brcT (decide_eq_true ⟨hw, hs⟩) ?_
 rintro _ rfl _ rfl
 by_cases h : I64 (w + s)
 · rw [out_in h]
   refine brcF rfl (brcT (decide_eq_true h) ?_)
   rintro _ rfl
   refine kB (fun a => resS ?_) fun a => resS ?_
   · unfold onR; rw [if_neg (fun q => by simp [q.2] at a)]
   · unfold onR; rw [if_pos ⟨h, by simpa using a⟩]
 · rw [out_no h]
   exact brcT rfl (resS (by unfold onR; rw [if_neg (fun q => h q.1)]))
set_option maxRecDepth 100000 in
theorem cradd_vc (i u j q d s : Int) (K : AV → Prop) : AFL (tab [(30, csRS), (45, csSp), (47, csDays), (90, csAdd)]) (noLoops) 8 18 [.agg [.int .i64 i, .int .i64 u], .agg [.int .i64 j, .int .i64 q, .int .i64 d, .int .i64 s]] K =
 (brc (decide (I64 u)) (∀ m0 : Bool, m0 = decide (DRS i u) → brc (!m0) (K (AV.tup [.agg [.int .i64 0, .int .i64 0], .int .i64 1])) (brc (decide (I64 s)) (∀ m1 : Bool, m1 = decide (SOk j q d s) → brc (!m1) (K (AV.tup [.agg [.int .i64 0, .int .i64 0], .int .i64 1])) (brc (i == 0) (brc (j == 0) (brc (decide (I64 u ∧ I64 d ∧ DRS i u ∧ i = 0 ∧ j = 0)) (∀ m2 : Int, m2 = Prod.fst (daysR u q d) → ∀ m3 : Int, m3 = Prod.fst (Prod.snd (daysR u q d)) → ∀ m4 : Int, m4 = Prod.snd (Prod.snd (daysR u q d)) → brc (decide (I64 m3 ∧ I64 s)) (∀ m5 : Int, m5 = Prod.fst (out (m3 + s)) → ∀ m6 : Int, m6 = Prod.snd (out (m3 + s)) → brc (m4 != 0) (K (AV.tup [.agg [.int .i64 0, .int .i64 0], .int .i64 10])) (brc (m6 != 0) (K (AV.tup [.agg [.int .i64 0, .int .i64 0], .int .i64 10])) (brc (decide (I64 m5)) (∀ m7 : Bool, m7 = decide (DRS 0 m5) → brc (!m7) (K (AV.tup [.agg [.int .i64 0, .int .i64 0], .int .i64 10])) (K (AV.tup [.agg [.int .i64 0, .int .i64 m5], .int .i64 0]))) False))) False) False) (brc (i != 0) (brc (j != 0) (brc (i != j) (K (AV.tup [.agg [.int .i64 0, .int .i64 0], .int .i64 10])) (brc (i != 0) (K (AV.tup [.agg [.int .i64 i, .int .i64 u], .int .i64 0])) (K (AV.tup [.agg [.int .i64 j, .int .i64 0], .int .i64 0])))) (brc (i != 0) (K (AV.tup [.agg [.int .i64 i, .int .i64 u], .int .i64 0])) (K (AV.tup [.agg [.int .i64 j, .int .i64 0], .int .i64 0])))) (brc (i != 0) (K (AV.tup [.agg [.int .i64 i, .int .i64 u], .int .i64 0])) (K (AV.tup [.agg [.int .i64 j, .int .i64 0], .int .i64 0]))))) (brc (i != 0) (brc (j != 0) (brc (i != j) (K (AV.tup [.agg [.int .i64 0, .int .i64 0], .int .i64 10])) (brc (i != 0) (K (AV.tup [.agg [.int .i64 i, .int .i64 u], .int .i64 0])) (K (AV.tup [.agg [.int .i64 j, .int .i64 0], .int .i64 0])))) (brc (i != 0) (K (AV.tup [.agg [.int .i64 i, .int .i64 u], .int .i64 0])) (K (AV.tup [.agg [.int .i64 j, .int .i64 0], .int .i64 0])))) (brc (i != 0) (K (AV.tup [.agg [.int .i64 i, .int .i64 u], .int .i64 0])) (K (AV.tup [.agg [.int .i64 j, .int .i64 0], .int .i64 0])))))) False)) False) := by kernel_rfl
theorem cradd_ok {i u j q d s : Int} (hu : I64 u) (hd : I64 d) (hs : I64 s) : AFL (tab [(30, csRS), (45, csSp), (47, csDays), (90, csAdd)]) noLoops 8 18 [.agg [.int .i64 i, .int .i64 u], .agg [.int .i64 j, .int .i64 q, .int .i64 d, .int .i64 s]] (Res (avS (plusR i u j q d s))) := by
 rw [cradd_vc]
 refine brcT (decide_eq_true hu) ?_
 rintro _ rfl
 refine kB (fun a => ?_) fun a => ?_
 · exact resS (by unfold plusR; rw [if_neg (fun q => by simp [q.1] at a)])
 have ha : DRS i u := by simpa using a
 refine brcT (decide_eq_true hs) ?_
 rintro _ rfl
 refine kB (fun b => ?_) fun b => ?_
 · exact resS (by unfold plusR; rw [if_neg (fun q => by simp [q.2] at b)])
 have hb : SOk j q d s := by simpa using b
 have e : plusR i u j q d s = infR i j (thenOn (daysR u q d) s) := by unfold plusR; rw [if_pos ⟨ha, hb⟩]
 rw [e]
 have inf : ¬ (i = 0 ∧ j = 0) → tInf i j u (Res (avS (infR i j (thenOn (daysR u q d) s)))) := tInf_ok (drs_bd ha) (sok_bd hb) (drs_inf ha)
 refine kB (fun c => kB (fun c2 => ?_) fun c2 => inf fun k => by simp [k.2] at c2) fun c => inf fun k => by simp [k.1] at c
 have hi : i = 0 := by simpa using c
 have hj : j = 0 := by simpa using c2
 subst hi hj
 have ei : infR 0 0 (thenOn (daysR u q d) s) = thenOn (daysR u q d) s := by unfold infR; rw [if_neg (by omega), if_neg (by omega), if_neg (by omega)]
 rw [ei]
 refine brcT (decide_eq_true ⟨hu, hd, ha, rfl, rfl⟩) ?_
 rintro _ rfl _ rfl _ rfl
 have hm := daysR_made u q d
 refine tPlus_ok hm.2.1 hs (fun h => resS ?_) fun h => ⟨fun k => resS ?_, fun k => resS ?_⟩
 · unfold thenOn; rw [if_neg h, daysR_err h]
 · unfold thenOn; rw [if_pos h, k]
 · unfold thenOn; rw [if_pos h, k]
theorem crPlus_ok : COk Tryz.prog 18 csPlus := afl_con (kD crRS_ok (kD crSp_ok (kD crDays_ok (kD crAdd_ok bE)))) (by kernel_rfl) fun args p v hc hp => by
 unfold csPlus at hc
 split at hc
 case h_2 => cases hc
 simp only [Option.some.injEq, Prod.mk.injEq] at hc
 obtain ⟨rfl, rfl⟩ := hc
 obtain ⟨h1, h2, h3⟩ := of_decide_eq_true hp
 exact ⟨_, _, _, fun w A hA => hA, zI _ _, cradd_ok h1 h2 h3⟩
set_option maxRecDepth 100000 in
theorem crtz_vc (z : Zt) (i u j q d s : Int) (K : AV → Prop) : AFL (tab [(25, zyRight), (30, csRS), (45, csSp), (11, csLoc), (47, csDays), (13, csIns), (90, csAdd)]) (noLoops) 8 20 [.agg (avZ z), .agg [.int .i64 i, .int .i64 u], .agg [.int .i64 j, .int .i64 q, .int .i64 d, .int .i64 s]] K =
 (brc (tyR (Zt.n z) (znRow z) && bdZ (Zt.F z)) (∀ m0 : Bool, m0 = decide (ZtOk z) → brc (!m0) (K (AV.tup [.agg [.int .i64 0, .int .i64 0], .int .i64 1])) (brc (decide (I64 u)) (∀ m1 : Bool, m1 = decide (DRS i u) → brc (!m1) (K (AV.tup [.agg [.int .i64 0, .int .i64 0], .int .i64 1])) (brc (decide (I64 s)) (∀ m2 : Bool, m2 = decide (SOk j q d s) → brc (!m2) (K (AV.tup [.agg [.int .i64 0, .int .i64 0], .int .i64 1])) (brc (i == 0) (brc (j == 0) (brc (q != 0) (brc (tyR (Zt.n z) (znRow z) && bdZ (Zt.F z) && decide (I64 u)) (∀ m3 : Int, m3 = Prod.fst (locR z i u) → ∀ m4 : Int, m4 = Prod.fst (Prod.snd (locR z i u)) → ∀ m5 : Int, m5 = Prod.snd (Prod.snd (locR z i u)) → brc (m5 != 0) (K (AV.tup [.agg [.int .i64 0, .int .i64 0], .int .i64 m5])) (brc (decide (I64 m4 ∧ I64 d ∧ DRS m3 m4 ∧ m3 = 0 ∧ j = 0)) (∀ m6 : Int, m6 = Prod.fst (daysR m4 q d) → ∀ m7 : Int, m7 = Prod.fst (Prod.snd (daysR m4 q d)) → ∀ m8 : Int, m8 = Prod.snd (Prod.snd (daysR m4 q d)) → brc (m8 != 0) (K (AV.tup [.agg [.int .i64 0, .int .i64 0], .int .i64 m8])) (brc (tyR (Zt.n z) (znRow z) && bdZ (Zt.F z) && decide (I64 m7)) (∀ m9 : Int, m9 = Prod.fst (insR z m6 m7) → ∀ m10 : Int, m10 = Prod.fst (Prod.snd (insR z m6 m7)) → ∀ m11 : Int, m11 = Prod.fst (Prod.snd (Prod.snd (insR z m6 m7))) → ∀ m12 : Int, m12 = Prod.snd (Prod.snd (Prod.snd (insR z m6 m7))) → brc (m12 != 0) (K (AV.tup [.agg [.int .i64 0, .int .i64 0], .int .i64 m12])) (brc (decide (I64 m10 ∧ I64 s)) (∀ m13 : Int, m13 = Prod.fst (out (m10 + s)) → ∀ m14 : Int, m14 = Prod.snd (out (m10 + s)) → brc (m14 != 0) (K (AV.tup [.agg [.int .i64 0, .int .i64 0], .int .i64 10])) (brc (decide (I64 m13)) (∀ m15 : Bool, m15 = decide (DRS 0 m13) → brc (!m15) (K (AV.tup [.agg [.int .i64 0, .int .i64 0], .int .i64 10])) (K (AV.tup [.agg [.int .i64 0, .int .i64 m13], .int .i64 0]))) False)) False)) False)) False)) False) (brc (d != 0) (brc (tyR (Zt.n z) (znRow z) && bdZ (Zt.F z) && decide (I64 u)) (∀ m3 : Int, m3 = Prod.fst (locR z i u) → ∀ m4 : Int, m4 = Prod.fst (Prod.snd (locR z i u)) → ∀ m5 : Int, m5 = Prod.snd (Prod.snd (locR z i u)) → brc (m5 != 0) (K (AV.tup [.agg [.int .i64 0, .int .i64 0], .int .i64 m5])) (brc (decide (I64 m4 ∧ I64 d ∧ DRS m3 m4 ∧ m3 = 0 ∧ j = 0)) (∀ m6 : Int, m6 = Prod.fst (daysR m4 q d) → ∀ m7 : Int, m7 = Prod.fst (Prod.snd (daysR m4 q d)) → ∀ m8 : Int, m8 = Prod.snd (Prod.snd (daysR m4 q d)) → brc (m8 != 0) (K (AV.tup [.agg [.int .i64 0, .int .i64 0], .int .i64 m8])) (brc (tyR (Zt.n z) (znRow z) && bdZ (Zt.F z) && decide (I64 m7)) (∀ m9 : Int, m9 = Prod.fst (insR z m6 m7) → ∀ m10 : Int, m10 = Prod.fst (Prod.snd (insR z m6 m7)) → ∀ m11 : Int, m11 = Prod.fst (Prod.snd (Prod.snd (insR z m6 m7))) → ∀ m12 : Int, m12 = Prod.snd (Prod.snd (Prod.snd (insR z m6 m7))) → brc (m12 != 0) (K (AV.tup [.agg [.int .i64 0, .int .i64 0], .int .i64 m12])) (brc (decide (I64 m10 ∧ I64 s)) (∀ m13 : Int, m13 = Prod.fst (out (m10 + s)) → ∀ m14 : Int, m14 = Prod.snd (out (m10 + s)) → brc (m14 != 0) (K (AV.tup [.agg [.int .i64 0, .int .i64 0], .int .i64 10])) (brc (decide (I64 m13)) (∀ m15 : Bool, m15 = decide (DRS 0 m13) → brc (!m15) (K (AV.tup [.agg [.int .i64 0, .int .i64 0], .int .i64 10])) (K (AV.tup [.agg [.int .i64 0, .int .i64 m13], .int .i64 0]))) False)) False)) False)) False)) False) (brc (decide (I64 u ∧ I64 s)) (∀ m3 : Int, m3 = Prod.fst (out (u + s)) → ∀ m4 : Int, m4 = Prod.snd (out (u + s)) → brc (m4 != 0) (K (AV.tup [.agg [.int .i64 0, .int .i64 0], .int .i64 10])) (brc (decide (I64 m3)) (∀ m5 : Bool, m5 = decide (DRS 0 m3) → brc (!m5) (K (AV.tup [.agg [.int .i64 0, .int .i64 0], .int .i64 10])) (K (AV.tup [.agg [.int .i64 0, .int .i64 m3], .int .i64 0]))) False)) False))) (brc (i != 0) (brc (j != 0) (brc (i != j) (K (AV.tup [.agg [.int .i64 0, .int .i64 0], .int .i64 10])) (brc (i != 0) (K (AV.tup [.agg [.int .i64 i, .int .i64 u], .int .i64 0])) (K (AV.tup [.agg [.int .i64 j, .int .i64 0], .int .i64 0])))) (brc (i != 0) (K (AV.tup [.agg [.int .i64 i, .int .i64 u], .int .i64 0])) (K (AV.tup [.agg [.int .i64 j, .int .i64 0], .int .i64 0])))) (brc (i != 0) (K (AV.tup [.agg [.int .i64 i, .int .i64 u], .int .i64 0])) (K (AV.tup [.agg [.int .i64 j, .int .i64 0], .int .i64 0]))))) (brc (i != 0) (brc (j != 0) (brc (i != j) (K (AV.tup [.agg [.int .i64 0, .int .i64 0], .int .i64 10])) (brc (i != 0) (K (AV.tup [.agg [.int .i64 i, .int .i64 u], .int .i64 0])) (K (AV.tup [.agg [.int .i64 j, .int .i64 0], .int .i64 0])))) (brc (i != 0) (K (AV.tup [.agg [.int .i64 i, .int .i64 u], .int .i64 0])) (K (AV.tup [.agg [.int .i64 j, .int .i64 0], .int .i64 0])))) (brc (i != 0) (K (AV.tup [.agg [.int .i64 i, .int .i64 u], .int .i64 0])) (K (AV.tup [.agg [.int .i64 j, .int .i64 0], .int .i64 0])))))) False)) False)) False) := by kernel_rfl
theorem crtz_ok {z : Zt} {i u j q d s : Int} (hbd : bdZ z.F = true) (hu : I64 u) (hd : I64 d) (hs : I64 s) : AFL (tab [(25, zyRight), (30, csRS), (45, csSp), (11, csLoc), (47, csDays), (13, csIns), (90, csAdd)]) noLoops 8 20 [.agg (avZ z), .agg [.int .i64 i, .int .i64 u], .agg [.int .i64 j, .int .i64 q, .int .i64 d, .int .i64 s]] (Res (avS (tzR z i u j q d s))) := by
 rw [crtz_vc]
 refine brcT (tyZ z hbd) ?_
 rintro _ rfl
 refine kB (fun a => ?_) fun a => ?_
 · exact resS (by unfold tzR; rw [if_neg (fun q => by simp [q.1] at a)])
 have hz : ZtOk z := by simpa using a
 refine brcT (decide_eq_true hu) ?_
 rintro _ rfl
 refine kB (fun a => ?_) fun a => ?_
 · exact resS (by unfold tzR; rw [if_neg (fun q => by simp [q.2.1] at a)])
 have ha : DRS i u := by simpa using a
 refine brcT (decide_eq_true hs) ?_
 rintro _ rfl
 refine kB (fun b => ?_) fun b => ?_
 · exact resS (by unfold tzR; rw [if_neg (fun q => by simp [q.2.2] at b)])
 have hb : SOk j q d s := by simpa using b
 have e : tzR z i u j q d s = infR i j (thenOn (movR z u q d) s) := by unfold tzR; rw [if_pos ⟨hz, ha, hb⟩]
 rw [e]
 have inf : ¬ (i = 0 ∧ j = 0) → tInf i j u (Res (avS (infR i j (thenOn (movR z u q d) s)))) := tInf_ok (drs_bd ha) (sok_bd hb) (drs_inf ha)
 refine kB (fun c => kB (fun c2 => ?_) fun c2 => inf fun k => by simp [k.2] at c2) fun c => inf fun k => by simp [k.1] at c
 have hi : i = 0 := by simpa using c
 have hj : j = 0 := by simpa using c2
 subst hi hj
 have ei : infR 0 0 (thenOn (movR z u q d) s) = thenOn (movR z u q d) s := by unfold infR; rw [if_neg (by omega), if_neg (by omega), if_neg (by omega)]
 rw [ei]
 have hl := locR_made z u
 have hm := daysR_made (locR z 0 u).2.1 q d
 have hn := insR_made z (daysR (locR z 0 u).2.1 q d).2.1
 have body : ¬ (q = 0 ∧ d = 0) → brc (tyR z.n (znRow z) && bdZ z.F && decide (I64 u)) (∀ m3 : Int, m3 = (locR z 0 u).1 → ∀ m4 : Int, m4 = (locR z 0 u).2.1 → ∀ m5 : Int, m5 = (locR z 0 u).2.2 → brc (m5 != 0) (Res (avS (thenOn (movR z u q d) s)) (.tup [.agg [.int .i64 0, .int .i64 0], .int .i64 m5]))
  (brc (decide (I64 m4 ∧ I64 d ∧ DRS m3 m4 ∧ m3 = 0 ∧ (0 : Int) = 0)) (∀ m6 : Int, m6 = (daysR m4 q d).1 → ∀ m7 : Int, m7 = (daysR m4 q d).2.1 → ∀ m8 : Int, m8 = (daysR m4 q d).2.2 → brc (m8 != 0) (Res (avS (thenOn (movR z u q d) s)) (.tup [.agg [.int .i64 0, .int .i64 0], .int .i64 m8]))
   (brc (tyR z.n (znRow z) && bdZ z.F && decide (I64 m7)) (∀ m9 : Int, m9 = (insR z m6 m7).1 → ∀ m10 : Int, m10 = (insR z m6 m7).2.1 → ∀ m11 : Int, m11 = (insR z m6 m7).2.2.1 → ∀ m12 : Int, m12 = (insR z m6 m7).2.2.2 → brc (m12 != 0) (Res (avS (thenOn (movR z u q d) s)) (.tup [.agg [.int .i64 0, .int .i64 0], .int .i64 m12]))
    (tPlus0 m10 s (Res (avS (thenOn (movR z u q d) s)) (.tup [.agg [.int .i64 0, .int .i64 0], .int .i64 10])) fun m => Res (avS (thenOn (movR z u q d) s)) (.tup [.agg [.int .i64 0, .int .i64 m], .int .i64 0]))) False)) False)) False := by
  intro hqd
  have em : movR z u q d = if (locR z 0 u).2.2 = 0 then movD z (daysR (locR z 0 u).2.1 q d) else (0, 0, (locR z 0 u).2.2) := by unfold movR; rw [if_neg hqd]
  rw [em]
  refine brcT (by rw [tyZ z hbd, decide_eq_true hu]; rfl) ?_
  rintro _ rfl _ rfl _ rfl
  refine kB (fun c => ?_) fun c => ?_
  · have c : ¬ (locR z 0 u).2.2 = 0 := by simpa using c
    rw [if_neg c]
    exact resS (by unfold thenOn; rw [if_neg c])
  have c : (locR z 0 u).2.2 = 0 := by simpa using c
  rw [if_pos c]
  refine brcT (decide_eq_true ⟨hl.2.1, hd, by rw [hl.1]; exact hl.2.2.1 c, hl.1, rfl⟩) ?_
  rintro _ rfl _ rfl _ rfl
  unfold movD
  refine kB (fun g => ?_) fun g => ?_
  · have g : ¬ (daysR (locR z 0 u).2.1 q d).2.2 = 0 := by simpa using g
    rw [if_neg g]
    exact resS (by unfold thenOn; rw [if_neg g])
  have g : (daysR (locR z 0 u).2.1 q d).2.2 = 0 := by simpa using g
  rw [if_pos g]
  refine brcT (by rw [tyZ z hbd, decide_eq_true hm.2.1]; rfl) ?_
  rintro _ rfl _ rfl _ rfl _ rfl
  rw [hm.1]
  refine kB (fun k => ?_) fun k => ?_
  · have k : ¬ (insR z 0 (daysR (locR z 0 u).2.1 q d).2.1).2.2.2 = 0 := by simpa using k
    exact resS (by unfold thenOn; rw [if_neg k])
  have k : (insR z 0 (daysR (locR z 0 u).2.1 q d).2.1).2.2.2 = 0 := by simpa using k
  have et : thenOn ((insR z 0 (daysR (locR z 0 u).2.1 q d).2.1).1, (insR z 0 (daysR (locR z 0 u).2.1 q d).2.1).2.1, (insR z 0 (daysR (locR z 0 u).2.1 q d).2.1).2.2.2) s = onR (insR z 0 (daysR (locR z 0 u).2.1 q d).2.1).2.1 s := by unfold thenOn; rw [if_pos k]
  rw [et]
  exact tPlus0_ok hn.2.1 hs
 refine kB (fun a => body fun k => by simp [k.1] at a) fun a => kB (fun b => body fun k => by simp [k.2] at b) fun b => ?_
 have em : movR z u q d = (0, u, 0) := by unfold movR; rw [if_pos ⟨by simpa using a, by simpa using b⟩]
 have et : thenOn (movR z u q d) s = onR u s := by rw [em]; unfold thenOn; rw [if_pos rfl]
 rw [et]
 exact tPlus0_ok hu hs
theorem crTz_ok : COk Tryz.prog 20 csTz := afl_con (kD rzRight_ok (kD crRS_ok (kD crSp_ok (kD crLoc_ok (kD crDays_ok (kD crIns_ok (kD crAdd_ok bE))))))) (by kernel_rfl) fun args p v hc hp => by
 unfold csTz at hc
 split at hc
 case h_2 => cases hc
 split at hc
 case h_2 => cases hc
 rename_i i u j q d s _ p z hl
 simp only [Option.some.injEq, Prod.mk.injEq] at hc
 obtain ⟨rfl, rfl⟩ := hc
 rw [Bool.and_eq_true] at hp
 obtain ⟨rfl, hq⟩ := hp
 obtain ⟨k1, k2⟩ := rdZ_move hl
 obtain ⟨h1, h2, h3⟩ := of_decide_eq_true hq
 exact ⟨_, _, _, fun w A hA => rl_1 (fun V h => k2 h) hA, zI _ _, crtz_ok k1 h1 h2 h3⟩
theorem csl_nv {W : World} {z : Zt} {n : Nat} {V : Value} (h : RV noNames W (.csl 4 n (znRow z)) V) : RV noNames W (.nv 4 n (znRow z)) V := by
 cases h with
 | csl0 => exact .nv0 _ _
 | csl s len cap c V hb hl hc hr =>
  refine .nv 4 n cap _ V hb hl hc hr fun i j hi hj => ?_
  match j, hj with
  | 0, _ => rfl
  | 1, _ => rfl
  | 2, _ => rfl
  | 3, _ => rfl
theorem avZ_nv {W : World} {z : Zt} {V : Value} (h : RV noNames W (.agg (avZ z)) V) : RV noNames W (.agg (avZn z)) V := by
 cases h with | agg hv =>
 refine .agg ?_
 unfold avZn
 cases hv with | cons a0 hv =>
 cases hv with | cons a1 hv =>
 cases hv with | cons a2 hv =>
 cases hv with | cons a3 hv =>
 cases hv with | cons a4 hv =>
 cases hv with | cons a5 hv =>
 exact .cons a0 (.cons a1 (.cons a2 (.cons a3 (.cons a4 (.cons (csl_nv a5) hv)))))
theorem le_agg5 {a b c d e x x' : AV} {r : List AV} (h : ∀ (W : World) (n0 : Nat) (V : Value), RV noNames W x V → Fr n0 3 x V → RV noNames W x' V ∧ Fr n0 3 x' V) : AVLe (.agg (a :: b :: c :: d :: e :: x :: r)) (.agg (a :: b :: c :: d :: e :: x' :: r)) := by
 intro W n0 V hv hF
 cases hv with | agg hv =>
 cases hv with | cons a0 hv =>
 cases hv with | cons a1 hv =>
 cases hv with | cons a2 hv =>
 cases hv with | cons a3 hv =>
 cases hv with | cons a4 hv =>
 cases hv with | cons a5 hv =>
 rename_i V0 V1 V2 V3 V4 V5 L
 have hF : ∀ (i : Nat) (v : AV) (V : Value), (a :: b :: c :: d :: e :: x :: r)[i]? = some v → ((V0 :: V1 :: V2 :: V3 :: V4 :: V5 :: L) : List Value).toArray[i]? = some V → Fr n0 3 v V := hF
 have k := h W n0 _ a5 (hF 5 _ _ rfl rfl)
 refine ⟨.agg (.cons a0 (.cons a1 (.cons a2 (.cons a3 (.cons a4 (.cons k.1 hv)))))), ?_⟩
 show ∀ (i : Nat) (v : AV) (V : Value), (a :: b :: c :: d :: e :: x' :: r)[i]? = some v → ((V0 :: V1 :: V2 :: V3 :: V4 :: V5 :: L) : List Value).toArray[i]? = some V → Fr n0 3 v V
 intro i v V e1 e2
 match i with
 | 0 => exact hF 0 _ _ e1 e2
 | 1 => exact hF 1 _ _ e1 e2
 | 2 => exact hF 2 _ _ e1 e2
 | 3 => exact hF 3 _ _ e1 e2
 | 4 => exact hF 4 _ _ e1 e2
 | 5 => simp at e1 e2; subst e1 e2; exact k.2
 | i + 6 => exact hF (i + 6) _ _ e1 e2
set_option maxRecDepth 100000 in
theorem giv0_vc (z : Zt) (K : AV → Prop) : AFL (tab [(28, cyHalf)]) (noLoops) 8 9 [.agg [.str z.nm, .int .i64 z.at0, .int .i64 z.off0, .bool z.d0, .str z.b0, .nv 4 0 (znRow z), .bool z.F.z, .int .i64 z.F.fr, .int .i64 z.F.off, .int .i64 z.F.a.m, .int .i64 z.F.a.k, .int .i64 z.F.a.w, .int .i64 z.F.a.n, .int .i64 z.F.a.s, .int .u8 z.F.a.c, .int .i64 z.F.a.v, .str z.F.a.ab, .int .i64 z.F.b.m, .int .i64 z.F.b.k, .int .i64 z.F.b.w, .int .i64 z.F.b.n, .int .i64 z.F.b.s, .int .u8 z.F.b.c, .int .i64 z.F.b.v, .str z.F.b.ab]] K =
 (∀ m0 : Int, m0 = Hf.m (Ft.a (Zt.F z)) → ∀ m1 : Int, m1 = Hf.k (Ft.a (Zt.F z)) → ∀ m2 : Int, m2 = Hf.w (Ft.a (Zt.F z)) → ∀ m3 : Int, m3 = Hf.n (Ft.a (Zt.F z)) → ∀ m4 : Int, m4 = Hf.s (Ft.a (Zt.F z)) → ∀ m5 : Int, m5 = Hf.c (Ft.a (Zt.F z)) → ∀ m6 : Int, m6 = Hf.v (Ft.a (Zt.F z)) → ∀ m7 : Int, m7 = Hf.m (Ft.b (Zt.F z)) → ∀ m8 : Int, m8 = Hf.k (Ft.b (Zt.F z)) → ∀ m9 : Int, m9 = Hf.w (Ft.b (Zt.F z)) → ∀ m10 : Int, m10 = Hf.n (Ft.b (Zt.F z)) → ∀ m11 : Int, m11 = Hf.s (Ft.b (Zt.F z)) → ∀ m12 : Int, m12 = Hf.c (Ft.b (Zt.F z)) → ∀ m13 : Int, m13 = Hf.v (Ft.b (Zt.F z)) → K (AV.agg [.str (Zt.nm z), .int .i64 (Zt.at0 z), .int .i64 (Zt.off0 z), .bool (Zt.d0 z), .str (Zt.b0 z), .nilsl, .bool (Ft.z (Zt.F z)), .int .i64 (Ft.fr (Zt.F z)), .int .i64 (Ft.off (Zt.F z)), .int .i64 m0, .int .i64 m1, .int .i64 m2, .int .i64 m3, .int .i64 m4, .int .u8 m5, .int .i64 m6, .str (Hf.ab (Ft.a (Zt.F z))), .int .i64 m7, .int .i64 m8, .int .i64 m9, .int .i64 m10, .int .i64 m11, .int .u8 m12, .int .i64 m13, .str (Hf.ab (Ft.b (Zt.F z)))])) := by kernel_rfl
set_option maxRecDepth 100000 in
theorem giv1_vc (z : Zt) (k : Nat) (K : AV → Prop) : AFL (tab [(28, cyHalf)]) (noLoops) 8 9 [.agg [.str z.nm, .int .i64 z.at0, .int .i64 z.off0, .bool z.d0, .str z.b0, .nv 4 (k + 1) (znRow z), .bool z.F.z, .int .i64 z.F.fr, .int .i64 z.F.off, .int .i64 z.F.a.m, .int .i64 z.F.a.k, .int .i64 z.F.a.w, .int .i64 z.F.a.n, .int .i64 z.F.a.s, .int .u8 z.F.a.c, .int .i64 z.F.a.v, .str z.F.a.ab, .int .i64 z.F.b.m, .int .i64 z.F.b.k, .int .i64 z.F.b.w, .int .i64 z.F.b.n, .int .i64 z.F.b.s, .int .u8 z.F.b.c, .int .i64 z.F.b.v, .str z.F.b.ab]] K =
 (brc (oneC 4 (k + 1) (znRow z) && roomB (k + 1) 40) (∀ m0 : Int, m0 = Hf.m (Ft.a (Zt.F z)) → ∀ m1 : Int, m1 = Hf.k (Ft.a (Zt.F z)) → ∀ m2 : Int, m2 = Hf.w (Ft.a (Zt.F z)) → ∀ m3 : Int, m3 = Hf.n (Ft.a (Zt.F z)) → ∀ m4 : Int, m4 = Hf.s (Ft.a (Zt.F z)) → ∀ m5 : Int, m5 = Hf.c (Ft.a (Zt.F z)) → ∀ m6 : Int, m6 = Hf.v (Ft.a (Zt.F z)) → ∀ m7 : Int, m7 = Hf.m (Ft.b (Zt.F z)) → ∀ m8 : Int, m8 = Hf.k (Ft.b (Zt.F z)) → ∀ m9 : Int, m9 = Hf.w (Ft.b (Zt.F z)) → ∀ m10 : Int, m10 = Hf.n (Ft.b (Zt.F z)) → ∀ m11 : Int, m11 = Hf.s (Ft.b (Zt.F z)) → ∀ m12 : Int, m12 = Hf.c (Ft.b (Zt.F z)) → ∀ m13 : Int, m13 = Hf.v (Ft.b (Zt.F z)) → brc (Nat.ble (k + 1) (k + 1) && true) (K (AV.agg [.str (Zt.nm z), .int .i64 (Zt.at0 z), .int .i64 (Zt.off0 z), .bool (Zt.d0 z), .str (Zt.b0 z), .nv 4 (k + 1) (znRow z), .bool (Ft.z (Zt.F z)), .int .i64 (Ft.fr (Zt.F z)), .int .i64 (Ft.off (Zt.F z)), .int .i64 m0, .int .i64 m1, .int .i64 m2, .int .i64 m3, .int .i64 m4, .int .u8 m5, .int .i64 m6, .str (Hf.ab (Ft.a (Zt.F z))), .int .i64 m7, .int .i64 m8, .int .i64 m9, .int .i64 m10, .int .i64 m11, .int .u8 m12, .int .i64 m13, .str (Hf.ab (Ft.b (Zt.F z)))])) False) False) := by kernel_rfl
theorem csGiv_ok : COk Tryz.prog 9 csGiv := afl_con (kD cyHalf17_ok bE) (by kernel_rfl) fun args p v hc hp => by
 unfold csGiv at hc
 split at hc
 case h_2 => cases hc
 split at hc
 case h_2 => cases hc
 rename_i q z hl
 simp only [Option.some.injEq, Prod.mk.injEq] at hc
 obtain ⟨rfl, rfl⟩ := hc
 rw [Bool.and_eq_true] at hp
 obtain ⟨rfl, hroom⟩ := hp
 obtain ⟨k1, k2⟩ := rdZ_move hl
 refine ⟨[.agg (avZn z)], 8, _, fun w A hA => rl_1 (fun V h => avZ_nv (k2 h)) hA, zI _ _, ?_⟩
 cases hn : z.n with
 | zero =>
  have e : avZn z = [.str z.nm, .int .i64 z.at0, .int .i64 z.off0, .bool z.d0, .str z.b0, .nv 4 0 (znRow z), .bool z.F.z, .int .i64 z.F.fr, .int .i64 z.F.off, .int .i64 z.F.a.m, .int .i64 z.F.a.k, .int .i64 z.F.a.w, .int .i64 z.F.a.n, .int .i64 z.F.a.s, .int .u8 z.F.a.c, .int .i64 z.F.a.v, .str z.F.a.ab, .int .i64 z.F.b.m, .int .i64 z.F.b.k, .int .i64 z.F.b.w, .int .i64 z.F.b.n, .int .i64 z.F.b.s, .int .u8 z.F.b.c, .int .i64 z.F.b.v, .str z.F.b.ab] := by unfold avZn; rw [hn]
  rw [e, giv0_vc]
  rintro _ rfl _ rfl _ rfl _ rfl _ rfl _ rfl _ rfl _ rfl _ rfl _ rfl _ rfl _ rfl _ rfl _ rfl
  refine ⟨rfl, le_agg5 fun W n0 V hv hF => ?_⟩
  cases hv
  exact ⟨.nv0 _ _, trivial⟩
 | succ k =>
  have e : avZn z = [.str z.nm, .int .i64 z.at0, .int .i64 z.off0, .bool z.d0, .str z.b0, .nv 4 (k + 1) (znRow z), .bool z.F.z, .int .i64 z.F.fr, .int .i64 z.F.off, .int .i64 z.F.a.m, .int .i64 z.F.a.k, .int .i64 z.F.a.w, .int .i64 z.F.a.n, .int .i64 z.F.a.s, .int .u8 z.F.a.c, .int .i64 z.F.a.v, .str z.F.a.ab, .int .i64 z.F.b.m, .int .i64 z.F.b.k, .int .i64 z.F.b.w, .int .i64 z.F.b.n, .int .i64 z.F.b.s, .int .u8 z.F.b.c, .int .i64 z.F.b.v, .str z.F.b.ab] := by unfold avZn; rw [hn]
  have ho := oneC_row z
  rw [hn] at ho hroom
  rw [e, giv1_vc]
  refine brcT (by rw [ho, hroom]; rfl) ?_
  rintro _ rfl _ rfl _ rfl _ rfl _ rfl _ rfl _ rfl _ rfl _ rfl _ rfl _ rfl _ rfl _ rfl _ rfl
  exact brcT (by rw [Nat.ble_eq_true_of_le (Nat.le_refl _)]; rfl) (zN rfl)
end Go.Proofs.YtimgphlfaninnaaGreat.P
namespace Go.Proofs.YtimgphlfaninnaaGreat.P
open Go Go.RowKit Go.Proofs.YtimgphlfaninnaaGreat.Civ Go.Proofs.YtimgphlfaninnaaGreat.Ft Go.Proofs.YtimgphlfaninnaaGreat.Zn
set_option linter.unusedVariables false
set_option linter.unusedSimpArgs false
open A
theorem ladT_ok : TabOk Tryz.prog (tab [(9, csGiv), (17, csPlus), (19, csTz), (18, csPlus), (20, csTz), (16, cyKnown)]) := kD csGiv_ok (kD csPlus_ok (kD csTz_ok (kD crPlus_ok (kD crTz_ok (kD cyKnown17_ok bE)))))
def gvA (z : Zt) (C : Zt → Prop) : Prop := ∀ a : Int, a = z.at0 → ∀ o : Int, o = z.off0 → ∀ d : Bool, d = z.d0 → ∀ zz : Bool, zz = z.F.z → ∀ fr : Int, fr = z.F.fr → ∀ off : Int, off = z.F.off →
 ∀ m1 : Int, m1 = z.F.a.m → ∀ k1 : Int, k1 = z.F.a.k → ∀ w1 : Int, w1 = z.F.a.w → ∀ n1 : Int, n1 = z.F.a.n → ∀ s1 : Int, s1 = z.F.a.s → ∀ c1 : Int, c1 = z.F.a.c → ∀ v1 : Int, v1 = z.F.a.v →
 ∀ m2 : Int, m2 = z.F.b.m → ∀ k2 : Int, k2 = z.F.b.k → ∀ w2 : Int, w2 = z.F.b.w → ∀ n2 : Int, n2 = z.F.b.n → ∀ s2 : Int, s2 = z.F.b.s → ∀ c2 : Int, c2 = z.F.b.c → ∀ v2 : Int, v2 = z.F.b.v →
 C ⟨z.nm, a, o, d, z.b0, z.n, fun i => iOf (znRow z i 0), fun i => iOf (znRow z i 1), fun i => bOf (znRow z i 2), fun i => sOf (znRow z i 3), ⟨zz, fr, off, ⟨m1, k1, w1, n1, s1, c1, v1, z.F.a.ab⟩, ⟨m2, k2, w2, n2, s2, c2, v2, z.F.b.ab⟩⟩⟩
theorem gvA_ok {z : Zt} {C : Zt → Prop} (h : C z) : gvA z C := by
 rintro _ rfl _ rfl _ rfl _ rfl _ rfl _ rfl _ rfl _ rfl _ rfl _ rfl _ rfl _ rfl _ rfl _ rfl _ rfl _ rfl _ rfl _ rfl _ rfl _ rfl
 exact h
set_option maxRecDepth 100000 in
theorem ladds_vc (z : Zt) (i u j q d s : Int) (K : AV → Prop) : AFL (tab [(9, csGiv), (17, csPlus), (19, csTz), (18, csPlus), (20, csTz), (16, cyKnown)]) (noLoops) 12 4 [.agg (avZ z), .agg [.int .i64 i, .int .i64 u], .agg [.int .i64 j, .int .i64 q, .int .i64 d, .int .i64 s]] K =
 (brc (decide (I64 u ∧ I64 d ∧ I64 s)) (∀ m0 : Int, m0 = Prod.fst (plusR i u j q d s) → ∀ m1 : Int, m1 = Prod.fst (Prod.snd (plusR i u j q d s)) → ∀ m2 : Int, m2 = Prod.snd (Prod.snd (plusR i u j q d s)) → brc (decide (I64 u ∧ I64 d ∧ I64 s)) (∀ m3 : Int, m3 = Prod.fst (plusR i u j q d s) → ∀ m4 : Int, m4 = Prod.fst (Prod.snd (plusR i u j q d s)) → ∀ m5 : Int, m5 = Prod.snd (Prod.snd (plusR i u j q d s)) → brc (tyR (Zt.n z) (znRow z) && bdZ (Zt.F z) && roomB (Zt.n z) 40) (gvA z (fun A0 => brc (Nat.ble (0 + Zt.n z) (Zt.n z) && true && true && (tyR (Zt.n z) (znRow z) && bdZ (Zt.F A0) && decide (I64 u ∧ I64 d ∧ I64 s))) (∀ m26 : Int, m26 = Prod.fst (tzR A0 i u j q d s) → ∀ m27 : Int, m27 = Prod.fst (Prod.snd (tzR A0 i u j q d s)) → ∀ m28 : Int, m28 = Prod.snd (Prod.snd (tzR A0 i u j q d s)) → brc (tyR (Zt.n z) (znRow z) && bdZ (Zt.F z) && decide (I64 u ∧ I64 d ∧ I64 s)) (∀ m29 : Int, m29 = Prod.fst (tzR z i u j q d s) → ∀ m30 : Int, m30 = Prod.fst (Prod.snd (tzR z i u j q d s)) → ∀ m31 : Int, m31 = Prod.snd (Prod.snd (tzR z i u j q d s)) → brc (m0 == m3 && (m1 == m4 && true)) (brc (m2 == m5) (brc (m26 == m29 && (m27 == m30 && true)) (brc (m28 == m31) (∀ m32 : Bool, m32 = true → K (AV.bool m32)) (K (AV.bool false))) (K (AV.bool false))) (K (AV.bool false))) (K (AV.bool false))) False) False)) False) False) False) := by kernel_rfl
theorem ladds_ok {z : Zt} {i u j q d s : Int} (hbd : bdZ z.F = true) (hn : roomB z.n 40 = true) (hu : I64 u) (hd : I64 d) (hs : I64 s) : AFL (tab [(9, csGiv), (17, csPlus), (19, csTz), (18, csPlus), (20, csTz), (16, cyKnown)]) noLoops 12 4 [.agg (avZ z), .agg [.int .i64 i, .int .i64 u], .agg [.int .i64 j, .int .i64 q, .int .i64 d, .int .i64 s]] fun u => u = .bool true := by
 rw [ladds_vc]
 have c : decide (I64 u ∧ I64 d ∧ I64 s) = true := decide_eq_true ⟨hu, hd, hs⟩
 have t1 : (Nat.ble (0 + z.n) z.n && true && true && (tyR z.n (znRow z) && bdZ z.F && decide (I64 u ∧ I64 d ∧ I64 s))) = true := by rw [room_z, tyZ z hbd, c]; rfl
 have t2 : (tyR z.n (znRow z) && bdZ z.F && decide (I64 u ∧ I64 d ∧ I64 s)) = true := by rw [tyZ z hbd, c]; rfl
 refine brcT c ?_
 rintro _ rfl _ rfl _ rfl
 refine brcT c ?_
 rintro _ rfl _ rfl _ rfl
 refine brcT (by rw [tyZ z hbd, hn]; rfl) (gvA_ok (brcT t1 ?_))
 rintro _ rfl _ rfl _ rfl
 refine brcT t2 ?_
 rintro _ rfl _ rfl _ rfl
 refine brcT (by simp) (brcT (by simp) (brcT (by simp) (brcT (by simp) ?_)))
 rintro _ rfl
 rfl
theorem adds_calls {z : Zt} {i u j q d s : Int} (hbd : bdZ z.F = true) (hn : roomB z.n 40 = true) (hu : (Lit.int .i64 u).wf = true) (hd : (Lit.int .i64 d).wf = true) (hs : (Lit.int .i64 s).wf = true) {w : World} {A : List Value} (hA : RL noNames w [.agg (avZ z), .agg [.int .i64 i, .int .i64 u], .agg [.int .i64 j, .int .i64 q, .int .i64 d, .int .i64 s]] A) : Calls Tryz.prog 4 A.toArray w fun e w' => e = .returned (.bool true) ∧ Below w.heap.size w w' := afl_calls ladT_ok (zI _ _) (ladds_ok hbd hn (i64_wf hu) (i64_wf hd) (i64_wf hs)) hA
end Go.Proofs.YtimgphlfaninnaaGreat.P
