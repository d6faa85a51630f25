/- The abstract machine: operations that are carried out in the text's order alone: slices that grow, maps of the activation's own, a string's iterator. -/
import Derived.Test.YtlpnbbonbclddaaQppdnnckpfn
import Derived.Great.BuildSlice
import Derived.Laws.IdiomStrings
import Derived.Laws.MakeOwn
import Derived.Laws.OwnMore
import Derived.MapKept
import Derived.Carry
namespace Go.Proofs.Ytlpnbbonbclddaa.A
open Go Go.RowKit
set_option linter.unusedVariables false
set_option linter.unusedSimpArgs false
variable {P : Program} {ρ : Names} {W w : World} {h : Heap}
theorem xheap_eff (h : Heap) (s : Option (Nat × Ob)) (a : Option Ob) : xheap h s a = effH h h.length (effOf s a) := by
  rcases s with _ | ⟨n, x⟩ <;> cases a <;> simp [xheap, effOf, effH]
theorem cellsOf_ok (hR : Rel ρ W h w) {s : Nat} {x : AV} {X : Value} {l : List AV} (hx : RV ρ W x X) {rd : Nat → Option Ob} (hrd : ∀ n x, rd n = some x → h[n]? = some (some x)) (hq : cellsOf rd s x = some l) :
    ∃ n m len b cap e L fz, x = .gs n s len ∧ X = .slice (some ⟨b, 0, none⟩) len cap ∧ l.length = len * s ∧ ρ n = some (b, cap) ∧ h[n]? = some (some (.own m e s l)) ∧ w.heap[b]? = some (.cells (List.toArray L) e fz) ∧ l.length ≤ L.length ∧ RL ρ W l (L.take l.length) := by
  unfold cellsOf at hq
  split at hq
  · rename_i n s' len
    split at hq
    · rename_i z e s2 l' hl
      split at hq
      · rename_i hc
        obtain ⟨rfl, rfl, hlen⟩ := hc
        simp at hq; subst hq
        cases hx with | gs s len hp hle =>
        rename_i b cap
        have hm := hrd _ _ hl
        obtain ⟨b', o', e1, e2⟩ := hR.ob n _ hm
        rw [hp] at e1; cases e1
        obtain ⟨_, _, L, fz, h4, h5, _, _, h6, h7⟩ := e2
        exact ⟨n, z, len, b, cap, e, L, fz, rfl, rfl, hlen, hp, hm, h4, h6, h7⟩
      · cases hq
    · cases hq
  · cases hq
theorem RE.length : ∀ {l : List (AV × AV)} {L : List MapEntry}, RE ρ W l L → l.length = L.length
  | _, _, .nil => rfl
  | _, _, .cons _ _ t => by simp [RE.length t]
theorem RE.snoc {k v : AV} {e : MapEntry} (hk : RV ρ W k e.key) (hv : RV ρ W v e.val) : ∀ {l : List (AV × AV)} {L : List MapEntry}, RE ρ W l L → RE ρ W (l ++ [(k, v)]) (L ++ [e])
  | _, _, .nil => .cons hk hv .nil
  | _, _, .cons h1 h2 t => .cons h1 h2 (RE.snoc hk hv t)
theorem RE.modify {k v : AV} {K V : Value} (hk : RV ρ W k K) (hv : RV ρ W v V) : ∀ (i : Nat) {l : List (AV × AV)} {L : List MapEntry}, RE ρ W l L → RE ρ W (l.set i (k, v)) (L.modify i fun e => { e with key := K, val := V })
  | _, _, _, .nil => by simp; exact .nil
  | 0, _, _, .cons h1 h2 t => by simp; exact .cons hk hv t
  | i + 1, _, _, .cons h1 h2 t => by simp; exact .cons h1 h2 (RE.modify hk hv i t)
theorem intsOf_ok : ∀ {l : List AV} {ns : List Int} {L : List Value}, RL ρ W l L → intsOf l = some ns → L = ns.map (Value.int .u8)
  | _, _, _, .nil, hq => by simp [intsOf] at hq; subst hq; rfl
  | _, _, _, .cons h t, hq => by
    unfold intsOf at hq
    split at hq
    · rename_i e; cases e
    · rename_i n r e
      cases e
      cases h
      split at hq
      · rename_i l' hl
        simp at hq; subst hq
        rw [intsOf_ok t hl]; rfl
      · cases hq
    · cases hq
theorem foldl_push_ints : ∀ (l : List Int) (r : ByteArray), l.foldl (fun r n => r.push (UInt8.ofNat n.toNat)) r = ⟨r.data ++ (l.map fun n => UInt8.ofNat n.toNat).toArray⟩
  | [], r => by simp
  | b :: l, r => by
    simp only [List.foldl_cons]
    rw [foldl_push_ints l]
    simp [ByteArray.push]
theorem sameBits_key {kt : TypeId} {k k' : AV} {K K' : Value} (ho : keyOk P kt k = true) (hk : RV ρ W k K) (hk' : RV ρ W k' K') (hq : keyEq k k' = some true) (n : Nat) : Instr.sameBits (n + 1) K' K = true := by
  unfold keyEq at hq
  split at hq
  · split at hq
    · rename_i hkk; subst hkk
      cases hk; cases hk'
      simp at hq; subst hq
      simp [Instr.sameBits]
    · cases hq
  · cases hk; cases hk'
    simp at hq; subst hq
    simp [Instr.sameBits]
  · cases hq
/-- A slice's bounds, told. -/
theorem sliceBounds_ok {is : Bool} {len cap a b c : Nat} {lo hi mx : Option AV} {Lo Hi Mx : Option Value} (hlo : match lo, Lo with | none, none => True | some v, some V => RV ρ W v V | _, _ => False)
    (hhi : match hi, Hi with | none, none => True | some v, some V => RV ρ W v V | _, _ => False) (hmx : match mx, Mx with | none, none => True | some v, some V => RV ρ W v V | _, _ => False)
    (h1 : boundA lo 0 = some (.ofNat a)) (h2 : boundA hi len = some (.ofNat b)) (h3 : boundA mx len = some (.ofNat c)) (hab : a ≤ b) (hbc : b ≤ c) (hcl : c ≤ len) (hle : len ≤ cap) (hm : (Mx.isNone || Hi.isSome) = true) (w : World) :
    ∃ m, b ≤ m ∧ (Instr.sliceBounds is len cap Lo Hi Mx).run P w = .ok (a, b, m) w := by
  have g1 := boundA_ok hlo h1
  have g2 := boundA_ok hhi h2
  have g3 := boundA_ok hmx h3
  have sb : ∀ (k : IntKind) (x y : Nat) (cd : BoundsCode), x ≤ y → (Instr.sliceBound (.int k (x : Int)) y cd).run P w = .ok x w := fun k x y cd hxy => by
    have hc : (0 : Int) ≤ (x : Int) ∧ (x : Int) ≤ (y : Int) := ⟨by omega, by omega⟩
    simp only [Instr.sliceBound, asIntOf, Sem.run_bind, Sem.run_pure, Result.andThen_ok]
    rw [if_pos hc]
    rfl
  rcases g3 with ⟨rfl, e3⟩ | ⟨k3, rfl⟩
  · rcases g2 with ⟨rfl, e2⟩ | ⟨k2, rfl⟩
    · have eb : b = len := by have := e2; simp at this; omega
      subst eb
      rcases g1 with ⟨rfl, e1⟩ | ⟨k1, rfl⟩
      · have ea : a = 0 := by have := e1; simp at this; omega
        subst ea
        exact ⟨cap, hle, by simp [Instr.sliceBounds]⟩
      · exact ⟨cap, hle, by simp [Instr.sliceBounds, sb k1 a b _ hab]⟩
    · rcases g1 with ⟨rfl, e1⟩ | ⟨k1, rfl⟩
      · have ea : a = 0 := by have := e1; simp at this; omega
        subst ea
        exact ⟨cap, by omega, by simp [Instr.sliceBounds, sb k2 b cap _ (by omega)]⟩
      · exact ⟨cap, by omega, by simp [Instr.sliceBounds, sb k2 b cap _ (by omega), sb k1 a b _ hab]⟩
  · rcases g2 with ⟨rfl, e2⟩ | ⟨k2, rfl⟩
    · simp at hm
    · rcases g1 with ⟨rfl, e1⟩ | ⟨k1, rfl⟩
      · have ea : a = 0 := by have := e1; simp at this; omega
        subst ea
        exact ⟨c, hbc, by simp [Instr.sliceBounds, sb k3 c cap _ (by omega), sb k2 b c _ hbc]⟩
      · exact ⟨c, hbc, by simp [Instr.sliceBounds, sb k3 c cap _ (by omega), sb k2 b c _ hbc, sb k1 a b _ hab]⟩
theorem evOpt_ok {e : Operand → Option AV} {a : Act} (he : ∀ x v, e x = some v → RV ρ W v (a.eval x)) : ∀ (x : Option Operand) (l : Option AV), evOpt e x = some l → match l, x.map a.eval with | none, none => True | some v, some V => RV ρ W v V | _, _ => False := fun x l hq => by
  cases x with
  | none => simp [evOpt] at hq; subst hq; trivial
  | some x =>
    simp only [evOpt, Option.map_eq_some_iff] at hq
    obtain ⟨v, hv, rfl⟩ := hq
    exact he _ _ hv
/-- What is appended. -/
theorem append_ok (hR : Rel ρ W h w) {t : TypeId} {x y v : AV} {X Y : Value} (hx : RV ρ W x X) (hy : RV ρ W y Y) {s : Option (Nat × Ob)} {al : Option Ob} (ty : TypeId) {rd : Nat → Option Ob} {nm : Nat} (hrd : ∀ n x, rd n = some x → h[n]? = some (some x)) (hnm : Fresh h nm)
    (hq : appendA P rd nm t x y = some (true, v, s, al)) : ∃ V w' ρ', (Builtin.append_ #[t, t] ty #[X, Y]).run P w = .ok V w' ∧ Ext ρ ρ' ∧ RV ρ' W v V ∧ Rel ρ' W (effH h nm (effOf s al)) w' := by
  unfold appendA at hq
  split at hq
  case h_2 => cases hq
  rename_i e hu
  split at hq
  case h_2 => cases hq
  rename_i i z hi hz
  obtain ⟨Z, hZ, rZ⟩ := zero_of hz ρ W hi
  split at hq
  case h_2 => cases hq
  rename_i n1 s1 m new hnew
  split at hq
  case isFalse => cases hq
  rename_i hc
  obtain ⟨c0, c1, c2⟩ := hc
  obtain ⟨n2, m2, len2, b, cap, e2, L, fz, hgs, rfl, hlen, hp2, hm2, hb, hle, hRL⟩ := cellsOf_ok hR hy hrd hnew
  cases hgs
  have hzs : Z.cells.size = i.size := by
    have := rZ.cells.length
    have h2 : Z.cells.toList.length = i.size := by omega
    simpa using h2
  have hLl : (L.take new.length).length = m * i.size := by rw [List.length_take]; omega
  have hnews : ∀ j u, (L.take new.length)[j]? = some u → w.cell? ((⟨b, 0, none⟩ : Addr).add j) = some u := fun j u hj => by
    rw [List.getElem?_take] at hj
    split at hj
    · rw [Addr.add_mid]; simp [World.cell?, hb, hj]
    · cases hj
  have hone := hRL.one c2
  split at hq
  case h_3 => cases hq
  case h_1 =>
    cases hx
    split at hq
    case isFalse => cases hq
    rename_i hcc
    obtain ⟨d0, d1, d2⟩ := hcc
    simp at hq
    obtain ⟨rfl, rfl, rfl⟩ := hq
    have hr := run_append_nil (P := P) w t ty e i Z hu hi hZ ⟨b, 0, none⟩ m cap (L.take new.length) hLl hnews d0 (by unfold maxLen at d1; omega) (by omega)
    have hge := grownCap_ge w m 0 e
    have hcm := grownCap_le_maxLen w m 0 e d1
    obtain ⟨C, hC⟩ : ∃ C, C = (L.take new.length).toArray ++ Builtin.zeroCells Z.cells (grownCap w m 0 e - m) := ⟨_, rfl⟩
    have hsize : C.size = grownCap w m 0 e * i.size := by
      rw [hC]
      simp only [Array.size_append, List.size_toArray, hLl, size_zeroCells, hzs, ← Nat.add_mul]
      congr 1; omega
    have htake : C.toList.take new.length = L.take new.length := by
      rw [hC, Array.toList_append, show new.length = (L.take new.length).length by omega]
      simp
    rw [← hC] at hr
    clear hC
    have hml : m * i.size ≤ grownCap w m 0 e * i.size := Nat.mul_le_mul_right _ hge
    obtain ⟨k1, k2, k3⟩ := makeF_ok hR hnm (drew_grown w C e (0, 0)) (x := .own true e i.size new) (b := w.heap.size) (o := grownCap w m 0 e) (Nat.le_refl _) (by simp)
      (holds_own hR.bel.size hcm (heap_alloc_new w.drew _) hsize (fun _ => rfl) (fun x _ => by simp) (by omega) (by rw [htake]; exact hRL.ext (Names.with_ext (hR.free_none hnm))))
    exact ⟨_, _, _, hr, k1, .gs _ _ k3 hge, k2⟩
  case h_2 n s len =>
    cases hx with | gs s len hp hle0 =>
    rename_i g0 cap0
    split at hq
    case h_2 => cases hq
    rename_i e' s' l hl
    split at hq
    case isFalse => cases hq
    rename_i hcc
    obtain ⟨rfl, rfl, rfl, d1, d2, d3⟩ := hcc
    simp at hq
    obtain ⟨rfl, rfl, rfl⟩ := hq
    have hm0 := hrd _ _ hl
    obtain ⟨b', o', e1, e2'⟩ := hR.ob n _ hm0
    rw [hp] at e1; cases e1
    obtain ⟨hW0, hcap0, L0, fz0, h4, h5, h6, _, h7, h8⟩ := e2'
    have hfz := h6 rfl
    subst hfz
    have holds : ∀ j u, (L0.take l.length)[j]? = some u → w.cell? ((⟨g0, 0, none⟩ : Addr).add j) = some u := fun j u hj => by
      rw [List.getElem?_take] at hj
      split at hj
      · rw [Addr.add_mid]; simp [World.cell?, h4, hj]
      · cases hj
    have hl0 : (L0.take l.length).length = len * i.size := by rw [List.length_take]; omega
    obtain ⟨r1, r2⟩ := hR.kill hm0 rfl hp
    have hfresh : Fresh (h.set n (some Ob.dead)) nm := by
      rcases hnm with rfl | hf
      · exact .inl (by simp)
      · refine .inr ?_
        rw [List.getElem?_set]
        split
        · rename_i e; subst e; rw [hm0] at hf; cases hf
        · exact hf
    have hll : (l ++ new).length = (len + m) * i.size := by rw [List.length_append, d1, hlen, Nat.add_mul]
    by_cases hroom : len + m ≤ cap0
    · have hml : (len + m) * i.size ≤ cap0 * i.size := Nat.mul_le_mul_right _ hroom
      rw [Nat.add_mul] at hml
      have hr := run_append_room (P := P) w t ty e' i hu hi g0 len cap0 L0.toArray h4 ⟨b, 0, none⟩ m cap (L.take new.length) hLl hnews hone hroom (by simp only [List.size_toArray]; omega)
      obtain ⟨C, hC⟩ : ∃ C, C = (L0.toArray.toList.take (len * i.size) ++ L.take new.length ++ L0.toArray.toList.drop (len * i.size + (L.take new.length).length)).toArray := ⟨_, rfl⟩
      have hsize : C.size = cap0 * i.size := by
        rw [hC]
        simp only [List.size_toArray, List.length_append, List.length_take, List.length_drop]
        omega
      have htake : C.toList.take (l ++ new).length = L0.take l.length ++ L.take new.length := by
        rw [hC, hll, Nat.add_mul]
        simp only []
        rw [List.take_append_of_le_length (by simp only [List.length_append, List.length_take]; omega), List.take_of_length_le (by simp only [List.length_append, List.length_take]; omega), d1]
      rw [← hC] at hr
      clear hC
      have hg' : w.grownBy (w.setRow g0 C) (some g0) := ⟨rfl, rfl, rfl, by simp, fun k _ hk => setRow_other w g0 k _ (fun e => hk (by rw [e]))⟩
      have r3 := r1.grow (row := some g0) hg' (fun k e => by cases e; exact hW0) (fun m p y hm e hy => r2 m p y hm (Option.some.inj e).symm hy)
      have hext : Ext ρ (ρ.with nm g0 cap0) := Names.with_ext (r1.free_none hfresh)
      have r4 := r3.name hfresh (b := g0) (o := cap0) (x := .own true e' i.size (l ++ new)) (by simpa using (hR.dom n _ hp).2)
        (holds_own hW0 hcap0 (setRow_heap w g0 L0.toArray _ e' _ h4) hsize (fun _ => rfl) (fun x _ => by simp) (by rw [hll, hsize]; exact Nat.mul_le_mul_right _ hroom) (by rw [htake]; exact (h8.append hRL).ext hext)) fun m' p y hm' hpb hy => r2 m' p y hm' hpb hy
      refine ⟨_, _, _, hr, hext, .gs _ _ (by simp [Names.with]) hroom, ?_⟩
      exact r4
    · have hr := run_append_grow (P := P) w t ty e' i Z hu hi hZ ⟨g0, 0, none⟩ len cap0 (L0.take l.length) hl0 holds ⟨b, 0, none⟩ m cap (L.take new.length) hLl hnews (by omega) (by unfold maxLen at d2; omega) (growslice_fits (by omega) d3)
      have hge := grownCap_ge w (len + m) cap0 e'
      have hcm := grownCap_le_maxLen w (len + m) cap0 e' d2
      obtain ⟨C, hC⟩ : ∃ C, C = (L0.take l.length).toArray ++ (L.take new.length).toArray ++ Builtin.zeroCells Z.cells (grownCap w (len + m) cap0 e' - (len + m)) := ⟨_, rfl⟩
      have hsize : C.size = grownCap w (len + m) cap0 e' * i.size := by
        rw [hC]
        simp only [Array.size_append, List.size_toArray, hLl, hl0, size_zeroCells, hzs, ← Nat.add_mul]
        congr 1; omega
      have htake : C.toList.take (l ++ new).length = L0.take l.length ++ L.take new.length := by
        have hCl : C.toList = (L0.take l.length ++ L.take new.length) ++ (Builtin.zeroCells Z.cells (grownCap w (len + m) cap0 e' - (len + m))).toList := by rw [hC]; simp
        rw [hCl, hll, Nat.add_mul, List.take_append_of_le_length (by rw [List.length_append]; omega), List.take_of_length_le (by rw [List.length_append]; omega)]
      rw [← hC] at hr
      clear hC
      have hml : (len + m) * i.size ≤ grownCap w (len + m) cap0 e' * i.size := Nat.mul_le_mul_right _ hge
      have r3 := r1.grow (row := none) (drew_grown w C e' (0, 0)) (fun k e => by cases e) (fun m p y hm e hy => by cases e)
      have hext : Ext ρ (ρ.with nm w.heap.size (grownCap w (len + m) cap0 e')) := Names.with_ext (r1.free_none hfresh)
      have r4 := r3.name hfresh (b := w.heap.size) (o := grownCap w (len + m) cap0 e') (x := .own true e' i.size (l ++ new)) (by simp)
        (holds_own hR.bel.size hcm (heap_alloc_new w.drew _) hsize (fun _ => rfl) (fun x _ => by simp) (by omega) (by rw [htake]; exact (h8.append hRL).ext hext)) fun m' p y hm' hpb hy => by
          have := (hR.dom m' p hm').2; omega
      refine ⟨_, _, _, hr, hext, .gs _ _ (by simp [Names.with]) hge, ?_⟩
      exact r4
/-- A map's entry. -/
theorem upd_ok (hR : Rel ρ W h w) {t : TypeId} {kt et : TypeId} (hu : P.underlying t = some (.map kt et)) {n : Nat} {k y : AV} {X Kv Y : Value} (hxx : RV ρ W (.mp n) X) (hkk : RV ρ W k Kv) (hyy : RV ρ W y Y) (ho : keyOk P kt k = true) {l : List (AV × AV)} {c : Nat} (hm0 : h[n]? = some (some (.mapo l c))) :
    (∀ i u, findA k l 0 = some (some (i, u)) → ∃ w', (Instr.mapUpdate t X Kv Y).run P w = .ok () w' ∧ Rel ρ W (h.set n (some (.mapo (l.set i (k, y)) c))) w') ∧
    (findA k l 0 = some none → ∃ w', (Instr.mapUpdate t X Kv Y).run P w = .ok () w' ∧ Rel ρ W (h.set n (some (.mapo (l ++ [(k, y)]) (c + 1)))) w') := by
  cases hxx with | mp hp =>
  rename_i b o'
  obtain ⟨b', o2, e1, e2⟩ := hR.ob n _ hm0
  rw [hp] at e1; cases e1
  obtain ⟨hW0, L, h4, h5⟩ := e2
  obtain ⟨d, hd⟩ := keyOk_some ho
  have hget : (getObj b).run P w = .ok (.map L.toArray c) w := by simp [getObj, Sem.run, h4]
  have hck : (Instr.checkKey false 10000 kt Kv).run P w = .ok () w := checkKey_ok ho hkk false 9999 w
  have hbl : b < w.heap.size := (Array.getElem?_eq_some_iff.1 h4).1
  have hset : ∀ ob, (setObj b ob).run P w = .ok () { w with heap := w.heap.setIfInBounds b ob } := fun ob => by simp [setObj, Sem.run, h4]
  have put : ∀ (es : List MapEntry) (cl : Nat) (l' : List (AV × AV)), RE ρ W l' es → Rel ρ W (h.set n (some (.mapo l' cl))) { w with heap := w.heap.setIfInBounds b (.map es.toArray cl) } := fun es cl l' hre =>
    hR.put hm0 rfl hp (fun k hk => by simp [Array.getElem?_setIfInBounds, Ne.symm hk]) (by simp) rfl rfl rfl ⟨hW0, es, by simp [hbl], hre⟩
  constructor
  · intro i u hf
    obtain ⟨R, g1, g2⟩ := findA_ok hkk ho hd h5 0 _ hf
    cases R with
    | none => exact g2.elim
    | some q =>
      obtain ⟨j', V2⟩ := q
      obtain ⟨rfl, _, ⟨e, h6, h7, k', h8, h9⟩, h10⟩ := g2
      have hfk : (Instr.findKey kt Kv L).run P w = .ok (some (i, V2)) w := by simp [Instr.findKey, run_underlying hd, g1]
      have hsb := sameBits_key (P := P) ho hkk h8 h9 9999
      have hkt : (Instr.keyThatStays (((L.toArray[i]?).map (·.key)).getD Kv) Kv).run P w = .ok Kv w := by
        have : (((L.toArray[i]?).map (·.key)).getD Kv) = e.key := by simp at h6; simp [h6]
        rw [this]
        unfold Instr.keyThatStays
        rw [if_pos hsb]; rfl
      refine ⟨{ w with heap := w.heap.setIfInBounds b (.map (L.modify i fun (e : MapEntry) => { e with key := Kv, val := Y }).toArray c) }, ?_, put _ _ _ (RE.modify hkk hyy i h5)⟩
      have hmod : L.toArray.modify i (fun (e : MapEntry) => { e with key := Kv, val := Y }) = (L.modify i fun (e : MapEntry) => { e with key := Kv, val := Y }).toArray := by simp
      simp only [Instr.mapUpdate, Sem.run_bind, run_underlying hu, Result.andThen_ok, hget, hck, List.toList_toArray, hfk, hkt, hmod, hset]
  · intro hf
    obtain ⟨R, g1, g2⟩ := findA_ok hkk ho hd h5 0 _ hf
    cases R with
    | some q => obtain ⟨_, _⟩ := q; exact g2.elim
    | none =>
      have hfk : (Instr.findKey kt Kv L).run P w = .ok none w := by simp [Instr.findKey, run_underlying hd, g1]
      refine ⟨{ w with heap := w.heap.setIfInBounds b (.map (L ++ [({ key := Kv, val := Y, born := c } : MapEntry)]).toArray (c + 1)) }, ?_, put _ _ _ (RE.snoc (e := { key := Kv, val := Y, born := c }) hkk hyy h5)⟩
      have hpush : L.toArray.push ({ key := Kv, val := Y, born := c } : MapEntry) = (L ++ [({ key := Kv, val := Y, born := c } : MapEntry)]).toArray := by simp
      simp only [Instr.mapUpdate, Sem.run_bind, run_underlying hu, Result.andThen_ok, hget, hck, List.toList_toArray, hfk, hpush, hset]
theorem evOpt_none {e : Operand → Option AV} {x : Option Operand} (h : evOpt e x = some none) : x = none := by
  cases x with
  | none => rfl
  | some x => simp [evOpt] at h
theorem flat_at {l : List AV} {L : List Value} (hl : RL ρ W l L) : l.all (AV.flat 4) = true → ∀ (i : Nat) (v : AV) (V : Value), l[i]? = some v → L[i]? = some V → RV noNames W v V := by
  induction l generalizing L with
  | nil => intro _ i v V hv; simp at hv
  | cons x l ih =>
    intro ha i v V hv hV
    cases hl with | cons g1 g2 =>
    simp only [List.all_cons, Bool.and_eq_true] at ha
    cases i with
    | zero => simp at hv hV; subst hv; subst hV; exact g1.flat_move 4 ha.1
    | succ i => exact ih g2 ha.2 i v V (by simpa using hv) (by simpa using hV)
theorem upTo_at (n a k : Nat) : (upTo a n)[k]? = if k < n then some (a + k) else none := upTo_get n a k
theorem intsOf_at : ∀ {l : List AV} {ns : List Int}, intsOf l = some ns → l = ns.map (AV.int .u8)
  | [], ns, h => by simp [intsOf] at h; subst h; rfl
  | x :: r, ns, h => by
    unfold intsOf at h
    split at h
    · rename_i he; cases he
    · rename_i n r' he
      injection he with h1 h2
      subst h1; subst h2
      split at h
      · rename_i l hl
        simp at h; subst h
        rw [intsOf_at hl]; rfl
      · cases h
    · cases h
/-- **An operation that is carried out in the text's order**: what it comes to abstractly holds in the model. -/
theorem xop_ok (hR : Rel ρ W h w) {e : Operand → Option AV} {a : Act} (he : ∀ x v, e x = some v → RV ρ W v (a.eval x)) {o : Oper} {v : AV} {s : Option (Nat × Ob)} {al : Option Ob}
    (hq : xop P o e (rdFlat h) h.length = some (true, v, s, al)) {K : Act → World → Prop} {Q : Exit → Act → World → Prop}
    (hK : ∀ ρ' w' V, Ext ρ ρ' → RV ρ' W v V → Rel ρ' W (xheap h s al) w' → K (a.put o.dst V) w') : o.wp P a w K Q := by
  unfold xop at hq
  split at hq
  case h_1 t x lo hi mx hop =>
    split at hq
    case h_3 => cases hq
    case h_2 =>
      rename_i cnt el n lv hv hu hx hlo hhi hmx
      split at hq
      case h_2 => cases hq
      rename_i a0 b0 cs s1 h1 h2 hrd hsz
      split at hq
      case isFalse => cases hq
      rename_i hc
      obtain ⟨d1, d2, d3, d6⟩ := hc
      simp at hq
      obtain ⟨rfl, rfl, rfl⟩ := hq
      have hxx := he _ _ hx
      generalize hX : a.eval x = X at hxx
      cases hxx with | ptr _ _ _ hp =>
      rename_i b o'
      have hmn : mx = none := evOpt_none hmx
      subst hmn
      have hm0 := rdFlat_some hrd
      obtain ⟨b', o2, e1, e2⟩ := hR.ob n _ hm0
      rw [hp] at e1; cases e1
      obtain ⟨hW0, ho0, L, ty, h4, h5⟩ := e2
      subst ho0
      have hLl : L.length = cs.length := h5.length.symm
      obtain ⟨m, hbm, hb⟩ := sliceBounds_ok (is := false) (P := P) (mx := none) (Mx := none) (len := cnt) (cap := cnt) (c := cnt) (Lo := lo.map a.eval) (Hi := hi.map a.eval) (evOpt_ok he _ _ hlo) (evOpt_ok he _ _ hhi) trivial h1 h2 (by simp [boundA]) d2 d3 (Nat.le_refl _) (Nat.le_refl _) rfl w
      refine wp_value (w' := w) (V := .slice (some ⟨b, if m = a0 then 0 else a0 * s1, none⟩) (b0 - a0) (m - a0)) ?_ ?_
      · simp only [execOp, hop, hX, Instr.sliceAt, Instr.sureAddr, Option.map_none, Sem.run_bind, run_underlying hu, Result.andThen_ok, hb, run_size hsz, Sem.run_pure]
        split
        · simp
        · simp only [Addr.add_mid]; simp
      · obtain ⟨r1, r2⟩ := hR.kill hm0 rfl hp
        have hfresh : Fresh (h.set n (some Ob.dead)) (h.set n (some Ob.dead)).length := .inl rfl
        have hext : Ext ρ (ρ.with (h.set n (some Ob.dead)).length b (a0 * s1)) := Names.with_ext (r1.free_none hfresh)
        have inn : ∀ i j, i < b0 - a0 → j < s1 → (a0 + i) * s1 + j < cnt * s1 := fun i j hi hj => by
          have : (a0 + i + 1) * s1 ≤ cnt * s1 := Nat.mul_le_mul_right s1 (by omega)
          rw [Nat.add_mul] at this
          omega
        have r4 := r1.name hfresh (b := b) (o := a0 * s1) (x := .row s1 (b0 - a0) fun i j => cs.getD ((a0 + i) * s1 + j) .undef) (hR.dom n _ hp).2 (by
          refine ⟨fun i j => L.getD ((a0 + i) * s1 + j) undef, fun i j hi hj => ?_, fun i j hi hj => ?_⟩
          · have hlt := inn i j hi hj
            have hlt2 : (a0 + i) * s1 + j < L.length := by omega
            simp only [List.getD, List.getElem?_eq_getElem hlt2, Option.getD_some]
            rw [show a0 * s1 + (i * s1 + j) = (a0 + i) * s1 + j by rw [Nat.add_mul]; omega]
            simp [World.cell?, h4, hlt2]
          · have hlt := inn i j hi hj
            have g1 := List.getElem?_eq_getElem (l := cs) (i := (a0 + i) * s1 + j) (by omega)
            have g2 := List.getElem?_eq_getElem (l := L) (i := (a0 + i) * s1 + j) (by omega)
            simp only [List.getD, g1, g2, Option.getD_some]
            exact flat_at h5 d6 _ _ _ g1 g2) fun m' p y hm' hpb hy => r2 m' p y hm' hpb hy
        refine hK _ w _ hext (.sl (o := a0 * s1) 0 s1 (b0 - a0) (m - a0) _ (by simp [Names.with]) (by omega) ?_) (by simpa [effH, xheap] using r4)
        by_cases hma : m = a0
        · exact .inl (by omega)
        · rw [if_neg hma]; exact .inr (by omega)
    rename_i el n s' len lv hv mv hu hx hlo hhi hmx
    split at hq
    case h_2 => cases hq
    rename_i a0 b0 c0 z e0 s1 cs s2 h1 h2 h3 hrd hsz
    split at hq
    case isFalse => cases hq
    rename_i hc
    obtain ⟨rfl, rfl, d1, d2, d3, d4, d5, d6⟩ := hc
    simp at hq
    obtain ⟨rfl, rfl, rfl⟩ := hq
    have hxx := he _ _ hx
    generalize hX : a.eval x = X at hxx
    cases hxx with | gs s len hp hle =>
    rename_i b cap
    have hm0 := rdFlat_some hrd
    obtain ⟨b', o', e1, e2⟩ := hR.ob n _ hm0
    rw [hp] at e1; cases e1
    obtain ⟨hW0, hcap0, L0, fz0, h4, h5, _, _, h7, h8⟩ := e2
    obtain ⟨m, hbm, hb⟩ := sliceBounds_ok (is := true) (P := P) (Lo := lo.map a.eval) (Hi := hi.map a.eval) (Mx := mx.map a.eval) (evOpt_ok he _ _ hlo) (evOpt_ok he _ _ hhi) (evOpt_ok he _ _ hmx) h1 h2 h3 d2 d3 d4 hle (by simpa using d5) w
    refine wp_value (w' := w) (V := .slice (some ⟨b, if m = a0 then 0 else a0 * s1, none⟩) (b0 - a0) (m - a0)) ?_ ?_
    · simp only [execOp, hop, hX, Instr.sliceAt, Instr.slice, Sem.run_bind, run_underlying hu, Result.andThen_ok, hb, run_size hsz, Sem.run_pure]
      split
      · rfl
      · simp only [Option.map_some, Addr.add_mid, Nat.zero_add]
    · obtain ⟨r1, r2⟩ := hR.kill hm0 rfl hp
      have hfresh : Fresh (h.set n (some Ob.dead)) (h.set n (some Ob.dead)).length := .inl rfl
      have hext : Ext ρ (ρ.with (h.set n (some Ob.dead)).length b (a0 * s1)) := Names.with_ext (r1.free_none hfresh)
      have hlen : (L0.take cs.length).length = len * s1 := by rw [List.length_take]; omega
      have inn : ∀ i j, i < b0 - a0 → j < s1 → (a0 + i) * s1 + j < len * s1 := fun i j hi hj => by
        have : (a0 + i + 1) * s1 ≤ len * s1 := Nat.mul_le_mul_right s1 (by omega)
        rw [Nat.add_mul] at this
        omega
      have hflat : ∀ {l : List AV} {L : List Value}, RL ρ W l L → l.all (AV.flat 4) = true → ∀ (i : Nat) (v : AV) (V : Value), l[i]? = some v → L[i]? = some V → RV noNames W v V := by
        intro l L hl
        induction l generalizing L with
        | nil => intro _ i v V hv; simp at hv
        | cons x l ih =>
          intro ha i v V hv hV
          cases hl with | cons g1 g2 =>
          simp only [List.all_cons, Bool.and_eq_true] at ha
          cases i with
          | zero => simp at hv hV; subst hv; subst hV; exact g1.flat_move 4 ha.1
          | succ i => exact ih g2 ha.2 i v V (by simpa using hv) (by simpa using hV)
      have r4 := r1.name hfresh (b := b) (o := a0 * s1) (x := .row s1 (b0 - a0) fun i j => cs.getD ((a0 + i) * s1 + j) .undef) (hR.dom n _ hp).2 (by
        refine ⟨fun i j => (L0.take cs.length).getD ((a0 + i) * s1 + j) undef, fun i j hi hj => ?_, fun i j hi hj => ?_⟩
        · have hlt := inn i j hi hj
          have hlt2 : (a0 + i) * s1 + j < L0.length := by omega
          have hg : (L0.take cs.length)[(a0 + i) * s1 + j]? = some L0[(a0 + i) * s1 + j] := by rw [List.getElem?_take, if_pos (by omega)]; simp [hlt2]
          simp only [List.getD, hg, Option.getD_some]
          rw [show a0 * s1 + (i * s1 + j) = (a0 + i) * s1 + j by rw [Nat.add_mul]; omega]
          simp [World.cell?, h4, hlt2]
        · have hlt := inn i j hi hj
          have g1 := List.getElem?_eq_getElem (l := cs) (i := (a0 + i) * s1 + j) (by omega)
          have g2 := List.getElem?_eq_getElem (l := L0.take cs.length) (i := (a0 + i) * s1 + j) (by omega)
          simp only [List.getD, g1, g2, Option.getD_some]
          exact hflat h8 d6 _ _ _ g1 g2) fun m' p y hm' hpb hy => r2 m' p y hm' hpb hy
      refine hK _ w _ hext (.sl (o := a0 * s1) 0 s1 (b0 - a0) (m - a0) _ (by simp [Names.with]) (by omega) ?_) (by simpa [effH, xheap] using r4)
      by_cases hma : m = a0
      · exact .inl (by omega)
      · rw [if_neg hma]; exact .inr (by omega)
  case h_2 src dst x hop =>
    split at hq
    case h_1 el s' hs hd hx =>
      split at hq
      case h_2 => cases hq
      rename_i he8
      split at hq
      case isFalse => cases hq
      rename_i hsz
      simp at hq
      obtain ⟨rfl, rfl, rfl⟩ := hq
      have hxx := he _ _ hx
      generalize hX : a.eval x = X at hxx
      cases hxx
      have hr := run_bytes_of_string (P := P) w src dst el s' hs hd he8
      have hge := grownCap_ge w s'.size 0 el
      have hcm := grownCap_le_maxLen w s'.size 0 el hsz
      obtain ⟨C, hC⟩ : ∃ C, C = bytesRow s' (grownCap w s'.size 0 el) := ⟨_, rfl⟩
      have hsd : s'.data.size = s'.size := rfl
      have hCs : C.size = grownCap w s'.size 0 el * 1 := by
        rw [hC]
        simp only [bytesRow, Array.size_append, Array.size_map, Array.size_replicate, hsd]
        omega
      have hCt : C.toList.take s'.size = s'.data.toList.map fun b => Value.int .u8 b.toNat := by
        rw [hC]
        simp only [bytesRow, Array.toList_append, Array.toList_map]
        rw [List.take_append_of_le_length (by rw [List.length_map, Array.length_toList, hsd]; exact Nat.le_refl _), List.take_of_length_le (by rw [List.length_map, Array.length_toList, hsd]; exact Nat.le_refl _)]
      rw [← hC] at hr
      refine wp_value (w' := w.drew.alloc (.cells C el (C.size, C.size + 1))) (V := .slice (some ⟨w.heap.size, 0, none⟩) s'.size (grownCap w s'.size 0 el)) (by simp only [execOp, hop, hX, Sem.run_bind, hr, Result.andThen_ok, Sem.run_pure]) ?_
      have hll : (s'.data.toList.map fun b => AV.int .u8 b.toNat).length = s'.size := by rw [List.length_map, Array.length_toList, hsd]
      obtain ⟨k1, k2, k3⟩ := make_ok hR (drew_grown w C el (C.size, C.size + 1)) (x := .own false el 1 (s'.data.toList.map fun b => .int .u8 b.toNat)) (b := w.heap.size) (o := grownCap w s'.size 0 el) (Nat.le_refl _) (by simp)
        (holds_own hR.bel.size hcm (heap_alloc_new w.drew _) hCs (fun e => by cases e) (fun x hx => by simp; omega) (by rw [hll]; omega) (by
          rw [hll, hCt]
          exact RL.map _ _ _ fun b _ => .int _ _))
      exact hK _ _ _ k1 (.gs _ _ k3 hge) k2
    case h_2 el y hs hd hy =>
      split at hq
      case h_3 => cases hq
      case h_2 =>
        rename_i he8 hno
        split at hq
        case h_2 => cases hq
        rename_i l hl
        split at hq
        case h_2 => cases hq
        rename_i ns hns
        simp at hq
        obtain ⟨rfl, rfl, rfl⟩ := hq
        have hxx := he _ _ hy
        generalize hX : a.eval x = X at hxx
        unfold slBytes at hl
        split at hl
        case h_2 => cases hl
        rename_i n i len
        split at hl
        case h_2 => cases hl
        rename_i m c hrd
        split at hl
        case isFalse => cases hl
        rename_i him
        simp only [Option.some.injEq] at hl
        have hints := intsOf_at hns
        rw [← hl] at hints
        have hnl : ns.length = len := by
          have := congrArg List.length hints
          rw [List.length_map, List.length_map] at this
          rw [← this]
          have e1 := upTo_at len 0 len
          have e2 := fun k (h : k < len) => upTo_at len 0 k
          rw [if_neg (Nat.lt_irrefl _), List.getElem?_eq_none_iff] at e1
          rcases Nat.lt_or_ge (upTo 0 len).length len with h | h
          · have := e2 _ h; rw [if_pos h, List.getElem?_eq_none (Nat.le_refl _)] at this; cases this
          · omega
        cases hxx with | sl _ _ _ cap off hp hle hoff =>
        rename_i b o'
        have hm0 := rdFlat_some hrd
        obtain ⟨b', o2, e1, V, h4, h5⟩ := hR.ob n _ hm0
        rw [hp] at e1; cases e1
        have hload : (loadCells ⟨b, off, none⟩ len).run P w = .ok (ns.map (Value.int .u8)).toArray w := by
          have := run_loadCells_list (P := P) w ⟨b, off, none⟩ (ns.map (Value.int .u8)) fun j v hj => by
            rw [List.getElem?_map] at hj
            have hjl : j < len := by
              rcases Nat.lt_or_ge j len with h | h
              · exact h
              · rw [List.getElem?_eq_none (by omega)] at hj; simp at hj
            have ho : off = o' + i := by rcases hoff with h | h <;> omega
            have hc := congrArg (fun l => l[j]?) hints
            simp only [List.getElem?_map, upTo_at, if_pos hjl, Option.map_some, Nat.zero_add] at hc
            rw [List.getElem?_eq_getElem (by omega)] at hc hj
            simp only [Option.map_some, Option.some.injEq] at hc hj
            have g := h5 (i + j) 0 (by omega) (by omega)
            rw [hc] at g
            have g4 := h4 (i + j) 0 (by omega) (by omega)
            generalize V (i + j) 0 = VV at g g4
            cases g
            rw [Addr.add_mid, ho]
            rw [show o' + i + j = o' + ((i + j) * 1 + 0) by omega, g4, ← hj]
          simpa [hnl] using this
        have hr := run_bytesToString (P := P) w ⟨b, off, none⟩ len cap ns hload
        rw [← run_convert_bytes_string w src dst el (some ⟨b, off, none⟩) len cap hs he8 hd, foldl_push_ints] at hr
        have he0 : ByteArray.empty.data = #[] := rfl
        rw [he0] at hr
        simp only [Array.empty_append] at hr
        refine wp_value (w' := w) (V := .string ⟨(ns.map fun n => UInt8.ofNat n.toNat).toArray⟩) (by simp only [execOp, hop, hX, Sem.run_bind, hr, Result.andThen_ok, Sem.run_pure]) ?_
        exact hK ρ w _ (Ext.refl ρ) (.str _) hR
      rename_i l he8 hl
      split at hq
      case h_2 => cases hq
      rename_i ns hns
      simp at hq
      obtain ⟨rfl, rfl, rfl⟩ := hq
      have hxx := he _ _ hy
      generalize hX : a.eval x = X at hxx
      obtain ⟨n, m, len, b, cap, e2, L, fz, rfl, rfl, hlen, hp2, hm2, hb, hle, hRL⟩ := cellsOf_ok hR hxx (fun _ _ => rdFlat_some) hl
      have hL := intsOf_ok hRL hns
      have hnl : ns.length = len := by
        have := congrArg List.length hL
        simp at this
        omega
      have hload : (loadCells ⟨b, 0, none⟩ len).run P w = .ok (ns.map (Value.int .u8)).toArray w := by
        have := run_loadCells_list (P := P) w ⟨b, 0, none⟩ (ns.map (Value.int .u8)) fun j v hj => by
          rw [← hL, List.getElem?_take] at hj
          split at hj
          · rw [Addr.add_mid]; simp [World.cell?, hb, hj]
          · cases hj
        simpa [hnl] using this
      have hr := run_bytesToString (P := P) w ⟨b, 0, none⟩ len cap ns hload
      rw [← run_convert_bytes_string w src dst el (some ⟨b, 0, none⟩) len cap hs he8 hd, foldl_push_ints] at hr
      have he0 : ByteArray.empty.data = #[] := rfl
      rw [he0] at hr
      simp only [Array.empty_append] at hr
      refine wp_value (w' := w) (V := .string ⟨(ns.map fun n => UInt8.ofNat n.toNat).toArray⟩) (by simp only [execOp, hop, hX, Sem.run_bind, hr, Result.andThen_ok, Sem.run_pure]) ?_
      exact hK ρ w _ (Ext.refl ρ) (.str _) hR
    case h_3 => cases hq
  case h_3 t x ix y hop =>
    split at hq
    case h_2 => cases hq
    rename_i kt et n k u hu hx hk hy
    split at hq
    case h_2 => cases hq
    rename_i l c ho hrd
    obtain ⟨q1, q2⟩ := upd_ok hR hu (he _ _ hx) (he _ _ hk) (he _ _ hy) ho (rdFlat_some hrd)
    split at hq
    · rename_i i u2 hf
      simp at hq
      obtain ⟨rfl, rfl, rfl⟩ := hq
      obtain ⟨w', g1, g2⟩ := q1 i u2 hf
      exact wp_skipped (w' := w') (by simp only [execOp, hop, Sem.run_bind, g1, Result.andThen_ok, Sem.run_pure]) (hK ρ w' _ (Ext.refl ρ) .undef (by simpa [xheap] using g2))
    · rename_i hf
      simp at hq
      obtain ⟨rfl, rfl, rfl⟩ := hq
      obtain ⟨w', g1, g2⟩ := q2 hf
      exact wp_skipped (w' := w') (by simp only [execOp, hop, Sem.run_bind, g1, Result.andThen_ok, Sem.run_pure]) (hK ρ w' _ (Ext.refl ρ) .undef (by simpa [xheap] using g2))
    · cases hq
  case h_4 t x ix y hop =>
    split at hq
    case h_2 => cases hq
    rename_i kt et n k u hu hx hk hy
    split at hq
    case h_2 => cases hq
    rename_i l c ho hrd
    obtain ⟨q1, q2⟩ := upd_ok hR hu (he _ _ hx) (he _ _ hk) (he _ _ hy) ho (rdFlat_some hrd)
    split at hq
    · rename_i i u2 hf
      simp at hq
      obtain ⟨rfl, rfl, rfl⟩ := hq
      obtain ⟨w', g1, g2⟩ := q1 i u2 hf
      exact wp_skipped (w' := w') (by simp only [execOp, hop, Sem.run_bind, g1, Result.andThen_ok, Sem.run_pure]) (hK ρ w' _ (Ext.refl ρ) .undef (by simpa [xheap] using g2))
    · rename_i hf
      simp at hq
      obtain ⟨rfl, rfl, rfl⟩ := hq
      obtain ⟨w', g1, g2⟩ := q2 hf
      exact wp_skipped (w' := w') (by simp only [execOp, hop, Sem.run_bind, g1, Result.andThen_ok, Sem.run_pure]) (hK ρ w' _ (Ext.refl ρ) .undef (by simpa [xheap] using g2))
    · cases hq
  case h_5 t x hop =>
    split at hq
    case h_2 => cases hq
    rename_i s' hu hx
    simp at hq
    obtain ⟨rfl, rfl, rfl⟩ := hq
    have hxx := he _ _ hx
    generalize hX : a.eval x = X at hxx
    cases hxx
    refine wp_value (w' := w.alloc (.stringIter s' 0)) (V := .pointer (some ⟨w.heap.size, 0, none⟩)) (by simp only [execOp, hop, hX, Instr.range, Sem.run_bind, run_underlying hu, Result.andThen_ok, Sem.run_pure]; rfl) ?_
    obtain ⟨k1, k2, k3⟩ := make_ok hR (w' := w.alloc (.stringIter s' 0)) (World.grownBy_alloc w _ none) (x := .siter s' 0) (b := w.heap.size) (o := 0) (Nat.le_refl _) (by simp) ⟨hR.bel.size, rfl, heap_alloc_new w _⟩
    have := RV.ptr (ρ := ρ.with h.length w.heap.size 0) (W := W) 0 0 0 k3
    exact hK _ _ _ k1 (by simpa using this) k2
  case h_6 x hop =>
    split at hq
    case h_2 => cases hq
    rename_i n hx
    split at hq
    case h_2 => cases hq
    rename_i s' pos hrd
    have hxx := he _ _ hx
    generalize hX : a.eval x = X at hxx
    cases hxx with | ptr i s j hp =>
    rename_i b o'
    have hm0 := rdFlat_some hrd
    obtain ⟨b', o2, e1, e2⟩ := hR.ob n _ hm0
    rw [hp] at e1; cases e1
    obtain ⟨hW0, ho0, h4⟩ := e2
    subst ho0
    have hbl : b < w.heap.size := (Array.getElem?_eq_some_iff.1 h4).1
    have hget : (getObj b).run P w = .ok (.stringIter s' pos) w := by simp [getObj, Sem.run, h4]
    have hset : ∀ ob, (setObj b ob).run P w = .ok () { w with heap := w.heap.setIfInBounds b ob } := fun ob => by simp [setObj, Sem.run, h4]
    have hadd : (0 : Nat) + (0 * 0 + 0) = 0 := rfl
    split at hq
    · rename_i hlt
      simp at hq
      obtain ⟨rfl, rfl, rfl⟩ := hq
      refine wp_value (w' := { w with heap := w.heap.setIfInBounds b (.stringIter s' (pos + (Utf8.decode s' pos).2)) }) (V := .tuple #[.bool true, .int .i64 pos, .int .i32 (Utf8.decode s' pos).1]) ?_ ?_
      · simp only [execOp, hop, hX, hadd, Instr.next, Sem.run_bind, hget, Result.andThen_ok, if_pos hlt, hset, Sem.run_pure]
        rfl
      · refine hK ρ _ _ (Ext.refl ρ) (.tup (.cons (.bool _) (.cons (.int _ _) (.cons (.int _ _) .nil)))) ?_
        have := hR.put hm0 rfl hp (w' := { w with heap := w.heap.setIfInBounds b (.stringIter s' (pos + (Utf8.decode s' pos).2)) }) (x' := .siter s' (pos + (Utf8.decode s' pos).2)) (fun k hk => by simp [Array.getElem?_setIfInBounds, Ne.symm hk]) (by simp) rfl rfl rfl ⟨hW0, rfl, by simp [hbl]⟩
        simpa [xheap] using this
    · rename_i hlt
      simp at hq
      obtain ⟨rfl, rfl, rfl⟩ := hq
      refine wp_value (w' := w) (V := .tuple #[.bool false]) ?_ (hK ρ w _ (Ext.refl ρ) (.tup (.cons (.bool _) .nil)) hR)
      simp only [execOp, hop, hX, hadd, Instr.next, Sem.run_bind, hget, Result.andThen_ok, if_neg hlt, Sem.run_pure]
  case h_7 c hop =>
    split at hq
    case h_2 => cases hq
    rename_i hcal
    split at hq
    case h_2 => cases hq
    rename_i x y t t' hargs hts
    split at hq
    case isFalse => cases hq
    rename_i htt
    subst htt
    have hL := evAll_ok he _ _ hargs
    have e0 : c.args.map a.eval = (c.args.toList.map a.eval).toArray := by apply Array.ext'; simp
    have e1 : c.argTypes = #[t, t] := by apply Array.ext'; simpa using hts
    generalize hG : c.args.toList.map a.eval = L at hL
    cases hL with | cons hx hL2 =>
    cases hL2 with | cons hy hL3 =>
    cases hL3
    obtain ⟨V, w', ρ', g1, g2, g3, g4⟩ := append_ok hR hx hy o.type (fun _ _ => rdFlat_some) (.inl rfl) hq
    refine wp_value (w' := w') (V := V) ?_ (hK ρ' w' V g2 g3 (by rw [xheap_eff]; exact g4))
    simp only [execOp, hop, resolve, hcal, Sem.run_bind, Sem.run_pure, Result.andThen_ok, invoke, builtin, e0, hG, e1]
    rw [g1]
    rfl
  case h_8 => cases hq
/-- An operation wherever it stands. -/
theorem opw_ok {T : Tab} (hT : TabOk P T) (hR : Rel ρ W h w) {rd : Nat → Option Ob} {nm : Nat} (hrd : ∀ n x, rd n = some x → h[n]? = some (some x)) (hnm : Fresh h nm) {e : Operand → Option AV} {a : Act}
    (he : ∀ x v, e x = some v → RV ρ W v (a.eval x)) {o : Oper} {v : AV} {f : Eff} (hv : opw P T rd nm e o = some (true, v, f)) {K : Act → World → Prop} {Q : Exit → Act → World → Prop}
    (hK : ∀ ρ' w' V, Ext ρ ρ' → RV ρ' W v V → Rel ρ' W (effH h nm f) w' → K (a.put o.dst V) w') : o.wp P a w K Q := by
  unfold opw at hv
  split at hv
  · rename_i r hr
    simp at hv; subst hv
    exact opv_ok hT hR hrd hnm he hr hK
  split at hv
  case h_2 => cases hv
  rename_i hh
  split at hv
  case h_2 => cases hv
  rename_i p v' s al hq
  simp at hv
  obtain ⟨rfl, rfl, rfl⟩ := hv
  unfold xop at hq
  split at hq
  case h_3 t x ix y hop =>
    split at hq
    case h_2 => cases hq
    rename_i kt et n k u hu hx hk hy
    split at hq
    case h_2 => cases hq
    rename_i l c ho hl
    obtain ⟨q1, q2⟩ := upd_ok hR hu (he _ _ hx) (he _ _ hk) (he _ _ hy) ho (hrd _ _ hl)
    split at hq
    · rename_i i u2 hf
      simp at hq
      obtain ⟨rfl, rfl, rfl⟩ := hq
      obtain ⟨w', g1, g2⟩ := q1 i u2 hf
      exact wp_skipped (w' := w') (by simp only [execOp, hop, Sem.run_bind, g1, Result.andThen_ok, Sem.run_pure]) (hK ρ w' _ (Ext.refl ρ) .undef g2)
    · rename_i hf
      simp at hq
      obtain ⟨rfl, rfl, rfl⟩ := hq
      obtain ⟨w', g1, g2⟩ := q2 hf
      exact wp_skipped (w' := w') (by simp only [execOp, hop, Sem.run_bind, g1, Result.andThen_ok, Sem.run_pure]) (hK ρ w' _ (Ext.refl ρ) .undef g2)
    · cases hq
  case h_4 t x ix y hop =>
    split at hq
    case h_2 => cases hq
    rename_i kt et n k u hu hx hk hy
    split at hq
    case h_2 => cases hq
    rename_i l c ho hl
    obtain ⟨q1, q2⟩ := upd_ok hR hu (he _ _ hx) (he _ _ hk) (he _ _ hy) ho (hrd _ _ hl)
    split at hq
    · rename_i i u2 hf
      simp at hq
      obtain ⟨rfl, rfl, rfl⟩ := hq
      obtain ⟨w', g1, g2⟩ := q1 i u2 hf
      exact wp_skipped (w' := w') (by simp only [execOp, hop, Sem.run_bind, g1, Result.andThen_ok, Sem.run_pure]) (hK ρ w' _ (Ext.refl ρ) .undef g2)
    · rename_i hf
      simp at hq
      obtain ⟨rfl, rfl, rfl⟩ := hq
      obtain ⟨w', g1, g2⟩ := q2 hf
      exact wp_skipped (w' := w') (by simp only [execOp, hop, Sem.run_bind, g1, Result.andThen_ok, Sem.run_pure]) (hK ρ w' _ (Ext.refl ρ) .undef g2)
    · cases hq
  case h_7 c hop =>
    split at hq
    case h_2 => cases hq
    rename_i hcal
    split at hq
    case h_2 => cases hq
    rename_i x y t t' hargs hts
    split at hq
    case isFalse => cases hq
    rename_i htt
    subst htt
    have hL := evAll_ok he _ _ hargs
    have e0 : c.args.map a.eval = (c.args.toList.map a.eval).toArray := by apply Array.ext'; simp
    have e1 : c.argTypes = #[t, t] := by apply Array.ext'; simpa using hts
    generalize hG : c.args.toList.map a.eval = L at hL
    cases hL with | cons hx hL2 =>
    cases hL2 with | cons hy hL3 =>
    cases hL3
    obtain ⟨V, w', ρ', g1, g2, g3, g4⟩ := append_ok hR hx hy o.type hrd hnm hq
    refine wp_value (w' := w') (V := V) ?_ (hK ρ' w' V g2 g3 g4)
    simp only [execOp, hop, resolve, hcal, Sem.run_bind, Sem.run_pure, Result.andThen_ok, invoke, builtin, e0, hG, e1]
    rw [g1]
    rfl
  all_goals (rename_i hop; simp [hop, heavy] at hh)
end Go.Proofs.Ytlpnbbonbclddaa.A
