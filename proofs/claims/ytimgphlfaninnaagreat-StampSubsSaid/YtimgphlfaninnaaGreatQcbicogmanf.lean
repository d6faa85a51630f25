import Derived.Test.YtimgphlfaninnaaGreatQamnbohijkj
import Derived.Great.BuildSlice
import Derived.Laws.IdiomStrings
import Derived.Laws.MakeOwn
import Derived.Laws.OwnMore
import Derived.MapKept
import Derived.Carry
import Derived.OrdersIn
import Derived.RangeFuncRecord
namespace Go.Proofs.YtimgphlfaninnaaGreat.A
open Go Go.RowKit
set_option linter.unusedVariables false
set_option linter.unusedSimpArgs false
variable {P : Program} {ρ : Names} {W w : World} {h : Heap}
theorem xheap_eff (h : Heap) (s : Option (Nat × Ob)) (a : Option Ob) : xheap h s a = effH h h.length (effOf s a) := by
 rcases s with _ | ⟨n, x⟩ <;> cases a <;> simp [xheap, effOf, effH]
theorem cellsOf_ok (hR : Rel ρ W h w) {s : Nat} {x : AV} {X : Value} {l : List AV} (hx : RV ρ W x X) {rd : Nat → Option Ob} (hrd : ∀ n x, rd n = some x → h[n]? = some (some x)) (hq : cellsOf rd s x = some l) :
 ∃ n m len b cap e L fz, x = .gs n s len ∧ X = .slice (some ⟨b, 0, none⟩) len cap ∧ l.length = len * s ∧ ρ n = some (b, cap) ∧ h[n]? = some (some (.own m e s l)) ∧ w.heap[b]? = some (.cells (List.toArray L) e fz) ∧ l.length ≤ L.length ∧ RL ρ W l (L.take l.length) := by
 unfold cellsOf at hq
 split at hq
 · rename_i n s' len
   split at hq
   · rename_i z e s2 l' hl
     split at hq
     · rename_i hc
       obtain ⟨rfl, rfl, hlen⟩ := hc
       simp at hq; subst hq
       cases hx with | gs s len hp hle =>
       rename_i b cap
       have hm := hrd _ _ hl
       obtain ⟨b', o', e1, e2⟩ := hR.ob n _ hm
       rw [hp] at e1; cases e1
       obtain ⟨_, _, L, fz, h4, h5, _, _, h6, h7⟩ := e2
       exact ⟨n, z, len, b, cap, e, L, fz, rfl, rfl, hlen, hp, hm, h4, h6, h7⟩
     · cases hq
   · cases hq
 · cases hq
theorem RE.length : ∀ {l : List (AV × AV)} {L : List MapEntry}, RE ρ W l L → l.length = L.length
 | _, _, .nil => rfl
 | _, _, .cons _ _ t => by simp [RE.length t]
theorem RE.snoc {k v : AV} {e : MapEntry} (hk : RV ρ W k e.key) (hv : RV ρ W v e.val) : ∀ {l : List (AV × AV)} {L : List MapEntry}, RE ρ W l L → RE ρ W (l ++ [(k, v)]) (L ++ [e])
 | _, _, .nil => .cons hk hv .nil
 | _, _, .cons h1 h2 t => .cons h1 h2 (RE.snoc hk hv t)
theorem RE.modify {k v : AV} {K V : Value} (hk : RV ρ W k K) (hv : RV ρ W v V) : ∀ (i : Nat) {l : List (AV × AV)} {L : List MapEntry}, RE ρ W l L → RE ρ W (l.set i (k, v)) (L.modify i fun e => { e with key := K, val := V })
 | _, _, _, .nil => by simp; exact .nil
 | 0, _, _, .cons h1 h2 t => by simp; exact .cons hk hv t
 | i + 1, _, _, .cons h1 h2 t => by simp; exact .cons h1 h2 (RE.modify hk hv i t)
theorem intsOf_ok : ∀ {l : List AV} {ns : List Int} {L : List Value}, RL ρ W l L → intsOf l = some ns → L = ns.map (Value.int .u8)
 | _, _, _, .nil, hq => by simp [intsOf] at hq; subst hq; rfl
 | _, _, _, .cons h t, hq => by
  unfold intsOf at hq
  split at hq
  · rename_i e; cases e
  · rename_i n r e
    cases e
    cases h
    split at hq
    · rename_i l' hl
      simp at hq; subst hq
      rw [intsOf_ok t hl]; rfl
    · cases hq
  · cases hq
theorem foldl_push_ints : ∀ (l : List Int) (r : ByteArray), l.foldl (fun r n => r.push (UInt8.ofNat n.toNat)) r = ⟨r.data ++ (l.map fun n => UInt8.ofNat n.toNat).toArray⟩
 | [], r => by simp
 | b :: l, r => by
  simp only [List.foldl_cons]
  rw [foldl_push_ints l]
  simp [ByteArray.push]
theorem sameBits_key {kt : TypeId} {k k' : AV} {K K' : Value} (ho : keyOk P kt k = true) (hk : RV ρ W k K) (hk' : RV ρ W k' K') (hq : keyEq k k' = some true) (n : Nat) : Instr.sameBits (n + 1) K' K = true := by
 unfold keyEq at hq
 split at hq
 · split at hq
   · rename_i hkk; subst hkk
     cases hk; cases hk'
     simp at hq; subst hq
     simp [Instr.sameBits]
   · cases hq
 · cases hk; cases hk'
   simp at hq; subst hq
   simp [Instr.sameBits]
 · cases hq
theorem sliceBounds_ok {is : Bool} {len cap a b c : Nat} {lo hi mx : Option AV} {Lo Hi Mx : Option Value} (hlo : match lo, Lo with | none, none => True | some v, some V => RV ρ W v V | _, _ => False)
 (hhi : match hi, Hi with | none, none => True | some v, some V => RV ρ W v V | _, _ => False) (hmx : match mx, Mx with | none, none => True | some v, some V => RV ρ W v V | _, _ => False)
 (h1 : boundA lo 0 = some (.ofNat a)) (h2 : boundA hi len = some (.ofNat b)) (h3 : boundA mx len = some (.ofNat c)) (hab : a ≤ b) (hbc : b ≤ c) (hcl : c ≤ len) (hle : len ≤ cap) (hm : (Mx.isNone || Hi.isSome) = true) (w : World) :
 ∃ m, b ≤ m ∧ (Instr.sliceBounds is len cap Lo Hi Mx).run P w = .ok (a, b, m) w := by
 have g1 := boundA_ok hlo h1
 have g2 := boundA_ok hhi h2
 have g3 := boundA_ok hmx h3
 have sb : ∀ (k : IntKind) (x y : Nat) (cd : BoundsCode), x ≤ y → (Instr.sliceBound (.int k (x : Int)) y cd).run P w = .ok x w := fun k x y cd hxy => by
  have hc : (0 : Int) ≤ (x : Int) ∧ (x : Int) ≤ (y : Int) := ⟨by omega, by omega⟩
  simp only [Instr.sliceBound, asIntOf, Sem.run_bind, Sem.run_pure, Result.andThen_ok]
  rw [if_pos hc]
  rfl
 rcases g3 with ⟨rfl, e3⟩ | ⟨k3, rfl⟩
 · rcases g2 with ⟨rfl, e2⟩ | ⟨k2, rfl⟩
   · have eb : b = len := by have := e2; simp at this; omega
     subst eb
     rcases g1 with ⟨rfl, e1⟩ | ⟨k1, rfl⟩
     · have ea : a = 0 := by have := e1; simp at this; omega
       subst ea
       exact ⟨cap, hle, by simp [Instr.sliceBounds]⟩
     · exact ⟨cap, hle, by simp [Instr.sliceBounds, sb k1 a b _ hab]⟩
   · rcases g1 with ⟨rfl, e1⟩ | ⟨k1, rfl⟩
     · have ea : a = 0 := by have := e1; simp at this; omega
       subst ea
       exact ⟨cap, by omega, by simp [Instr.sliceBounds, sb k2 b cap _ (by omega)]⟩
     · exact ⟨cap, by omega, by simp [Instr.sliceBounds, sb k2 b cap _ (by omega), sb k1 a b _ hab]⟩
 · rcases g2 with ⟨rfl, e2⟩ | ⟨k2, rfl⟩
   · simp at hm
   · rcases g1 with ⟨rfl, e1⟩ | ⟨k1, rfl⟩
     · have ea : a = 0 := by have := e1; simp at this; omega
       subst ea
       exact ⟨c, hbc, by simp [Instr.sliceBounds, sb k3 c cap _ (by omega), sb k2 b c _ hbc]⟩
     · exact ⟨c, hbc, by simp [Instr.sliceBounds, sb k3 c cap _ (by omega), sb k2 b c _ hbc, sb k1 a b _ hab]⟩
theorem evOpt_ok {e : Operand → Option AV} {a : Act} (he : ∀ x v, e x = some v → RV ρ W v (a.eval x)) : ∀ (x : Option Operand) (l : Option AV), evOpt e x = some l → match l, x.map a.eval with | none, none => True | some v, some V => RV ρ W v V | _, _ => False := fun x l hq => by
 cases x with
 | none => simp [evOpt] at hq; subst hq; trivial
 | some x =>
  simp only [evOpt, Option.map_eq_some_iff] at hq
  obtain ⟨v, hv, rfl⟩ := hq
  exact he _ _ hv
theorem append_ok (hR : Rel ρ W h w) {t : TypeId} {x y v : AV} {X Y : Value} (hx : RV ρ W x X) (hy : RV ρ W y Y) {s : Option (Nat × Ob)} {al : Option Ob} (ty : TypeId) {rd : Nat → Option Ob} {nm : Nat} (hrd : ∀ n x, rd n = some x → h[n]? = some (some x)) (hnm : Fresh h nm)
 (hq : appendA P rd nm t x y = some (true, v, s, al)) : ∃ V w' ρ', (Builtin.append_ #[t, t] ty #[X, Y]).run P w = .ok V w' ∧ Ext ρ ρ' ∧ RV ρ' W v V ∧ Rel ρ' W (effH h nm (effOf s al)) w' := by
 unfold appendA at hq
 split at hq
 case h_2 => cases hq
 rename_i e hu
 split at hq
 case h_2 => cases hq
 rename_i i z hi hz
 obtain ⟨Z, hZ, rZ⟩ := zero_of hz ρ W hi
 split at hq
 case h_2 => cases hq
 rename_i n1 s1 m new hnew
 split at hq
 case isFalse => cases hq
 rename_i hc
 obtain ⟨c0, c1, c2⟩ := hc
 obtain ⟨n2, m2, len2, b, cap, e2, L, fz, hgs, rfl, hlen, hp2, hm2, hb, hle, hRL⟩ := cellsOf_ok hR hy hrd hnew
 cases hgs
 have hzs : Z.cells.size = i.size := by
  have := rZ.cells.length
  have h2 : Z.cells.toList.length = i.size := by omega
  simpa using h2
 have hLl : (L.take new.length).length = m * i.size := by rw [List.length_take]; omega
 have hnews : ∀ j u, (L.take new.length)[j]? = some u → w.cell? ((⟨b, 0, none⟩ : Addr).add j) = some u := fun j u hj => by
  rw [List.getElem?_take] at hj
  split at hj
  · rw [Addr.add_mid]; simp [World.cell?, hb, hj]
  · cases hj
 have hone := hRL.one c2
 split at hq
 case h_3 => cases hq
 case h_1 =>
  cases hx
  split at hq
  case isFalse => cases hq
  rename_i hcc
  obtain ⟨d0, d1, d2⟩ := hcc
  simp at hq
  obtain ⟨rfl, rfl, rfl⟩ := hq
  have hr := run_append_nil (P := P) w t ty e i Z hu hi hZ ⟨b, 0, none⟩ m cap (L.take new.length) hLl hnews d0 (by unfold maxLen at d1; omega) (by omega)
  have hge := grownCap_ge w m 0 e
  have hcm := grownCap_le_maxLen w m 0 e d1
  obtain ⟨C, hC⟩ : ∃ C, C = (L.take new.length).toArray ++ Builtin.zeroCells Z.cells (grownCap w m 0 e - m) := ⟨_, rfl⟩
  have hsize : C.size = grownCap w m 0 e * i.size := by
   rw [hC]
   simp only [Array.size_append, List.size_toArray, hLl, size_zeroCells, hzs, ← Nat.add_mul]
   congr 1; omega
  have htake : C.toList.take new.length = L.take new.length := by
   rw [hC, Array.toList_append, show new.length = (L.take new.length).length by omega]
   simp
  rw [← hC] at hr
  clear hC
  have hml : m * i.size ≤ grownCap w m 0 e * i.size := Nat.mul_le_mul_right _ hge
  obtain ⟨k1, k2, k3⟩ := makeF_ok hR hnm (drew_grown w C e (0, 0)) (x := .own true e i.size new) (b := w.heap.size) (o := grownCap w m 0 e) (Nat.le_refl _) (by simp)
   (holds_own hR.bel.size hcm (heap_alloc_new w.drew _) hsize (fun _ => rfl) (fun x _ => by simp) (by omega) (by rw [htake]; exact hRL.ext (Names.with_ext (hR.free_none hnm))))
  exact ⟨_, _, _, hr, k1, .gs _ _ k3 hge, k2⟩
 case h_2 n s len =>
  cases hx with | gs s len hp hle0 =>
  rename_i g0 cap0
  split at hq
  case h_2 => cases hq
  rename_i e' s' l hl
  split at hq
  case isFalse => cases hq
  rename_i hcc
  obtain ⟨rfl, rfl, rfl, d1, d2, d3⟩ := hcc
  simp at hq
  obtain ⟨rfl, rfl, rfl⟩ := hq
  have hm0 := hrd _ _ hl
  obtain ⟨b', o', e1, e2'⟩ := hR.ob n _ hm0
  rw [hp] at e1; cases e1
  obtain ⟨hW0, hcap0, L0, fz0, h4, h5, h6, _, h7, h8⟩ := e2'
  have hfz := h6 rfl
  subst hfz
  have holds : ∀ j u, (L0.take l.length)[j]? = some u → w.cell? ((⟨g0, 0, none⟩ : Addr).add j) = some u := fun j u hj => by
   rw [List.getElem?_take] at hj
   split at hj
   · rw [Addr.add_mid]; simp [World.cell?, h4, hj]
   · cases hj
  have hl0 : (L0.take l.length).length = len * i.size := by rw [List.length_take]; omega
  obtain ⟨r1, r2⟩ := hR.kill hm0 rfl hp
  have hfresh : Fresh (h.set n (some Ob.dead)) nm := by
   rcases hnm with rfl | hf
   · exact .inl (by simp)
   · refine .inr ?_
     rw [List.getElem?_set]
     split
     · rename_i e; subst e; rw [hm0] at hf; cases hf
     · exact hf
  have hll : (l ++ new).length = (len + m) * i.size := by rw [List.length_append, d1, hlen, Nat.add_mul]
  by_cases hroom : len + m ≤ cap0
  · have hml : (len + m) * i.size ≤ cap0 * i.size := Nat.mul_le_mul_right _ hroom
    rw [Nat.add_mul] at hml
    have hr := run_append_room (P := P) w t ty e' i hu hi g0 len cap0 L0.toArray h4 ⟨b, 0, none⟩ m cap (L.take new.length) hLl hnews hone hroom (by simp only [List.size_toArray]; omega)
    obtain ⟨C, hC⟩ : ∃ C, C = (L0.toArray.toList.take (len * i.size) ++ L.take new.length ++ L0.toArray.toList.drop (len * i.size + (L.take new.length).length)).toArray := ⟨_, rfl⟩
    have hsize : C.size = cap0 * i.size := by
     rw [hC]
     simp only [List.size_toArray, List.length_append, List.length_take, List.length_drop]
     omega
    have htake : C.toList.take (l ++ new).length = L0.take l.length ++ L.take new.length := by
     rw [hC, hll, Nat.add_mul]
     simp only []
     rw [List.take_append_of_le_length (by simp only [List.length_append, List.length_take]; omega), List.take_of_length_le (by simp only [List.length_append, List.length_take]; omega), d1]
    rw [← hC] at hr
    clear hC
    have hg' : w.grownBy (w.setRow g0 C) (some g0) := ⟨rfl, rfl, rfl, by simp, fun k _ hk => setRow_other w g0 k _ (fun e => hk (by rw [e]))⟩
    have r3 := r1.grow (row := some g0) hg' (fun k e => by cases e; exact hW0) (fun m p y hm e hy => r2 m p y hm (Option.some.inj e).symm hy)
    have hext : Ext ρ (ρ.with nm g0 cap0) := Names.with_ext (r1.free_none hfresh)
    have r4 := r3.name hfresh (b := g0) (o := cap0) (x := .own true e' i.size (l ++ new)) (by simpa using (hR.dom n _ hp).2)
     (holds_own hW0 hcap0 (setRow_heap w g0 L0.toArray _ e' _ h4) hsize (fun _ => rfl) (fun x _ => by simp) (by rw [hll, hsize]; exact Nat.mul_le_mul_right _ hroom) (by rw [htake]; exact (h8.append hRL).ext hext)) fun m' p y hm' hpb hy => r2 m' p y hm' hpb hy
    refine ⟨_, _, _, hr, hext, .gs _ _ (by simp [Names.with]) hroom, ?_⟩
    exact r4
  · have hr := run_append_grow (P := P) w t ty e' i Z hu hi hZ ⟨g0, 0, none⟩ len cap0 (L0.take l.length) hl0 holds ⟨b, 0, none⟩ m cap (L.take new.length) hLl hnews (by omega) (by unfold maxLen at d2; omega) (growslice_fits (by omega) d3)
    have hge := grownCap_ge w (len + m) cap0 e'
    have hcm := grownCap_le_maxLen w (len + m) cap0 e' d2
    obtain ⟨C, hC⟩ : ∃ C, C = (L0.take l.length).toArray ++ (L.take new.length).toArray ++ Builtin.zeroCells Z.cells (grownCap w (len + m) cap0 e' - (len + m)) := ⟨_, rfl⟩
    have hsize : C.size = grownCap w (len + m) cap0 e' * i.size := by
     rw [hC]
     simp only [Array.size_append, List.size_toArray, hLl, hl0, size_zeroCells, hzs, ← Nat.add_mul]
     congr 1; omega
    have htake : C.toList.take (l ++ new).length = L0.take l.length ++ L.take new.length := by
     have hCl : C.toList = (L0.take l.length ++ L.take new.length) ++ (Builtin.zeroCells Z.cells (grownCap w (len + m) cap0 e' - (len + m))).toList := by rw [hC]; simp
     rw [hCl, hll, Nat.add_mul, List.take_append_of_le_length (by rw [List.length_append]; omega), List.take_of_length_le (by rw [List.length_append]; omega)]
    rw [← hC] at hr
    clear hC
    have hml : (len + m) * i.size ≤ grownCap w (len + m) cap0 e' * i.size := Nat.mul_le_mul_right _ hge
    have r3 := r1.grow (row := none) (drew_grown w C e' (0, 0)) (fun k e => by cases e) (fun m p y hm e hy => by cases e)
    have hext : Ext ρ (ρ.with nm w.heap.size (grownCap w (len + m) cap0 e')) := Names.with_ext (r1.free_none hfresh)
    have r4 := r3.name hfresh (b := w.heap.size) (o := grownCap w (len + m) cap0 e') (x := .own true e' i.size (l ++ new)) (by simp)
     (holds_own hR.bel.size hcm (heap_alloc_new w.drew _) hsize (fun _ => rfl) (fun x _ => by simp) (by omega) (by rw [htake]; exact (h8.append hRL).ext hext)) fun m' p y hm' hpb hy => by
      have := (hR.dom m' p hm').2; omega
    refine ⟨_, _, _, hr, hext, .gs _ _ (by simp [Names.with]) hge, ?_⟩
    exact r4
theorem upd_ok (hR : Rel ρ W h w) {t : TypeId} {kt et : TypeId} (hu : P.underlying t = some (.map kt et)) {n : Nat} {k y : AV} {X Kv Y : Value} (hxx : RV ρ W (.mp n) X) (hkk : RV ρ W k Kv) (hyy : RV ρ W y Y) (ho : keyOk P kt k = true) {l : List (AV × AV)} {c : Nat} (hm0 : h[n]? = some (some (.mapo l c))) :
 (∀ i u, findA k l 0 = some (some (i, u)) → ∃ w', (Instr.mapUpdate t X Kv Y).run P w = .ok () w' ∧ Rel ρ W (h.set n (some (.mapo (l.set i (k, y)) c))) w') ∧
 (findA k l 0 = some none → ∃ w', (Instr.mapUpdate t X Kv Y).run P w = .ok () w' ∧ Rel ρ W (h.set n (some (.mapo (l ++ [(k, y)]) (c + 1)))) w') := by
 cases hxx with | mp hp =>
 rename_i b o'
 obtain ⟨b', o2, e1, e2⟩ := hR.ob n _ hm0
 rw [hp] at e1; cases e1
 obtain ⟨hW0, L, h4, h5⟩ := e2
 obtain ⟨d, hd⟩ := keyOk_some ho
 have hget : (getObj b).run P w = .ok (.map L.toArray c) w := by simp [getObj, Sem.run, h4]
 have hck : (Instr.checkKey false 10000 kt Kv).run P w = .ok () w := checkKey_ok ho hkk false 9999 w
 have hbl : b < w.heap.size := (Array.getElem?_eq_some_iff.1 h4).1
 have hset : ∀ ob, (setObj b ob).run P w = .ok () { w with heap := w.heap.setIfInBounds b ob } := fun ob => by simp [setObj, Sem.run, h4]
 have put : ∀ (es : List MapEntry) (cl : Nat) (l' : List (AV × AV)), RE ρ W l' es → Rel ρ W (h.set n (some (.mapo l' cl))) { w with heap := w.heap.setIfInBounds b (.map es.toArray cl) } := fun es cl l' hre =>
  hR.put hm0 rfl hp (fun k hk => by simp [Array.getElem?_setIfInBounds, Ne.symm hk]) (by simp) rfl rfl rfl ⟨hW0, es, by simp [hbl], hre⟩
 constructor
 · intro i u hf
   obtain ⟨R, g1, g2⟩ := findA_ok hkk ho hd h5 0 _ hf
   cases R with
   | none => exact g2.elim
   | some q =>
    obtain ⟨j', V2⟩ := q
    obtain ⟨rfl, _, ⟨e, h6, h7, k', h8, h9⟩, h10⟩ := g2
    have hfk : (Instr.findKey kt Kv L).run P w = .ok (some (i, V2)) w := by simp [Instr.findKey, run_underlying hd, g1]
    have hsb := sameBits_key (P := P) ho hkk h8 h9 9999
    have hkt : (Instr.keyThatStays (((L.toArray[i]?).map (·.key)).getD Kv) Kv).run P w = .ok Kv w := by
     have : (((L.toArray[i]?).map (·.key)).getD Kv) = e.key := by simp at h6; simp [h6]
     rw [this]
     unfold Instr.keyThatStays
     rw [if_pos hsb]; rfl
    refine ⟨{ w with heap := w.heap.setIfInBounds b (.map (L.modify i fun (e : MapEntry) => { e with key := Kv, val := Y }).toArray c) }, ?_, put _ _ _ (RE.modify hkk hyy i h5)⟩
    have hmod : L.toArray.modify i (fun (e : MapEntry) => { e with key := Kv, val := Y }) = (L.modify i fun (e : MapEntry) => { e with key := Kv, val := Y }).toArray := by simp
    simp only [Instr.mapUpdate, Sem.run_bind, run_underlying hu, Result.andThen_ok, hget, hck, List.toList_toArray, hfk, hkt, hmod, hset]
 · intro hf
   obtain ⟨R, g1, g2⟩ := findA_ok hkk ho hd h5 0 _ hf
   cases R with
   | some q => obtain ⟨_, _⟩ := q; exact g2.elim
   | none =>
    have hfk : (Instr.findKey kt Kv L).run P w = .ok none w := by simp [Instr.findKey, run_underlying hd, g1]
    refine ⟨{ w with heap := w.heap.setIfInBounds b (.map (L ++ [({ key := Kv, val := Y, born := c } : MapEntry)]).toArray (c + 1)) }, ?_, put _ _ _ (RE.snoc (e := { key := Kv, val := Y, born := c }) hkk hyy h5)⟩
    have hpush : L.toArray.push ({ key := Kv, val := Y, born := c } : MapEntry) = (L ++ [({ key := Kv, val := Y, born := c } : MapEntry)]).toArray := by simp
    simp only [Instr.mapUpdate, Sem.run_bind, run_underlying hu, Result.andThen_ok, hget, hck, List.toList_toArray, hfk, hpush, hset]
theorem evOpt_none {e : Operand → Option AV} {x : Option Operand} (h : evOpt e x = some none) : x = none := by
 cases x with
 | none => rfl
 | some x => simp [evOpt] at h
theorem flat_at {l : List AV} {L : List Value} (hl : RL ρ W l L) : l.all (AV.flat 4) = true → ∀ (i : Nat) (v : AV) (V : Value), l[i]? = some v → L[i]? = some V → RV noNames W v V := by
 induction l generalizing L with
 | nil => intro _ i v V hv; simp at hv
 | cons x l ih =>
  intro ha i v V hv hV
  cases hl with | cons g1 g2 =>
  simp only [List.all_cons, Bool.and_eq_true] at ha
  cases i with
  | zero => simp at hv hV; subst hv; subst hV; exact g1.flat_move 4 ha.1
  | succ i => exact ih g2 ha.2 i v V (by simpa using hv) (by simpa using hV)
theorem upTo_at (n a k : Nat) : (upTo a n)[k]? = if k < n then some (a + k) else none := upTo_get n a k
theorem intsOf_at : ∀ {l : List AV} {ns : List Int}, intsOf l = some ns → l = ns.map (AV.int .u8)
 | [], ns, h => by simp [intsOf] at h; subst h; rfl
 | x :: r, ns, h => by
  unfold intsOf at h
  split at h
  · rename_i he; cases he
  · rename_i n r' he
    injection he with h1 h2
    subst h1; subst h2
    split at h
    · rename_i l hl
      simp at h; subst h
      rw [intsOf_at hl]; rfl
    · cases h
  · cases h
theorem xop_ok (hR : Rel ρ W h w) {e : Operand → Option AV} {a : Act} (he : ∀ x v, e x = some v → RV ρ W v (a.eval x)) {o : Oper} {v : AV} {s : Option (Nat × Ob)} {al : Option Ob}
 (hq : xop P o e (rdFlat h) h.length = some (true, v, s, al)) {K : Act → World → Prop} {Q : Exit → Act → World → Prop}
 (hK : ∀ ρ' w' V, Ext ρ ρ' → RV ρ' W v V → Rel ρ' W (xheap h s al) w' → K (a.put o.dst V) w') : o.wp P a w K Q := by
 unfold xop at hq
 split at hq
 case h_1 t x lo hi mx hop =>
  split at hq
  case h_3 => cases hq
  case h_2 =>
   rename_i cnt el n lv hv hu hx hlo hhi hmx
   split at hq
   case h_2 => cases hq
   rename_i a0 b0 cs s1 h1 h2 hrd hsz
   split at hq
   case isFalse => cases hq
   rename_i hc
   obtain ⟨d1, d2, d3, d6⟩ := hc
   simp at hq
   obtain ⟨rfl, rfl, rfl⟩ := hq
   have hxx := he _ _ hx
   generalize hX : a.eval x = X at hxx
   cases hxx with | ptr _ _ _ hp =>
   rename_i b o'
   have hmn : mx = none := evOpt_none hmx
   subst hmn
   have hm0 := vG hrd
   obtain ⟨b', o2, e1, e2⟩ := hR.ob n _ hm0
   rw [hp] at e1; cases e1
   obtain ⟨hW0, ho0, L, ty, h4, h5⟩ := e2
   subst ho0
   have hLl : L.length = cs.length := h5.length.symm
   obtain ⟨m, hbm, hb⟩ := sliceBounds_ok (is := false) (P := P) (mx := none) (Mx := none) (len := cnt) (cap := cnt) (c := cnt) (Lo := lo.map a.eval) (Hi := hi.map a.eval) (evOpt_ok he _ _ hlo) (evOpt_ok he _ _ hhi) trivial h1 h2 (by simp [boundA]) d2 d3 (Nat.le_refl _) (Nat.le_refl _) rfl w
   refine qZ (w' := w) (V := .slice (some ⟨b, if m = a0 then 0 else a0 * s1, none⟩) (b0 - a0) (m - a0)) ?_ ?_
   · simp only [execOp, hop, hX, Instr.sliceAt, Instr.sureAddr, Option.map_none, Sem.run_bind, run_underlying hu, Result.andThen_ok, hb, run_size hsz, Sem.run_pure]
     split
     · simp
     · simp only [Addr.add_mid]; simp
   · obtain ⟨r1, r2⟩ := hR.kill hm0 rfl hp
     have hfresh : Fresh (h.set n (some Ob.dead)) (h.set n (some Ob.dead)).length := .inl rfl
     have hext : Ext ρ (ρ.with (h.set n (some Ob.dead)).length b (a0 * s1)) := Names.with_ext (r1.free_none hfresh)
     have inn : ∀ i j, i < b0 - a0 → j < s1 → (a0 + i) * s1 + j < cnt * s1 := fun i j hi hj => by
      have : (a0 + i + 1) * s1 ≤ cnt * s1 := Nat.mul_le_mul_right s1 (by omega)
      rw [Nat.add_mul] at this
      omega
     have r4 := r1.name hfresh (b := b) (o := a0 * s1) (x := .row s1 (b0 - a0) fun i j => cs.getD ((a0 + i) * s1 + j) .undef) (hR.dom n _ hp).2 (by
      refine ⟨fun i j => L.getD ((a0 + i) * s1 + j) undef, fun i j hi hj => ?_, fun i j hi hj => ?_⟩
      · have hlt := inn i j hi hj
        have hlt2 : (a0 + i) * s1 + j < L.length := by omega
        simp only [List.getD, List.getElem?_eq_getElem hlt2, Option.getD_some]
        rw [show a0 * s1 + (i * s1 + j) = (a0 + i) * s1 + j by rw [Nat.add_mul]; omega]
        simp [World.cell?, h4, hlt2]
      · have hlt := inn i j hi hj
        have g1 := List.getElem?_eq_getElem (l := cs) (i := (a0 + i) * s1 + j) (by omega)
        have g2 := List.getElem?_eq_getElem (l := L) (i := (a0 + i) * s1 + j) (by omega)
        simp only [List.getD, g1, g2, Option.getD_some]
        exact flat_at h5 d6 _ _ _ g1 g2) fun m' p y hm' hpb hy => r2 m' p y hm' hpb hy
     refine hK _ w _ hext (.sl (o := a0 * s1) 0 s1 (b0 - a0) (m - a0) _ (by simp [Names.with]) (by omega) ?_) (by simpa [effH, xheap] using r4)
     by_cases hma : m = a0
     · exact .inl (by omega)
     · rw [if_neg hma]; exact .inr (by omega)
  rename_i el n s' len lv hv mv hu hx hlo hhi hmx
  split at hq
  case h_2 => cases hq
  rename_i a0 b0 c0 z e0 s1 cs s2 h1 h2 h3 hrd hsz
  split at hq
  case isFalse => cases hq
  rename_i hc
  obtain ⟨rfl, rfl, d1, d2, d3, d4, d5, d6⟩ := hc
  simp at hq
  obtain ⟨rfl, rfl, rfl⟩ := hq
  have hxx := he _ _ hx
  generalize hX : a.eval x = X at hxx
  cases hxx with | gs s len hp hle =>
  rename_i b cap
  have hm0 := vG hrd
  obtain ⟨b', o', e1, e2⟩ := hR.ob n _ hm0
  rw [hp] at e1; cases e1
  obtain ⟨hW0, hcap0, L0, fz0, h4, h5, _, _, h7, h8⟩ := e2
  obtain ⟨m, hbm, hb⟩ := sliceBounds_ok (is := true) (P := P) (Lo := lo.map a.eval) (Hi := hi.map a.eval) (Mx := mx.map a.eval) (evOpt_ok he _ _ hlo) (evOpt_ok he _ _ hhi) (evOpt_ok he _ _ hmx) h1 h2 h3 d2 d3 d4 hle (by simpa using d5) w
  refine qZ (w' := w) (V := .slice (some ⟨b, if m = a0 then 0 else a0 * s1, none⟩) (b0 - a0) (m - a0)) ?_ ?_
  · simp only [execOp, hop, hX, Instr.sliceAt, Instr.slice, Sem.run_bind, run_underlying hu, Result.andThen_ok, hb, run_size hsz, Sem.run_pure]
    split
    · rfl
    · simp only [Option.map_some, Addr.add_mid, Nat.zero_add]
  · obtain ⟨r1, r2⟩ := hR.kill hm0 rfl hp
    have hfresh : Fresh (h.set n (some Ob.dead)) (h.set n (some Ob.dead)).length := .inl rfl
    have hext : Ext ρ (ρ.with (h.set n (some Ob.dead)).length b (a0 * s1)) := Names.with_ext (r1.free_none hfresh)
    have hlen : (L0.take cs.length).length = len * s1 := by rw [List.length_take]; omega
    have inn : ∀ i j, i < b0 - a0 → j < s1 → (a0 + i) * s1 + j < len * s1 := fun i j hi hj => by
     have : (a0 + i + 1) * s1 ≤ len * s1 := Nat.mul_le_mul_right s1 (by omega)
     rw [Nat.add_mul] at this
     omega
    have hflat : ∀ {l : List AV} {L : List Value}, RL ρ W l L → l.all (AV.flat 4) = true → ∀ (i : Nat) (v : AV) (V : Value), l[i]? = some v → L[i]? = some V → RV noNames W v V := by
     intro l L hl
     induction l generalizing L with
     | nil => intro _ i v V hv; simp at hv
     | cons x l ih =>
      intro ha i v V hv hV
      cases hl with | cons g1 g2 =>
      simp only [List.all_cons, Bool.and_eq_true] at ha
      cases i with
      | zero => simp at hv hV; subst hv; subst hV; exact g1.flat_move 4 ha.1
      | succ i => exact ih g2 ha.2 i v V (by simpa using hv) (by simpa using hV)
    have r4 := r1.name hfresh (b := b) (o := a0 * s1) (x := .row s1 (b0 - a0) fun i j => cs.getD ((a0 + i) * s1 + j) .undef) (hR.dom n _ hp).2 (by
     refine ⟨fun i j => (L0.take cs.length).getD ((a0 + i) * s1 + j) undef, fun i j hi hj => ?_, fun i j hi hj => ?_⟩
     · have hlt := inn i j hi hj
       have hlt2 : (a0 + i) * s1 + j < L0.length := by omega
       have hg : (L0.take cs.length)[(a0 + i) * s1 + j]? = some L0[(a0 + i) * s1 + j] := by rw [List.getElem?_take, if_pos (by omega)]; simp [hlt2]
       simp only [List.getD, hg, Option.getD_some]
       rw [show a0 * s1 + (i * s1 + j) = (a0 + i) * s1 + j by rw [Nat.add_mul]; omega]
       simp [World.cell?, h4, hlt2]
     · have hlt := inn i j hi hj
       have g1 := List.getElem?_eq_getElem (l := cs) (i := (a0 + i) * s1 + j) (by omega)
       have g2 := List.getElem?_eq_getElem (l := L0.take cs.length) (i := (a0 + i) * s1 + j) (by omega)
       simp only [List.getD, g1, g2, Option.getD_some]
       exact hflat h8 d6 _ _ _ g1 g2) fun m' p y hm' hpb hy => r2 m' p y hm' hpb hy
    refine hK _ w _ hext (.sl (o := a0 * s1) 0 s1 (b0 - a0) (m - a0) _ (by simp [Names.with]) (by omega) ?_) (by simpa [effH, xheap] using r4)
    by_cases hma : m = a0
    · exact .inl (by omega)
    · rw [if_neg hma]; exact .inr (by omega)
 case h_2 src dst x hop =>
  split at hq
  case h_1 el s' hs hd hx =>
   split at hq
   case h_2 => cases hq
   rename_i he8
   split at hq
   case isFalse => cases hq
   rename_i hsz
   simp at hq
   obtain ⟨rfl, rfl, rfl⟩ := hq
   have hxx := he _ _ hx
   generalize hX : a.eval x = X at hxx
   cases hxx
   have hr := run_bytes_of_string (P := P) w src dst el s' hs hd he8
   have hge := grownCap_ge w s'.size 0 el
   have hcm := grownCap_le_maxLen w s'.size 0 el hsz
   obtain ⟨C, hC⟩ : ∃ C, C = bytesRow s' (grownCap w s'.size 0 el) := ⟨_, rfl⟩
   have hsd : s'.data.size = s'.size := rfl
   have hCs : C.size = grownCap w s'.size 0 el * 1 := by
    rw [hC]
    simp only [bytesRow, Array.size_append, Array.size_map, Array.size_replicate, hsd]
    omega
   have hCt : C.toList.take s'.size = s'.data.toList.map fun b => Value.int .u8 b.toNat := by
    rw [hC]
    simp only [bytesRow, Array.toList_append, Array.toList_map]
    rw [List.take_append_of_le_length (by rw [List.length_map, Array.length_toList, hsd]; exact Nat.le_refl _), List.take_of_length_le (by rw [List.length_map, Array.length_toList, hsd]; exact Nat.le_refl _)]
   rw [← hC] at hr
   refine qZ (w' := w.drew.alloc (.cells C el (C.size, C.size + 1))) (V := .slice (some ⟨w.heap.size, 0, none⟩) s'.size (grownCap w s'.size 0 el)) (by simp only [execOp, hop, hX, Sem.run_bind, hr, Result.andThen_ok, Sem.run_pure]) ?_
   have hll : (s'.data.toList.map fun b => AV.int .u8 b.toNat).length = s'.size := by rw [List.length_map, Array.length_toList, hsd]
   obtain ⟨k1, k2, k3⟩ := make_ok hR (drew_grown w C el (C.size, C.size + 1)) (x := .own false el 1 (s'.data.toList.map fun b => .int .u8 b.toNat)) (b := w.heap.size) (o := grownCap w s'.size 0 el) (Nat.le_refl _) (by simp)
    (holds_own hR.bel.size hcm (heap_alloc_new w.drew _) hCs (fun e => by cases e) (fun x hx => by simp; omega) (by rw [hll]; omega) (by
     rw [hll, hCt]
     exact RL.map _ _ _ fun b _ => .int _ _))
   exact hK _ _ _ k1 (.gs _ _ k3 hge) k2
  case h_2 el y hs hd hy =>
   split at hq
   case h_3 => cases hq
   case h_2 =>
    rename_i he8 hno
    split at hq
    case h_2 => cases hq
    rename_i l hl
    split at hq
    case h_2 => cases hq
    rename_i ns hns
    simp at hq
    obtain ⟨rfl, rfl, rfl⟩ := hq
    have hxx := he _ _ hy
    generalize hX : a.eval x = X at hxx
    unfold slBytes at hl
    split at hl
    case h_2 => cases hl
    rename_i n i len
    split at hl
    case h_2 => cases hl
    rename_i m c hrd
    split at hl
    case isFalse => cases hl
    rename_i him
    simp only [Option.some.injEq] at hl
    have hints := intsOf_at hns
    rw [← hl] at hints
    have hnl : ns.length = len := by
     have := congrArg List.length hints
     rw [List.length_map, List.length_map] at this
     rw [← this]
     have e1 := upTo_at len 0 len
     have e2 := fun k (h : k < len) => upTo_at len 0 k
     rw [if_neg (Nat.lt_irrefl _), List.getElem?_eq_none_iff] at e1
     rcases Nat.lt_or_ge (upTo 0 len).length len with h | h
     · have := e2 _ h; rw [if_pos h, List.getElem?_eq_none (Nat.le_refl _)] at this; cases this
     · omega
    cases hxx with | sl _ _ _ cap off hp hle hoff =>
    rename_i b o'
    have hm0 := vG hrd
    obtain ⟨b', o2, e1, V, h4, h5⟩ := hR.ob n _ hm0
    rw [hp] at e1; cases e1
    have hload : (loadCells ⟨b, off, none⟩ len).run P w = .ok (ns.map (Value.int .u8)).toArray w := by
     have := run_loadCells_list (P := P) w ⟨b, off, none⟩ (ns.map (Value.int .u8)) fun j v hj => by
      rw [List.getElem?_map] at hj
      have hjl : j < len := by
       rcases Nat.lt_or_ge j len with h | h
       · exact h
       · rw [List.getElem?_eq_none (by omega)] at hj; simp at hj
      have ho : off = o' + i := by rcases hoff with h | h <;> omega
      have hc := congrArg (fun l => l[j]?) hints
      simp only [List.getElem?_map, upTo_at, if_pos hjl, Option.map_some, Nat.zero_add] at hc
      rw [List.getElem?_eq_getElem (by omega)] at hc hj
      simp only [Option.map_some, Option.some.injEq] at hc hj
      have g := h5 (i + j) 0 (by omega) (by omega)
      rw [hc] at g
      have g4 := h4 (i + j) 0 (by omega) (by omega)
      generalize V (i + j) 0 = VV at g g4
      cases g
      rw [Addr.add_mid, ho]
      rw [show o' + i + j = o' + ((i + j) * 1 + 0) by omega, g4, ← hj]
     simpa [hnl] using this
    have hr := run_bytesToString (P := P) w ⟨b, off, none⟩ len cap ns hload
    rw [← run_convert_bytes_string w src dst el (some ⟨b, off, none⟩) len cap hs he8 hd, foldl_push_ints] at hr
    have he0 : ByteArray.empty.data = #[] := rfl
    rw [he0] at hr
    simp only [Array.empty_append] at hr
    refine qZ (w' := w) (V := .string ⟨(ns.map fun n => UInt8.ofNat n.toNat).toArray⟩) (by simp only [execOp, hop, hX, Sem.run_bind, hr, Result.andThen_ok, Sem.run_pure]) ?_
    exact hK ρ w _ (Ext.refl ρ) (.str _) hR
   rename_i l he8 hl
   split at hq
   case h_2 => cases hq
   rename_i ns hns
   simp at hq
   obtain ⟨rfl, rfl, rfl⟩ := hq
   have hxx := he _ _ hy
   generalize hX : a.eval x = X at hxx
   obtain ⟨n, m, len, b, cap, e2, L, fz, rfl, rfl, hlen, hp2, hm2, hb, hle, hRL⟩ := cellsOf_ok hR hxx (fun _ _ => vG) hl
   have hL := intsOf_ok hRL hns
   have hnl : ns.length = len := by
    have := congrArg List.length hL
    simp at this
    omega
   have hload : (loadCells ⟨b, 0, none⟩ len).run P w = .ok (ns.map (Value.int .u8)).toArray w := by
    have := run_loadCells_list (P := P) w ⟨b, 0, none⟩ (ns.map (Value.int .u8)) fun j v hj => by
     rw [← hL, List.getElem?_take] at hj
     split at hj
     · rw [Addr.add_mid]; simp [World.cell?, hb, hj]
     · cases hj
    simpa [hnl] using this
   have hr := run_bytesToString (P := P) w ⟨b, 0, none⟩ len cap ns hload
   rw [← run_convert_bytes_string w src dst el (some ⟨b, 0, none⟩) len cap hs he8 hd, foldl_push_ints] at hr
   have he0 : ByteArray.empty.data = #[] := rfl
   rw [he0] at hr
   simp only [Array.empty_append] at hr
   refine qZ (w' := w) (V := .string ⟨(ns.map fun n => UInt8.ofNat n.toNat).toArray⟩) (by simp only [execOp, hop, hX, Sem.run_bind, hr, Result.andThen_ok, Sem.run_pure]) ?_
   exact hK ρ w _ (Ext.refl ρ) (.str _) hR
  case h_3 => cases hq
 case h_3 t x ix y hop =>
  split at hq
  case h_2 => cases hq
  rename_i kt et n k u hu hx hk hy
  split at hq
  case h_2 => cases hq
  rename_i l c ho hrd
  obtain ⟨q1, q2⟩ := upd_ok hR hu (he _ _ hx) (he _ _ hk) (he _ _ hy) ho (vG hrd)
  split at hq
  · rename_i i u2 hf
    simp at hq
    obtain ⟨rfl, rfl, rfl⟩ := hq
    obtain ⟨w', g1, g2⟩ := q1 i u2 hf
    exact wp_skipped (w' := w') (by simp only [execOp, hop, Sem.run_bind, g1, Result.andThen_ok, Sem.run_pure]) (hK ρ w' _ (Ext.refl ρ) .undef (by simpa [xheap] using g2))
  · rename_i hf
    simp at hq
    obtain ⟨rfl, rfl, rfl⟩ := hq
    obtain ⟨w', g1, g2⟩ := q2 hf
    exact wp_skipped (w' := w') (by simp only [execOp, hop, Sem.run_bind, g1, Result.andThen_ok, Sem.run_pure]) (hK ρ w' _ (Ext.refl ρ) .undef (by simpa [xheap] using g2))
  · cases hq
 case h_4 t x ix y hop =>
  split at hq
  case h_2 => cases hq
  rename_i kt et n k u hu hx hk hy
  split at hq
  case h_2 => cases hq
  rename_i l c ho hrd
  obtain ⟨q1, q2⟩ := upd_ok hR hu (he _ _ hx) (he _ _ hk) (he _ _ hy) ho (vG hrd)
  split at hq
  · rename_i i u2 hf
    simp at hq
    obtain ⟨rfl, rfl, rfl⟩ := hq
    obtain ⟨w', g1, g2⟩ := q1 i u2 hf
    exact wp_skipped (w' := w') (by simp only [execOp, hop, Sem.run_bind, g1, Result.andThen_ok, Sem.run_pure]) (hK ρ w' _ (Ext.refl ρ) .undef (by simpa [xheap] using g2))
  · rename_i hf
    simp at hq
    obtain ⟨rfl, rfl, rfl⟩ := hq
    obtain ⟨w', g1, g2⟩ := q2 hf
    exact wp_skipped (w' := w') (by simp only [execOp, hop, Sem.run_bind, g1, Result.andThen_ok, Sem.run_pure]) (hK ρ w' _ (Ext.refl ρ) .undef (by simpa [xheap] using g2))
  · cases hq
 case h_5 t x hop =>
  split at hq
  case h_2 => cases hq
  rename_i s' hu hx
  simp at hq
  obtain ⟨rfl, rfl, rfl⟩ := hq
  have hxx := he _ _ hx
  generalize hX : a.eval x = X at hxx
  cases hxx
  refine qZ (w' := w.alloc (.stringIter s' 0)) (V := .pointer (some ⟨w.heap.size, 0, none⟩)) (by simp only [execOp, hop, hX, Instr.range, Sem.run_bind, run_underlying hu, Result.andThen_ok, Sem.run_pure]; rfl) ?_
  obtain ⟨k1, k2, k3⟩ := make_ok hR (w' := w.alloc (.stringIter s' 0)) (World.grownBy_alloc w _ none) (x := .siter s' 0) (b := w.heap.size) (o := 0) (Nat.le_refl _) (by simp) ⟨hR.bel.size, rfl, heap_alloc_new w _⟩
  have := RV.ptr (ρ := ρ.with h.length w.heap.size 0) (W := W) 0 0 0 k3
  exact hK _ _ _ k1 (by simpa using this) k2
 case h_6 x hop =>
  split at hq
  case h_2 => cases hq
  rename_i n hx
  split at hq
  case h_2 => cases hq
  rename_i s' pos hrd
  have hxx := he _ _ hx
  generalize hX : a.eval x = X at hxx
  cases hxx with | ptr i s j hp =>
  rename_i b o'
  have hm0 := vG hrd
  obtain ⟨b', o2, e1, e2⟩ := hR.ob n _ hm0
  rw [hp] at e1; cases e1
  obtain ⟨hW0, ho0, h4⟩ := e2
  subst ho0
  have hbl : b < w.heap.size := (Array.getElem?_eq_some_iff.1 h4).1
  have hget : (getObj b).run P w = .ok (.stringIter s' pos) w := by simp [getObj, Sem.run, h4]
  have hset : ∀ ob, (setObj b ob).run P w = .ok () { w with heap := w.heap.setIfInBounds b ob } := fun ob => by simp [setObj, Sem.run, h4]
  have hadd : (0 : Nat) + (0 * 0 + 0) = 0 := rfl
  split at hq
  · rename_i hlt
    simp at hq
    obtain ⟨rfl, rfl, rfl⟩ := hq
    refine qZ (w' := { w with heap := w.heap.setIfInBounds b (.stringIter s' (pos + (Utf8.decode s' pos).2)) }) (V := .tuple #[.bool true, .int .i64 pos, .int .i32 (Utf8.decode s' pos).1]) ?_ ?_
    · simp only [execOp, hop, hX, hadd, Instr.next, Sem.run_bind, hget, Result.andThen_ok, if_pos hlt, hset, Sem.run_pure]
      rfl
    · refine hK ρ _ _ (Ext.refl ρ) (.tup (.cons (.bool _) (.cons (.int _ _) (.cons (.int _ _) .nil)))) ?_
      have := hR.put hm0 rfl hp (w' := { w with heap := w.heap.setIfInBounds b (.stringIter s' (pos + (Utf8.decode s' pos).2)) }) (x' := .siter s' (pos + (Utf8.decode s' pos).2)) (fun k hk => by simp [Array.getElem?_setIfInBounds, Ne.symm hk]) (by simp) rfl rfl rfl ⟨hW0, rfl, by simp [hbl]⟩
      simpa [xheap] using this
  · rename_i hlt
    simp at hq
    obtain ⟨rfl, rfl, rfl⟩ := hq
    refine qZ (w' := w) (V := .tuple #[.bool false]) ?_ (hK ρ w _ (Ext.refl ρ) (.tup (.cons (.bool _) .nil)) hR)
    simp only [execOp, hop, hX, hadd, Instr.next, Sem.run_bind, hget, Result.andThen_ok, if_neg hlt, Sem.run_pure]
 case h_7 c hop =>
  split at hq
  case h_2 => cases hq
  rename_i hcal
  split at hq
  case h_2 => cases hq
  rename_i x y t t' hargs hts
  split at hq
  case isFalse => cases hq
  rename_i htt
  subst htt
  have hL := evAll_ok he _ _ hargs
  have e0 : c.args.map a.eval = (c.args.toList.map a.eval).toArray := by apply Array.ext'; simp
  have e1 : c.argTypes = #[t, t] := by apply Array.ext'; simpa using hts
  generalize hG : c.args.toList.map a.eval = L at hL
  cases hL with | cons hx hL2 =>
  cases hL2 with | cons hy hL3 =>
  cases hL3
  obtain ⟨V, w', ρ', g1, g2, g3, g4⟩ := append_ok hR hx hy o.type (fun _ _ => vG) (.inl rfl) hq
  refine qZ (w' := w') (V := V) ?_ (hK ρ' w' V g2 g3 (by rw [xheap_eff]; exact g4))
  simp only [execOp, hop, resolve, hcal, Sem.run_bind, Sem.run_pure, Result.andThen_ok, invoke, builtin, e0, hG, e1]
  rw [g1]
  rfl
 case h_8 => cases hq
theorem opw_ok {T : Tab} (hT : TabOk P T) (hR : Rel ρ W h w) {rd : Nat → Option Ob} {nm : Nat} (hrd : ∀ n x, rd n = some x → h[n]? = some (some x)) (hnm : Fresh h nm) {e : Operand → Option AV} {a : Act}
 (he : ∀ x v, e x = some v → RV ρ W v (a.eval x)) {o : Oper} {v : AV} {f : Eff} (hv : opw P T rd nm e o = some (true, v, f)) {K : Act → World → Prop} {Q : Exit → Act → World → Prop}
 (hK : ∀ ρ' w' V, Ext ρ ρ' → RV ρ' W v V → Rel ρ' W (effH h nm f) w' → K (a.put o.dst V) w') : o.wp P a w K Q := by
 unfold opw at hv
 split at hv
 · rename_i r hr
   simp at hv; subst hv
   exact opv_ok hT hR hrd hnm he hr hK
 split at hv
 case h_2 => cases hv
 rename_i hh
 split at hv
 case h_2 => cases hv
 rename_i p v' s al hq
 simp at hv
 obtain ⟨rfl, rfl, rfl⟩ := hv
 unfold xop at hq
 split at hq
 case h_3 t x ix y hop =>
  split at hq
  case h_2 => cases hq
  rename_i kt et n k u hu hx hk hy
  split at hq
  case h_2 => cases hq
  rename_i l c ho hl
  obtain ⟨q1, q2⟩ := upd_ok hR hu (he _ _ hx) (he _ _ hk) (he _ _ hy) ho (hrd _ _ hl)
  split at hq
  · rename_i i u2 hf
    simp at hq
    obtain ⟨rfl, rfl, rfl⟩ := hq
    obtain ⟨w', g1, g2⟩ := q1 i u2 hf
    exact wp_skipped (w' := w') (by simp only [execOp, hop, Sem.run_bind, g1, Result.andThen_ok, Sem.run_pure]) (hK ρ w' _ (Ext.refl ρ) .undef g2)
  · rename_i hf
    simp at hq
    obtain ⟨rfl, rfl, rfl⟩ := hq
    obtain ⟨w', g1, g2⟩ := q2 hf
    exact wp_skipped (w' := w') (by simp only [execOp, hop, Sem.run_bind, g1, Result.andThen_ok, Sem.run_pure]) (hK ρ w' _ (Ext.refl ρ) .undef g2)
  · cases hq
 case h_4 t x ix y hop =>
  split at hq
  case h_2 => cases hq
  rename_i kt et n k u hu hx hk hy
  split at hq
  case h_2 => cases hq
  rename_i l c ho hl
  obtain ⟨q1, q2⟩ := upd_ok hR hu (he _ _ hx) (he _ _ hk) (he _ _ hy) ho (hrd _ _ hl)
  split at hq
  · rename_i i u2 hf
    simp at hq
    obtain ⟨rfl, rfl, rfl⟩ := hq
    obtain ⟨w', g1, g2⟩ := q1 i u2 hf
    exact wp_skipped (w' := w') (by simp only [execOp, hop, Sem.run_bind, g1, Result.andThen_ok, Sem.run_pure]) (hK ρ w' _ (Ext.refl ρ) .undef g2)
  · rename_i hf
    simp at hq
    obtain ⟨rfl, rfl, rfl⟩ := hq
    obtain ⟨w', g1, g2⟩ := q2 hf
    exact wp_skipped (w' := w') (by simp only [execOp, hop, Sem.run_bind, g1, Result.andThen_ok, Sem.run_pure]) (hK ρ w' _ (Ext.refl ρ) .undef g2)
  · cases hq
 case h_7 c hop =>
  split at hq
  case h_2 => cases hq
  rename_i hcal
  split at hq
  case h_2 => cases hq
  rename_i x y t t' hargs hts
  split at hq
  case isFalse => cases hq
  rename_i htt
  subst htt
  have hL := evAll_ok he _ _ hargs
  have e0 : c.args.map a.eval = (c.args.toList.map a.eval).toArray := by apply Array.ext'; simp
  have e1 : c.argTypes = #[t, t] := by apply Array.ext'; simpa using hts
  generalize hG : c.args.toList.map a.eval = L at hL
  cases hL with | cons hx hL2 =>
  cases hL2 with | cons hy hL3 =>
  cases hL3
  obtain ⟨V, w', ρ', g1, g2, g3, g4⟩ := append_ok hR hx hy o.type hrd hnm hq
  refine qZ (w' := w') (V := V) ?_ (hK ρ' w' V g2 g3 g4)
  simp only [execOp, hop, resolve, hcal, Sem.run_bind, Sem.run_pure, Result.andThen_ok, invoke, builtin, e0, hG, e1]
  rw [g1]
  rfl
 all_goals (rename_i hop; simp [hop, heavy] at hh)
variable {P : Program} {ρ : Names} {W w : World} {T : Tab} {ops : Array Oper}
theorem qY {p : Prop} (h : PA.no) : p := False.elim h
abbrev FR (r : Option Nat) : Fence := { Fence.wide with round := r }
theorem fencedFR (P : Program) (r : Option Nat) (m : Machine) : m.fenced P (FR r) := fenced_wide P m
theorem roomFR (r : Option Nat) (n : Nat) : (FR r).room n := room_wide n
theorem callsFR {r : Option Nat} {n : Nat} {P : Program} {f : FuncId} {args : Array Value} {w : World} {R : Ending → World → Prop} (h : Calls P f args w R) : CallsIn (FR r) n P f args w R :=
 (callsIn_wide.2 h : CallsIn Fence.wide n P f args w R)
theorem rowsFR {r : Option Nat} {n : Nat} {P : Program} {row : String} {args : Array Value} {w : World} {R : Value → World → Prop} (h : Rows P row args w R) : RowsIn (FR r) n P row args w R :=
 fun c cs _ => let ⟨v, w', q, s⟩ := h c cs; ⟨v, w', q, (StepsIn.of_steps s).mono fun m _ => fencedFR P r m⟩
theorem wpIn_of_wp {r : Option Nat} {n : Nat} {P : Program} {o : Oper} {a : Act} {w : World} {K : Act → World → Prop} {Q : Exit → Act → World → Prop} (hd : ∀ c, o.op ≠ .defer c) (h : o.wp P a w K Q) : o.wpIn (FR r) n P a w K Q := by
 unfold Oper.wp at h
 unfold Oper.wpIn
 refine ⟨fun _ _ => trivial, ?_⟩
 rw [Oper.semAt_eq _ _ _ hd]
 generalize (execOp a.eval o).run P w = res at h
 cases res with
 | ok x w' =>
  cases x <;> simp only [Oper.upon, Oper.uponIn] at h ⊢ <;> first
   | exact h
   | exact ⟨fun e => by simp [Fence.wide] at e, callsFR h⟩
   | exact ⟨fun e => by simp [Fence.wide] at e, rowsFR h⟩
   | exact h.elim
 | halt x w' => cases x <;> simp only [Oper.upon, Oper.uponIn] at h ⊢ <;> exact h
def mkD (r : Nat) : Deferred := { target := .collected r, args := #[] }
inductive RD (ρ : Names) : List Nat → List Deferred → Prop
 | nil : RD ρ [] []
 | cons {n r : Nat} {l : List Nat} {L : List Deferred} (h : ρ n = some (r, 0)) (t : RD ρ l L) : RD ρ (n :: l) (mkD r :: L)
theorem RD.ext {ρ ρ' : Names} (he : Ext ρ ρ') : ∀ {l : List Nat} {L : List Deferred}, RD ρ l L → RD ρ' l L
 | _, _, .nil => .nil
 | _, _, .cons h t => .cons (he _ _ h) (RD.ext he t)
structure RelS (ρ : Names) (W : World) (st : St) (a : Act) (w : World) : Prop where
 t : TR ρ W st.t a.tmps
 h : Rel ρ W st.h w
 d : RD ρ st.d a.defers
theorem TR.put {ρ' : Names} {t : List (Option AV)} {a : Act} (h : TR ρ W t a.tmps) (he : Ext ρ ρ') {v : AV} {V : Value} (hv : RV ρ' W v V) (dst : Option Tmp) : TR ρ' W (putT t dst v) (a.put dst V).tmps := by
 cases dst with
 | none => exact h.ext he
 | some d =>
  refine ⟨by simp [putT, Act.put, h.len], fun i u hu => ?_⟩
  simp only [putT, List.getElem?_set] at hu
  simp only [Act.put, Array.getElem?_setIfInBounds]
  have hl := h.len
  split at hu
  · rename_i hd
    subst hd
    split at hu
    · rename_i hlt
      simp at hu; subst hu
      exact ⟨V, by simp; omega, hv⟩
    · cases hu
  · rename_i hd
    rw [if_neg hd]
    obtain ⟨U, h1, h2⟩ := h.get i u hu
    exact ⟨U, h1, h2.ext he⟩
theorem put_defers (a : Act) (dst : Option Tmp) (V : Value) : (a.put dst V).defers = a.defers := by cases dst <;> rfl
theorem RelS.ev {st : St} {a : Act} (h : RelS ρ W st a w) {tm : Nat → Option AV} (ht : ∀ t v, tm t = some v → st.t[t]? = some (some v)) : ∀ x v, evOf tm x = some v → RV ρ W v (a.eval x) := by
 intro x v hx
 cases x with
 | tmp t =>
  obtain ⟨V, h1, h2⟩ := h.t.get t v (ht t v hx)
  simp only [Act.eval, Array.getD_eq_getD_getElem?, h1, Option.getD_some]; exact h2
 | const v' => exact ofV_ok ρ W 3 _ _ hx
 | global g => simp [evOf] at hx
 | func f => simp [evOf] at hx; subst hx; exact .fn _ .nil .nil
theorem RelS.ev0 {st : St} {a : Act} (h : RelS ρ W st a w) : ∀ x v, evOf (tmAll st) x = some v → RV ρ W v (a.eval x) := h.ev fun _ _ => tmAll_some
theorem RelS.wanted {st : St} {a : Act} (h : RelS ρ W st a w) {tm : Nat → Option AV} (ht : ∀ t v, tm t = some v → st.t[t]? = some (some v)) {o : Oper} {b : Bool} (hq : wantedA ops tm o = some b) : Region.wanted o (yielded ops a.tmps) = b := by
 unfold wantedA at hq
 unfold Region.wanted
 split at hq
 · rename_i hg; simp at hq; subst hq; simp [hg]
 · rename_i j want hg
   simp only [hg]
   split at hq
   case h_2 => cases hq
   rename_i d hd
   split at hq
   · rename_i b' hb
     obtain ⟨V, h1, h2⟩ := h.t.get d _ (ht _ _ hb)
     cases h2
     simp only [yielded, hd, Option.bind_some, h1]
     simp at hq; subst hq
     cases want <;> cases b' <;> rfl
   · rename_i hb
     obtain ⟨V, h1, h2⟩ := h.t.get d _ (ht _ _ hb)
     cases h2
     simp only [yielded, hd, Option.bind_some, h1]
     simp at hq; subst hq
     cases want <;> rfl
   · cases hq
def InlOk (P : Program) (inl : Inl Prop) : Prop :=
 ∀ (o : Oper) (e : Operand → Option AV) (h : Heap) (Kx : AV → Heap → Prop), inl o e h Kx →
  ∀ (ρ : Names) (W w : World) (a : Act), Rel ρ W h w → (∀ x v, e x = some v → RV ρ W v (a.eval x)) → ∀ (K : Act → World → Prop) (Q : Exit → Act → World → Prop),
   (∀ ρ' V w' v h', Ext ρ ρ' → RV ρ' W v V → Rel ρ' W h' w' → Kx v h' → K (a.put o.dst V) w') → ∀ (r : Option Nat) (n : Nat), o.wpIn (FR r) n P a w K Q
theorem noInl_ok (P : Program) : InlOk P (noInl PA) := fun _ _ _ _ h => qY h
variable {rr : Option Nat} {dp : Nat}
theorem step_ok (hT : TabOk P T) {ok : Nat → Nat → Bool} {lk : Lk} (hlk : LkOk lk) {rd : Nat → Heap → Nat → Option Ob} (hrd : ∀ i h n x, rd i h n = some x → h[n]? = some (some x)) {nm : Nat → Heap → Nat} {inl : Inl Prop}
 (hI : InlOk P inl) {i : Nat} {K : St → Prop} {st : St} {a : Act} (hs : RelS ρ W st a w) (hn : (∃ o, ops[i]? = some o) → Fresh st.h (nm i st.h)) (hq : stepA PA P T ok lk ops rd nm inl i K st) {K' : Act → World → Prop} {Q : Exit → Act → World → Prop}
 (hK : ∀ ρ' st' a' w', Ext ρ ρ' → RelS ρ' W st' a' w' → K st' → K' a' w') : wpOpIn (FR rr) dp P ops Q i K' a w := by
 rw [stepA_eq PA P T ok hlk] at hq
 unfold stepB at hq
 rw [getL_eq, Array.getElem?_toList] at hq
 unfold wpOpIn
 split at hq
 · rename_i ho; simp only [ho]; exact hK ρ st a w (Ext.refl ρ) hs hq
 · rename_i o ho
   simp only [ho]
   split at hq
   · exact qY hq
   · rename_i b hb
     rw [hs.wanted (hlk o st) hb]
     cases b with
     | false =>
      simp only [Bool.false_eq_true, if_false]
      simp only [PA, brc, fst_eq] at hq
      exact ⟨fun _ _ => trivial, hK ρ ⟨putT st.t o.dst .undef, st.h, st.d⟩ _ w (Ext.refl ρ) ⟨hs.t.put (Ext.refl ρ) .undef o.dst, hs.h, by rw [put_defers]; exact hs.d⟩ hq⟩
     | true =>
      simp only [if_true]
      simp only [PA, brc] at hq
      split at hq
      · rename_i p v f hv
        cases hok : effOk (ok i) f with
        | false => rw [hok] at hq; exact qY hq
        | true =>
        rw [hok] at hq
        obtain ⟨rfl, hq⟩ := brc_false.1 hq
        rw [fx_eq, fy_eq, fst_eq] at hq
        have hd : ∀ c, o.op ≠ .defer c := fun c e => by simp [opw, opv, heavy, e] at hv
        refine wpIn_of_wp hd ?_
        exact opw_ok hT hs.h (hrd i st.h) (hn ⟨o, ho⟩) (hs.ev (hlk o st)) hv fun ρ' w' V he hV hR => hK ρ' _ _ w' he ⟨hs.t.put he hV o.dst, hR, by rw [put_defers]; exact hs.d.ext he⟩ hq
      · exact hI o _ _ _ hq ρ W w a hs.h (hs.ev (hlk o st)) K' Q (fun ρ' V w' v h' he hV hR hk => hK ρ' ⟨putT st.t o.dst v, h', st.d⟩ _ w' he ⟨hs.t.put he hV o.dst, hR, by rw [put_defers]; exact hs.d.ext he⟩ (by rw [fv_eq, fst_eq] at hk; exact hk)) rr dp
theorem rdFlat_ok (h : Heap) (n : Nat) (x : Ob) (hq : rdFlat h n = some x) : h[n]? = some (some x) := by
 unfold rdFlat at hq
 rw [getL_eq] at hq
 cases hg : h[n]? with
 | none => simp [hg] at hq
 | some u => simp [hg] at hq; rw [hq]
theorem rdDrawn_ok (base : Nat) (bf : List Nat) (own : List (Nat × Nat)) (i : Nat) (h : Heap) (n : Nat) (x : Ob) (hq : rdDrawn base bf own i h n = some x) : h[n]? = some (some x) := by
 unfold rdDrawn at hq
 split at hq
 · exact rdFlat_ok h n x (by unfold rdFlat; rw [getL_eq]; exact hq)
 · cases hq
theorem opsA_ok (hT : TabOk P T) {inl : Inl Prop} (hI : InlOk P inl) {Q : Exit → Act → World → Prop} {K : St → Prop} : ∀ (l : List Nat) {ρ : Names} {st : St} {a : Act} {w : World}, RelS ρ W st a w →
 opsA PA P T (fun _ _ => true) lkAll ops (fun _ => rdFlat) (fun _ h => h.length) inl l st K → (∀ ρ' st' a' w', Ext ρ ρ' → RelS ρ' W st' a' w' → K st' → Q .normal a' w') → wpOpsIn (FR rr) dp P ops Q l a w
 | [], ρ, st, a, w, hs, hq, hK => hK ρ st a w (Ext.refl ρ) hs hq
 | i :: r, ρ, st, a, w, hs, hq, hK => by
  rw [wpOpsIn_cons]
  exact step_ok hT lkAll_ok (fun _ => rdFlat_ok) hI hs (fun _ => .inl rfl) hq fun ρ' st' a' w' he hs' hq' => opsA_ok hT hI r hs' hq' fun ρ2 st2 a2 w2 he2 => hK ρ2 st2 a2 w2 (he.trans he2)
def Good (base : Nat) (bf : List Nat) (mask : Nat) (own : List (Nat × Nat)) (i : Nat) : Eff → Prop
 | .set n _ | .two n _ _ => if n < base then (i, n) ∈ own ∧ okOld bf own i n = true else mask.testBit (n - base) = true ∧ (bf.getD i 0).testBit (n - base) = true
 | _ => True
theorem opv_set {rd : Nat → Option Ob} {nm : Nat} {e : Operand → Option AV} {o : Oper} {p : Bool} {v : AV} {n : Nat} {x : Ob} (hv : opv P T rd nm e o = some (p, v, .set n x)) : isStore o.op = true ∧ ∃ y, rd n = some y := by
 have plain : ∀ {r : Option AV}, plainOut r = some (p, v, .set n x) → False := fun {r} h => by
  cases r <;> simp [plainOut] at h
 have cond : ∀ {r : Option (Bool × AV)}, condOut r = some (p, v, .set n x) → False := fun {r} h => by
  cases r with
  | none => simp [condOut] at h
  | some p => obtain ⟨p, q⟩ := p; simp [condOut] at h
 have giv : ∀ {r : AV}, give r = some (p, v, .set n x) → False := fun {r} h => by
  simp [give] at h
 have bx : ∀ {r : AV}, boxOut nm r = some (p, v, .set n x) → False := fun {r} h => by
  unfold boxOut at h; split at h <;> simp at h
 unfold opv at hv
 split at hv
 case h_8 t a b hop =>
  refine ⟨by simp [isStore, hop], ?_⟩
  split at hv
  · rename_i u u' h1 h2
    simp only [Option.map_eq_some_iff] at hv
    obtain ⟨⟨m, ob⟩, hs, hv⟩ := hv
    simp at hv
    obtain ⟨_, _, rfl, rfl⟩ := hv
    unfold storeA at hs
    split at hs
    case h_3 => cases hs
    all_goals
     split at hs
     case h_2 => cases hs
     rename_i hl
     split at hs
     case isFalse => cases hs
     simp at hs
     exact ⟨_, hs.1 ▸ hl⟩
  · cases hv
 case h_21 =>
  exfalso
  split at hv
  · split at hv
    · exact plain hv
    · cases hv
  · unfold callA resOut at hv
    (repeat' split at hv) <;> simp at hv
 case h_23 =>
  exfalso
  split at hv
  · unfold litOut at hv
    (repeat' split at hv) <;> simp at hv
  · cases hv
 case h_24 =>
  exfalso
  split at hv
  · unfold makeOut at hv
    (repeat' split at hv) <;> simp at hv
  · cases hv
 all_goals (exfalso; first | exact plain hv | (split at hv <;> first | exact plain hv | exact cond hv | exact giv hv | exact bx hv | cases hv) | cases hv)
theorem opv_two {rd : Nat → Option Ob} {nm : Nat} {e : Operand → Option AV} {o : Oper} {p : Bool} {v : AV} {n : Nat} {x y : Ob} (hv : opv P T rd nm e o = some (p, v, .two n x y)) : False := by
 have plain : ∀ {r : Option AV}, plainOut r = some (p, v, .two n x y) → False := fun {r} h => by
  cases r <;> simp [plainOut] at h
 have cond : ∀ {r : Option (Bool × AV)}, condOut r = some (p, v, .two n x y) → False := fun {r} h => by
  cases r with
  | none => simp [condOut] at h
  | some p => obtain ⟨p, q⟩ := p; simp [condOut] at h
 have giv : ∀ {r : AV}, give r = some (p, v, .two n x y) → False := fun {r} h => by
  simp [give] at h
 have bx : ∀ {r : AV}, boxOut nm r = some (p, v, .two n x y) → False := fun {r} h => by
  unfold boxOut at h; split at h <;> simp at h
 unfold opv at hv
 split at hv
 case h_8 t a b hop =>
  split at hv
  · simp only [Option.map_eq_some_iff] at hv
    obtain ⟨⟨m, ob⟩, hs, hv⟩ := hv
    simp at hv
  · cases hv
 case h_21 =>
  split at hv
  · split at hv
    · exact plain hv
    · cases hv
  · unfold callA resOut at hv
    (repeat' split at hv) <;> simp at hv
 case h_23 =>
  split at hv
  · unfold litOut at hv
    (repeat' split at hv) <;> simp at hv
  · cases hv
 case h_24 =>
  split at hv
  · unfold makeOut at hv
    (repeat' split at hv) <;> simp at hv
  · cases hv
 all_goals (first | exact plain hv | (split at hv <;> first | exact plain hv | exact cond hv | exact giv hv | exact bx hv | cases hv) | cases hv)
theorem xop_set {rd : Nat → Option Ob} {nm : Nat} {e : Operand → Option AV} {o : Oper} {p : Bool} {v : AV} {n : Nat} {x : Ob} {al : Option Ob} (hh : heavy o.op = true) (hq : xop P o e rd nm = some (p, v, some (n, x), al)) : ∃ y, rd n = some y := by
 unfold xop at hq
 split at hq
 case h_3 t x' ix y hop =>
  split at hq
  case h_2 => cases hq
  split at hq
  case h_2 => cases hq
  rename_i ho hl
  (repeat' split at hq) <;> simp at hq
  all_goals exact ⟨_, hq.2.2.1.1 ▸ hl⟩
 case h_4 t x' ix y hop =>
  split at hq
  case h_2 => cases hq
  split at hq
  case h_2 => cases hq
  rename_i ho hl
  (repeat' split at hq) <;> simp at hq
  all_goals exact ⟨_, hq.2.2.1.1 ▸ hl⟩
 case h_7 c hop =>
  split at hq
  case h_2 => cases hq
  split at hq
  case h_2 => cases hq
  split at hq
  case isFalse => cases hq
  unfold appendA at hq
  split at hq
  case h_2 => cases hq
  split at hq
  case h_2 => cases hq
  split at hq
  case h_2 => cases hq
  split at hq
  case isFalse => cases hq
  split at hq
  case h_3 => cases hq
  case h_1 =>
   split at hq
   case isFalse => cases hq
   simp at hq
  case h_2 =>
   split at hq
   case h_2 => cases hq
   rename_i hl
   split at hq
   case isFalse => cases hq
   simp at hq
   exact ⟨_, hq.2.2.1.1 ▸ hl⟩
 all_goals (rename_i hop; simp [hop, heavy] at hh)
theorem opw_set {rd : Nat → Option Ob} {nm : Nat} {e : Operand → Option AV} {o : Oper} {p : Bool} {v : AV} {n : Nat} {f : Eff} (hv : opw P T rd nm e o = some (p, v, f)) (hf : f.sets = some n) : isStore o.op = true ∧ ∃ y, rd n = some y := by
 unfold opw at hv
 split at hv
 · rename_i r hr
   simp at hv; subst hv
   cases f with
   | set m x => simp [Eff.sets] at hf; subst hf; exact opv_set hr
   | two m x y => exact (opv_two hr).elim
   | _ => simp [Eff.sets] at hf
 split at hv
 case h_2 => cases hv
 rename_i hh
 split at hv
 case h_2 => cases hv
 rename_i p' v' s al hq
 simp at hv
 obtain ⟨rfl, rfl, rfl⟩ := hv
 refine ⟨?_, ?_⟩
 · cases ho : o.op <;> simp_all [isStore, heavy]
 · rcases s with _ | ⟨m, x⟩
   · cases al <;> simp [effOf, Eff.sets] at hf
   · have : m = n := by cases al <;> simpa [effOf, Eff.sets] using hf
     subst this
     exact xop_set hh hq
section drawn
variable (P T ops) (base : Nat) (bf : List Nat) (mask : Nat) (own : List (Nat × Nat))
abbrev stepD (i : Nat) (K : St → Prop) (st : St) : Prop := stepA PA P T (okDrawn base mask own) (lkOf ops) ops (rdDrawn base bf own) (fun i _ => base + i) (noInl PA) i K st
theorem stepD_cases {i : Nat} {o : Oper} (ho : ops[i]? = some o) (st : St) :
 (∀ K, ¬ stepD P T ops base bf mask own i K st) ∨ ∃ v f, Good base bf mask own i f ∧ (∀ n, f.sets = some n → isStore o.op = true) ∧ ∀ K, (stepD P T ops base bf mask own i K st ↔ K ⟨putT st.t o.dst v, effH st.h (base + i) f, st.d⟩) ∧
  ∀ st2 : St, tmOf st2 (o.looksAt ops) = tmOf st (o.looksAt ops) → rdDrawn base bf own i st2.h = rdDrawn base bf own i st.h → (stepD P T ops base bf mask own i K st2 ↔ K ⟨putT st2.t o.dst v, effH st2.h (base + i) f, st2.d⟩) := by
 simp only [stepD, stepA_eq PA P T (okDrawn base mask own) (lkOf_ok ops)]
 simp only [stepB, getL_eq, Array.getElem?_toList, ho, fx_eq, fv_eq, fy_eq, fst_eq, PA, lkOf]
 cases hw : wantedA ops (tmOf st (o.looksAt ops)) o with
 | none => exact .inl fun K h => h
 | some b =>
  cases b with
  | false =>
   refine .inr ⟨.undef, .no, trivial, (fun _ h => by simp [Eff.sets] at h), fun K => ⟨by simp [brc, effH], fun st2 h1 h2 => ?_⟩⟩
   rw [h1, hw]; simp [brc, effH]
  | true =>
   simp only [brc]
   cases hv : opw P T (rdDrawn base bf own i st.h) (base + i) (evOf (tmOf st (o.looksAt ops))) o with
   | none =>
    refine .inl fun K h => ?_
    simp only [noInl, PA] at h
   | some r =>
    obtain ⟨p, v, f⟩ := r
    cases hok : effOk (okDrawn base mask own i) f with
    | false => exact .inl fun K h => by simp only [hok] at h; exact h
    | true =>
    cases p with
    | false => exact .inl fun K h => by simp only [hok, Bool.cond_true] at h
    | true =>
     refine .inr ⟨v, f, ?_, fun n hf => ?_, fun K => ⟨by simp [hok, stepSt], fun st2 h1 h2 => ?_⟩⟩
     · have key : ∀ n, f.sets = some n → if n < base then (i, n) ∈ own ∧ okOld bf own i n = true else mask.testBit (n - base) = true ∧ (bf.getD i 0).testBit (n - base) = true := by
        intro n hn0
        obtain ⟨_, y, hy⟩ := opw_set hv hn0
        have hok' : okDrawn base mask own i n = true := by
         cases f <;> simp [Eff.sets] at hn0 <;> subst hn0 <;> simpa [effOk] using hok
        simp only [okDrawn] at hok'
        unfold rdDrawn at hy
        by_cases hn : n < base
        · simp only [hn, decide_true, Bool.cond_true, List.any_eq_true, Bool.and_eq_true, beq_iff_eq] at hok' hy
          obtain ⟨⟨j, m⟩, hm, rfl, rfl⟩ := hok'
          split at hy
          · rename_i hc
            rw [if_pos hn]
            exact ⟨hm, hc⟩
          · cases hy
        · simp only [hn, decide_false, Bool.cond_false] at hok' hy
          split at hy
          · rename_i hc
            rw [if_neg hn]
            exact ⟨hok', hc⟩
          · cases hy
       cases f with
       | set n x => exact key n rfl
       | two n x y => exact key n rfl
       | _ => trivial
     · exact (opw_set hv hf).1
     · rw [h1, h2, hw]
       simp only [brc, hv, hok, Bool.cond_true, stepSt, true_and]
theorem tmOf_put {st : St} {ts : List Nat} {dst : Option Tmp} {v : AV} {h' : Heap} (hd : ∀ d, dst = some d → d ∉ ts) : tmOf ⟨putT st.t dst v, h', st.d⟩ ts = tmOf st ts := by
 funext t
 simp only [tmOf, tmAll, getL_eq]
 split
 · rename_i hc
   cases dst with
   | none => rfl
   | some d =>
    have : d ≠ t := fun e => hd d rfl (by subst e; simpa using hc)
    simp [putT, List.getElem?_set, this]
 · rfl
theorem effH_two (h : Heap) (m n : Nat) (x o : Ob) : effH h m (.two n x o) = effH (effH h m (.set n x)) m (.alloc o) := rfl
theorem effH_other {h : Heap} {m : Nat} {f : Eff} (hm : m < h.length) (n : Nat) (hn : n ≠ m) (hs : ∀ k, f.sets = some k → n ≠ k) : (effH h m f)[n]? = h[n]? := by
 cases f with
 | no => rfl
 | alloc o => simp only [effH]; rw [if_pos hm, List.getElem?_set]; simp [Ne.symm hn]
 | set k o => simp only [effH]; rw [List.getElem?_set]; simp [Ne.symm (hs k rfl)]
 | two k x o =>
  simp only [effH]
  rw [if_pos (by simpa using hm), List.getElem?_set, List.getElem?_set]
  simp [Ne.symm hn, Ne.symm (hs k rfl)]
theorem effH_length {h : Heap} {m : Nat} {f : Eff} (hm : m < h.length) : (effH h m f).length = h.length := by
 cases f with
 | no => rfl
 | alloc o => simp only [effH]; rw [if_pos hm]; simp
 | set n o => simp [effH]
 | two n x o => simp only [effH]; rw [if_pos (by simpa using hm)]; simp
structure Free (x y : Oper) (i j : Nat) : Prop where
 ne : i ≠ j
 ap : x.apart ops y = true
 bi : (bf.getD j 0).testBit i = false
 bj : (bf.getD i 0).testBit j = false
 st : isStore x.op = true ∨ isStore y.op = true → ∀ k, mask.testBit k = true → (bf.getD i 0).testBit k = true → (bf.getD j 0).testBit k = true → False
theorem Good.away {i j : Nat} {x y : Oper} (F : Free ops bf mask x y i j) {n : Nat} {f : Eff} (hf : Good base bf mask own i f) (hn0 : f.sets = some n) (sf : isStore x.op = true) : n ≠ base + j ∧ cond (n < base) (okOld bf own j n) ((bf.getD j 0).testBit (n - base)) = false := by
 have hf : if n < base then (i, n) ∈ own ∧ okOld bf own i n = true else mask.testBit (n - base) = true ∧ (bf.getD i 0).testBit (n - base) = true := by
  cases f <;> simp [Eff.sets] at hn0 <;> subst hn0 <;> exact hf
 by_cases hn : n < base
 · rw [if_pos hn] at hf
   refine ⟨by omega, ?_⟩
   simp only [hn, decide_true, Bool.cond_true]
   cases h : okOld bf own j n with
   | false => rfl
   | true =>
    have := List.all_eq_true.1 h _ hf.1
    simp only [bne_self_eq_false, Bool.false_or, Bool.or_eq_true, beq_iff_eq, F.bi, F.bj, Bool.false_eq_true, or_false] at this
    exact (F.ne this).elim
 · rw [if_neg hn] at hf
   refine ⟨fun e => ?_, ?_⟩
   · have := hf.2
     rw [show n - base = j by omega, F.bj] at this; cases this
   · simp only [hn, decide_false, Bool.cond_false]
     cases h : (bf.getD j 0).testBit (n - base) with
     | false => rfl
     | true => exact (F.st (.inl sf) _ hf.1 hf.2 h).elim
theorem Free.symm {x y : Oper} {i j : Nat} (F : Free ops bf mask x y i j) (hxy : y.apart ops x = true) : Free ops bf mask y x j i := ⟨F.ne.symm, hxy, F.bj, F.bi, fun h k a b c => F.st h.symm k a c b⟩
theorem apart_symm {x y : Oper} (h : x.apart ops y = true) : y.apart ops x = true := by
 obtain ⟨a1, a2, a3⟩ := Oper.apart_spec h
 unfold Oper.apart
 cases hx : x.dst with
 | none =>
  cases hy : y.dst with
  | none => simp
  | some e => simpa using a3 e hy
 | some d =>
  cases hy : y.dst with
  | none => simpa using a1 d hx
  | some e =>
   have h1 := a1 d hx
   have h2 := a2 d hx
   have h3 := a3 e hy
   rw [hy] at h2
   simp at h2
   simp [h1, h3]
   exact fun q => h2 q.symm
theorem effH_comm1 {h : Heap} {i j : Nat} {x y : Oper} (F : Free ops bf mask x y i j) {f g : Eff} (hf : Good base bf mask own i f) (hg : Good base bf mask own j g) (sf : ∀ n, f.sets = some n → isStore x.op = true) (sg : ∀ n, g.sets = some n → isStore y.op = true) (nf : ∀ n x o, f ≠ .two n x o) (ng : ∀ n x o, g ≠ .two n x o)
 (hi : base + i < h.length) (hj : base + j < h.length) : effH (effH h (base + i) f) (base + j) g = effH (effH h (base + j) g) (base + i) f := by
 have e : ∀ {h : Heap} {m : Nat} (o : Ob), m < h.length → effH h m (.alloc o) = h.set m (some o) := fun {h m} o hm => by simp only [effH]; rw [if_pos hm]
 have s : ∀ {h : Heap} {m n : Nat} (o : Ob), effH h m (.set n o) = h.set n (some o) := fun {h m n} o => rfl
 have hne := F.ne
 have F' := F.symm ops bf mask (apart_symm ops F.ap)
 cases f with
 | no => rfl
 | two n x o => exact (nf _ _ _ rfl).elim
 | alloc o =>
  cases g with
  | no => rfl
  | two n x o => exact (ng _ _ _ rfl).elim
  | alloc o' => rw [e o hi, e o' hj, e o' (by simpa using hj), e o (by simpa using hi), List.set_comm _ _ (by omega)]
  | set n o' =>
   rw [e o hi, s, s, e o (by simpa using hi), List.set_comm]
   intro hn
   exact (Good.away ops base bf mask own F' hg rfl (sg _ rfl)).1 hn.symm
 | set n o =>
  have w1 := Good.away ops base bf mask own F hf rfl (sf _ rfl)
  cases g with
  | no => rfl
  | two n x o => exact (ng _ _ _ rfl).elim
  | alloc o' =>
   rw [s, e o' (by simpa using hj), e o' hj, s, List.set_comm]
   exact w1.1
  | set m o' =>
   rw [s, s, s, s, List.set_comm]
   intro hn
   subst hn
   have w2 := w1.2
   simp only [Good] at hg
   by_cases hb : n < base
   · rw [if_pos hb] at hg
     simp only [hb, decide_true, Bool.cond_true] at w2
     rw [hg.2] at w2; cases w2
   · rw [if_neg hb] at hg
     simp only [hb, decide_false, Bool.cond_false] at w2
     rw [hg.2] at w2; cases w2
theorem effH_comm {h : Heap} {i j : Nat} {x y : Oper} (F : Free ops bf mask x y i j) {f g : Eff} (hf : Good base bf mask own i f) (hg : Good base bf mask own j g) (sf : ∀ n, f.sets = some n → isStore x.op = true) (sg : ∀ n, g.sets = some n → isStore y.op = true)
 (hi : base + i < h.length) (hj : base + j < h.length) : effH (effH h (base + i) f) (base + j) g = effH (effH h (base + j) g) (base + i) f := by
 have F' := F.symm ops bf mask (apart_symm ops F.ap)
 have one : ∀ {h : Heap}, base + i < h.length → base + j < h.length → ∀ g : Eff, Good base bf mask own j g → (∀ n, g.sets = some n → isStore y.op = true) → (∀ n x o, g ≠ .two n x o) → effH (effH h (base + i) f) (base + j) g = effH (effH h (base + j) g) (base + i) f := by
  intro h hi hj g hg sg ng
  cases f with
  | two n a o =>
   have c1 := effH_comm1 ops base bf mask own F (h := effH h (base + i) (.set n a)) (f := .alloc o) (g := g) trivial hg (fun _ h => by simp [Eff.sets] at h) sg (by simp) ng (by rw [effH_length hi]; exact hi) (by rw [effH_length hi]; exact hj)
   have c2 := effH_comm1 ops base bf mask own F (h := h) (f := .set n a) (g := g) hf hg (fun m hm => sf m hm) sg (by simp) ng hi hj
   rw [effH_two, effH_two, c1, c2]
  | no => exact effH_comm1 ops base bf mask own F hf hg sf sg (by simp) ng hi hj
  | alloc o => exact effH_comm1 ops base bf mask own F hf hg sf sg (by simp) ng hi hj
  | set n o => exact effH_comm1 ops base bf mask own F hf hg sf sg (by simp) ng hi hj
 cases g with
 | two n a o =>
  have c1 := one (h := effH h (base + j) (.set n a)) (by rw [effH_length hj]; exact hi) (by rw [effH_length hj]; exact hj) (.alloc o) trivial (fun _ h => by simp [Eff.sets] at h) (by simp)
  have c2 := one hi hj (.set n a) hg (fun m hm => sg m hm) (by simp)
  rw [effH_two, effH_two, ← c1, ← c2]
 | no => exact one hi hj _ hg sg (by simp)
 | alloc o => exact one hi hj _ hg sg (by simp)
 | set n o => exact one hi hj _ hg sg (by simp)
theorem rdDrawn_eff {h : Heap} {i j : Nat} {x y : Oper} (F : Free ops bf mask x y i j) {f : Eff} (hf : Good base bf mask own i f) (sf : ∀ n, f.sets = some n → isStore x.op = true) (hi : base + i < h.length) :
 rdDrawn base bf own j (effH h (base + i) f) = rdDrawn base bf own j h := by
 funext n
 simp only [rdDrawn]
 split
 · rename_i hc
   rw [effH_other hi n (fun hn => ?_) (fun k hk hn => ?_)]
   · subst hn
     simp only [show ¬ base + i < base by omega, decide_false, Bool.cond_false, show base + i - base = i by omega, F.bi] at hc
     cases hc
   · subst hn
     rw [(Good.away ops base bf mask own F hf hk (sf _ hk)).2] at hc; cases hc
 · rfl
theorem putT_comm (t : List (Option AV)) {x y : Option Tmp} (v u : AV) (h : ∀ d, x = some d → y ≠ some d) : putT (putT t x v) y u = putT (putT t y u) x v := by
 cases x with
 | none => rfl
 | some d =>
  cases y with
  | none => rfl
  | some e =>
   have : d ≠ e := fun he => h d rfl (by rw [he])
   simp [putT, List.set_comm _ _ this]
theorem swapD {i j : Nat} {oi oj : Oper} (hi : ops[i]? = some oi) (hj : ops[j]? = some oj) (F : Free ops bf mask oi oj i j) {st : St} (li : base + i < st.h.length) (lj : base + j < st.h.length) {K : St → Prop}
 (h : stepD P T ops base bf mask own i (fun s => stepD P T ops base bf mask own j K s) st) : stepD P T ops base bf mask own j (fun s => stepD P T ops base bf mask own i K s) st := by
 obtain ⟨a1, a2, a3⟩ := Oper.apart_spec F.ap
 have F' := F.symm ops bf mask (apart_symm ops F.ap)
 rcases stepD_cases P T ops base bf mask own hi st with hno | ⟨v, f, hf, sf, hs⟩
 · exact (hno _ h).elim
 · rw [(hs _).1] at h
   rcases stepD_cases P T ops base bf mask own hj st with hno | ⟨u, g, hg, sg, ht⟩
   · have e1 := tmOf_put (st := st) (v := v) (h' := effH st.h (base + i) f) a1
     have e2 := rdDrawn_eff ops base bf mask own F hf sf li
     exfalso
     refine hno K ?_
     rcases stepD_cases P T ops base bf mask own hj ⟨putT st.t oi.dst v, effH st.h (base + i) f, st.d⟩ with hno2 | ⟨u, g, hg, sg, ht⟩
     · exact (hno2 _ h).elim
     · rcases Classical.em (stepD P T ops base bf mask own j (fun _ => True) st) with hT | hT
       · exact (hno _ hT).elim
       · exact (hT (((ht (fun _ => True)).2 st e1.symm e2.symm).2 trivial)).elim
   · rw [(ht _).2 ⟨putT st.t oi.dst v, effH st.h (base + i) f, st.d⟩ (tmOf_put a1) (rdDrawn_eff ops base bf mask own F hf sf li)] at h
     rw [(ht _).1, (hs _).2 ⟨putT st.t oj.dst u, effH st.h (base + j) g, st.d⟩ (tmOf_put a3) (rdDrawn_eff ops base bf mask own F' hg sg lj)]
     simp only at h ⊢
     rw [putT_comm st.t v u a2, effH_comm ops base bf mask own F hf hg sf sg li lj] at h
     exact h
theorem stepD_mono {i : Nat} {o : Oper} (ho : ops[i]? = some o) {st : St} {K K' : St → Prop}
 (hK : ∀ v f, Good base bf mask own i f → K ⟨putT st.t o.dst v, effH st.h (base + i) f, st.d⟩ → K' ⟨putT st.t o.dst v, effH st.h (base + i) f, st.d⟩) (h : stepD P T ops base bf mask own i K st) : stepD P T ops base bf mask own i K' st := by
 rcases stepD_cases P T ops base bf mask own ho st with hno | ⟨v, f, hf, _, hs⟩
 · exact (hno _ h).elim
 · rw [(hs _).1] at h ⊢
   exact hK v f hf h
abbrev opsD (l : List Nat) (st : St) (K : St → Prop) : Prop := opsA PA P T (okDrawn base mask own) (lkOf ops) ops (rdDrawn base bf own) (fun i _ => base + i) (noInl PA) l st K
structure DOk : Prop where
 on : ∀ (i : Nat) (o : Oper), ops[i]? = some o → ∀ e ∈ o.after.toList, Region.binds .any e = true → e.on < i
 up : ∀ (i j : Nat), i < ops.size → j < i → (bf.getD j 0).testBit i = false
 clo : ∀ (i : Nat) (o : Oper) (j : Nat), ops[i]? = some o → j < i → (bf.getD i 0).testBit j = true → ∃ e ∈ o.after.toList, Region.binds .any e = true ∧ (e.on = j ∨ (bf.getD e.on 0).testBit j = true)
 apart : ∀ (i j : Nat) (oi oj : Oper), ops[i]? = some oi → ops[j]? = some oj → j < i → (bf.getD i 0).testBit j = false → Free ops bf mask oj oi j i
variable {P T ops base bf mask own}
theorem drawnOk_spec (h : drawnOk ops.toList bf mask = true) : DOk ops bf mask := by
 unfold drawnOk at h
 simp only [List.all_eq_true] at h
 have h2 := h
 have hop : ∀ {i : Nat} {o : Oper}, ops[i]? = some o → i < ops.size ∧ ops.toList[i]? = some o ∧ o ∈ ops.toList := fun {i o} hi => by
  refine ⟨?_, by simpa using hi, ?_⟩
  · rcases Nat.lt_or_ge i ops.size with q | q
    · exact q
    · simp [Array.getElem?_eq_none q] at hi
  · exact List.mem_of_getElem? (i := i) (by simpa using hi)
 have hget : ∀ {i : Nat} {o : Oper}, ops[i]? = some o → (∀ e ∈ o.after.toList, Region.binds .any e = true → e.on < i) ∧ ∀ j, j < i → ∀ x, ops[j]? = some x → (bf.getD j 0).testBit i = false ∧
  (if (bf.getD i 0).testBit j = true then (o.after.toList.any fun e => Region.binds .any e && (e.on == j || (bf.getD e.on 0).testBit j)) = true else x.apart ops o = true ∧ (isStore x.op = true ∨ isStore o.op = true → bf.getD i 0 &&& bf.getD j 0 &&& mask = 0)) := fun {i o} hi => by
  obtain ⟨a1, a2, a3⟩ := hop hi
  have := h2 i (by rw [upTo_mem]; simp; omega)
  simp only [a2, Bool.and_eq_true, List.all_eq_true] at this
  refine ⟨fun e he hb => ?_, fun j hj x hx => ?_⟩
  · have := this.1 e he
    simpa [hb] using this
  · have := this.2 j (by rw [upTo_mem]; omega)
    simp only [(hop hx).2.1, Bool.and_eq_true, Bool.not_eq_true'] at this
    refine ⟨this.1, ?_⟩
    have h3 := this.2
    split
    · rename_i hb; rw [if_pos hb] at h3; exact h3
    · rename_i hb
      rw [if_neg hb] at h3
      simp only [Bool.and_eq_true, Bool.or_eq_true, Bool.not_eq_true', Bool.or_eq_false_iff, beq_iff_eq] at h3
      refine ⟨by simpa using h3.1, fun hst => ?_⟩
      rcases h3.2 with q | q
      · rcases hst with r | r
        · rw [q.1] at r; cases r
        · rw [q.2] at r; cases r
      · exact q
 refine ⟨fun i o hi => (hget hi).1, fun i j hi hj => ?_, fun i o j hi hj hb => ?_, fun i j oi oj hi hj hlt hb => ?_⟩
 · exact ((hget (Array.getElem?_eq_getElem hi)).2 j hj _ (Array.getElem?_eq_getElem (by omega))).1
 · have hlt := (hop hi).1
   have := ((hget hi).2 j hj _ (Array.getElem?_eq_getElem (by omega))).2
   rw [if_pos hb] at this
   simp only [List.any_eq_true, Bool.and_eq_true, Bool.or_eq_true, beq_iff_eq] at this
   exact this
 · have := ((hget hi).2 j hlt _ hj).2
   rw [if_neg (by rw [hb]; exact Bool.false_ne_true)] at this
   refine ⟨by omega, this.1, hb, ?_, fun hst k m1 m2 m3 => ?_⟩
   · exact ((hget hi).2 j hlt _ hj).1
   · have hz := this.2 hst
     have : (bf.getD i 0 &&& bf.getD j 0 &&& mask).testBit k = true := by simp [Nat.testBit_and, m1]; exact ⟨by simpa using m3, by simpa using m2⟩
     rw [hz] at this; simp at this
theorem bubble (hD : DOk ops bf mask) {i : Nat} {K : St → Prop} : ∀ (l : List Nat) (st : St), l.Pairwise (· < ·) → i ∈ l → (∀ j ∈ l, j < ops.size) → (∀ j ∈ l, j < i → (bf.getD i 0).testBit j = false) → st.h.length = base + ops.size →
 opsD P T ops base bf mask own l st K → stepD P T ops base bf mask own i (fun s => opsD P T ops base bf mask own (l.erase i) s K) st
 | [], st, _, hm, _, _, _, _ => by cases hm
 | j :: r, st, hp, hm, hl, hb, hlen, h => by
  by_cases hji : j = i
  · subst hji; simpa [opsD, opsA] using h
  · have hir : i ∈ r := by rcases List.mem_cons.1 hm with e | e; exact (hji e.symm).elim; exact e
    have hlt : j < i := (List.pairwise_cons.1 hp).1 i hir
    have hj := hl j (by simp)
    have hi := hl i hm
    have oj : ops[j]? = some ops[j] := Array.getElem?_eq_getElem hj
    have oi : ops[i]? = some ops[i] := Array.getElem?_eq_getElem hi
    have herase : (j :: r).erase i = j :: r.erase i := by rw [List.erase_cons]; simp [hji]
    rw [herase]
    have bji := hb j (by simp) hlt
    refine swapD P T ops base bf mask own oj oi (hD.apart i j _ _ oi oj hlt bji) (by omega) (by omega) ?_
    refine stepD_mono P T ops base bf mask own oj (fun v f hf hk => ?_) h
    exact bubble hD r _ (List.pairwise_cons.1 hp).2 hir (fun k hk => hl k (by simp [hk])) (fun k hk => hb k (by simp [hk])) (by show (effH st.h (base + j) f).length = _; rw [effH_length (by omega)]; exact hlen) hk
noncomputable def restK (P : Program) (T : Tab) (inl : Inl Prop) (ops : Array Oper) (bf : List Nat) (mask : Nat) (f : Nat) (K : St → Prop) : List Nat → St → Prop
 | [], st1 => K st1
 | c :: r, st1 => stepA PA P T (fun _ _ => true) lkAll ops (fun _ => rdFlat) (fun _ h => h.length) inl c (fun st2 => segA PA P T inl ops bf mask f r st2 K) st1
theorem segA_eq {inl : Inl Prop} {f : Nat} {todo : List Nat} {st : St} {K : St → Prop} : segA PA P T inl ops bf mask (f + 1) todo st K =
 opsD P T ops st.h.length bf mask (ownOf st.t st.h ops.toList 0 ops.toList) (todo.takeWhile fun i => !cutAt ops bf i) ⟨st.t, st.h ++ List.replicate ops.size none, st.d⟩ (restK P T inl ops bf mask f K (todo.dropWhile fun i => !cutAt ops bf i)) := by
 simp only [segA, opsD]
 congr 1
 funext st1
 cases todo.dropWhile fun i => !cutAt ops bf i <;> rfl
theorem cutAt_spec {i : Nat} (h : cutAt ops bf i = true) : i < ops.size ∧ ∀ j, j < ops.size → j ≠ i → if j < i then (bf.getD i 0).testBit j = true else (bf.getD j 0).testBit i = true := by
 unfold cutAt at h
 split at h
 · rename_i o ho
   have hi : i < ops.size := by
    rcases Nat.lt_or_ge i ops.size with q | q
    · exact q
    · simp [Array.getElem?_eq_none q] at ho
   refine ⟨hi, fun j hj hne => ?_⟩
   simp only [Bool.and_eq_true, List.all_eq_true] at h
   have := h.2 j (by rw [upTo_mem]; omega)
   simp only [Bool.or_eq_true, beq_iff_eq] at this
   rcases this with q | q
   · exact (hne q).elim
   · split
     · rename_i hlt; rw [if_pos hlt] at q; exact q
     · rename_i hlt; rw [if_neg hlt] at q; exact q
 · cases h
theorem drop_head {l : List Nat} {p : Nat → Bool} {c : Nat} {r : List Nat} (h : l.dropWhile p = c :: r) : p c = false := by
 induction l with
 | nil => simp at h
 | cons x l ih =>
  rw [List.dropWhile_cons] at h
  split at h
  · exact ih h
  · rename_i hx
    simp at h
    rw [← h.1]; simpa using hx
theorem drawn_ok (hT : TabOk P T) (hD : DOk ops bf mask) {inl : Inl Prop} (hI : InlOk P inl) {Q : Exit → Act → World → Prop} {K : St → Prop} : ∀ (n : Nat) (base : Nat) (own : List (Nat × Nat)) (f : Nat) (pre rest todo : List Nat) {ρ : Names} {st : St} {a : Act} {w : World} {listed : Array Bool}, todo = pre ++ rest → (∀ c r, rest = c :: r → cutAt ops bf c = true) → todo.length = n → todo.Pairwise (· < ·) → (∀ j ∈ todo, j < ops.size) →
 listed.size = ops.size → (∀ i, i < ops.size → (listed.getD i true = false ↔ i ∈ todo)) → (∀ i, i < ops.size → i ∉ todo → ∀ m, (bf.getD i 0).testBit m = true → m ∉ todo) →
 RelS ρ W st a w → (∀ i ∈ pre, st.h[base + i]? = some none) → st.h.length = base + ops.size → opsD P T ops base bf mask own pre st (restK P T inl ops bf mask f K rest) → (∀ ρ' st' a' w', Ext ρ ρ' → RelS ρ' W st' a' w' → K st' → Q .normal a' w') →
 wpAnyIn (FR rr) dp P .any ops Q n listed a w := by
 have nready : ∀ {todo : List Nat} {listed : Array Bool}, listed.size = ops.size → (∀ i, i < ops.size → (listed.getD i true = false ↔ i ∈ todo)) → ∀ i, i ∈ Region.ready .any ops listed → i < ops.size ∧ i ∈ todo ∧ ∃ o, ops[i]? = some o ∧ ∀ e ∈ o.after, Region.binds .any e = true → e.on < ops.size ∧ e.on ∉ todo := by
  intro todo listed hsz hlist i hi
  obtain ⟨h1, o, h2, h3⟩ := mem_ready.1 hi
  have hlt : i < ops.size := by rcases Nat.lt_or_ge i ops.size with q | q; exact q; simp [Array.getElem?_eq_none q] at h2
  refine ⟨hlt, (hlist i hlt).1 h1, o, h2, fun e he hb => ?_⟩
  have h4 := h3 e he hb
  have hel : e.on < ops.size := by
   rcases Nat.lt_or_ge e.on listed.size with q | q
   · omega
   · simp [Array.getElem?_eq_none q] at h4
  refine ⟨hel, fun hm => ?_⟩
  have := (hlist _ hel).2 hm
  have hel' : e.on < listed.size := by omega
  simp [hel'] at h4 this
  rw [h4] at this; cases this
 intro n
 induction n with
 | zero =>
  intro base own f pre rest todo ρ st a w listed hpr hcut hn hp hl hsz hlist hdc hs hres hlen h hK
  have : todo = [] := by cases todo; rfl; simp at hn
  subst this
  obtain ⟨rfl, rfl⟩ := List.append_eq_nil_iff.1 hpr.symm
  refine ⟨?_, hK ρ st a w (Ext.refl ρ) hs h⟩
  cases hr : Region.ready .any ops listed with
  | nil => rfl
  | cons x xs => have := (nready hsz hlist x (by rw [hr]; simp)).2.1; cases this
 | succ n ih =>
  intro base own f pre rest todo ρ st a w listed hpr hcut hn hp hl hsz hlist hdc hs hres hlen h hK
  refine ⟨fun hr => ?_, fun i hi => ?_⟩
  · -- the least that is still to come may come
    cases todo with
    | nil => simp at hn
    | cons j r =>
     exfalso
     have hj := hl j (by simp)
     have : j ∈ Region.ready .any ops listed := by
      refine mem_ready.2 ⟨(hlist j hj).2 (by simp), ops[j], Array.getElem?_eq_getElem hj, fun e he hb => ?_⟩
      have h1 := hD.on j _ (Array.getElem?_eq_getElem hj) e (by simpa using he) hb
      have h2 : e.on ∉ j :: r := fun hm => by
       rcases List.mem_cons.1 hm with q | q
       · omega
       · have := (List.pairwise_cons.1 hp).1 _ q; omega
      have h3 : ¬ listed.getD e.on true = false := fun q => h2 ((hlist _ (by omega)).1 q)
      have hel' : e.on < listed.size := by omega
      simp [hel'] at h3 ⊢
      exact h3
     rw [hr] at this; cases this
  · obtain ⟨hlt, hm, o, ho, hon⟩ := nready hsz hlist i hi
    have hbf : ∀ m, (bf.getD i 0).testBit m = true → m ∉ todo.erase i := fun m hb hmem => by
     have hmt := List.mem_of_mem_erase hmem
     have hms := hl m hmt
     rcases Nat.lt_trichotomy m i with q | q | q
     · obtain ⟨e, he, hbe, hor⟩ := hD.clo i o m ho q hb
       obtain ⟨g1, g2⟩ := hon e (by simpa using he) hbe
       rcases hor with hor | hor
       · exact g2 (hor ▸ hmt)
       · exact hdc _ g1 g2 m hor hmt
     · subst q
       have hnd : todo.Nodup := hp.imp fun h => Nat.ne_of_lt h
       exact (List.Nodup.not_mem_erase hnd) hmem
     · rw [hD.up m i hms q] at hb; cases hb
    have hnot : ∀ j ∈ todo, j < i → (bf.getD i 0).testBit j = false := fun j hj hji => by
     cases hb : (bf.getD i 0).testBit j with
     | false => rfl
     | true => exact (hbf j hb ((List.mem_erase_of_ne (by omega)).2 hj)).elim
    have hnd : todo.Nodup := hp.imp fun h => Nat.ne_of_lt h
    have hlist2 : ∀ j, j < ops.size → ((listed.setIfInBounds i true).getD j true = false ↔ j ∈ todo.erase i) := fun j hj => by
     by_cases hji : j = i
     · subst hji
       have hjl : j < listed.size := by omega
       simp [hjl]
       exact List.Nodup.not_mem_erase hnd
     · rw [getD_set_ne true (Ne.symm hji), hlist j hj, List.mem_erase_of_ne hji]
    have hdc2 : ∀ j, j < ops.size → j ∉ todo.erase i → ∀ m, (bf.getD j 0).testBit m = true → m ∉ todo.erase i := fun j hj hnj m hb => by
     by_cases hji : j = i
     · subst hji; exact hbf m hb
     · have hnj2 : j ∉ todo := fun q => hnj ((List.mem_erase_of_ne hji).2 q)
       exact fun q => hdc j hj hnj2 m hb (List.mem_of_mem_erase q)
    have hlen2 : (todo.erase i).length = n := by rw [List.length_erase_of_mem hm]; omega
    have hl2 : ∀ j ∈ todo.erase i, j < ops.size := fun j hj => hl j (List.mem_of_mem_erase hj)
    have hp2 : (todo.erase i).Pairwise (· < ·) := hp.sublist List.erase_sublist
    have wait : ∀ c r, rest = c :: r → i ∈ c :: r → i = c := fun c r hr hir => by
     rcases List.mem_cons.1 hir with q | q
     · exact q
     · exfalso
       have hpr2 : (c :: r).Pairwise (· < ·) := by
        have : (pre ++ rest).Pairwise (· < ·) := hpr ▸ hp
        rw [hr] at this
        exact (List.pairwise_append.1 this).2.1
       have hlt2 : c < i := (List.pairwise_cons.1 hpr2).1 i q
       have hct : c ∈ todo := by rw [hpr, hr]; simp
       have := (cutAt_spec (hcut c r hr)).2 i hlt (by omega)
       rw [if_neg (by omega)] at this
       have h3 := hnot c hct hlt2
       rw [this] at h3; cases h3
    cases hpre : pre with
    | nil =>
     subst hpre
     cases hrest : rest with
     | nil => rw [hpr, hrest] at hm; simp at hm
     | cons c r =>
      have hic : i = c := wait c r hrest (by rw [hpr, hrest] at hm; simpa using hm)
      subst hic
      have h' : stepA PA P T (fun _ _ => true) lkAll ops (fun _ => rdFlat) (fun _ h => h.length) inl i (fun st2 => segA PA P T inl ops bf mask f r st2 K) st := by
       rw [hrest] at h
       exact h
      have her : todo.erase i = r := by rw [hpr, hrest]; simp
      refine step_ok hT lkAll_ok (fun _ => rdFlat_ok) hI hs (fun _ => .inl rfl) h' fun ρ' st' a' w' he hs' hk => ?_
      cases f with
      | zero => exact qY hk
      | succ f =>
       rw [segA_eq] at hk
       have hs2 : RelS ρ' W ⟨st'.t, st'.h ++ List.replicate ops.size none, st'.d⟩ a' w' := ⟨hs'.t, hs'.h.room ops.size, hs'.d⟩
       refine ih st'.h.length _ f _ _ (todo.erase i) (by rw [her, List.takeWhile_append_dropWhile]) (fun c2 r2 hc2 => by have := drop_head hc2; simpa using this) hlen2 hp2 hl2 (by simpa using hsz) hlist2 hdc2 hs2 (fun k hk2 => ?_) (by simp) hk fun ρ2 st2 a2 w2 he2 => hK ρ2 st2 a2 w2 (he.trans he2)
       have hkr : k ∈ todo.erase i := by rw [her]; exact (List.takeWhile_sublist _).subset hk2
       have := hl2 k hkr
       rw [List.getElem?_append_right (by simp), List.getElem?_replicate]
       simp; omega
    | cons j0 pre0 =>
    have hip : i ∈ pre := by
     rw [hpr] at hm
     rcases List.mem_append.1 hm with q | q
     · exact q
     · exfalso
       cases hrest : rest with
       | nil => rw [hrest] at q; simp at q
       | cons c r =>
        have hic : i = c := wait c r hrest (by rw [hrest] at q; exact q)
        subst hic
        have hj0 : j0 ∈ todo := by rw [hpr, hpre]; simp
        have hlt0 : j0 < i := by
         have : (pre ++ rest).Pairwise (· < ·) := hpr ▸ hp
         exact (List.pairwise_append.1 this).2.2 j0 (by rw [hpre]; simp) i (by rw [hrest]; simp)
        have := (cutAt_spec (hcut i r hrest)).2 j0 (hl j0 hj0) (by omega)
        rw [if_pos hlt0] at this
        have h3 := hnot j0 hj0 hlt0
        rw [this] at h3; cases h3
    have hpp : pre.Pairwise (· < ·) := by
     have : (pre ++ rest).Pairwise (· < ·) := hpr ▸ hp
     exact (List.pairwise_append.1 this).1
    have hsub : ∀ j ∈ pre, j ∈ todo := fun j hj => by rw [hpr]; exact List.mem_append_left _ hj
    have her : todo.erase i = pre.erase i ++ rest := by rw [hpr, List.erase_append_left _ hip]
    have hbfp : ∀ m, (bf.getD i 0).testBit m = true → m ∉ pre.erase i := fun m hb hmem => hbf m hb (by rw [her]; exact List.mem_append_left _ hmem)
    have hstep := bubble (P := P) (T := T) (base := base) (own := own) hD pre st hpp hip (fun j hj => hl j (hsub j hj)) (fun j hj => hnot j (hsub j hj)) hlen h
    have hstep2 := stepD_mono P T ops base bf mask own ho (K' := fun s => (s.h.length = base + ops.size ∧ ∀ k ∈ pre.erase i, s.h[base + k]? = some none) ∧ opsD P T ops base bf mask own (pre.erase i) s (restK P T inl ops bf mask f K rest)) (fun v f2 hf hk => ⟨⟨by
     show (effH st.h (base + i) f2).length = _; rw [effH_length (by omega)]; exact hlen, fun k hk2 => by
     show (effH st.h (base + i) f2)[base + k]? = _
     have hne : k ≠ i := fun e => by subst e; exact (List.Nodup.not_mem_erase (hpp.imp fun h => Nat.ne_of_lt h)) hk2
     rw [effH_other (by omega) _ (by omega) (fun m hx hn => by have hf : if m < base then (i, m) ∈ own ∧ okOld bf own i m = true else mask.testBit (m - base) = true ∧ (bf.getD i 0).testBit (m - base) = true := (by cases f2 <;> simp [Eff.sets] at hx <;> subst hx <;> exact hf); rw [if_neg (by omega)] at hf; have g3 := hf.2; rw [← hn, show base + k - base = k by omega] at g3; exact hbfp k g3 hk2)]; exact hres k (List.mem_of_mem_erase hk2)⟩, hk⟩) hstep
    refine step_ok hT (lkOf_ok ops) (rdDrawn_ok base bf own) (noInl_ok P) hs (fun _ => .inr (hres i hip)) hstep2 fun ρ' st' a' w' he hs' hk => ?_
    obtain ⟨⟨k1, k2⟩, k3⟩ := hk
    exact ih base own f (pre.erase i) rest (todo.erase i) her hcut hlen2 hp2 hl2 (by simpa using hsz) hlist2 hdc2 hs' k2 k1 k3 fun ρ2 st2 a2 w2 he2 => hK ρ2 st2 a2 w2 (he.trans he2)
end drawn
theorem upTo_pairwise : ∀ (n a : Nat), (upTo a n).Pairwise (· < ·)
 | 0, _ => .nil
 | n + 1, a => List.pairwise_cons.2 ⟨fun b hb => by rw [upTo_mem] at hb; omega, upTo_pairwise n (a + 1)⟩
theorem upTo_range (n : Nat) : upTo 0 n = List.range n := by
 apply List.ext_getElem?
 intro k
 rw [upTo_get]
 split
 · rename_i h; simp [h]
 · rename_i h; simp; omega
theorem regionA_ok (hm : P.follows .mixedOrders = true) (hT : TabOk P T) {inl : Inl Prop} (hI : InlOk P inl) {Q : Exit → Act → World → Prop} {K : St → Prop} {st : St} {a : Act} {id : Nat} {draw : Bool} (hs : RelS ρ W st a w)
 (h : regionA PA P T inl ops draw st K) (hK : ∀ ρ' st' a' w', Ext ρ ρ' → RelS ρ' W st' a' w' → K st' → Q .normal a' w') : (Code.region id ops draw).wpIn (FR rr) dp P Q a w := by
 unfold regionA at h
 cases draw with
 | false =>
  simp only [Bool.false_eq_true, if_false, upTo_range] at h
  exact wpIn_region (opsA_ok hT hI _ hs h hK)
 | true =>
  simp only [if_true] at h
  split at h
  · rename_i hok
    refine wpIn_region_any hm ?_
    have hs' : RelS ρ W ⟨st.t, st.h ++ List.replicate ops.size none, st.d⟩ a { w with drawn := w.drawn + 1 } := ⟨hs.t, (hs.h.room ops.size).drew, hs.d⟩
    rw [segA_eq] at h
    refine drawn_ok hT (drawnOk_spec hok) hI ops.size st.h.length _ ops.size _ _ (upTo 0 ops.size) (List.takeWhile_append_dropWhile).symm (fun c r hc => by have := drop_head hc; simpa using this) (upTo_length _ _) (upTo_pairwise _ _) (fun j hj => by rw [upTo_mem] at hj; omega) (by simp) (fun i hi => ?_) (fun i hi hn => ?_) hs' (fun i hi => ?_) (by simp) h hK
    · simp [hi, upTo_mem]
    · exact (hn (by rw [upTo_mem]; omega)).elim
    · have hi := (List.takeWhile_sublist _).subset hi
      rw [upTo_mem] at hi
      rw [List.getElem?_append_right (by simp), List.getElem?_replicate]
      simp; omega
  · exact qY h
end Go.Proofs.YtimgphlfaninnaaGreat.A
