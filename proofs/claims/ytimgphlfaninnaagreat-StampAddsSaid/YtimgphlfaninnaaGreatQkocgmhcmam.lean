import Derived.Test.YtimgphlfaninnaaGreatQhmepoefnlm
import Derived.Laws.OwnMore
import Derived.Great.BuildSlice
import Derived.Laws.IdiomStrings
import Derived.Laws.MakeOwn
import Derived.MapKept
import Derived.Carry
namespace Go.Proofs.YtimgphlfaninnaaGreat.A
open Go Go.RowKit
set_option linter.unusedVariables false
set_option linter.unusedSimpArgs false
variable {P : Program} {ρ : Names} {W w : World} {h : Heap}
theorem row_lt {i j m s : Nat} (hi : i < m) (hj : j < s) : i * s + j < m * s := by
 have : (i + 1) * s ≤ m * s := Nat.mul_le_mul_right s hi
 rw [Nat.add_mul] at this
 omega
theorem row_div {i j s : Nat} (hj : j < s) : (i * s + j) / s = i ∧ (i * s + j) % s = j := by
 have hs : 0 < s := by omega
 constructor
 · rw [Nat.mul_comm, Nat.mul_add_div hs, Nat.div_eq_of_lt hj]; rfl
 · rw [Nat.mul_comm, Nat.mul_add_mod, Nat.mod_eq_of_lt hj]
theorem row_of {k m s : Nat} (hk : k < m * s) : k / s < m ∧ k % s < s ∧ k / s * s + k % s = k := by
 have hs : 0 < s := by
  rcases Nat.eq_zero_or_pos s with h | h
  · subst h; simp at hk
  · exact h
 exact ⟨Nat.div_lt_of_lt_mul (by rw [Nat.mul_comm]; exact hk), Nat.mod_lt _ hs, by rw [Nat.mul_comm]; exact Nat.div_add_mod k s⟩
def flatV (V : Nat → Nat → Value) (s m : Nat) : List Value := (List.range (m * s)).map fun k => V (k / s) (k % s)
theorem flatV_len (V : Nat → Nat → Value) (s m : Nat) : (flatV V s m).length = m * s := by simp [flatV]
theorem flatV_at (V : Nat → Nat → Value) {s m i j : Nat} (hi : i < m) (hj : j < s) : (flatV V s m)[i * s + j]? = some (V i j) := by
 unfold flatV
 rw [List.getElem?_map, List.getElem?_range (row_lt hi hj)]
 simp only [Option.map_some, (row_div hj).1, (row_div hj).2]
theorem plain_iff {v : AV} : v.plain = true ↔ v.flat 0 = true ∧ v.one = true := by unfold AV.plain; rw [Bool.and_eq_true]
theorem plain_move {W' : World} {ρ' : Names} {v : AV} {V : Value} (hv : RV ρ W v V) (hp : v.plain = true) : RV ρ' W' v V := hv.flat_move 0 (plain_iff.1 hp).1
structure RowsA (W w : World) (s m : Nat) (d : Nat → Nat → AV) (a : Addr) (news : List Value) : Prop where
 len : news.length = m * s
 at_ : ∀ j u, news[j]? = some u → w.cell? (a.add j) = some u
 row : ∀ i j, i < m → j < s → ∃ V, news[i * s + j]? = some V ∧ RV noNames W (d i j) V ∧ (d i j).plain = true
theorem RowsA.one {s m : Nat} {d : Nat → Nat → AV} {a : Addr} {news : List Value} (r : RowsA W w s m d a news) : ∀ u ∈ news, u.oneCell' = true := by
 intro u hu
 obtain ⟨k, hk⟩ := List.mem_iff_getElem?.1 hu
 have hlt : k < m * s := by rw [← r.len]; exact (List.getElem?_eq_some_iff.1 hk).1
 obtain ⟨h1, h2, h3⟩ := row_of hlt
 obtain ⟨V, g1, g2, g3⟩ := r.row _ _ h1 h2
 rw [h3, hk] at g1; cases g1
 exact g2.one (plain_iff.1 g3).2
theorem srcB_ok (hR : Rel ρ W h w) {s : Nat} (h0 : 0 < s) {y : AV} {Y : Value} (hy : RV ρ W y Y) {rd : Nat → Option Ob} (hrd : ∀ n x, rd n = some x → h[n]? = some (some x)) {m : Nat} {d : Nat → Nat → AV} (hq : srcB rd s y = some (true, m, d)) :
 (m = 0 ∧ Y = .slice none 0 0) ∨ ∃ a cap news, Y = .slice (some a) m cap ∧ RowsA W w s m d a news := by
 have hk := Keeps.of_below hR.bel
 unfold srcB at hq
 split at hq
 case h_4 => cases hq
 case h_1 s' m' d' =>
  split at hq
  case isFalse => cases hq
  rename_i hs; subst hs
  simp only [Option.some.injEq, Prod.mk.injEq] at hq
  obtain ⟨hone, rfl, rfl⟩ := hq
  have hone := @of_decide_eq_true _ (Classical.propDecidable _) hone
  cases hy with
  | csl0 => exact .inl ⟨rfl, rfl⟩
  | csl s len cap c V hb hl hc hr =>
   rename_i b o
   refine .inr ⟨⟨b, o, none⟩, cap, flatV V s m', rfl, flatV_len _ _ _, fun k u hu => ?_, fun i j hi hj => ⟨V i j, flatV_at V hi hj, hr i j hi hj, hone i j hi hj⟩⟩
   have hlt : k < m' * s := by rw [← flatV_len V s m']; exact (List.getElem?_eq_some_iff.1 hu).1
   obtain ⟨h1, h2, h3⟩ := row_of hlt
   have e := flatV_at V (s := s) (m := m') h1 h2
   rw [h3, hu] at e; cases e
   rw [Addr.add_mid, hk.cell hb]
   have := hc _ _ h1 h2
   rw [h3] at this; exact this
 case h_2 n s' m' =>
  split at hq
  case h_2 => cases hq
  rename_i s2 m2 d' hn
  split at hq
  case isFalse => cases hq
  rename_i hs
  obtain ⟨rfl, rfl⟩ := hs
  simp only [Option.some.injEq, Prod.mk.injEq, Bool.and_eq_true] at hq
  obtain ⟨⟨hle, hone⟩, rfl, rfl⟩ := hq
  have hle := Nat.le_of_ble_eq_true hle
  have hone := @of_decide_eq_true _ (Classical.propDecidable _) hone
  cases hy with
  | sl0 => exact .inl ⟨rfl, rfl⟩
  | sl i s len cap off hp hl ho =>
   rename_i b o
   by_cases hm : m' = 0
   · subst hm
     exact .inr ⟨⟨b, off, none⟩, cap, [], rfl, by simp, fun j u hu => by simp at hu, fun i j hi => by omega⟩
   have hoff : off = o := by rcases ho with ho | ho; omega; simpa using ho
   subst hoff
   obtain ⟨b', o', e1, e2⟩ := hR.ob n _ (hrd _ _ hn) (by cases m2 with | zero => omega | succ k => rfl)
   rw [hp] at e1; cases e1
   obtain ⟨V, h3, h4⟩ := e2
   refine .inr ⟨⟨b, off, none⟩, cap, flatV V s m', rfl, flatV_len _ _ _, fun k u hu => ?_, fun i j hi hj => ⟨V i j, flatV_at V hi hj, h4 i j (by omega) hj, hone i j hi hj⟩⟩
   have hlt : k < m' * s := by rw [← flatV_len V s m']; exact (List.getElem?_eq_some_iff.1 hu).1
   obtain ⟨h1, h2, h5⟩ := row_of hlt
   have e := flatV_at V (s := s) (m := m') h1 h2
   rw [h5, hu] at e; cases e
   rw [Addr.add_mid]
   have := h3 (k / s) (k % s) (by omega) h2
   rw [h5] at this; exact this
 case h_3 n s' m' =>
  split at hq
  case h_3 => cases hq
  case h_1 z e s2 l hn =>
   split at hq
   case isFalse => cases hq
   rename_i hc
   obtain ⟨rfl, rfl, hlen, hpl⟩ := hc
   simp only [Option.some.injEq, Prod.mk.injEq, true_and] at hq
   obtain ⟨rfl, rfl⟩ := hq
   cases hy with | gs s len hp hle =>
   rename_i b cap
   obtain ⟨b', o', e1, e2⟩ := hR.ob n _ (hrd _ _ hn)
   rw [hp] at e1; cases e1
   obtain ⟨_, _, L, fz, h4, h5, _, _, h6, h7⟩ := e2
   refine .inr ⟨⟨b, 0, none⟩, cap, L.take l.length, rfl, by rw [List.length_take]; omega, fun k u hu => ?_, fun i j hi hj => ?_⟩
   · rw [List.getElem?_take] at hu
     split at hu
     · rw [Addr.add_mid]; simp [World.cell?, h4, hu]
     · cases hu
   · have hlt := row_lt hi hj
     have hlt2 : i * s + j < l.length := by omega
     have e := List.getElem?_eq_getElem hlt2
     obtain ⟨V, g1, g2⟩ := h7.get _ _ e
     have hpp := List.all_eq_true.1 hpl _ (List.getElem_mem hlt2)
     have ed : listC s l i j = l[i * s + j] := by unfold listC; simp only [List.getD, e, Option.getD_some]
     exact ⟨V, g1, by rw [ed]; exact plain_move g2 hpp, by rw [ed]; exact hpp⟩
  case h_2 e s2 m2 d' hn =>
   split at hq
   case isFalse => cases hq
   rename_i hs
   obtain ⟨rfl, rfl⟩ := hs
   simp only [Option.some.injEq, Prod.mk.injEq] at hq
   obtain ⟨hle, rfl, rfl⟩ := hq
   have hle := Nat.le_of_ble_eq_true hle
   cases hy with | gs s len hp hlc =>
   rename_i b cap
   obtain ⟨b', o', e1, e2⟩ := hR.ob n _ (hrd _ _ hn)
   rw [hp] at e1; cases e1
   obtain ⟨_, _, L, h4, h5, h6, h7⟩ := e2
   have hms : m' * s ≤ cap * s := Nat.mul_le_mul_right s hlc
   refine .inr ⟨⟨b, 0, none⟩, cap, L.take (m' * s), rfl, by rw [List.length_take]; omega, fun k u hu => ?_, fun i j hi hj => ?_⟩
   · rw [List.getElem?_take] at hu
     split at hu
     · rw [Addr.add_mid]; simp [World.cell?, h4, hu]
     · cases hu
   · obtain ⟨V, g1, g2, g3⟩ := h7 i j (by omega) hj
     exact ⟨V, by rw [List.getElem?_take, if_pos (row_lt hi hj)]; exact g1, g2, g3⟩
theorem base_ok (hR : Rel ρ W h w) {n s len : Nat} {X : Value} (hx : RV ρ W (.gs n s len) X) {ob : Ob} (hn : h[n]? = some (some ob)) {e : TypeId} {c : Nat → Nat → AV}
 (hob : (∃ l, ob = .own true e s l ∧ l.length = len * s ∧ l.all AV.plain = true ∧ c = listC s l) ∨ ob = .vec e s len c) :
 ∃ b cap L, ρ n = some (b, cap) ∧ X = .slice (some ⟨b, 0, none⟩) len cap ∧ len ≤ cap ∧ W.heap.size ≤ b ∧ cap ≤ maxLen ∧ w.heap[b]? = some (.cells (List.toArray L) e (0, 0)) ∧ L.length = cap * s ∧ (∀ i j, i < len → j < s → ∃ V, L[i * s + j]? = some V ∧ RV noNames W (c i j) V ∧ (c i j).plain = true) ∧ ob.excl = true := by
 cases hx with | gs s len hp hle =>
 rename_i b cap
 rcases hob with ⟨l, rfl, hlen, hpl, rfl⟩ | rfl
 · obtain ⟨b', o', e1, e2⟩ := hR.ob n _ hn
   rw [hp] at e1; cases e1
   obtain ⟨h1, h2, L, fz, h4, h5, h6, _, h7, h8⟩ := e2
   have hfz := h6 rfl
   subst hfz
   refine ⟨b, cap, L, hp, rfl, hle, h1, h2, h4, h5, fun i j hi hj => ?_, rfl⟩
   have hlt := row_lt hi hj
   have hlt2 : i * s + j < l.length := by omega
   have e := List.getElem?_eq_getElem hlt2
   obtain ⟨V, g1, g2⟩ := h8.get _ _ e
   have hpp := List.all_eq_true.1 hpl _ (List.getElem_mem hlt2)
   have ed : listC s l i j = l[i * s + j] := by unfold listC; simp only [List.getD, e, Option.getD_some]
   rw [List.getElem?_take, if_pos hlt2] at g1
   exact ⟨V, g1, by rw [ed]; exact plain_move g2 hpp, by rw [ed]; exact hpp⟩
 · obtain ⟨b', o', e1, e2⟩ := hR.ob n _ hn
   rw [hp] at e1; cases e1
   obtain ⟨h1, h2, L, h4, h5, h6, h7⟩ := e2
   exact ⟨b, cap, L, hp, rfl, hle, h1, h2, h4, h5, h7, rfl⟩
theorem join_row {s len m : Nat} {c d : Nat → Nat → AV} {O N R : List Value} (hO : O.length = len * s) (h1 : ∀ i j, i < len → j < s → ∃ V, O[i * s + j]? = some V ∧ RV noNames W (c i j) V ∧ (c i j).plain = true)
 (h2 : ∀ i j, i < m → j < s → ∃ V, N[i * s + j]? = some V ∧ RV noNames W (d i j) V ∧ (d i j).plain = true) : ∀ i j, i < len + m → j < s → ∃ V, (O ++ N ++ R)[i * s + j]? = some V ∧ RV noNames W (joinC c len d i j) V ∧ (joinC c len d i j).plain = true := by
 intro i j hi hj
 unfold joinC
 by_cases hlt : i < len
 · obtain ⟨V, g1, g2, g3⟩ := h1 i j hlt hj
   have hk : i * s + j < O.length := (List.getElem?_eq_some_iff.1 g1).1
   rw [if_pos hlt, List.append_assoc, List.getElem?_append_left hk]
   exact ⟨V, g1, g2, g3⟩
 · obtain ⟨V, g1, g2, g3⟩ := h2 (i - len) j (by omega) hj
   have hk : (i - len) * s + j < N.length := (List.getElem?_eq_some_iff.1 g1).1
   have e : i * s + j = O.length + ((i - len) * s + j) := by
    rw [hO, ← Nat.add_assoc, ← Nat.add_mul, show len + (i - len) = i by omega]
   rw [if_neg hlt, e, List.append_assoc, List.getElem?_append_right (by omega), show O.length + ((i - len) * s + j) - O.length = (i - len) * s + j by omega, List.getElem?_append_left hk]
   exact ⟨V, g1, g2, g3⟩
theorem append_none {t e : TypeId} {i : TypeInfo} (hu : P.underlying t = some (.slice e)) (hi : P.info? e = some i) (ty : TypeId) (v : Value) (b : Option Addr) (len cap : Nat) (hv : v = .slice b len cap) (hle : len ≤ cap) (Y : Value) (hY : Y = .slice none 0 0 ∨ ∃ a c, Y = .slice (some a) 0 c) (w : World) :
 (Builtin.append_ #[t, t] ty #[v, Y]).run P w = .ok v w := by
 subst hv
 have f1 : ∀ a c, (Builtin.firstCells i.size 0 (.slice (some a) 0 c)).run P w = .ok #[] w := fun a c => run_firstCells_some (P := P) w i.size 0 a 0 c [] (by simp) (fun j u hj => by simp at hj)
 rcases hY with rfl | ⟨a, c, rfl⟩ <;> cases b <;> simp [Builtin.append_, run_underlying hu, sizeOf, typeInfo, hi, Builtin.lenOf, hle, run_firstCells_none, storeCells, f1]
theorem roomB_ok {n bytes : Nat} (h : roomB n bytes = true) : n ≤ maxLen ∧ n * bytes ≤ 140737488355328 := by
 unfold roomB at h
 simp only [Bool.and_eq_true] at h
 exact ⟨Nat.le_of_ble_eq_true h.1, Nat.le_of_ble_eq_true h.2⟩
theorem appendN_ok (hR : Rel ρ W h w) {t e : TypeId} {i : TypeInfo} {z : AV} (hu : P.underlying t = some (.slice e)) (hi : P.info? e = some i) (hz : zeroT P e = some z) (h0 : 0 < i.size) (hzl : z.cells.length = i.size) (ty : TypeId) {y : AV} {Y : Value} (hy : RV ρ W y Y) {rd : Nat → Option Ob} {nm : Nat} (hrd : ∀ n x, rd n = some x → h[n]? = some (some x)) (hnm : Fresh h nm)
 {m : Nat} {d : Nat → Nat → AV} (hsrc : srcB rd i.size y = some (true, m, d)) (hroom : roomB m i.bytes = true) :
 ∃ V w' ρ', (Builtin.append_ #[t, t] ty #[.slice none 0 0, Y]).run P w = .ok V w' ∧ Ext ρ ρ' ∧ RV ρ' W (.sl nm 0 i.size m) V ∧ Rel ρ' W (effH h nm (.alloc (.row i.size m d))) w' := by
 obtain ⟨r1, r2⟩ := roomB_ok hroom
 have src := srcB_ok hR h0 hy hrd hsrc
 by_cases hm : m = 0
 · subst hm
   refine ⟨.slice none 0 0, w, ρ, append_none hu hi ty _ none 0 0 rfl (Nat.le_refl _) Y ?_ w, Ext.refl ρ, .sl0 _ _ _, hR.voids hnm rfl⟩
   rcases src with ⟨_, e⟩ | ⟨a, cap, news, e, _⟩
   · exact .inl e
   · exact .inr ⟨a, cap, e⟩
 rcases src with ⟨e, _⟩ | ⟨a, cap, news, rfl, rows⟩
 · exact (hm e).elim
 obtain ⟨Z, hZ, rZ⟩ := zero_of hz ρ W hi
 have hzs : Z.cells.size = i.size := by
  have := rZ.cells.length
  have h2 : Z.cells.toList.length = i.size := by omega
  simpa using h2
 have hr := run_append_nil (P := P) w t ty e i Z hu hi hZ a m cap news rows.len rows.at_ (by omega) (by unfold maxLen at r1; omega) (by omega)
 have hge := grownCap_ge w m 0 e
 obtain ⟨C, hC⟩ : ∃ C, C = news.toArray ++ Builtin.zeroCells Z.cells (grownCap w m 0 e - m) := ⟨_, rfl⟩
 rw [← hC] at hr
 have hcell : ∀ k u, news[k]? = some u → (w.drew.alloc (.cells C e)).cell? ⟨w.heap.size, k, none⟩ = some u := fun k u hk => by
  have hb := heap_alloc_new w.drew (.cells C e)
  have hk2 : C[k]? = some u := by
   rw [hC, Array.getElem?_append_left (by simpa using (List.getElem?_eq_some_iff.1 hk).1)]; simpa using hk
  have hs : w.drew.heap.size = w.heap.size := rfl
  rw [hs] at hb
  unfold World.cell?
  simp only [hb]
  simpa using hk2
 clear hC
 have hV : ∀ a j, a < m → j < i.size → ∃ V, news[a * i.size + j]? = some V ∧ RV noNames W (d a j) V := fun a j ha hj => by
  obtain ⟨V, g1, g2, _⟩ := rows.row a j ha hj; exact ⟨V, g1, g2⟩
 obtain ⟨k1, k2, k3⟩ := makeF_ok hR hnm (drew_grown w C e (0, 0)) (x := .row i.size m d) (b := w.heap.size) (o := 0) (Nat.le_refl _) (by simp)
  ⟨fun a j => news.getD (a * i.size + j) undef, fun a j ha hj => by
   obtain ⟨V, g1, g2⟩ := hV a j ha hj
   simp only [List.getD, g1, Option.getD_some, Nat.zero_add]
   exact hcell _ _ g1, fun a j ha hj => by
   obtain ⟨V, g1, g2⟩ := hV a j ha hj
   simp only [List.getD, g1, Option.getD_some]
   exact g2⟩
 exact ⟨_, _, _, hr, k1, .sl (o := 0) 0 i.size m _ 0 k3 hge (.inr (by omega)), k2⟩
theorem appendC_ok (hR : Rel ρ W h w) {t : TypeId} {x y v : AV} {X Y : Value} (hx : RV ρ W x X) (hy : RV ρ W y Y) {s : Option (Nat × Ob)} {al : Option Ob} (ty : TypeId) {nm : Nat} (hnm : Fresh h nm)
 (hq : appendC P nm t x y = some (true, v, s, al)) : ∃ V w' ρ', (Builtin.append_ #[t, t] ty #[X, Y]).run P w = .ok V w' ∧ Ext ρ ρ' ∧ RV ρ' W v V ∧ Rel ρ' W (effH h nm (effOf s al)) w' := by
 unfold appendC at hq
 split at hq
 case h_2 => cases hq
 rename_i s' m d
 split at hq
 case h_2 => cases hq
 rename_i e hu
 split at hq
 case h_2 => cases hq
 rename_i i z hi hz
 split at hq
 case isFalse => cases hq
 rename_i hc
 obtain ⟨h0, hzl, rfl⟩ := hc
 cases hx
 split at hq
 · simp only [Option.some.injEq, Prod.mk.injEq, true_and] at hq
   obtain ⟨rfl, rfl, rfl⟩ := hq
   refine ⟨.slice none 0 0, w, ρ, append_none hu hi ty _ none 0 0 rfl (Nat.le_refl _) Y ?_ w, Ext.refl ρ, .nilsl, hR⟩
   cases hy with
   | nv0 => exact .inl rfl
   | nv s len cap c V hb hl hc hr hf => exact .inr ⟨_, _, rfl⟩
 · rename_i k
   simp only [Option.some.injEq, Prod.mk.injEq, Bool.and_eq_true] at hq
   obtain ⟨⟨hone, hroom⟩, rfl, rfl, rfl⟩ := hq
   have hy2 : RV ρ W (.csl i.size (k + 1) d) Y := by
    cases hy with
    | nv s len cap c V hb hl hc hr hf => exact .csl _ _ cap _ V hb hl hc hr
   have hsrc : srcB (fun _ => none) i.size (.csl i.size (k + 1) d) = some (true, k + 1, d) := by
    simp only [srcB, if_pos, hone]
   obtain ⟨r1, r2⟩ := roomB_ok hroom
   rcases srcB_ok hR h0 hy2 (fun _ _ e => by cases e) hsrc with ⟨e, _⟩ | ⟨a, cap, news, rfl, rows⟩
   · cases e
   obtain ⟨Z, hZ, rZ⟩ := zero_of hz ρ W hi
   have hzs : Z.cells.size = i.size := by
    have := rZ.cells.length
    have h2 : Z.cells.toList.length = i.size := by omega
    simpa using h2
   have hr := run_append_nil (P := P) w t ty e i Z hu hi hZ a (k + 1) cap news rows.len rows.at_ (by omega) (by unfold maxLen at r1; omega) (by omega)
   have hge := grownCap_ge w (k + 1) 0 e
   have hcm := grownCap_le_maxLen w (k + 1) 0 e r1
   obtain ⟨C, hC⟩ : ∃ C, C = news.toArray ++ Builtin.zeroCells Z.cells (grownCap w (k + 1) 0 e - (k + 1)) := ⟨_, rfl⟩
   have hsize : C.size = grownCap w (k + 1) 0 e * i.size := by
    rw [hC]
    simp only [Array.size_append, List.size_toArray, rows.len, size_zeroCells, hzs, ← Nat.add_mul]
    congr 1; omega
   have hget : ∀ (j : Nat) (u : Value), news[j]? = some u → C.toList[j]? = some u := fun j u hj => by
    rw [hC, Array.toList_append, List.getElem?_append_left (by simpa using (List.getElem?_eq_some_iff.1 hj).1)]
    simpa using hj
   rw [← hC] at hr
   clear hC
   obtain ⟨k1, k2, k3⟩ := makeF_ok hR hnm (drew_grown w C e (0, 0)) (x := .vec e i.size (k + 1) d) (b := w.heap.size) (o := grownCap w (k + 1) 0 e) (Nat.le_refl _) (by simp)
    ⟨hR.bel.size, hcm, C.toList, by simpa using heap_alloc_new w.drew (.cells C e), by simpa using hsize, hge, fun a j ha hj => by
     obtain ⟨V, g1, g2, g3⟩ := rows.row a j ha hj
     exact ⟨V, hget _ _ g1, g2, g3⟩⟩
   exact ⟨_, _, _, hr, k1, .gs _ _ k3 hge, k2⟩
theorem aite_t (a b : AV) : aite true a b = a := by
 unfold aite
 split <;> try rfl
 split <;> first | (rename_i h; subst h; rfl) | rfl
theorem aite_f (a b : AV) : aite false a b = b := by
 unfold aite
 split <;> try rfl
 split <;> first | (rename_i h; subst h; rfl) | rfl
theorem pushC_lt {s len i j : Nat} {c : Nat → Nat → AV} {l : List AV} (hi : i < len) (hj : j < s) : pushC s c len l i j = c i j := by
 have hd := decide_eq_true hi
 unfold pushC
 split
 · show aite (decide (i < len)) (c i 0) (l.headD .undef) = c i j
   rw [hd, aite_t, show j = 0 by omega]
 · show aite (decide (i < len)) (c i j) (l.getD j .undef) = c i j
   rw [hd, aite_t]
theorem pushC_ge {s len i j : Nat} {c : Nat → Nat → AV} {l : List AV} (hi : ¬ i < len) (hj : j < s) (hl : l.length = s) : pushC s c len l i j = l.getD j .undef := by
 have hd := decide_eq_false hi
 unfold pushC
 split
 · show aite (decide (i < len)) (c i 0) (l.headD .undef) = _
   rw [hd, aite_f, show j = 0 by omega]
   cases l <;> rfl
 · show aite (decide (i < len)) (c i j) (l.getD j .undef) = _
   rw [hd, aite_f]
theorem rowC_at {s i j k : Nat} {l : List AV} (hl : l.length = k * s) (hi : i < k) (hj : j < s) : rowC s l i j = listC s l i j := by
 unfold rowC
 cases hb : Nat.beq l.length s with
 | false => rfl
 | true =>
  have h := Nat.eq_of_beq_eq_true hb
  have e : i = 0 := by
   have : k * s = 1 * s := by omega
   have := Nat.eq_of_mul_eq_mul_right (by omega) this
   omega
  subst e
  have e2 : listC s l 0 j = l.getD j .undef := by unfold listC; rw [Nat.zero_mul, Nat.zero_add]
  rw [e2]
  show row1 s l 0 j = _
  unfold row1
  split
  · show l.headD .undef = _
    rw [show j = 0 by omega]
    cases l <;> rfl
  · rfl
theorem addC_at {rd : Nat → Option Ob} {s len m i j : Nat} {c d : Nat → Nat → AV} {y : AV} {q : Bool} (hsrc : srcB rd s y = some (q, m, d)) (hi : i < len + m) (hj : j < s) : addC s c len d (oneRow rd s y) i j = joinC c len d i j := by
 unfold oneRow
 split
 case h_2 => rfl
 rename_i n s' len'
 split
 case h_2 => rfl
 rename_i z e s2 l hn
 split
 case isFalse => rfl
 rename_i hl
 have hl := Nat.eq_of_beq_eq_true hl
 unfold srcB at hsrc
 simp only [hn] at hsrc
 split at hsrc
 case isFalse => cases hsrc
 rename_i hc
 obtain ⟨rfl, rfl, hlen, _⟩ := hc
 simp only [Option.some.injEq, Prod.mk.injEq] at hsrc
 obtain ⟨_, rfl, rfl⟩ := hsrc
 have hm : len' = 1 := by
  have : len' * s = 1 * s := by omega
  exact Nat.eq_of_mul_eq_mul_right (by omega) this
 subst hm
 show pushC s c len l i j = _
 unfold joinC
 by_cases h : i < len
 · rw [pushC_lt h hj, if_pos h]
 · rw [pushC_ge h hj hl, if_neg h]
   unfold listC
   rw [show i - len = 0 by omega, Nat.zero_mul, Nat.zero_add]
theorem appendG_ok (hR : Rel ρ W h w) {t e : TypeId} {i : TypeInfo} {z : AV} (hu : P.underlying t = some (.slice e)) (hi : P.info? e = some i) (hz : zeroT P e = some z) (h0 : 0 < i.size) (hzl : z.cells.length = i.size) (ty : TypeId) {y : AV} {Y : Value} (hy : RV ρ W y Y) {rd : Nat → Option Ob} {nm : Nat} (hrd : ∀ n x, rd n = some x → h[n]? = some (some x)) (hnm : Fresh h nm)
 {m : Nat} {d : Nat → Nat → AV} (hsrc : srcB rd i.size y = some (true, m, d)) {n len : Nat} (hroom : roomB (len + m) i.bytes = true) {X : Value} (hx : RV ρ W (.gs n i.size len) X) {ob : Ob} (hn : h[n]? = some (some ob)) {c : Nat → Nat → AV}
 (hob : (∃ l, ob = .own true e i.size l ∧ l.length = len * i.size ∧ l.all AV.plain = true ∧ c = listC i.size l) ∨ ob = .vec e i.size len c) {C0 : Nat → Nat → AV} (hC0 : ∀ a j, a < len + m → j < i.size → C0 a j = joinC c len d a j) :
 ∃ V w' ρ', (Builtin.append_ #[t, t] ty #[X, Y]).run P w = .ok V w' ∧ Ext ρ ρ' ∧ RV ρ' W (.gs nm i.size (len + m)) V ∧ Rel ρ' W (effH h nm (.two n .dead (.vec e i.size (len + m) C0))) w' := by
 obtain ⟨d2, d3⟩ := roomB_ok hroom
 have src := srcB_ok hR h0 hy hrd hsrc
 obtain ⟨b, cap, L, hp, rfl, hle, hW0, hcap, hb, hL, hc, hex⟩ := base_ok hR hx hn hob
 obtain ⟨Z, hZ, rZ⟩ := zero_of hz ρ W hi
 have hzs : Z.cells.size = i.size := by
  have := rZ.cells.length
  have h2 : Z.cells.toList.length = i.size := by omega
  simpa using h2
 obtain ⟨k1, k2⟩ := hR.kill hn hex hp
 have hfresh : Fresh (h.set n (some Ob.dead)) nm := by
  rcases hnm with rfl | hf
  · exact .inl (by simp)
  · refine .inr ?_
    rw [List.getElem?_set]
    split
    · rename_i e; subst e; rw [hn] at hf; cases hf
    · exact hf
 have hll : len * i.size ≤ cap * i.size := Nat.mul_le_mul_right _ hle
 have hO : (L.take (len * i.size)).length = len * i.size := by rw [List.length_take]; omega
 have hc' : ∀ a j, a < len → j < i.size → ∃ V, (L.take (len * i.size))[a * i.size + j]? = some V ∧ RV noNames W (c a j) V ∧ (c a j).plain = true := fun a j ha hj => by
  obtain ⟨V, g1, g2⟩ := hc a j ha hj
  exact ⟨V, by rw [List.getElem?_take, if_pos (row_lt ha hj)]; exact g1, g2⟩
 have ext : Ext ρ (ρ.with nm b cap) := Names.with_ext (k1.free_none hfresh)
 have none_ : m = 0 → (∀ V, V = Value.slice (some ⟨b, 0, none⟩) len cap → (Builtin.append_ #[t, t] ty #[V, Y]).run P w = .ok V w) → ∃ V w' ρ', (Builtin.append_ #[t, t] ty #[.slice (some ⟨b, 0, none⟩) len cap, Y]).run P w = .ok V w' ∧ Ext ρ ρ' ∧ RV ρ' W (.gs nm i.size (len + m)) V ∧ Rel ρ' W (effH h nm (.two n .dead (.vec e i.size (len + m) C0))) w' := fun hm hrun => by
  subst hm
  refine ⟨_, w, _, hrun _ rfl, ext, .gs _ _ (by simp [Names.with]) hle, ?_⟩
  refine k1.name hfresh (b := b) (o := cap) (x := .vec e i.size (len + 0) C0) (hR.dom n _ hp).2 ⟨hW0, hcap, L, hb, hL, hle, fun a j ha hj => ?_⟩ fun m' p y hm' hpb hy => k2 m' p y hm' hpb hy
  obtain ⟨V, g1, g2, g3⟩ := hc a j ha hj
  have e : C0 a j = c a j := by rw [hC0 a j (by omega) hj]; unfold joinC; rw [if_pos (by omega)]
  exact ⟨V, g1, by rw [e]; exact g2, by rw [e]; exact g3⟩
 rcases src with ⟨hm, hY⟩ | ⟨a, capy, news, rfl, rows⟩
 · exact none_ hm fun V hV => append_none hu hi ty V _ len cap hV hle Y (.inl hY) w
 by_cases hrm : len + m ≤ cap
 · have hml : (len + m) * i.size ≤ cap * i.size := Nat.mul_le_mul_right _ hrm
   rw [Nat.add_mul] at hml
   have hr := run_append_room (P := P) w t ty e i hu hi b len cap L.toArray hb a m capy news rows.len rows.at_ rows.one hrm (by simp only [List.size_toArray]; have := rows.len; omega)
   obtain ⟨C, hC⟩ : ∃ C, C = L.toArray.toList.take (len * i.size) ++ news ++ L.toArray.toList.drop (len * i.size + news.length) := ⟨_, rfl⟩
   rw [← hC] at hr
   have hsize : C.length = cap * i.size := by
    rw [hC]
    have := rows.len
    simp only [List.length_append, List.length_take, List.length_drop]
    omega
   have hrow := join_row (W := W) (R := L.toArray.toList.drop (len * i.size + news.length)) hO hc' rows.row
   rw [show L.take (len * i.size) ++ news ++ L.toArray.toList.drop (len * i.size + news.length) = C from hC.symm] at hrow
   have hrow : ∀ a j, a < len + m → j < i.size → ∃ V, C[a * i.size + j]? = some V ∧ RV noNames W (C0 a j) V ∧ (C0 a j).plain = true := fun a j ha hj => by rw [hC0 a j ha hj]; exact hrow a j ha hj
   clear hC
   have hg' : w.grownBy (w.setRow b C.toArray) (some b) := ⟨rfl, rfl, rfl, by simp, fun k _ hk => setRow_other w b k _ (fun e => hk (by rw [e]))⟩
   have r3 := k1.grow (row := some b) hg' (fun k e => by cases e; exact hW0) (fun m p y hm e hy => k2 m p y hm (Option.some.inj e).symm hy)
   have r4 := r3.name hfresh (b := b) (o := cap) (x := .vec e i.size (len + m) C0) (by simpa using (hR.dom n _ hp).2)
    ⟨hW0, hcap, C, setRow_heap w b L.toArray _ e _ hb, hsize, hrm, hrow⟩ fun m' p y hm' hpb hy => k2 m' p y hm' hpb hy
   exact ⟨_, _, _, hr, ext, .gs _ _ (by simp [Names.with]) hrm, r4⟩
 · have hr := run_append_grow (P := P) w t ty e i Z hu hi hZ ⟨b, 0, none⟩ len cap (L.take (len * i.size)) hO (fun j u hj => by
    rw [List.getElem?_take] at hj
    split at hj
    · rw [Addr.add_mid]; simp [World.cell?, hb, hj]
    · cases hj) a m capy news rows.len rows.at_ (by omega) (by unfold maxLen at d2; omega) (growslice_fits (by omega) d3)
   have hge := grownCap_ge w (len + m) cap e
   have hcm := grownCap_le_maxLen w (len + m) cap e d2
   obtain ⟨C, hC⟩ : ∃ C, C = (L.take (len * i.size)).toArray ++ news.toArray ++ Builtin.zeroCells Z.cells (grownCap w (len + m) cap e - (len + m)) := ⟨_, rfl⟩
   rw [← hC] at hr
   have hsize : C.toList.length = grownCap w (len + m) cap e * i.size := by
    rw [hC]
    have := rows.len
    simp only [Array.length_toList, Array.size_append, List.size_toArray, size_zeroCells, hzs, hO, this, ← Nat.add_mul]
    congr 1; omega
   have hrow := join_row (W := W) (R := (Builtin.zeroCells Z.cells (grownCap w (len + m) cap e - (len + m))).toList) hO hc' rows.row
   rw [show L.take (len * i.size) ++ news ++ (Builtin.zeroCells Z.cells (grownCap w (len + m) cap e - (len + m))).toList = C.toList by rw [hC]; simp] at hrow
   have hrow : ∀ a j, a < len + m → j < i.size → ∃ V, C.toList[a * i.size + j]? = some V ∧ RV noNames W (C0 a j) V ∧ (C0 a j).plain = true := fun a j ha hj => by rw [hC0 a j ha hj]; exact hrow a j ha hj
   clear hC
   have r3 := k1.grow (row := none) (drew_grown w C e (0, 0)) (fun k e => by cases e) (fun m p y hm e hy => by cases e)
   have ext2 : Ext ρ (ρ.with nm w.heap.size (grownCap w (len + m) cap e)) := Names.with_ext (k1.free_none hfresh)
   have hnew : (w.drew.alloc (.cells C e)).heap[w.heap.size]? = some (.cells C.toList.toArray e (0, 0)) := by
    have := heap_alloc_new w.drew (.cells C e)
    simpa using this
   have r4 := r3.name hfresh (b := w.heap.size) (o := grownCap w (len + m) cap e) (x := .vec e i.size (len + m) C0) (by simp)
    ⟨hR.bel.size, hcm, C.toList, hnew, hsize, hge, hrow⟩ fun m' p y hm' hpb hy => by
     have := (hR.dom m' p hm').2; omega
   exact ⟨_, _, _, hr, ext2, .gs _ _ (by simp [Names.with]) hge, r4⟩
theorem appendB_ok (hR : Rel ρ W h w) {t : TypeId} {x y v : AV} {X Y : Value} (hx : RV ρ W x X) (hy : RV ρ W y Y) {s : Option (Nat × Ob)} {al : Option Ob} (ty : TypeId) {rd : Nat → Option Ob} {nm : Nat} (hrd : ∀ n x, rd n = some x → h[n]? = some (some x)) (hnm : Fresh h nm)
 (hq : appendB P rd nm t x y = some (true, v, s, al)) : ∃ V w' ρ', (Builtin.append_ #[t, t] ty #[X, Y]).run P w = .ok V w' ∧ Ext ρ ρ' ∧ RV ρ' W v V ∧ Rel ρ' W (effH h nm (effOf s al)) w' := by
 unfold appendB at hq
 split at hq
 case h_2 => cases hq
 rename_i e hu
 split at hq
 case h_2 => cases hq
 rename_i i z hi hz
 split at hq
 case isFalse => cases hq
 rename_i hc
 obtain ⟨h0, hzl⟩ := hc
 split at hq
 case h_2 => cases hq
 rename_i q m d hsrc
 split at hq
 case h_3 => cases hq
 case h_1 =>
  simp only [Option.some.injEq, Prod.mk.injEq, Bool.and_eq_true] at hq
  obtain ⟨⟨rfl, hroom⟩, rfl, rfl, rfl⟩ := hq
  cases hx
  exact appendN_ok hR hu hi hz h0 hzl ty hy hrd hnm hsrc hroom
 case h_2 n s' len =>
  split at hq
  case h_3 => cases hq
  case h_1 e' s2 l hl =>
   split at hq
   case isFalse => cases hq
   rename_i hcc
   obtain ⟨rfl, rfl, rfl, d1, d2⟩ := hcc
   simp only [Option.some.injEq, Prod.mk.injEq, Bool.and_eq_true] at hq
   obtain ⟨⟨rfl, hroom⟩, rfl, rfl, rfl⟩ := hq
   exact appendG_ok hR hu hi hz h0 hzl ty hy hrd hnm hsrc hroom hx (hrd _ _ hl) (.inl ⟨l, rfl, d1, d2, rfl⟩) fun a j ha hj => addC_at hsrc ha hj
  case h_2 e' s2 len' c hl =>
   split at hq
   case isFalse => cases hq
   rename_i hcc
   obtain ⟨rfl, rfl, rfl⟩ := hcc
   simp only [Option.some.injEq, Prod.mk.injEq, Bool.and_eq_true] at hq
   obtain ⟨⟨rfl, hlen, hroom⟩, rfl, rfl, rfl⟩ := hq
   have := Nat.eq_of_beq_eq_true hlen
   subst this
   exact appendG_ok hR hu hi hz h0 hzl ty hy hrd hnm hsrc hroom hx (hrd _ _ hl) (.inr rfl) fun a j ha hj => addC_at hsrc ha hj
variable {P : Program} {ρ : Names} {W w : World} {h : Heap}
theorem xheap_eff (h : Heap) (s : Option (Nat × Ob)) (a : Option Ob) : xheap h s a = effH h h.length (effOf s a) := by
 rcases s with _ | ⟨n, x⟩ <;> cases a <;> simp [xheap, effOf, effH]
theorem cellsOf_ok (hR : Rel ρ W h w) {s : Nat} {x : AV} {X : Value} {l : List AV} (hx : RV ρ W x X) {rd : Nat → Option Ob} (hrd : ∀ n x, rd n = some x → h[n]? = some (some x)) (hq : cellsOf rd s x = some l) :
 ∃ n m len b cap e L fz, x = .gs n s len ∧ X = .slice (some ⟨b, 0, none⟩) len cap ∧ l.length = len * s ∧ ρ n = some (b, cap) ∧ h[n]? = some (some (.own m e s l)) ∧ w.heap[b]? = some (.cells (List.toArray L) e fz) ∧ l.length ≤ L.length ∧ RL ρ W l (L.take l.length) := by
 unfold cellsOf at hq
 split at hq
 · rename_i n s' len
   split at hq
   · rename_i z e s2 l' hl
     split at hq
     · rename_i hc
       obtain ⟨rfl, rfl, hlen⟩ := hc
       simp at hq; subst hq
       cases hx with | gs s len hp hle =>
       rename_i b cap
       have hm := hrd _ _ hl
       obtain ⟨b', o', e1, e2⟩ := hR.ob n _ hm
       rw [hp] at e1; cases e1
       obtain ⟨_, _, L, fz, h4, h5, _, _, h6, h7⟩ := e2
       exact ⟨n, z, len, b, cap, e, L, fz, rfl, rfl, hlen, hp, hm, h4, h6, h7⟩
     · cases hq
   · cases hq
 · cases hq
theorem RE.length : ∀ {l : List (AV × AV)} {L : List MapEntry}, RE ρ W l L → l.length = L.length
 | _, _, .nil => rfl
 | _, _, .cons _ _ t => by simp [RE.length t]
theorem RE.snoc {k v : AV} {e : MapEntry} (hk : RV ρ W k e.key) (hv : RV ρ W v e.val) : ∀ {l : List (AV × AV)} {L : List MapEntry}, RE ρ W l L → RE ρ W (l ++ [(k, v)]) (L ++ [e])
 | _, _, .nil => .cons hk hv .nil
 | _, _, .cons h1 h2 t => .cons h1 h2 (RE.snoc hk hv t)
theorem RE.modify {k v : AV} {K V : Value} (hk : RV ρ W k K) (hv : RV ρ W v V) : ∀ (i : Nat) {l : List (AV × AV)} {L : List MapEntry}, RE ρ W l L → RE ρ W (l.set i (k, v)) (L.modify i fun e => { e with key := K, val := V })
 | _, _, _, .nil => by simp; exact .nil
 | 0, _, _, .cons h1 h2 t => by simp; exact .cons hk hv t
 | i + 1, _, _, .cons h1 h2 t => by simp; exact .cons h1 h2 (RE.modify hk hv i t)
theorem intsOf_ok : ∀ {l : List AV} {ns : List Int} {L : List Value}, RL ρ W l L → intsOf l = some ns → L = ns.map (Value.int .u8)
 | _, _, _, .nil, hq => by simp [intsOf] at hq; subst hq; rfl
 | _, _, _, .cons h t, hq => by
  unfold intsOf at hq
  split at hq
  · rename_i e; cases e
  · rename_i n r e
    cases e
    cases h
    split at hq
    · rename_i l' hl
      simp at hq; subst hq
      rw [intsOf_ok t hl]; rfl
    · cases hq
  · cases hq
theorem foldl_push_ints : ∀ (l : List Int) (r : ByteArray), l.foldl (fun r n => r.push (UInt8.ofNat n.toNat)) r = ⟨r.data ++ (l.map fun n => UInt8.ofNat n.toNat).toArray⟩
 | [], r => by simp
 | b :: l, r => by
  simp only [List.foldl_cons]
  rw [foldl_push_ints l]
  simp [ByteArray.push]
theorem sameBits_key {kt : TypeId} {k k' : AV} {K K' : Value} (ho : keyOk P kt k = true) (hk : RV ρ W k K) (hk' : RV ρ W k' K') (hq : keyEq k k' = some true) (n : Nat) : Instr.sameBits (n + 1) K' K = true := by
 unfold keyEq at hq
 split at hq
 · split at hq
   · rename_i hkk; subst hkk
     cases hk; cases hk'
     simp at hq; subst hq
     simp [Instr.sameBits]
   · cases hq
 · cases hk; cases hk'
   simp at hq; subst hq
   simp [Instr.sameBits]
 · cases hq
theorem sliceBounds_ok {is : Bool} {len cap a b c : Nat} {lo hi mx : Option AV} {Lo Hi Mx : Option Value} (hlo : match lo, Lo with | none, none => True | some v, some V => RV ρ W v V | _, _ => False)
 (hhi : match hi, Hi with | none, none => True | some v, some V => RV ρ W v V | _, _ => False) (hmx : match mx, Mx with | none, none => True | some v, some V => RV ρ W v V | _, _ => False)
 (h1 : boundA lo 0 = some (.ofNat a)) (h2 : boundA hi len = some (.ofNat b)) (h3 : boundA mx len = some (.ofNat c)) (hab : a ≤ b) (hbc : b ≤ c) (hcl : c ≤ len) (hle : len ≤ cap) (hm : (Mx.isNone || Hi.isSome) = true) (w : World) :
 ∃ m, b ≤ m ∧ (Instr.sliceBounds is len cap Lo Hi Mx).run P w = .ok (a, b, m) w := by
 have g1 := boundA_ok hlo h1
 have g2 := boundA_ok hhi h2
 have g3 := boundA_ok hmx h3
 have sb : ∀ (k : IntKind) (x y : Nat) (cd : BoundsCode), x ≤ y → (Instr.sliceBound (.int k (x : Int)) y cd).run P w = .ok x w := fun k x y cd hxy => by
  have hc : (0 : Int) ≤ (x : Int) ∧ (x : Int) ≤ (y : Int) := ⟨by omega, by omega⟩
  simp only [Instr.sliceBound, asIntOf, Sem.run_bind, Sem.run_pure, Result.andThen_ok]
  rw [if_pos hc]
  rfl
 rcases g3 with ⟨rfl, e3⟩ | ⟨k3, rfl⟩
 · rcases g2 with ⟨rfl, e2⟩ | ⟨k2, rfl⟩
   · have eb : b = len := by have := e2; simp at this; omega
     subst eb
     rcases g1 with ⟨rfl, e1⟩ | ⟨k1, rfl⟩
     · have ea : a = 0 := by have := e1; simp at this; omega
       subst ea
       exact ⟨cap, hle, by simp [Instr.sliceBounds]⟩
     · exact ⟨cap, hle, by simp [Instr.sliceBounds, sb k1 a b _ hab]⟩
   · rcases g1 with ⟨rfl, e1⟩ | ⟨k1, rfl⟩
     · have ea : a = 0 := by have := e1; simp at this; omega
       subst ea
       exact ⟨cap, by omega, by simp [Instr.sliceBounds, sb k2 b cap _ (by omega)]⟩
     · exact ⟨cap, by omega, by simp [Instr.sliceBounds, sb k2 b cap _ (by omega), sb k1 a b _ hab]⟩
 · rcases g2 with ⟨rfl, e2⟩ | ⟨k2, rfl⟩
   · simp at hm
   · rcases g1 with ⟨rfl, e1⟩ | ⟨k1, rfl⟩
     · have ea : a = 0 := by have := e1; simp at this; omega
       subst ea
       exact ⟨c, hbc, by simp [Instr.sliceBounds, sb k3 c cap _ (by omega), sb k2 b c _ hbc]⟩
     · exact ⟨c, hbc, by simp [Instr.sliceBounds, sb k3 c cap _ (by omega), sb k2 b c _ hbc, sb k1 a b _ hab]⟩
theorem evOpt_ok {e : Operand → Option AV} {a : Act} (he : ∀ x v, e x = some v → RV ρ W v (a.eval x)) : ∀ (x : Option Operand) (l : Option AV), evOpt e x = some l → match l, x.map a.eval with | none, none => True | some v, some V => RV ρ W v V | _, _ => False := fun x l hq => by
 cases x with
 | none => simp [evOpt] at hq; subst hq; trivial
 | some x =>
  simp only [evOpt, Option.map_eq_some_iff] at hq
  obtain ⟨v, hv, rfl⟩ := hq
  exact he _ _ hv
theorem append_ok (hR : Rel ρ W h w) {t : TypeId} {x y v : AV} {X Y : Value} (hx : RV ρ W x X) (hy : RV ρ W y Y) {s : Option (Nat × Ob)} {al : Option Ob} (ty : TypeId) {rd : Nat → Option Ob} {nm : Nat} (hrd : ∀ n x, rd n = some x → h[n]? = some (some x)) (hnm : Fresh h nm)
 (hq : appendA P rd nm t x y = some (true, v, s, al)) : ∃ V w' ρ', (Builtin.append_ #[t, t] ty #[X, Y]).run P w = .ok V w' ∧ Ext ρ ρ' ∧ RV ρ' W v V ∧ Rel ρ' W (effH h nm (effOf s al)) w' := by
 unfold appendA at hq
 split at hq
 case h_2 => cases hq
 rename_i e hu
 split at hq
 case h_2 => cases hq
 rename_i i z hi hz
 obtain ⟨Z, hZ, rZ⟩ := zero_of hz ρ W hi
 split at hq
 case h_2 => cases hq
 rename_i n1 s1 m new hnew
 split at hq
 case isFalse => cases hq
 rename_i hc
 obtain ⟨c0, c1, c2⟩ := hc
 obtain ⟨n2, m2, len2, b, cap, e2, L, fz, hgs, rfl, hlen, hp2, hm2, hb, hle, hRL⟩ := cellsOf_ok hR hy hrd hnew
 cases hgs
 have hzs : Z.cells.size = i.size := by
  have := rZ.cells.length
  have h2 : Z.cells.toList.length = i.size := by omega
  simpa using h2
 have hLl : (L.take new.length).length = m * i.size := by rw [List.length_take]; omega
 have hnews : ∀ j u, (L.take new.length)[j]? = some u → w.cell? ((⟨b, 0, none⟩ : Addr).add j) = some u := fun j u hj => by
  rw [List.getElem?_take] at hj
  split at hj
  · rw [Addr.add_mid]; simp [World.cell?, hb, hj]
  · cases hj
 have hone := hRL.one c2
 split at hq
 case h_3 => cases hq
 case h_1 =>
  cases hx
  split at hq
  case isFalse => cases hq
  rename_i hcc
  obtain ⟨d0, d1, d2⟩ := hcc
  simp at hq
  obtain ⟨rfl, rfl, rfl⟩ := hq
  have hr := run_append_nil (P := P) w t ty e i Z hu hi hZ ⟨b, 0, none⟩ m cap (L.take new.length) hLl hnews d0 (by unfold maxLen at d1; omega) (by omega)
  have hge := grownCap_ge w m 0 e
  have hcm := grownCap_le_maxLen w m 0 e d1
  obtain ⟨C, hC⟩ : ∃ C, C = (L.take new.length).toArray ++ Builtin.zeroCells Z.cells (grownCap w m 0 e - m) := ⟨_, rfl⟩
  have hsize : C.size = grownCap w m 0 e * i.size := by
   rw [hC]
   simp only [Array.size_append, List.size_toArray, hLl, size_zeroCells, hzs, ← Nat.add_mul]
   congr 1; omega
  have htake : C.toList.take new.length = L.take new.length := by
   rw [hC, Array.toList_append, show new.length = (L.take new.length).length by omega]
   simp
  rw [← hC] at hr
  clear hC
  have hml : m * i.size ≤ grownCap w m 0 e * i.size := Nat.mul_le_mul_right _ hge
  obtain ⟨k1, k2, k3⟩ := makeF_ok hR hnm (drew_grown w C e (0, 0)) (x := .own true e i.size new) (b := w.heap.size) (o := grownCap w m 0 e) (Nat.le_refl _) (by simp)
   (holds_own hR.bel.size hcm (heap_alloc_new w.drew _) hsize (fun _ => rfl) (fun x _ => by simp) (by omega) (by rw [htake]; exact hRL.ext (Names.with_ext (hR.free_none hnm))))
  exact ⟨_, _, _, hr, k1, .gs _ _ k3 hge, k2⟩
 case h_2 n s len =>
  cases hx with | gs s len hp hle0 =>
  rename_i g0 cap0
  split at hq
  case h_2 => cases hq
  rename_i e' s' l hl
  split at hq
  case isFalse => cases hq
  rename_i hcc
  obtain ⟨rfl, rfl, rfl, d1, d2, d3⟩ := hcc
  simp at hq
  obtain ⟨rfl, rfl, rfl⟩ := hq
  have hm0 := hrd _ _ hl
  obtain ⟨b', o', e1, e2'⟩ := hR.ob n _ hm0
  rw [hp] at e1; cases e1
  obtain ⟨hW0, hcap0, L0, fz0, h4, h5, h6, _, h7, h8⟩ := e2'
  have hfz := h6 rfl
  subst hfz
  have holds : ∀ j u, (L0.take l.length)[j]? = some u → w.cell? ((⟨g0, 0, none⟩ : Addr).add j) = some u := fun j u hj => by
   rw [List.getElem?_take] at hj
   split at hj
   · rw [Addr.add_mid]; simp [World.cell?, h4, hj]
   · cases hj
  have hl0 : (L0.take l.length).length = len * i.size := by rw [List.length_take]; omega
  obtain ⟨r1, r2⟩ := hR.kill hm0 rfl hp
  have hfresh : Fresh (h.set n (some Ob.dead)) nm := by
   rcases hnm with rfl | hf
   · exact .inl (by simp)
   · refine .inr ?_
     rw [List.getElem?_set]
     split
     · rename_i e; subst e; rw [hm0] at hf; cases hf
     · exact hf
  have hll : (l ++ new).length = (len + m) * i.size := by rw [List.length_append, d1, hlen, Nat.add_mul]
  by_cases hroom : len + m ≤ cap0
  · have hml : (len + m) * i.size ≤ cap0 * i.size := Nat.mul_le_mul_right _ hroom
    rw [Nat.add_mul] at hml
    have hr := run_append_room (P := P) w t ty e' i hu hi g0 len cap0 L0.toArray h4 ⟨b, 0, none⟩ m cap (L.take new.length) hLl hnews hone hroom (by simp only [List.size_toArray]; omega)
    obtain ⟨C, hC⟩ : ∃ C, C = (L0.toArray.toList.take (len * i.size) ++ L.take new.length ++ L0.toArray.toList.drop (len * i.size + (L.take new.length).length)).toArray := ⟨_, rfl⟩
    have hsize : C.size = cap0 * i.size := by
     rw [hC]
     simp only [List.size_toArray, List.length_append, List.length_take, List.length_drop]
     omega
    have htake : C.toList.take (l ++ new).length = L0.take l.length ++ L.take new.length := by
     rw [hC, hll, Nat.add_mul]
     simp only []
     rw [List.take_append_of_le_length (by simp only [List.length_append, List.length_take]; omega), List.take_of_length_le (by simp only [List.length_append, List.length_take]; omega), d1]
    rw [← hC] at hr
    clear hC
    have hg' : w.grownBy (w.setRow g0 C) (some g0) := ⟨rfl, rfl, rfl, by simp, fun k _ hk => setRow_other w g0 k _ (fun e => hk (by rw [e]))⟩
    have r3 := r1.grow (row := some g0) hg' (fun k e => by cases e; exact hW0) (fun m p y hm e hy => r2 m p y hm (Option.some.inj e).symm hy)
    have hext : Ext ρ (ρ.with nm g0 cap0) := Names.with_ext (r1.free_none hfresh)
    have r4 := r3.name hfresh (b := g0) (o := cap0) (x := .own true e' i.size (l ++ new)) (by simpa using (hR.dom n _ hp).2)
     (holds_own hW0 hcap0 (setRow_heap w g0 L0.toArray _ e' _ h4) hsize (fun _ => rfl) (fun x _ => by simp) (by rw [hll, hsize]; exact Nat.mul_le_mul_right _ hroom) (by rw [htake]; exact (h8.append hRL).ext hext)) fun m' p y hm' hpb hy => r2 m' p y hm' hpb hy
    refine ⟨_, _, _, hr, hext, .gs _ _ (by simp [Names.with]) hroom, ?_⟩
    exact r4
  · have hr := run_append_grow (P := P) w t ty e' i Z hu hi hZ ⟨g0, 0, none⟩ len cap0 (L0.take l.length) hl0 holds ⟨b, 0, none⟩ m cap (L.take new.length) hLl hnews (by omega) (by unfold maxLen at d2; omega) (growslice_fits (by omega) d3)
    have hge := grownCap_ge w (len + m) cap0 e'
    have hcm := grownCap_le_maxLen w (len + m) cap0 e' d2
    obtain ⟨C, hC⟩ : ∃ C, C = (L0.take l.length).toArray ++ (L.take new.length).toArray ++ Builtin.zeroCells Z.cells (grownCap w (len + m) cap0 e' - (len + m)) := ⟨_, rfl⟩
    have hsize : C.size = grownCap w (len + m) cap0 e' * i.size := by
     rw [hC]
     simp only [Array.size_append, List.size_toArray, hLl, hl0, size_zeroCells, hzs, ← Nat.add_mul]
     congr 1; omega
    have htake : C.toList.take (l ++ new).length = L0.take l.length ++ L.take new.length := by
     have hCl : C.toList = (L0.take l.length ++ L.take new.length) ++ (Builtin.zeroCells Z.cells (grownCap w (len + m) cap0 e' - (len + m))).toList := by rw [hC]; simp
     rw [hCl, hll, Nat.add_mul, List.take_append_of_le_length (by rw [List.length_append]; omega), List.take_of_length_le (by rw [List.length_append]; omega)]
    rw [← hC] at hr
    clear hC
    have hml : (len + m) * i.size ≤ grownCap w (len + m) cap0 e' * i.size := Nat.mul_le_mul_right _ hge
    have r3 := r1.grow (row := none) (drew_grown w C e' (0, 0)) (fun k e => by cases e) (fun m p y hm e hy => by cases e)
    have hext : Ext ρ (ρ.with nm w.heap.size (grownCap w (len + m) cap0 e')) := Names.with_ext (r1.free_none hfresh)
    have r4 := r3.name hfresh (b := w.heap.size) (o := grownCap w (len + m) cap0 e') (x := .own true e' i.size (l ++ new)) (by simp)
     (holds_own hR.bel.size hcm (heap_alloc_new w.drew _) hsize (fun _ => rfl) (fun x _ => by simp) (by omega) (by rw [htake]; exact (h8.append hRL).ext hext)) fun m' p y hm' hpb hy => by
      have := (hR.dom m' p hm').2; omega
    refine ⟨_, _, _, hr, hext, .gs _ _ (by simp [Names.with]) hge, ?_⟩
    exact r4
theorem appendX_ok (hR : Rel ρ W h w) {t : TypeId} {x y v : AV} {X Y : Value} (hx : RV ρ W x X) (hy : RV ρ W y Y) {s : Option (Nat × Ob)} {al : Option Ob} (ty : TypeId) {rd : Nat → Option Ob} {nm : Nat} (hrd : ∀ n x, rd n = some x → h[n]? = some (some x)) (hnm : Fresh h nm)
 (hq : appendX P rd nm t x y = some (true, v, s, al)) : ∃ V w' ρ', (Builtin.append_ #[t, t] ty #[X, Y]).run P w = .ok V w' ∧ Ext ρ ρ' ∧ RV ρ' W v V ∧ Rel ρ' W (effH h nm (effOf s al)) w' := by
 unfold appendX at hq
 split at hq
 · rename_i r hr
   simp only [Option.some.injEq] at hq
   subst hq
   exact append_ok hR hx hy ty hrd hnm hr
 · split at hq
   · rename_i r hr
     simp only [Option.some.injEq] at hq
     subst hq
     exact appendB_ok hR hx hy ty hrd hnm hr
   · exact appendC_ok hR hx hy ty hnm hq
theorem upd_ok (hR : Rel ρ W h w) {t : TypeId} {kt et : TypeId} (hu : P.underlying t = some (.map kt et)) {n : Nat} {k y : AV} {X Kv Y : Value} (hxx : RV ρ W (.mp n) X) (hkk : RV ρ W k Kv) (hyy : RV ρ W y Y) (ho : keyOk P kt k = true) {l : List (AV × AV)} {c : Nat} (hm0 : h[n]? = some (some (.mapo l c))) :
 (∀ i u, findA k l 0 = some (some (i, u)) → ∃ w', (Instr.mapUpdate t X Kv Y).run P w = .ok () w' ∧ Rel ρ W (h.set n (some (.mapo (l.set i (k, y)) c))) w') ∧
 (findA k l 0 = some none → ∃ w', (Instr.mapUpdate t X Kv Y).run P w = .ok () w' ∧ Rel ρ W (h.set n (some (.mapo (l ++ [(k, y)]) (c + 1)))) w') := by
 cases hxx with | mp hp =>
 rename_i b o'
 obtain ⟨b', o2, e1, e2⟩ := hR.ob n _ hm0
 rw [hp] at e1; cases e1
 obtain ⟨hW0, L, h4, h5⟩ := e2
 obtain ⟨d, hd⟩ := keyOk_some ho
 have hget : (getObj b).run P w = .ok (.map L.toArray c) w := by simp [getObj, Sem.run, h4]
 have hck : (Instr.checkKey false 10000 kt Kv).run P w = .ok () w := checkKey_ok ho hkk false 9999 w
 have hbl : b < w.heap.size := (Array.getElem?_eq_some_iff.1 h4).1
 have hset : ∀ ob, (setObj b ob).run P w = .ok () { w with heap := w.heap.setIfInBounds b ob } := fun ob => by simp [setObj, Sem.run, h4]
 have put : ∀ (es : List MapEntry) (cl : Nat) (l' : List (AV × AV)), RE ρ W l' es → Rel ρ W (h.set n (some (.mapo l' cl))) { w with heap := w.heap.setIfInBounds b (.map es.toArray cl) } := fun es cl l' hre =>
  hR.put hm0 rfl hp (fun k hk => by simp [Array.getElem?_setIfInBounds, Ne.symm hk]) (by simp) rfl rfl rfl ⟨hW0, es, by simp [hbl], hre⟩
 constructor
 · intro i u hf
   obtain ⟨R, g1, g2⟩ := findA_ok hkk ho hd h5 0 _ hf
   cases R with
   | none => exact g2.elim
   | some q =>
    obtain ⟨j', V2⟩ := q
    obtain ⟨rfl, _, ⟨e, h6, h7, k', h8, h9⟩, h10⟩ := g2
    have hfk : (Instr.findKey kt Kv L).run P w = .ok (some (i, V2)) w := by simp [Instr.findKey, run_underlying hd, g1]
    have hsb := sameBits_key (P := P) ho hkk h8 h9 9999
    have hkt : (Instr.keyThatStays (((L.toArray[i]?).map (·.key)).getD Kv) Kv).run P w = .ok Kv w := by
     have : (((L.toArray[i]?).map (·.key)).getD Kv) = e.key := by simp at h6; simp [h6]
     rw [this]
     unfold Instr.keyThatStays
     rw [if_pos hsb]; rfl
    refine ⟨{ w with heap := w.heap.setIfInBounds b (.map (L.modify i fun (e : MapEntry) => { e with key := Kv, val := Y }).toArray c) }, ?_, put _ _ _ (RE.modify hkk hyy i h5)⟩
    have hmod : L.toArray.modify i (fun (e : MapEntry) => { e with key := Kv, val := Y }) = (L.modify i fun (e : MapEntry) => { e with key := Kv, val := Y }).toArray := by simp
    simp only [Instr.mapUpdate, Sem.run_bind, run_underlying hu, Result.andThen_ok, hget, hck, List.toList_toArray, hfk, hkt, hmod, hset]
 · intro hf
   obtain ⟨R, g1, g2⟩ := findA_ok hkk ho hd h5 0 _ hf
   cases R with
   | some q => obtain ⟨_, _⟩ := q; exact g2.elim
   | none =>
    have hfk : (Instr.findKey kt Kv L).run P w = .ok none w := by simp [Instr.findKey, run_underlying hd, g1]
    refine ⟨{ w with heap := w.heap.setIfInBounds b (.map (L ++ [({ key := Kv, val := Y, born := c } : MapEntry)]).toArray (c + 1)) }, ?_, put _ _ _ (RE.snoc (e := { key := Kv, val := Y, born := c }) hkk hyy h5)⟩
    have hpush : L.toArray.push ({ key := Kv, val := Y, born := c } : MapEntry) = (L ++ [({ key := Kv, val := Y, born := c } : MapEntry)]).toArray := by simp
    simp only [Instr.mapUpdate, Sem.run_bind, run_underlying hu, Result.andThen_ok, hget, hck, List.toList_toArray, hfk, hpush, hset]
theorem evOpt_none {e : Operand → Option AV} {x : Option Operand} (h : evOpt e x = some none) : x = none := by
 cases x with
 | none => rfl
 | some x => simp [evOpt] at h
theorem flat_at {l : List AV} {L : List Value} (hl : RL ρ W l L) : l.all (AV.flat 4) = true → ∀ (i : Nat) (v : AV) (V : Value), l[i]? = some v → L[i]? = some V → RV noNames W v V := by
 induction l generalizing L with
 | nil => intro _ i v V hv; simp at hv
 | cons x l ih =>
  intro ha i v V hv hV
  cases hl with | cons g1 g2 =>
  simp only [List.all_cons, Bool.and_eq_true] at ha
  cases i with
  | zero => simp at hv hV; subst hv; subst hV; exact g1.flat_move 4 ha.1
  | succ i => exact ih g2 ha.2 i v V (by simpa using hv) (by simpa using hV)
theorem upTo_at (n a k : Nat) : (upTo a n)[k]? = if k < n then some (a + k) else none := upTo_get n a k
theorem intsOf_at : ∀ {l : List AV} {ns : List Int}, intsOf l = some ns → l = ns.map (AV.int .u8)
 | [], ns, h => by simp [intsOf] at h; subst h; rfl
 | x :: r, ns, h => by
  unfold intsOf at h
  split at h
  · rename_i he; cases he
  · rename_i n r' he
    injection he with h1 h2
    subst h1; subst h2
    split at h
    · rename_i l hl
      simp at h; subst h
      rw [intsOf_at hl]; rfl
    · cases h
  · cases h
theorem siter_ok (hR : Rel ρ W h w) {e : Operand → Option AV} {a : Act} (he : ∀ x v, e x = some v → RV ρ W v (a.eval x)) {o : Oper} {m : Nat} {s : ByteArray} {pos : Nat} (hq : siterOf o e (rdFlat h) = some (m, s, pos)) {K : Act → World → Prop} {Q : Exit → Act → World → Prop}
 (h1 : pos < s.size → ∀ w' V, RV ρ W (.tup [.bool true, .int .i64 pos, .int .i32 (Utf8.decode s pos).1]) V → Rel ρ W (h.set m (some (.siter s (pos + (Utf8.decode s pos).2)))) w' → K (a.put o.dst V) w')
 (h2 : ¬ pos < s.size → ∀ V, RV ρ W (.tup [.bool false]) V → K (a.put o.dst V) w) : o.wp P a w K Q := by
 unfold siterOf at hq
 split at hq
 case h_2 => cases hq
 rename_i x hop
 split at hq
 case h_2 => cases hq
 rename_i n hx
 split at hq
 case h_2 => cases hq
 rename_i s' pos' hrd
 simp only [Option.some.injEq, Prod.mk.injEq] at hq
 obtain ⟨rfl, rfl, rfl⟩ := hq
 have hxx := he _ _ hx
 generalize hX : a.eval x = X at hxx
 cases hxx with | ptr i s j hp =>
 rename_i b o'
 have hm0 := zO hrd
 obtain ⟨b', o2, e1, e2⟩ := hR.ob n _ hm0
 rw [hp] at e1; cases e1
 obtain ⟨hW0, ho0, h4⟩ := e2
 subst ho0
 have hbl : b < w.heap.size := (Array.getElem?_eq_some_iff.1 h4).1
 have hget : (getObj b).run P w = .ok (.stringIter s' pos') w := by simp [getObj, Sem.run, h4]
 have hset : ∀ ob, (setObj b ob).run P w = .ok () { w with heap := w.heap.setIfInBounds b ob } := fun ob => by simp [setObj, Sem.run, h4]
 have hadd : (0 : Nat) + (0 * 0 + 0) = 0 := rfl
 by_cases hlt : pos' < s'.size
 · refine zK (w' := { w with heap := w.heap.setIfInBounds b (.stringIter s' (pos' + (Utf8.decode s' pos').2)) }) (V := .tuple #[.bool true, .int .i64 pos', .int .i32 (Utf8.decode s' pos').1]) ?_ ?_
   · simp only [execOp, hop, hX, hadd, Instr.next, Sem.run_bind, hget, Result.andThen_ok, if_pos hlt, hset, Sem.run_pure]
     rfl
   · refine h1 hlt _ _ (.tup (.cons (.bool _) (.cons (.int _ _) (.cons (.int _ _) .nil)))) ?_
     exact hR.put hm0 rfl hp (w' := { w with heap := w.heap.setIfInBounds b (.stringIter s' (pos' + (Utf8.decode s' pos').2)) }) (x' := .siter s' (pos' + (Utf8.decode s' pos').2)) (fun k hk => by simp [Array.getElem?_setIfInBounds, Ne.symm hk]) (by simp) rfl rfl rfl ⟨hW0, rfl, by simp [hbl]⟩
 · refine zK (w' := w) (V := .tuple #[.bool false]) ?_ (h2 hlt _ (.tup (.cons (.bool _) .nil)))
   simp only [execOp, hop, hX, hadd, Instr.next, Sem.run_bind, hget, Result.andThen_ok, if_neg hlt, Sem.run_pure]
theorem siterOf_ok {o : Oper} {e : Operand → Option AV} {rd : Nat → Option Ob} {x : Nat × ByteArray × Nat} (hq : siterOf o e rd = some x) : ∀ c, o.op ≠ .defer c := fun c h => by
 simp [siterOf, h] at hq
theorem xop_ok (hR : Rel ρ W h w) {e : Operand → Option AV} {a : Act} (he : ∀ x v, e x = some v → RV ρ W v (a.eval x)) {o : Oper} {v : AV} {s : Option (Nat × Ob)} {al : Option Ob}
 (hq : xop P o e (rdFlat h) h.length = some (true, v, s, al)) {K : Act → World → Prop} {Q : Exit → Act → World → Prop}
 (hK : ∀ ρ' w' V, Ext ρ ρ' → RV ρ' W v V → Rel ρ' W (xheap h s al) w' → K (a.put o.dst V) w') : o.wp P a w K Q := by
 unfold xop at hq
 split at hq
 case h_1 t x lo hi mx hop =>
  split at hq
  case h_3 => cases hq
  case h_2 =>
   rename_i cnt el n lv hv hu hx hlo hhi hmx
   split at hq
   case h_2 => cases hq
   rename_i a0 b0 cs s1 h1 h2 hrd hsz
   split at hq
   case isFalse => cases hq
   rename_i hc
   obtain ⟨d1, d2, d3, d6⟩ := hc
   simp at hq
   obtain ⟨rfl, rfl, rfl⟩ := hq
   have hxx := he _ _ hx
   generalize hX : a.eval x = X at hxx
   cases hxx with | ptr _ _ _ hp =>
   rename_i b o'
   have hmn : mx = none := evOpt_none hmx
   subst hmn
   have hm0 := zO hrd
   obtain ⟨b', o2, e1, e2⟩ := hR.ob n _ hm0
   rw [hp] at e1; cases e1
   obtain ⟨hW0, ho0, L, ty, h4, h5⟩ := e2
   subst ho0
   have hLl : L.length = cs.length := h5.length.symm
   obtain ⟨m, hbm, hb⟩ := sliceBounds_ok (is := false) (P := P) (mx := none) (Mx := none) (len := cnt) (cap := cnt) (c := cnt) (Lo := lo.map a.eval) (Hi := hi.map a.eval) (evOpt_ok he _ _ hlo) (evOpt_ok he _ _ hhi) trivial h1 h2 (by simp [boundA]) d2 d3 (Nat.le_refl _) (Nat.le_refl _) rfl w
   refine zK (w' := w) (V := .slice (some ⟨b, if m = a0 then 0 else a0 * s1, none⟩) (b0 - a0) (m - a0)) ?_ ?_
   · simp only [execOp, hop, hX, Instr.sliceAt, Instr.sureAddr, Option.map_none, Sem.run_bind, run_underlying hu, Result.andThen_ok, hb, run_size hsz, Sem.run_pure]
     split
     · simp
     · simp only [Addr.add_mid]; simp
   · obtain ⟨r1, r2⟩ := hR.kill hm0 rfl hp
     have hfresh : Fresh (h.set n (some Ob.dead)) (h.set n (some Ob.dead)).length := .inl rfl
     have hext : Ext ρ (ρ.with (h.set n (some Ob.dead)).length b (a0 * s1)) := Names.with_ext (r1.free_none hfresh)
     have inn : ∀ i j, i < b0 - a0 → j < s1 → (a0 + i) * s1 + j < cnt * s1 := fun i j hi hj => by
      have : (a0 + i + 1) * s1 ≤ cnt * s1 := Nat.mul_le_mul_right s1 (by omega)
      rw [Nat.add_mul] at this
      omega
     have r4 := r1.name hfresh (b := b) (o := a0 * s1) (x := .row s1 (b0 - a0) fun i j => cs.getD ((a0 + i) * s1 + j) .undef) (hR.dom n _ hp).2 (by
      refine ⟨fun i j => L.getD ((a0 + i) * s1 + j) undef, fun i j hi hj => ?_, fun i j hi hj => ?_⟩
      · have hlt := inn i j hi hj
        have hlt2 : (a0 + i) * s1 + j < L.length := by omega
        simp only [List.getD, List.getElem?_eq_getElem hlt2, Option.getD_some]
        rw [show a0 * s1 + (i * s1 + j) = (a0 + i) * s1 + j by rw [Nat.add_mul]; omega]
        simp [World.cell?, h4, hlt2]
      · have hlt := inn i j hi hj
        have g1 := List.getElem?_eq_getElem (l := cs) (i := (a0 + i) * s1 + j) (by omega)
        have g2 := List.getElem?_eq_getElem (l := L) (i := (a0 + i) * s1 + j) (by omega)
        simp only [List.getD, g1, g2, Option.getD_some]
        exact flat_at h5 d6 _ _ _ g1 g2) fun m' p y hm' hpb hy => r2 m' p y hm' hpb hy
     refine hK _ w _ hext (.sl (o := a0 * s1) 0 s1 (b0 - a0) (m - a0) _ (by simp [Names.with]) (by omega) ?_) (by simpa [effH, xheap] using r4)
     by_cases hma : m = a0
     · exact .inl (by omega)
     · rw [if_neg hma]; exact .inr (by omega)
  rename_i el n s' len lv hv mv hu hx hlo hhi hmx
  split at hq
  case h_2 => cases hq
  rename_i a0 b0 c0 z e0 s1 cs s2 h1 h2 h3 hrd hsz
  split at hq
  case isFalse => cases hq
  rename_i hc
  obtain ⟨rfl, rfl, d1, d2, d3, d4, d5, d6⟩ := hc
  simp at hq
  obtain ⟨rfl, rfl, rfl⟩ := hq
  have hxx := he _ _ hx
  generalize hX : a.eval x = X at hxx
  cases hxx with | gs s len hp hle =>
  rename_i b cap
  have hm0 := zO hrd
  obtain ⟨b', o', e1, e2⟩ := hR.ob n _ hm0
  rw [hp] at e1; cases e1
  obtain ⟨hW0, hcap0, L0, fz0, h4, h5, _, _, h7, h8⟩ := e2
  obtain ⟨m, hbm, hb⟩ := sliceBounds_ok (is := true) (P := P) (Lo := lo.map a.eval) (Hi := hi.map a.eval) (Mx := mx.map a.eval) (evOpt_ok he _ _ hlo) (evOpt_ok he _ _ hhi) (evOpt_ok he _ _ hmx) h1 h2 h3 d2 d3 d4 hle (by simpa using d5) w
  refine zK (w' := w) (V := .slice (some ⟨b, if m = a0 then 0 else a0 * s1, none⟩) (b0 - a0) (m - a0)) ?_ ?_
  · simp only [execOp, hop, hX, Instr.sliceAt, Instr.slice, Sem.run_bind, run_underlying hu, Result.andThen_ok, hb, run_size hsz, Sem.run_pure]
    split
    · rfl
    · simp only [Option.map_some, Addr.add_mid, Nat.zero_add]
  · obtain ⟨r1, r2⟩ := hR.kill hm0 rfl hp
    have hfresh : Fresh (h.set n (some Ob.dead)) (h.set n (some Ob.dead)).length := .inl rfl
    have hext : Ext ρ (ρ.with (h.set n (some Ob.dead)).length b (a0 * s1)) := Names.with_ext (r1.free_none hfresh)
    have hlen : (L0.take cs.length).length = len * s1 := by rw [List.length_take]; omega
    have inn : ∀ i j, i < b0 - a0 → j < s1 → (a0 + i) * s1 + j < len * s1 := fun i j hi hj => by
     have : (a0 + i + 1) * s1 ≤ len * s1 := Nat.mul_le_mul_right s1 (by omega)
     rw [Nat.add_mul] at this
     omega
    have hflat : ∀ {l : List AV} {L : List Value}, RL ρ W l L → l.all (AV.flat 4) = true → ∀ (i : Nat) (v : AV) (V : Value), l[i]? = some v → L[i]? = some V → RV noNames W v V := by
     intro l L hl
     induction l generalizing L with
     | nil => intro _ i v V hv; simp at hv
     | cons x l ih =>
      intro ha i v V hv hV
      cases hl with | cons g1 g2 =>
      simp only [List.all_cons, Bool.and_eq_true] at ha
      cases i with
      | zero => simp at hv hV; subst hv; subst hV; exact g1.flat_move 4 ha.1
      | succ i => exact ih g2 ha.2 i v V (by simpa using hv) (by simpa using hV)
    have r4 := r1.name hfresh (b := b) (o := a0 * s1) (x := .row s1 (b0 - a0) fun i j => cs.getD ((a0 + i) * s1 + j) .undef) (hR.dom n _ hp).2 (by
     refine ⟨fun i j => (L0.take cs.length).getD ((a0 + i) * s1 + j) undef, fun i j hi hj => ?_, fun i j hi hj => ?_⟩
     · have hlt := inn i j hi hj
       have hlt2 : (a0 + i) * s1 + j < L0.length := by omega
       have hg : (L0.take cs.length)[(a0 + i) * s1 + j]? = some L0[(a0 + i) * s1 + j] := by rw [List.getElem?_take, if_pos (by omega)]; simp [hlt2]
       simp only [List.getD, hg, Option.getD_some]
       rw [show a0 * s1 + (i * s1 + j) = (a0 + i) * s1 + j by rw [Nat.add_mul]; omega]
       simp [World.cell?, h4, hlt2]
     · have hlt := inn i j hi hj
       have g1 := List.getElem?_eq_getElem (l := cs) (i := (a0 + i) * s1 + j) (by omega)
       have g2 := List.getElem?_eq_getElem (l := L0.take cs.length) (i := (a0 + i) * s1 + j) (by omega)
       simp only [List.getD, g1, g2, Option.getD_some]
       exact hflat h8 d6 _ _ _ g1 g2) fun m' p y hm' hpb hy => r2 m' p y hm' hpb hy
    refine hK _ w _ hext (.sl (o := a0 * s1) 0 s1 (b0 - a0) (m - a0) _ (by simp [Names.with]) (by omega) ?_) (by simpa [effH, xheap] using r4)
    by_cases hma : m = a0
    · exact .inl (by omega)
    · rw [if_neg hma]; exact .inr (by omega)
 case h_2 src dst x hop =>
  split at hq
  case h_1 el s' hs hd hx =>
   split at hq
   case h_2 => cases hq
   rename_i he8
   split at hq
   case isFalse => cases hq
   rename_i hsz
   simp at hq
   obtain ⟨rfl, rfl, rfl⟩ := hq
   have hxx := he _ _ hx
   generalize hX : a.eval x = X at hxx
   cases hxx
   have hr := run_bytes_of_string (P := P) w src dst el s' hs hd he8
   have hge := grownCap_ge w s'.size 0 el
   have hcm := grownCap_le_maxLen w s'.size 0 el hsz
   obtain ⟨C, hC⟩ : ∃ C, C = bytesRow s' (grownCap w s'.size 0 el) := ⟨_, rfl⟩
   have hsd : s'.data.size = s'.size := rfl
   have hCs : C.size = grownCap w s'.size 0 el * 1 := by
    rw [hC]
    simp only [bytesRow, Array.size_append, Array.size_map, Array.size_replicate, hsd]
    omega
   have hCt : C.toList.take s'.size = s'.data.toList.map fun b => Value.int .u8 b.toNat := by
    rw [hC]
    simp only [bytesRow, Array.toList_append, Array.toList_map]
    rw [List.take_append_of_le_length (by rw [List.length_map, Array.length_toList, hsd]; exact Nat.le_refl _), List.take_of_length_le (by rw [List.length_map, Array.length_toList, hsd]; exact Nat.le_refl _)]
   rw [← hC] at hr
   refine zK (w' := w.drew.alloc (.cells C el (C.size, C.size + 1))) (V := .slice (some ⟨w.heap.size, 0, none⟩) s'.size (grownCap w s'.size 0 el)) (by simp only [execOp, hop, hX, Sem.run_bind, hr, Result.andThen_ok, Sem.run_pure]) ?_
   have hll : (s'.data.toList.map fun b => AV.int .u8 b.toNat).length = s'.size := by rw [List.length_map, Array.length_toList, hsd]
   obtain ⟨k1, k2, k3⟩ := make_ok hR (drew_grown w C el (C.size, C.size + 1)) (x := .own false el 1 (s'.data.toList.map fun b => .int .u8 b.toNat)) (b := w.heap.size) (o := grownCap w s'.size 0 el) (Nat.le_refl _) (by simp)
    (holds_own hR.bel.size hcm (heap_alloc_new w.drew _) hCs (fun e => by cases e) (fun x hx => by simp; omega) (by rw [hll]; omega) (by
     rw [hll, hCt]
     exact RL.map _ _ _ fun b _ => .int _ _))
   exact hK _ _ _ k1 (.gs _ _ k3 hge) k2
  case h_2 el y hs hd hy =>
   split at hq
   case h_3 => cases hq
   case h_2 =>
    rename_i he8 hno
    split at hq
    case h_2 => cases hq
    rename_i l hl
    split at hq
    case h_2 => cases hq
    rename_i ns hns
    simp at hq
    obtain ⟨rfl, rfl, rfl⟩ := hq
    have hxx := he _ _ hy
    generalize hX : a.eval x = X at hxx
    unfold slBytes at hl
    split at hl
    case h_2 => cases hl
    rename_i n i len
    split at hl
    case h_2 => cases hl
    rename_i m c hrd
    split at hl
    case isFalse => cases hl
    rename_i him
    obtain ⟨him, hpos⟩ := him
    simp only [Option.some.injEq] at hl
    have hints := intsOf_at hns
    rw [← hl] at hints
    have hnl : ns.length = len := by
     have := congrArg List.length hints
     rw [List.length_map, List.length_map] at this
     rw [← this]
     have e1 := upTo_at len 0 len
     have e2 := fun k (h : k < len) => upTo_at len 0 k
     rw [if_neg (Nat.lt_irrefl _), List.getElem?_eq_none_iff] at e1
     rcases Nat.lt_or_ge (upTo 0 len).length len with h | h
     · have := e2 _ h; rw [if_pos h, List.getElem?_eq_none (Nat.le_refl _)] at this; cases this
     · omega
    cases hxx with
    | sl0 => omega
    | sl _ _ _ cap off hp hle hoff =>
    rename_i b o'
    have hm0 := zO hrd
    obtain ⟨b', o2, e1, V, h4, h5⟩ := hR.ob n _ hm0 (by cases m with | zero => omega | succ k => rfl)
    rw [hp] at e1; cases e1
    have hload : (loadCells ⟨b, off, none⟩ len).run P w = .ok (ns.map (Value.int .u8)).toArray w := by
     have := run_loadCells_list (P := P) w ⟨b, off, none⟩ (ns.map (Value.int .u8)) fun j v hj => by
      rw [List.getElem?_map] at hj
      have hjl : j < len := by
       rcases Nat.lt_or_ge j len with h | h
       · exact h
       · rw [List.getElem?_eq_none (by omega)] at hj; simp at hj
      have ho : off = o' + i := by rcases hoff with h | h <;> omega
      have hc := congrArg (fun l => l[j]?) hints
      simp only [List.getElem?_map, upTo_at, if_pos hjl, Option.map_some, Nat.zero_add] at hc
      rw [List.getElem?_eq_getElem (by omega)] at hc hj
      simp only [Option.map_some, Option.some.injEq] at hc hj
      have g := h5 (i + j) 0 (by omega) (by omega)
      rw [hc] at g
      have g4 := h4 (i + j) 0 (by omega) (by omega)
      generalize V (i + j) 0 = VV at g g4
      cases g
      rw [Addr.add_mid, ho]
      rw [show o' + i + j = o' + ((i + j) * 1 + 0) by omega, g4, ← hj]
     simpa [hnl] using this
    have hr := run_bytesToString (P := P) w ⟨b, off, none⟩ len cap ns hload
    rw [← run_convert_bytes_string w src dst el (some ⟨b, off, none⟩) len cap hs he8 hd, foldl_push_ints] at hr
    have he0 : ByteArray.empty.data = #[] := rfl
    rw [he0] at hr
    simp only [Array.empty_append] at hr
    refine zK (w' := w) (V := .string ⟨(ns.map fun n => UInt8.ofNat n.toNat).toArray⟩) (by simp only [execOp, hop, hX, Sem.run_bind, hr, Result.andThen_ok, Sem.run_pure]) ?_
    exact hK ρ w _ (Ext.refl ρ) (.str _) hR
   rename_i l he8 hl
   split at hq
   case h_2 => cases hq
   rename_i ns hns
   simp at hq
   obtain ⟨rfl, rfl, rfl⟩ := hq
   have hxx := he _ _ hy
   generalize hX : a.eval x = X at hxx
   obtain ⟨n, m, len, b, cap, e2, L, fz, rfl, rfl, hlen, hp2, hm2, hb, hle, hRL⟩ := cellsOf_ok hR hxx (fun _ _ => zO) hl
   have hL := intsOf_ok hRL hns
   have hnl : ns.length = len := by
    have := congrArg List.length hL
    simp at this
    omega
   have hload : (loadCells ⟨b, 0, none⟩ len).run P w = .ok (ns.map (Value.int .u8)).toArray w := by
    have := run_loadCells_list (P := P) w ⟨b, 0, none⟩ (ns.map (Value.int .u8)) fun j v hj => by
     rw [← hL, List.getElem?_take] at hj
     split at hj
     · rw [Addr.add_mid]; simp [World.cell?, hb, hj]
     · cases hj
    simpa [hnl] using this
   have hr := run_bytesToString (P := P) w ⟨b, 0, none⟩ len cap ns hload
   rw [← run_convert_bytes_string w src dst el (some ⟨b, 0, none⟩) len cap hs he8 hd, foldl_push_ints] at hr
   have he0 : ByteArray.empty.data = #[] := rfl
   rw [he0] at hr
   simp only [Array.empty_append] at hr
   refine zK (w' := w) (V := .string ⟨(ns.map fun n => UInt8.ofNat n.toNat).toArray⟩) (by simp only [execOp, hop, hX, Sem.run_bind, hr, Result.andThen_ok, Sem.run_pure]) ?_
   exact hK ρ w _ (Ext.refl ρ) (.str _) hR
  case h_3 => cases hq
 case h_3 t x ix y hop =>
  split at hq
  case h_2 => cases hq
  rename_i kt et n k u hu hx hk hy
  split at hq
  case h_2 => cases hq
  rename_i l c ho hrd
  obtain ⟨q1, q2⟩ := upd_ok hR hu (he _ _ hx) (he _ _ hk) (he _ _ hy) ho (zO hrd)
  split at hq
  · rename_i i u2 hf
    simp at hq
    obtain ⟨rfl, rfl, rfl⟩ := hq
    obtain ⟨w', g1, g2⟩ := q1 i u2 hf
    exact wp_skipped (w' := w') (by simp only [execOp, hop, Sem.run_bind, g1, Result.andThen_ok, Sem.run_pure]) (hK ρ w' _ (Ext.refl ρ) .undef (by simpa [xheap] using g2))
  · rename_i hf
    simp at hq
    obtain ⟨rfl, rfl, rfl⟩ := hq
    obtain ⟨w', g1, g2⟩ := q2 hf
    exact wp_skipped (w' := w') (by simp only [execOp, hop, Sem.run_bind, g1, Result.andThen_ok, Sem.run_pure]) (hK ρ w' _ (Ext.refl ρ) .undef (by simpa [xheap] using g2))
  · cases hq
 case h_4 t x ix y hop =>
  split at hq
  case h_2 => cases hq
  rename_i kt et n k u hu hx hk hy
  split at hq
  case h_2 => cases hq
  rename_i l c ho hrd
  obtain ⟨q1, q2⟩ := upd_ok hR hu (he _ _ hx) (he _ _ hk) (he _ _ hy) ho (zO hrd)
  split at hq
  · rename_i i u2 hf
    simp at hq
    obtain ⟨rfl, rfl, rfl⟩ := hq
    obtain ⟨w', g1, g2⟩ := q1 i u2 hf
    exact wp_skipped (w' := w') (by simp only [execOp, hop, Sem.run_bind, g1, Result.andThen_ok, Sem.run_pure]) (hK ρ w' _ (Ext.refl ρ) .undef (by simpa [xheap] using g2))
  · rename_i hf
    simp at hq
    obtain ⟨rfl, rfl, rfl⟩ := hq
    obtain ⟨w', g1, g2⟩ := q2 hf
    exact wp_skipped (w' := w') (by simp only [execOp, hop, Sem.run_bind, g1, Result.andThen_ok, Sem.run_pure]) (hK ρ w' _ (Ext.refl ρ) .undef (by simpa [xheap] using g2))
  · cases hq
 case h_5 t x hop =>
  split at hq
  case h_2 => cases hq
  rename_i s' hu hx
  simp at hq
  obtain ⟨rfl, rfl, rfl⟩ := hq
  have hxx := he _ _ hx
  generalize hX : a.eval x = X at hxx
  cases hxx
  refine zK (w' := w.alloc (.stringIter s' 0)) (V := .pointer (some ⟨w.heap.size, 0, none⟩)) (by simp only [execOp, hop, hX, Instr.range, Sem.run_bind, run_underlying hu, Result.andThen_ok, Sem.run_pure]; rfl) ?_
  obtain ⟨k1, k2, k3⟩ := make_ok hR (w' := w.alloc (.stringIter s' 0)) (World.grownBy_alloc w _ none) (x := .siter s' 0) (b := w.heap.size) (o := 0) (Nat.le_refl _) (by simp) ⟨hR.bel.size, rfl, heap_alloc_new w _⟩
  have := RV.ptr (ρ := ρ.with h.length w.heap.size 0) (W := W) 0 0 0 k3
  exact hK _ _ _ k1 (by simpa using this) k2
 case h_6 c hop =>
  split at hq
  case h_2 => cases hq
  rename_i hcal
  split at hq
  case h_2 => cases hq
  rename_i x y t t' hargs hts
  split at hq
  case isFalse => cases hq
  rename_i htt
  subst htt
  have hL := evAll_ok he _ _ hargs
  have e0 : c.args.map a.eval = (c.args.toList.map a.eval).toArray := by apply Array.ext'; simp
  have e1 : c.argTypes = #[t, t] := by apply Array.ext'; simpa using hts
  generalize hG : c.args.toList.map a.eval = L at hL
  cases hL with | cons hx hL2 =>
  cases hL2 with | cons hy hL3 =>
  cases hL3
  obtain ⟨V, w', ρ', g1, g2, g3, g4⟩ := appendX_ok hR hx hy o.type (fun _ _ => zO) (.inl rfl) hq
  refine zK (w' := w') (V := V) ?_ (hK ρ' w' V g2 g3 (by rw [xheap_eff]; exact g4))
  simp only [execOp, hop, resolve, hcal, Sem.run_bind, Sem.run_pure, Result.andThen_ok, invoke, builtin, e0, hG, e1]
  rw [g1]
  rfl
 case h_7 => cases hq
theorem opw_ok {T : Tab} (hT : TabOk P T) (hR : Rel ρ W h w) {rd : Nat → Option Ob} {nm : Nat} (hrd : ∀ n x, rd n = some x → h[n]? = some (some x)) (hnm : Fresh h nm) {e : Operand → Option AV} {a : Act}
 (he : ∀ x v, e x = some v → RV ρ W v (a.eval x)) {o : Oper} {v : AV} {f : Eff} (hv : opw P T rd nm e o = some (true, v, f)) {K : Act → World → Prop} {Q : Exit → Act → World → Prop}
 (hK : ∀ ρ' w' V, Ext ρ ρ' → RV ρ' W v V → Rel ρ' W (effH h nm f) w' → K (a.put o.dst V) w') : o.wp P a w K Q := by
 unfold opw at hv
 split at hv
 · rename_i r hr
   simp at hv; subst hv
   exact opv_ok hT hR hrd hnm he hr hK
 split at hv
 case h_2 => cases hv
 rename_i hh
 split at hv
 case h_2 => cases hv
 rename_i p v' s al hq
 simp at hv
 obtain ⟨rfl, rfl, rfl⟩ := hv
 unfold xop at hq
 split at hq
 case h_3 t x ix y hop =>
  split at hq
  case h_2 => cases hq
  rename_i kt et n k u hu hx hk hy
  split at hq
  case h_2 => cases hq
  rename_i l c ho hl
  obtain ⟨q1, q2⟩ := upd_ok hR hu (he _ _ hx) (he _ _ hk) (he _ _ hy) ho (hrd _ _ hl)
  split at hq
  · rename_i i u2 hf
    simp at hq
    obtain ⟨rfl, rfl, rfl⟩ := hq
    obtain ⟨w', g1, g2⟩ := q1 i u2 hf
    exact wp_skipped (w' := w') (by simp only [execOp, hop, Sem.run_bind, g1, Result.andThen_ok, Sem.run_pure]) (hK ρ w' _ (Ext.refl ρ) .undef g2)
  · rename_i hf
    simp at hq
    obtain ⟨rfl, rfl, rfl⟩ := hq
    obtain ⟨w', g1, g2⟩ := q2 hf
    exact wp_skipped (w' := w') (by simp only [execOp, hop, Sem.run_bind, g1, Result.andThen_ok, Sem.run_pure]) (hK ρ w' _ (Ext.refl ρ) .undef g2)
  · cases hq
 case h_4 t x ix y hop =>
  split at hq
  case h_2 => cases hq
  rename_i kt et n k u hu hx hk hy
  split at hq
  case h_2 => cases hq
  rename_i l c ho hl
  obtain ⟨q1, q2⟩ := upd_ok hR hu (he _ _ hx) (he _ _ hk) (he _ _ hy) ho (hrd _ _ hl)
  split at hq
  · rename_i i u2 hf
    simp at hq
    obtain ⟨rfl, rfl, rfl⟩ := hq
    obtain ⟨w', g1, g2⟩ := q1 i u2 hf
    exact wp_skipped (w' := w') (by simp only [execOp, hop, Sem.run_bind, g1, Result.andThen_ok, Sem.run_pure]) (hK ρ w' _ (Ext.refl ρ) .undef g2)
  · rename_i hf
    simp at hq
    obtain ⟨rfl, rfl, rfl⟩ := hq
    obtain ⟨w', g1, g2⟩ := q2 hf
    exact wp_skipped (w' := w') (by simp only [execOp, hop, Sem.run_bind, g1, Result.andThen_ok, Sem.run_pure]) (hK ρ w' _ (Ext.refl ρ) .undef g2)
  · cases hq
 case h_6 c hop =>
  split at hq
  case h_2 => cases hq
  rename_i hcal
  split at hq
  case h_2 => cases hq
  rename_i x y t t' hargs hts
  split at hq
  case isFalse => cases hq
  rename_i htt
  subst htt
  have hL := evAll_ok he _ _ hargs
  have e0 : c.args.map a.eval = (c.args.toList.map a.eval).toArray := by apply Array.ext'; simp
  have e1 : c.argTypes = #[t, t] := by apply Array.ext'; simpa using hts
  generalize hG : c.args.toList.map a.eval = L at hL
  cases hL with | cons hx hL2 =>
  cases hL2 with | cons hy hL3 =>
  cases hL3
  obtain ⟨V, w', ρ', g1, g2, g3, g4⟩ := appendX_ok hR hx hy o.type hrd hnm hq
  refine zK (w' := w') (V := V) ?_ (hK ρ' w' V g2 g3 g4)
  simp only [execOp, hop, resolve, hcal, Sem.run_bind, Sem.run_pure, Result.andThen_ok, invoke, builtin, e0, hG, e1]
  rw [g1]
  rfl
 all_goals (rename_i hop; simp [hop, heavy] at hh)
end Go.Proofs.YtimgphlfaninnaaGreat.A
