/- append to a slice of the frame's own: the law; all operations that make or write objects. -/
import Derived.Test.YtdinkfmkhdnbpaaFlow17
import Derived.WalkKit
import Derived.WalkSpells
import Derived.IntWalk
import Derived.Laws.Append
import Derived.Laws.AppendOwn
import Derived.Laws.CopyRow
namespace Go.Proofs.Ytdinkfmkhdnbpaa
open Go.RowKit
set_option linter.unusedVariables false
set_option linter.unusedSimpArgs false

section
variable {P : Program} {w0 : Env} {w w' : World} {σ : St} {ν : Loc} {a : Act}

theorem run_first {k m c : Nat} {ad : Option Addr} {news : List Value} (hl : news.length = m * k) (hc : ∀ d, ad = some d → ∀ (j : Nat) (u : Value), news[j]? = some u → w.cell? (d.add j) = some u) (hn : ad = none → m = 0) :
    (Builtin.firstCells k m (.slice ad m c)).run P w = .ok news.toArray w := by
  cases ad with
  | none =>
    have : m = 0 := hn rfl
    subst this
    have : news = [] := List.eq_nil_of_length_eq_zero (by simpa using hl)
    subst this
    exact run_firstCells_none _ _ _ _ _
  | some d => exact run_firstCells_some (P := P) w k m d m c news hl (hc d rfl)

theorem run_append_fits {t ty e : TypeId} {i : TypeInfo} (ht : P.underlying t = some (.slice e)) (hi : P.info? e = some i) {base ad : Option Addr} {n cap m c : Nat} {news : List Value} (hl : news.length = m * i.size)
    (hc : ∀ d, ad = some d → ∀ (j : Nat) (u : Value), news[j]? = some u → w.cell? (d.add j) = some u) (hn : ad = none → m = 0) (hfit : n + m ≤ cap) :
    (Builtin.append_ #[t, t] ty #[.slice base n cap, .slice ad m c]).run P w = match base with
      | none => .ok (.slice none (n + m) cap) w
      | some b => ((storeCells (b.add (n * i.size)) news).run P w).andThen fun _ w' => .ok (.slice (some b) (n + m) cap) w' := by
  have hf := run_first (P := P) (w := w) (c := c) hl hc hn
  cases base with
  | none => simp [Builtin.append_, run_underlying ht, sizeOf, typeInfo, hi, Builtin.lenOf, hfit, hf]
  | some b => simp [Builtin.append_, run_underlying ht, sizeOf, typeInfo, hi, Builtin.lenOf, hfit, hf]

theorem below_drew_alloc (w : World) (o : Obj) : Below w.heap.size w (w.drew.alloc o) := ((Below.refl _ _).drew).alloc (Nat.le_refl _) _

theorem append_sound (h : Sim P w0 σ ν a w) {t ty e : TypeId} {x y : Operand} {s b off n k m : Nat} {o old new : OB} {q q' : Prop} {n' k'' : Nat} (hs : s < σ.n) (hu : P.underlying t = some (.slice e)) (hx : σ.ev x = .bs b off n k) (hy : srcCells σ (σ.ev y) = some (q, m, k, new))
    (hb : lookO σ.ob b = some o) (hold : srcCells σ (.bs b off n k) = some (q', n', k'', old)) (hk : P.cellsOf e = k) (hk0 : k ≠ 0) (hb0 : P.bytesOf e ≠ 0) (hz : zeroOk P e = true) (htip : off + n * k = (obCells o).length) (hroom : (n + m) * P.bytesOf e ≤ 140737488355328) (hq : q) (hr : AV.refsL s (obCells old ++ obCells new) = false) :
    ∃ v w' ν', (Builtin.append_ #[t, t] ty #[a.eval x, a.eval y]).run P w = .ok v w' ∧ Sim P w0 (St.new { σ with ob := delO σ.ob b } s (old.join new) (.bs s 0 (n + m) k)) ν' (a.put (some s) v) w' := by
  obtain ⟨ad, c, news, e1, e2, e3, e4, e5, e6⟩ := src_sound h (h.ev y) hy hq
  have hvx := h.ev x
  rw [hx] at hvx
  obtain ⟨i, hi, hi1, hi2⟩ := info_of (P := P) (t := e) (by rw [hk]; exact hk0)
  obtain ⟨z, z1, z2, z3, z4⟩ := zero_run (w := w) hz
  have hzi : ∃ z, i.zero = some z := by
    simp only [zeroOk, Bool.and_eq_true] at hz
    have := hz.1.1
    rw [hi] at this
    exact Option.isSome_iff_exists.1 (by simpa using this)
  obtain ⟨zz, hzz⟩ := hzi
  have hsz : i.size = k := hi1.trans hk
  have hnm : n + m ≤ 140737488355328 := Nat.le_trans (Nat.le_mul_of_pos_right _ (by omega)) hroom
  have hob1 : ∀ t o, lookO (delO σ.ob b) t = some o → lookO σ.ob t = some o := fun t o ht => (lookO_del ht).2
  -- what the base holds
  have hbase : ∃ base cap olds, a.eval x = .slice base n cap ∧ n ≤ cap ∧ olds.length = n * k ∧ (∀ d, base = some d → ∀ (j : Nat) (u : Value), olds[j]? = some u → w.cell? (d.add j) = some u) ∧ (base = none → n = 0 ∧ cap = 0 ∧ ν b = none) ∧ Ones olds ∧ VRs P w0 w σ.ob ν (obCells old) olds ∧
      (∀ d, base = some d → ∃ blk bo cc T, ν b = some (blk, bo) ∧ ((cap = 0 ∧ ∃ x, x ≤ cc.size ∧ d = ⟨blk, x, none⟩) ∨ d = ⟨blk, bo + off, none⟩) ∧ w.heap[blk]? = some (.cells cc T (0, 0)) ∧ bo + off + cap * k ≤ cc.size ∧ (¬ w0.S blk ∧ w0.D blk) ∧ (∀ j : Nat, j < olds.length → cc[bo + off + j]? = olds[j]?)) := by
    have hq' : q' := by
      unfold srcCells at hold
      simp only [hb] at hold
      split at hold
      · rename_i cs hcs
        simp only [Option.some.injEq, Prod.mk.injEq] at hold hcs
        obtain ⟨rfl, _⟩ := hold
        subst hcs
        simp only [obCells, List.length_map] at htip
        exact Nat.le_of_eq htip
      · rename_i cs hcs
        simp only [Option.some.injEq, Prod.mk.injEq] at hold hcs
        obtain ⟨rfl, _⟩ := hold
        subst hcs
        exact Nat.le_of_eq htip
      · cases hold
    obtain ⟨ad', c', olds, f1, f2, f3, f4, f5, f6⟩ := src_sound h hvx hold hq'
    have hnk : n' = n ∧ k'' = k := by
      unfold srcCells at hold
      simp only [hb] at hold
      split at hold
      · simp only [Option.some.injEq, Prod.mk.injEq] at hold; exact ⟨hold.2.1.symm, hold.2.2.1.symm⟩
      · simp only [Option.some.injEq, Prod.mk.injEq] at hold; exact ⟨hold.2.1.symm, hold.2.2.1.symm⟩
      · cases hold
    obtain ⟨rfl, rfl⟩ := hnk
    simp only [VR] at hvx
    rcases (hvx (by rw [hb]; rfl)).2 with ⟨g1, g2, g3, g4⟩ | ⟨blk, bo, cap, d, cc, T, g1, g2, g3, g4, g5, g6⟩
    · rw [g2] at f1
      simp only [Value.slice.injEq] at f1
      obtain ⟨rfl, h1, rfl⟩ := f1
      exact ⟨none, 0, olds, by rw [g2, g3], by omega, f2, f3, fun _ => ⟨g3, rfl, g1⟩, f5, f6, by simp⟩
    · rw [g2] at f1
      simp only [Value.slice.injEq] at f1
      obtain ⟨rfl, _, rfl⟩ := f1
      have hB : ¬ w0.S blk ∧ w0.D blk := by
        rcases h.objs b o hb with ⟨r1, _⟩ | ⟨b', base', c2, T2, xs, r1, r2, _⟩
        · rw [r1] at g1; cases g1
        · rw [r1] at g1; cases g1; exact r2
      refine ⟨some d, cap, olds, g2, g3, f2, f3, by simp, f5, f6, fun d' hd' => ?_⟩
      cases hd'
      refine ⟨blk, bo, cc, T, g1, g4, g5, g6, hB, fun j hj => ?_⟩
      rcases g4 with ⟨g4, _⟩ | rfl
      · have : n' = 0 := by omega
        subst this
        simp at f2
        rw [f2] at hj
        cases hj
      · have := f3 _ rfl j _ (List.getElem?_eq_getElem hj)
        rw [addr_add, cell_row g5] at this
        rw [this, List.getElem?_eq_getElem hj]
  obtain ⟨base, cap, olds, b1, b2, b3, b4, b5, b6, b7, b8⟩ := hbase
  have hcells : VRs P w0 w σ.ob ν (obCells (old.join new)) (olds ++ news) := by
    rw [obCells_join]; exact b7.append e6
  have hlen : (olds ++ news).length = (n + m) * k := by rw [List.length_append, b3, e2, Nat.add_mul]
  have hrefs : AV.refsL s (obCells (old.join new)) = false := by rw [obCells_join]; exact hr
  have hfin : ∀ (w' : World) (loc : Option (Nat × Nat)) (v : Value), Keep w0.S w w' →
      (∀ (b : Nat) (c : Array Value) (T : TypeId), w.heap[b]? = some (.cells c T (0, 0)) → ∃ (c' : Array Value) (T' : TypeId), w'.heap[b]? = some (.cells c' T' (0, 0)) ∧ c'.size = c.size) →
      (∀ b, b < w.heap.size → AvoidB σ.ob ν b → w'.heap[b]? = w.heap[b]?) → (∀ t o, lookO (delO σ.ob b) t = some o → ∀ p, ν t = some p → w'.heap[p.1]? = w.heap[p.1]?) →
      (∀ p, loc = some p → w.heap.size ≤ p.1 ∨ ((∃ t o q, lookO σ.ob t = some o ∧ ν t = some q ∧ q.1 = p.1) ∧ ∀ t o, lookO (delO σ.ob b) t = some o → ∀ q, ν t = some q → q.1 ≠ p.1)) →
      ((loc = none ∧ v = .slice none 0 0 ∧ n + m = 0) ∨ ∃ blk bo cap' d cc T, loc = some (blk, bo) ∧ v = .slice (some d) (n + m) cap' ∧ n + m ≤ cap' ∧ ((cap' = 0 ∧ ∃ x, x ≤ cc.size ∧ d = ⟨blk, x, none⟩) ∨ d = ⟨blk, bo, none⟩) ∧ w'.heap[blk]? = some (.cells cc T (0, 0)) ∧ bo + cap' * k ≤ cc.size ∧ (¬ w0.S blk ∧ w0.D blk) ∧ ∀ j : Nat, j < (olds ++ news).length → cc[bo + j]? = (olds ++ news)[j]?) →
      ∃ ν', Sim P w0 (St.new { σ with ob := delO σ.ob b } s (old.join new) (.bs s 0 (n + m) k)) ν' (a.put (some s) v) w' := by
    intro w' loc v h1 h2 h3 h4 h5 h6
    refine h.renew hob1 h1 h2 h3 h4 hs (join_ne _ _) h5 (fun ob' ν' hl hf hνs hlook => ?_)
    have hv2 := VRs.later hl hcells (fun s' hs' => hf s' (fun e => by subst e; rw [hrefs] at hs'; cases hs'))
    rcases h6 with ⟨rfl, rfl, h7⟩ | ⟨blk, bo, cap', d, cc, T, rfl, rfl, g3, g4, g5, g6, g7, g8⟩
    · refine ⟨.inl ⟨hνs, ?_⟩, ?_⟩
      · have hz0 : (olds ++ news).length = 0 := by rw [hlen, h7, Nat.zero_mul]
        have := hv2.length
        exact List.eq_nil_of_length_eq_zero (by omega)
      · simp only [VR]
        exact fun _ => ⟨fun o' ho' => by simp only [h7]; omega, .inl ⟨hνs, by trivial, h7, by trivial⟩⟩
    · refine ⟨.inr ⟨blk, bo, cc, T, olds ++ news, hνs, g7, g5, g8, b6.append e5, hv2⟩, ?_⟩
      simp only [VR]
      exact fun _ => ⟨fun o' ho' => by rw [hlook] at ho'; cases ho'; rw [← hcells.length, hlen]; omega, .inr ⟨blk, bo, cap', d, cc, T, hνs, rfl, g3, by simpa using g4, g5, by omega⟩⟩
  have hgrow : ∀ (v : Value) (cc : Array Value) (cap' : Nat), v = .slice (some ⟨w.heap.size, 0, none⟩) (n + m) cap' → n + m ≤ cap' → cc.size = cap' * k → (∀ j : Nat, j < (olds ++ news).length → cc[j]? = (olds ++ news)[j]?) →
      ∃ ν', Sim P w0 (St.new { σ with ob := delO σ.ob b } s (old.join new) (.bs s 0 (n + m) k)) ν' (a.put (some s) v) (w.drew.alloc (.cells cc e)) := by
    intro v cc cap' hv hcap hcs hcc
    have hbl := below_drew_alloc w (.cells cc e)
    refine hfin _ (some (w.heap.size, 0)) v (keep_below hbl (fun k hk => Nat.lt_of_lt_of_le (h.lt k hk) h.below.size)) (later_below hbl σ.ob ν).rows (fun b' hb' _ => hbl.block b' hb') (fun t o2 ht p hp => ?_) (fun p hp => by cases hp; exact .inl (Nat.le_refl _)) (.inr ⟨w.heap.size, 0, cap', _, cc, e, rfl, hv, hcap, .inr rfl, ?_, by omega, h.newB (Nat.le_refl _), fun j hj => by rw [Nat.zero_add]; exact hcc j hj⟩)
    · rcases h.objs t o2 (hob1 t o2 ht) with ⟨r1, _⟩ | ⟨b', base', c2, T2, xs, r1, r2, r3, _⟩
      · rw [r1] at hp; cases hp
      · rw [r1] at hp; cases hp
        exact hbl.block _ (Array.getElem?_eq_some_iff.1 r3).1
    · exact alloc_heap w.drew _
  rw [b1, e1]
  by_cases hfit : n + m ≤ cap
  · have hrun := run_append_fits (P := P) (w := w) (ty := ty) (base := base) (n := n) (cap := cap) (c := c) hu hi (by rw [hsz]; exact e2) e3 e4 hfit
    cases base with
    | none =>
      obtain ⟨rfl, rfl, hνn⟩ := b5 rfl
      have hm : m = 0 := by omega
      subst hm
      refine ⟨_, w, (hfin w none _ (Keep.refl _ _) (fun b c T hh => ⟨c, T, hh, rfl⟩) (fun _ _ _ => rfl) (fun _ _ _ _ _ => rfl) (by simp) (.inl ⟨rfl, rfl, rfl⟩)).choose, hrun, (hfin w none _ (Keep.refl _ _) (fun b c T hh => ⟨c, T, hh, rfl⟩) (fun _ _ _ => rfl) (fun _ _ _ _ _ => rfl) (by simp) (.inl ⟨rfl, rfl, rfl⟩)).choose_spec⟩
    | some d =>
      obtain ⟨blk, bo, cc, T, g1, g2, g3, g4, g5, g6⟩ := b8 d rfl
      have hother : ∀ t o2, lookO (delO σ.ob b) t = some o2 → ∀ p, ν t = some p → p.1 ≠ blk := fun t o2 ht p hp => by
        obtain ⟨r1, r2⟩ := lookO_del ht
        exact h.inj t b o2 o p _ r1 r2 hb hp g1
      have hlocs : ∀ p, some (blk, bo + off) = some p → w.heap.size ≤ p.1 ∨ ((∃ t o q, lookO σ.ob t = some o ∧ ν t = some q ∧ q.1 = p.1) ∧ ∀ t o, lookO (delO σ.ob b) t = some o → ∀ q, ν t = some q → q.1 ≠ p.1) := fun p hp => by
        cases hp
        exact .inr ⟨⟨b, o, _, hb, g1, rfl⟩, fun t o2 ht q hq => hother t o2 ht q hq⟩
      by_cases hn0 : news = []
      · subst hn0
        have hm : m = 0 := by
          rw [List.length_nil] at e2
          rcases Nat.mul_eq_zero.1 e2.symm with e2 | e2
          · exact e2
          · exact absurd e2 hk0
        subst hm
        have hst : (storeCells (d.add (n * i.size)) ([] : List Value)).run P w = .ok () w := rfl
        simp only [hst, Result.andThen_ok] at hrun
        obtain ⟨ν', hh⟩ := hfin w (some (blk, bo + off)) (.slice (some d) (n + 0) cap) (Keep.refl _ _) (fun b c T hh => ⟨c, T, hh, rfl⟩) (fun _ _ _ => rfl) (fun _ _ _ _ _ => rfl) hlocs (.inr ⟨blk, bo + off, cap, d, cc, T, rfl, rfl, by omega, g2, g3, g4, g5, fun j hj => by simpa using g6 j (by simpa using hj)⟩)
        exact ⟨_, w, ν', hrun, hh⟩
      · have hm : 0 < m := by
          rcases Nat.eq_zero_or_pos m with hm | hm
          · subst hm
            exact absurd (List.eq_nil_of_length_eq_zero (by simpa using e2)) hn0
          · exact hm
        have hd : d = ⟨blk, bo + off, none⟩ := by
          rcases g2 with g2 | g2
          · omega
          · exact g2
        subst hd
        have hcapk : (n + m) * k ≤ cap * k := Nat.mul_le_mul_right k hfit
        rw [Nat.add_mul] at hcapk
        have hst := run_storeCells_at P blk (bo + off + n * k) T news 0 cc w g3 (by omega) e5
        simp only [Nat.add_zero] at hst
        simp only [addr_add, hsz, hst, Result.andThen_ok] at hrun
        let c' : Array Value := (cc.toList.take (bo + off + n * k) ++ news ++ cc.toList.drop (bo + off + n * k + news.length)).toArray
        have hc'sz : c'.size = cc.size := by simp [c']; omega
        have hheap := setRow_heap w blk cc c' T (0, 0) g3
        have hsetsz : (w.setRow blk c').heap.size = w.heap.size := by simp [World.setRow]
        obtain ⟨ν', hh⟩ := hfin (w.setRow blk c') (some (blk, bo + off)) (.slice (some ⟨blk, bo + off, none⟩) (n + m) cap) ⟨rfl, rfl, rfl, Nat.le_of_eq hsetsz.symm, fun k2 hk2 => setRow_other w blk k2 c' (fun e => g5.1 (e ▸ hk2))⟩
          (fun b2 c2 T2 hh => by
            by_cases e : b2 = blk
            · subst e
              rw [g3] at hh; cases hh
              exact ⟨c', T, hheap, hc'sz⟩
            · exact ⟨c2, T2, (setRow_other w blk b2 c' e).trans hh, rfl⟩)
          (fun b2 _ hav => setRow_other w blk b2 c' (fun e => hav b o hb _ g1 e.symm)) (fun t o2 ht p hp => setRow_other w blk _ c' (hother t o2 ht p hp)) hlocs
          (.inr ⟨blk, bo + off, cap, _, c', T, rfl, rfl, hfit, .inr rfl, hheap, by rw [hc'sz]; exact g4, g5, fun j hj => by
            simp only [c', List.getElem?_toArray]
            rw [splice_get _ _ _ (by simp; omega)]
            by_cases hj1 : j < olds.length
            · rw [if_pos (by omega), Array.getElem?_toList, g6 j hj1, List.getElem?_append_left hj1]
            · simp only [List.length_append] at hj
              rw [if_neg (by omega), if_pos (by omega), List.getElem?_append_right (by omega)]
              congr 1
              omega⟩)
        exact ⟨_, _, ν', hrun, hh⟩
  · cases ad with
    | none =>
      have := e4 rfl
      omega
    | some d2 =>
    cases base with
    | none =>
      obtain ⟨rfl, rfl, hνn⟩ := b5 rfl
      have ho0 : olds = [] := List.eq_nil_of_length_eq_zero (by simpa using b3)
      subst ho0
      have hrun := run_append_nil (P := P) w t ty e i zz hu hi hzz d2 m c news (by rw [hsz]; exact e2) (e3 d2 rfl) (by omega) (by omega) (by rw [hi2]; have := hroom; rw [Nat.zero_add] at this; omega)
      have hge := grownCap_ge w m 0 e
      obtain ⟨ν', hh⟩ := hgrow (.slice (some ⟨w.heap.size, 0, none⟩) (0 + m) (grownCap w m 0 e)) (news.toArray ++ Builtin.zeroCells zz.cells (grownCap w m 0 e - m)) (grownCap w m 0 e) rfl (by omega) (by
          have hzl : zz.cells.size = k := by
            simp only [zeroOk, Bool.and_eq_true, beq_iff_eq, zeroV, hi, hzz, Option.bind_some, Array.length_toList] at hz
            omega
          simp only [Array.size_append, List.size_toArray, size_zeroCells, hzl, e2, ← Nat.add_mul]
          congr 1
          omega) (fun j hj => by
          simp only [List.nil_append] at hj ⊢
          rw [Array.getElem?_append_left (by simpa using hj)]
          simp)
      refine ⟨_, _, ν', ?_, hh⟩
      rw [hrun, Nat.zero_add]
    | some d =>
      obtain ⟨blk, bo, cc, T, g1, g2, g3, g4, g5, g6⟩ := b8 d rfl
      have hrun := run_append_grow (P := P) w t ty e i zz hu hi hzz d n cap olds (by rw [hsz]; exact b3) (b4 d rfl) d2 m c news (by rw [hsz]; exact e2) (e3 d2 rfl) (by omega) (by omega) (growslice_fits (by omega) (by rw [hi2]; exact hroom))
      have hge := grownCap_ge w (n + m) cap e
      obtain ⟨ν', hh⟩ := hgrow _ (olds.toArray ++ news.toArray ++ Builtin.zeroCells zz.cells (grownCap w (n + m) cap e - (n + m))) (grownCap w (n + m) cap e) rfl hge (by
          have hzl : zz.cells.size = k := by
            simp only [zeroOk, Bool.and_eq_true, beq_iff_eq, zeroV, hi, hzz, Option.bind_some, Array.length_toList] at hz
            omega
          simp only [Array.size_append, List.size_toArray, size_zeroCells, hzl, b3, e2, ← Nat.add_mul]
          congr 1
          omega) (fun j hj => by
          rw [Array.getElem?_append_left (by simpa using hj)]
          simp)
      exact ⟨_, _, ν', hrun, hh⟩
end

end Go.Proofs.Ytdinkfmkhdnbpaa
