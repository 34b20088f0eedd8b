/- Equality of structs whose cells are integers. -/
import Derived.Test.YtdinkfmkhdnbpaaFlow27
import Derived.WalkKit
import Derived.WalkSpells
import Derived.Laws.StructEq
namespace Go.Proofs.Ytdinkfmkhdnbpaa
open Go.RowKit
set_option linter.unusedVariables false
set_option linter.unusedSimpArgs false

def flatF (P : Program) (g : TypeId → Bool) : List Field → Nat → Nat → Bool
  | [], o, n => o == n
  | f :: fs, o, n => f.name != "_" && f.offset == o && g f.type && flatF P g fs (o + P.cellsOf f.type) n

/-- An integer, or a struct of such, its fields in a row. -/
def flatT (P : Program) : Nat → TypeId → Bool
  | 0, _ => false
  | d + 1, t => match P.underlying t with
    | some (.int _) => P.cellsOf t == 1
    | some (.struct fs) => !P.stoodInHeld t && flatF P (flatT P d) fs.toList 0 (P.cellsOf t)
    | _ => false

/-- These integers as a value of a type. -/
def FlatV (P : Program) (t : TypeId) (ps : List (IntKind × Int)) (v : Value) : Prop :=
  (tAgg P t = true ∧ v = .agg (ps.map fun p => Value.int p.1 p.2).toArray) ∨ (tAgg P t = false ∧ ∃ p, ps = [p] ∧ v = .int p.1 p.2)

section
variable {P : Program} {w : World}

theorem flat_part {t : TypeId} {ps : List (IntKind × Int)} {o : Nat} (hu : (P.underlying t).isSome = true) (h1 : tAgg P t = false → P.cellsOf t = 1) (hl : o + P.cellsOf t ≤ ps.length) :
    ∃ v, (part t (ps.map fun p => Value.int p.1 p.2).toArray o).run P w = .ok v w ∧ FlatV P t ((ps.drop o).take (P.cellsOf t)) v := by
  cases ht : tAgg P t with
  | true =>
    refine ⟨.agg (((ps.drop o).take (P.cellsOf t)).map fun p => Value.int p.1 p.2).toArray, ?_, .inl ⟨ht, rfl⟩⟩
    simp only [part, Sem.run_bind, run_agg (tAgg_some ht), Result.andThen_ok, ht, if_true, run_size (tAgg_some ht), Sem.run_pure]
    congr 2
    apply Array.ext'
    simp [List.extract_eq_take_drop, List.map_take, List.map_drop]
  | false =>
    have hc := h1 ht
    rw [hc] at hl ⊢
    have hlt : o < ps.length := by omega
    refine ⟨.int ps[o].1 ps[o].2, ?_, .inr ⟨ht, ps[o], ?_, rfl⟩⟩
    · simp only [part, Sem.run_bind, run_agg hu, Result.andThen_ok, ht]
      simp [hlt]
    · rw [List.drop_eq_getElem_cons hlt]
      rfl

theorem beq_split (xs ys : List Int) (n : Nat) : (xs == ys) = ((xs.take n == ys.take n) && (xs.drop n == ys.drop n)) := by
  by_cases h : xs = ys
  · subst h; simp
  · have : ¬ (xs.take n = ys.take n ∧ xs.drop n = ys.drop n) := fun e => h (by rw [← List.take_append_drop n xs, ← List.take_append_drop n ys, e.1, e.2])
    rw [beq_eq_false_iff_ne.2 h]
    by_cases h1 : xs.take n = ys.take n
    · have h2 : xs.drop n ≠ ys.drop n := fun e => this ⟨h1, e⟩
      simp [h2]
    · simp [h1]

theorem flat_fields (d : Nat) (D : Nat) {ps qs : List (IntKind × Int)} (hk : ps.map (·.1) = qs.map (·.1))
    (ih : ∀ t, flatT P d t = true → ∀ (rs ss : List (IntKind × Int)) (u v : Value), rs.length = P.cellsOf t → ss.length = P.cellsOf t → rs.map (·.1) = ss.map (·.1) → FlatV P t rs u → FlatV P t ss v → (Op.equalIn (D + 1) t u v).run P w = .ok (rs.map (·.2) == ss.map (·.2)) w)
    (hcell : ∀ t, flatT P d t = true → (P.underlying t).isSome = true ∧ (tAgg P t = false → P.cellsOf t = 1)) :
    ∀ (fs : List Field) (o : Nat), flatF P (flatT P d) fs o ps.length = true → o ≤ ps.length →
      (Op.eqFields (D + 1) (ps.map fun p => Value.int p.1 p.2).toArray (qs.map fun p => Value.int p.1 p.2).toArray fs).run P w = .ok ((ps.drop o).map (·.2) == (qs.drop o).map (·.2)) w
  | [], o, h, ho => by
    have hlen : ps.length = qs.length := by simpa using congrArg List.length hk
    simp only [flatF, beq_iff_eq] at h
    subst h
    simp [Op.eqFields, hlen]
  | f :: fs, o, h, ho => by
    have hlen : ps.length = qs.length := by simpa using congrArg List.length hk
    simp only [flatF, Bool.and_eq_true, beq_iff_eq, bne_iff_ne, ne_eq] at h
    obtain ⟨⟨⟨h1, h2⟩, h3⟩, h4⟩ := h
    have hle : ∀ (fs : List Field) (o : Nat), flatF P (flatT P d) fs o ps.length = true → o ≤ ps.length := by
      intro fs
      induction fs with
      | nil => intro o h; simp only [flatF, beq_iff_eq] at h; omega
      | cons f fs ih => intro o h; simp only [flatF, Bool.and_eq_true] at h; have := ih _ h.2; omega
    have h5 := hle fs _ h4
    obtain ⟨c1, c2⟩ := hcell f.type h3
    obtain ⟨u, u1, u2⟩ := flat_part (w := w) (ps := ps) (o := o) c1 c2 (by omega)
    obtain ⟨v, v1, v2⟩ := flat_part (w := w) (ps := qs) (o := o) c1 c2 (by omega)
    have he := ih f.type h3 _ _ u v (by simp; omega) (by simp; omega) (by
      rw [List.map_take, List.map_drop, hk, List.map_take, List.map_drop]) u2 v2
    have hrest := flat_fields d D hk ih hcell fs _ h4 h5
    simp only [Op.eqFields, if_pos h1, Sem.run_bind, h2, u1, v1, Result.andThen_ok, he]
    rw [beq_split ((ps.drop o).map (·.2)) ((qs.drop o).map (·.2)) (P.cellsOf f.type)]
    simp only [List.map_take, List.map_drop, List.drop_drop] at hrest ⊢
    cases hb : (((ps.map (·.2)).drop o).take (P.cellsOf f.type) == ((qs.map (·.2)).drop o).take (P.cellsOf f.type)) with
    | true => simpa using hrest
    | false => simp

theorem flat_cell (d : Nat) (t : TypeId) (h : flatT P d t = true) : (P.underlying t).isSome = true ∧ (tAgg P t = false → P.cellsOf t = 1) := by
  cases d with
  | zero => simp [flatT] at h
  | succ d =>
    simp only [flatT] at h
    split at h
    · rename_i k hu
      exact ⟨by rw [hu]; rfl, fun _ => by simpa using h⟩
    · rename_i fs hu
      exact ⟨by rw [hu]; rfl, fun e => by simp [tAgg, hu] at e⟩
    · cases h

theorem flat_equal : ∀ (d : Nat) (D : Nat) (t : TypeId), d ≤ D → flatT P d t = true → ∀ (w : World) (rs ss : List (IntKind × Int)) (u v : Value), rs.length = P.cellsOf t → ss.length = P.cellsOf t → rs.map (·.1) = ss.map (·.1) → FlatV P t rs u → FlatV P t ss v → (Op.equalIn (D + 1) t u v).run P w = .ok (rs.map (·.2) == ss.map (·.2)) w
  | 0, _, t, _, h => by simp [flatT] at h
  | d + 1, 0, t, hd, h => by omega
  | d + 1, D + 1, t, hd, h => by
    intro w rs ss u v hr hs hk hu hv
    simp only [flatT] at h
    split at h
    · rename_i k hty
      have hag : tAgg P t = false := by simp [tAgg, hty]
      rcases hu with ⟨e, _⟩ | ⟨_, p, rfl, rfl⟩
      · rw [hag] at e; cases e
      · rcases hv with ⟨e, _⟩ | ⟨_, q, rfl, rfl⟩
        · rw [hag] at e; cases e
        · simp only [List.map_cons, List.map_nil, List.cons.injEq, and_true] at hk
          rw [← hk]
          rw [run_equalIn_int w (D + 1) t p.1 k p.2 q.2 hty]
          simp
    · rename_i fs hty
      simp only [Bool.and_eq_true, Bool.not_eq_true'] at h
      have hag : tAgg P t = true := by simp [tAgg, hty]
      rcases hu with ⟨_, rfl⟩ | ⟨e, _⟩
      · rcases hv with ⟨_, rfl⟩ | ⟨e, _⟩
        · have hfs : P.fieldsOf t = fs := by simp [Program.fieldsOf, hty]
          rw [run_equalIn_struct w (D + 1) t _ _ (by rw [hfs]; exact hty) h.1, hfs]
          have := flat_fields (w := w) d D hk (fun t ht rs ss u v a b c e f => flat_equal d D t (by omega) ht w rs ss u v a b c e f) (flat_cell d) fs.toList 0 (by rw [hr]; exact h.2) (Nat.zero_le _)
          simpa using this
        · rw [hag] at e; cases e
      · rw [hag] at e; cases e
    · cases h

/-- '==' at a struct of integers. -/
theorem structEq_of {t : TypeId} {n : Nat} (h : flatT P 8 t = true) (hag : tAgg P t = true) (hn : P.cellsOf t = n) (hg : P.eqGuardType P.depth t = false) : StructEq P t n := by
  intro xs ys x y w h1 h2 h3 u v hu hv
  subst hu hv
  refine ⟨run_eqGuard_agg w .eql t x y _ _ hg, run_eqGuard_agg w .neq t x y _ _ hg, ?_⟩
  have := flat_equal (P := P) 8 9999 t (by omega) h w xs ys _ _ (h1.trans hn.symm) (h2.trans hn.symm) h3 (.inl ⟨hag, rfl⟩) (.inl ⟨hag, rfl⟩)
  simpa [Op.equal, Op.maxDepth] using this
end

end Go.Proofs.Ytdinkfmkhdnbpaa
