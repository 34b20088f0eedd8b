/- Reading lists of cells; loads. -/
import Derived.Test.YtdinkfmkhdnbpaaFlow6
import Derived.WalkKit
import Derived.WalkSpells
namespace Go.Proofs.Ytdinkfmkhdnbpaa
open Go.RowKit
set_option linter.unusedVariables false
set_option linter.unusedSimpArgs false

theorem RDs.length {w : World} {o : Bool} : ∀ {ds : List D} {ys : List Value} {bs : List Nat}, RDs w o ds ys bs → ys.length = ds.length
  | [], ys, bs, h => by simp only [RDs] at h; simp [h.1]
  | d :: ds, ys, bs, h => by
    simp only [RDs] at h
    obtain ⟨x, xs', b1, b2, rfl, h2, h3, h4⟩ := h
    simp [RDs.length h4]

theorem RDs.drop {w : World} {o : Bool} : ∀ (i : Nat) {ds : List D} {ys : List Value} {bs : List Nat}, RDs w o ds ys bs → ∃ bs', RDs w o (ds.drop i) (ys.drop i) bs' ∧ ∀ b ∈ bs', b ∈ bs
  | 0, ds, ys, bs, h => ⟨bs, by simpa using h, fun b hb => hb⟩
  | i + 1, [], ys, bs, h => by
    simp only [RDs] at h
    exact ⟨[], by simp [RDs, h.1], by simp⟩
  | i + 1, d :: ds, ys, bs, h => by
    simp only [RDs] at h
    obtain ⟨x, xs', b1, b2, rfl, rfl, h3, h4⟩ := h
    obtain ⟨bs', h5, h6⟩ := RDs.drop i h4
    exact ⟨bs', by simpa using h5, fun b hb => by simp [h6 b hb]⟩

theorem RDs.take {w : World} {o : Bool} : ∀ (i : Nat) {ds : List D} {ys : List Value} {bs : List Nat}, RDs w o ds ys bs → ∃ bs', RDs w o (ds.take i) (ys.take i) bs' ∧ ∀ b ∈ bs', b ∈ bs
  | 0, ds, ys, bs, h => ⟨[], by simp [RDs], by simp⟩
  | i + 1, [], ys, bs, h => by
    simp only [RDs] at h
    exact ⟨[], by simp [RDs, h.1], by simp⟩
  | i + 1, d :: ds, ys, bs, h => by
    simp only [RDs] at h
    obtain ⟨x, xs', b1, b2, rfl, rfl, h3, h4⟩ := h
    obtain ⟨bs', h5, h6⟩ := RDs.take i h4
    refine ⟨b1 ++ bs', ?_, fun b hb => ?_⟩
    · simp only [List.take_succ_cons, RDs]
      exact ⟨x, xs'.take i, b1, bs', rfl, rfl, h3, h5⟩
    · rcases List.mem_append.1 hb with hb | hb
      · simp [hb]
      · simp [h6 b hb]

theorem RDs.get {w : World} {o : Bool} : ∀ {ds : List D} {ys : List Value} {bs : List Nat}, RDs w o ds ys bs → ∀ i, i < ds.length → ∃ y bs', ys[i]? = some y ∧ RD w o (ds.getD i (.v undef)) y bs' ∧ ∀ b ∈ bs', b ∈ bs
  | [], ys, bs, h, i, hi => by simp at hi
  | d :: ds, ys, bs, h, i, hi => by
    simp only [RDs] at h
    obtain ⟨x, xs', b1, b2, rfl, rfl, h3, h4⟩ := h
    cases i with
    | zero => exact ⟨x, b1, by simp, by simpa using h3, fun b hb => by simp [hb]⟩
    | succ i =>
      obtain ⟨y, bs', h5, h6, h7⟩ := RDs.get h4 i (by simpa using hi)
      exact ⟨y, bs', by simpa using h5, by simpa using h6, fun b hb => by simp [h7 b hb]⟩

theorem RDs.append {w : World} {o : Bool} : ∀ {ds : List D} {ys : List Value} {bs : List Nat} {ds' : List D} {ys' : List Value} {bs' : List Nat}, RDs w o ds ys bs → RDs w o ds' ys' bs' → RDs w o (ds ++ ds') (ys ++ ys') (bs ++ bs')
  | [], ys, bs, ds', ys', bs', h, h' => by
    simp only [RDs] at h
    obtain ⟨rfl, rfl⟩ := h
    simpa using h'
  | d :: ds, ys, bs, ds', ys', bs', h, h' => by
    simp only [RDs] at h
    obtain ⟨x, xs', b1, b2, rfl, rfl, h3, h4⟩ := h
    simp only [List.cons_append, RDs]
    exact ⟨x, xs' ++ ys', b1, b2 ++ bs', rfl, by simp, h3, RDs.append h4 h'⟩

section
variable {P : Program} {w0 : Env} {w : World} {ob : List (Nat × OB)} {ν : Loc}

theorem VRs.length : ∀ {cs : List AV} {ys : List Value}, VRs P w0 w ob ν cs ys → ys.length = cs.length
  | [], ys, h => by simp only [VRs] at h; simp [h]
  | d :: ds, ys, h => by
    simp only [VRs] at h
    obtain ⟨y, ys', rfl, h2, h3⟩ := h
    simp [VRs.length h3]

theorem VRs.drop : ∀ (i : Nat) {cs : List AV} {ys : List Value}, VRs P w0 w ob ν cs ys → VRs P w0 w ob ν (cs.drop i) (ys.drop i)
  | 0, cs, ys, h => by simpa using h
  | i + 1, [], ys, h => by simp only [VRs] at h; simp [VRs, h]
  | i + 1, d :: ds, ys, h => by
    simp only [VRs] at h
    obtain ⟨y, ys', rfl, h2, h3⟩ := h
    simpa using VRs.drop i h3

theorem VRs.take : ∀ (i : Nat) {cs : List AV} {ys : List Value}, VRs P w0 w ob ν cs ys → VRs P w0 w ob ν (cs.take i) (ys.take i)
  | 0, cs, ys, h => by simp [VRs]
  | i + 1, [], ys, h => by simp only [VRs] at h; simp [VRs, h]
  | i + 1, d :: ds, ys, h => by
    simp only [VRs] at h
    obtain ⟨y, ys', rfl, h2, h3⟩ := h
    simp only [List.take_succ_cons, VRs]
    exact ⟨y, ys'.take i, rfl, h2, VRs.take i h3⟩

theorem VRs.get : ∀ {cs : List AV} {ys : List Value}, VRs P w0 w ob ν cs ys → ∀ i, i < cs.length → ∃ y, ys[i]? = some y ∧ VR P w0 w ob ν (cs.getD i .un) y
  | [], ys, h, i, hi => by simp at hi
  | d :: ds, ys, h, i, hi => by
    simp only [VRs] at h
    obtain ⟨y, ys', rfl, h2, h3⟩ := h
    cases i with
    | zero => exact ⟨y, by simp, by simpa using h2⟩
    | succ i =>
      obtain ⟨z, h5, h6⟩ := VRs.get h3 i (by simpa using hi)
      exact ⟨z, by simpa using h5, by simpa using h6⟩

theorem VRs.append : ∀ {cs : List AV} {ys : List Value} {cs' : List AV} {ys' : List Value}, VRs P w0 w ob ν cs ys → VRs P w0 w ob ν cs' ys' → VRs P w0 w ob ν (cs ++ cs') (ys ++ ys')
  | [], ys, cs', ys', h, h' => by simp only [VRs] at h; subst h; simpa using h'
  | d :: ds, ys, cs', ys', h, h' => by
    simp only [VRs] at h
    obtain ⟨y, ys1, rfl, h2, h3⟩ := h
    simp only [List.cons_append, VRs]
    exact ⟨y, ys1 ++ ys', rfl, h2, VRs.append h3 h'⟩

/-- Blocks that no own object lies in. -/
def Free (w0 : Env) (w : World) (ob : List (Nat × OB)) (ν : Loc) (bs : List Nat) : Prop := ∀ b ∈ bs, b < w.heap.size ∧ AvoidB ob ν b ∧ w0.D b

theorem VRs.of_rds : ∀ {ds : List D} {ys : List Value} {bs : List Nat}, RDs w false ds ys bs → Free w0 w ob ν bs → VRs P w0 w ob ν (ds.map AV.d) ys
  | [], ys, bs, h, _ => by simp only [RDs] at h; simp [VRs, h.1]
  | d :: ds, ys, bs, h, hf => by
    simp only [RDs] at h
    obtain ⟨x, xs', b1, b2, rfl, rfl, h3, h4⟩ := h
    simp only [List.map_cons, VRs]
    refine ⟨x, xs', rfl, ?_, VRs.of_rds h4 (fun b hb => hf b (by simp [hb]))⟩
    simp only [VR]
    exact ⟨b1, h3, fun b hb => hf b (by simp [hb])⟩

theorem VRs.to_rds : ∀ {ds : List D} {ys : List Value}, VRs P w0 w ob ν (ds.map AV.d) ys → ∃ bs, RDs w false ds ys bs ∧ Free w0 w ob ν bs
  | [], ys, h => by
    simp only [List.map_nil, VRs] at h
    exact ⟨[], by simp [RDs, h], fun b hb => by cases hb⟩
  | d :: ds, ys, h => by
    simp only [List.map_cons, VRs] at h
    obtain ⟨y, ys', rfl, h2, h3⟩ := h
    simp only [VR] at h2
    obtain ⟨b1, h4, h5⟩ := h2
    obtain ⟨b2, h6, h7⟩ := VRs.to_rds h3
    refine ⟨b1 ++ b2, ?_, fun b hb => ?_⟩
    · simp only [RDs]
      exact ⟨y, ys', b1, b2, rfl, rfl, h4, h6⟩
    · rcases List.mem_append.1 hb with hb | hb
      · exact h5 b hb
      · exact h7 b hb

theorem allD_spec : ∀ {cs : List AV} {ds : List D}, allD cs = some ds → cs = ds.map AV.d
  | [], ds, h => by simp [allD] at h; simp [h]
  | .d x :: r, ds, h => by
    simp only [allD, Option.map_eq_some_iff] at h
    obtain ⟨ds', h1, rfl⟩ := h
    simp [allD_spec h1]
  | .bp _ _ :: _, ds, h => by simp [allD] at h
  | .bs _ _ _ _ :: _, ds, h => by simp [allD] at h
  | .ag _ :: _, ds, h => by simp [allD] at h
  | .tu _ :: _, ds, h => by simp [allD] at h
  | .fn _ _ :: _, ds, h => by simp [allD] at h
  | .fc _ _ _ :: _, ds, h => by simp [allD] at h
  | .un :: _, ds, h => by simp [allD] at h

theorem addr_add (b off j : Nat) : (⟨b, off, none⟩ : Addr).add j = ⟨b, off + j, none⟩ := by
  unfold Addr.add
  split
  · rename_i h; subst h; rfl
  · rfl

theorem run_size {t : TypeId} (h : (P.underlying t).isSome = true) : (sizeOf t).run P w = .ok (P.cellsOf t) w := by
  unfold Program.underlying at h
  cases hi : P.info? t with
  | none => simp [hi] at h
  | some i => simp [sizeOf, typeInfo, Program.cellsOf, hi]

theorem run_agg {t : TypeId} (h : (P.underlying t).isSome = true) : (isAgg t).run P w = .ok (tAgg P t) w := by
  obtain ⟨d, hd⟩ := Option.isSome_iff_exists.1 h
  simp only [isAgg, Sem.run_bind, run_underlying hd, Result.andThen_ok, tAgg, hd]
  cases d <;> rfl

theorem tAgg_some {t : TypeId} (h : tAgg P t = true) : (P.underlying t).isSome = true := by
  unfold tAgg at h
  cases hu : P.underlying t with
  | none => simp [hu] at h
  | some d => rfl

theorem cell_row {b : Nat} {c : Array Value} {T : TypeId} {fz : Nat × Nat} (h : w.heap[b]? = some (.cells c T fz)) (i : Nat) : w.cell? ⟨b, i, none⟩ = c[i]? := by
  simp [World.cell?, h]

/-- It yields v in whatever later world. -/
def RT {α : Type} (P : Program) (w : World) (s : Sem α) (v : α) : Prop := ∀ w', Below w.heap.size w w' → s.run P w' = .ok v w'

theorem RT.here {α : Type} {P : Program} {w : World} {s : Sem α} {v : α} (h : RT P w s v) : s.run P w = .ok v w := h w (Below.refl _ _)

/-- A variable of several cells is read. -/
theorem run_loadVar_agg {t : TypeId} (ht : tAgg P t = true) {b off : Nat} {ys : List Value} (hl : ys.length = P.cellsOf t) (hc : ∀ i, i < ys.length → w.cell? ⟨b, off + i, none⟩ = ys[i]?) :
    (loadVar t ⟨b, off, none⟩).run P w = .ok (.agg ys.toArray) w := by
  have h1 := run_loadCells_list (P := P) w ⟨b, off, none⟩ ys (fun j v hv => by
    rw [addr_add]
    have hj : j < ys.length := (List.getElem?_eq_some_iff.1 hv).1
    rw [hc j hj, hv])
  simp only [loadVar, Sem.run_bind, run_agg (tAgg_some ht), Result.andThen_ok, ht, if_true, run_size (tAgg_some ht), ← hl, h1, Sem.run_pure]

theorem run_loadVar_one {t : TypeId} (ht : tAgg P t = false) (hu : (P.underlying t).isSome = true) {b off : Nat} {y : Value} (hc : w.cell? ⟨b, off, none⟩ = some y) :
    (loadVar t ⟨b, off, none⟩).run P w = .ok y w := by
  simp only [loadVar, Sem.run_bind, run_agg hu, Result.andThen_ok, ht, Bool.false_eq_true, if_false]
  rw [run_load]
  simp [hc]

end

end Go.Proofs.Ytdinkfmkhdnbpaa
