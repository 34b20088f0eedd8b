/- Calls by contract; a region in the order of the text. -/
import Derived.Test.YtdinkfmkhdnbpaaFlow19
import Derived.WalkKit
import Derived.WalkSpells
namespace Go.Proofs.Ytdinkfmkhdnbpaa
open Go.RowKit
set_option linter.unusedVariables false
set_option linter.unusedSimpArgs false

section
variable {P : Program} {w0 : Env} {w w' : World} {σ : St} {ν : Loc} {a : Act}

/-- A block that is no own object's, or one of those named by ob0. -/
def From (ob ob0 : List (Nat × OB)) (ν : Loc) (w : World) (b : Nat) : Prop := b < w.heap.size ∧ (AvoidB ob ν b ∨ ∃ s o base, lookO ob0 s = some o ∧ ν s = some (b, base))

mutual
/-- What the frame holds reads as the data that the view makes of it. -/
theorem toD_from (h : Sim P w0 σ ν a w) {ob0 : List (Nat × OB)} (hsub : ∀ s o, lookO ob0 s = some o → lookO σ.ob s = some o) : ∀ (n : Nat) {x : AV} {d : D} {y : Value}, toD ob0 n x = some d → VR P w0 w σ.ob ν x y → ∃ bs, RD w false d y bs ∧ ∀ b ∈ bs, From σ.ob ob0 ν w b
  | n, .d x, d, y, ht, hv => by
    have : d = x := by cases n <;> simp_all [toD]
    subst this
    simp only [VR] at hv
    obtain ⟨bs, h1, h2⟩ := hv
    exact ⟨bs, h1, fun b hb => ⟨(h2 b hb).1, .inl (h2 b hb).2.1⟩⟩
  | n + 1, .bs s off m k, d, y, ht, hv => by
    simp only [toD] at ht
    simp only [VR] at hv
    have key : ∀ (o : OB) (ds : List D), lookO ob0 s = some o → (∀ ys, VRs P w0 w σ.ob ν (((obCells o).drop off).take (m * k)) ys → ∃ bs, RDs w false ds ys bs ∧ ∀ b ∈ bs, From σ.ob ob0 ν w b) → ∃ bs, RD w false (.ls k m ds) y bs ∧ ∀ b ∈ bs, From σ.ob ob0 ν w b := fun o ds ho0 hds => by
      have ho := hsub s o ho0
      obtain ⟨hle, hv⟩ := hv (by rw [ho]; rfl)
      have hle := hle o ho
      simp only [RD]
      rcases hv with ⟨g1, rfl, rfl, rfl⟩ | ⟨b, base, cap, ad, c, T, g1, rfl, g3, g4, g5, g6⟩
      · obtain ⟨bs, hb, _⟩ := hds [] (by simp [VRs])
        have := hb.length
        exact ⟨[], .inl ⟨none, 0, by trivial, (by first | trivial | rfl | simp), by trivial, List.eq_nil_of_length_eq_zero (by simpa using this.symm), rfl⟩, by simp⟩
      · obtain ⟨xs, r1, r2, r3⟩ := (h.objs s o ho).read g1
        have hl := r3.length
        obtain ⟨bs, hb, hfb⟩ := hds _ ((r3.drop off).take (m * k))
        have hroot : From σ.ob ob0 ν w b := ⟨(Array.getElem?_eq_some_iff.1 g5).1, .inr ⟨s, o, base, ho0, g1⟩⟩
        have hbl := hb.length
        rcases g4 with ⟨g4, x0, _, rfl⟩ | rfl
        · have hm : m = 0 := by omega
          subst hm
          have hds0 : ds = [] := List.eq_nil_of_length_eq_zero (by simpa using hbl.symm)
          subst hds0
          simp only [List.length_nil, RDs] at hb hbl
          refine ⟨b :: [], .inr ⟨b, x0, cap, [], [], rfl, rfl, by simp, by omega, ⟨(fun x hx => by cases hx), c, T, (0, 0), g5, (fun i hi => by simp at hi), (fun e => by cases e)⟩, by simp [RDs]⟩, fun b' hb' => by simp at hb'; rw [hb']; exact hroot⟩
        · refine ⟨b :: bs, .inr ⟨b, base + off, cap, (xs.drop off).take (m * k), bs, rfl, rfl, by simp at hbl; omega, g3, ⟨(r2.drop _).take _, c, T, (0, 0), g5, fun i hi => ?_, fun e => by cases e⟩, hb⟩, fun b' hb' => by rcases List.mem_cons.1 hb' with e | e; exact e ▸ hroot; exact hfb b' e⟩
          simp only [List.length_take, List.length_drop] at hi
          have := r1 (off + i) (by omega)
          rw [cell_row g5] at this
          rw [Nat.add_assoc, this, List.getElem?_take, if_pos (by omega), List.getElem?_drop]
    split at ht
    · rename_i cs ho
      cases ht
      refine key _ _ ho (fun ys hys => ?_)
      simp only [obCells, ← List.map_drop, ← List.map_take] at hys
      obtain ⟨bs, h1, h2⟩ := hys.to_rds
      exact ⟨bs, h1, fun b hb => ⟨(h2 b hb).1, .inl (h2 b hb).2.1⟩⟩
    · rename_i cs ho
      simp only [Option.map_eq_some_iff] at ht
      obtain ⟨ds, hds, rfl⟩ := ht
      exact key _ _ ho (fun ys hys => mapD_from h hsub n hds hys)
    · cases ht
  | n + 1, .bp s off, d, y, ht, hv => by
    simp only [toD] at ht
    simp only [VR] at hv
    have key : ∀ (o : OB) (ds : List D), lookO ob0 s = some o → (∀ ys, VRs P w0 w σ.ob ν ((obCells o).drop off) ys → ∃ bs, RDs w false ds ys bs ∧ ∀ b ∈ bs, From σ.ob ob0 ν w b) → ∃ bs, RD w false (.pt ds) y bs ∧ ∀ b ∈ bs, From σ.ob ob0 ν w b := fun o ds ho0 hds => by
      have ho := hsub s o ho0
      obtain ⟨b, base, g1, rfl⟩ := hv (by rw [ho]; rfl)
      rcases h.objs s o ho with ⟨r, _⟩ | ⟨b', base', c, T, xs, q1, q2, q3, q4, q5, q6⟩
      · rw [r] at g1; cases g1
      · rw [q1] at g1; cases g1
        obtain ⟨bs, hb, hfb⟩ := hds _ (q6.drop off)
        simp only [RD]
        have hroot : From σ.ob ob0 ν w b := ⟨(Array.getElem?_eq_some_iff.1 q3).1, .inr ⟨s, o, base, ho0, q1⟩⟩
        refine ⟨b :: bs, ⟨b, base + off, xs.drop off, bs, rfl, rfl, ⟨q5.drop _, c, T, (0, 0), q3, fun i hi => ?_, fun e => by cases e⟩, hb⟩, fun b' hb' => by rcases List.mem_cons.1 hb' with e | e; exact e ▸ hroot; exact hfb b' e⟩
        simp only [List.length_drop] at hi
        rw [Nat.add_assoc, q4 _ (by omega), List.getElem?_drop]
    split at ht
    · rename_i cs ho
      cases ht
      refine key _ _ ho (fun ys hys => ?_)
      simp only [obCells, ← List.map_drop] at hys
      obtain ⟨bs, h1, h2⟩ := hys.to_rds
      exact ⟨bs, h1, fun b hb => ⟨(h2 b hb).1, .inl (h2 b hb).2.1⟩⟩
    · rename_i cs ho
      simp only [Option.map_eq_some_iff] at ht
      obtain ⟨ds, hds, rfl⟩ := ht
      exact key _ _ ho (fun ys hys => mapD_from h hsub n hds hys)
    · cases ht
  | n + 1, .ag cs, d, y, ht, hv => by
    simp only [toD, Option.map_eq_some_iff] at ht
    obtain ⟨ds, hds, rfl⟩ := ht
    simp only [VR] at hv
    obtain ⟨xs, rfl, h1, h2⟩ := hv
    obtain ⟨bs, h3, h4⟩ := mapD_from h hsub n hds h2
    simp only [RD]
    exact ⟨bs, ⟨xs, rfl, h1, h3⟩, h4⟩
  | n + 1, .tu cs, d, y, ht, hv => by
    simp only [toD, Option.map_eq_some_iff] at ht
    obtain ⟨ds, hds, rfl⟩ := ht
    simp only [VR] at hv
    obtain ⟨xs, rfl, h2⟩ := hv
    obtain ⟨bs, h3, h4⟩ := mapD_from h hsub n hds h2
    simp only [RD]
    exact ⟨bs, ⟨xs, rfl, h3⟩, h4⟩
  | n + 1, .fn _ _, d, y, ht, hv => by simp [toD] at ht
  | n + 1, .fc _ _ _, d, y, ht, hv => by simp [toD] at ht
  | n + 1, .un, d, y, ht, hv => by simp [toD] at ht
  | 0, .bs _ _ _ _, d, y, ht, hv => by simp [toD] at ht
  | 0, .bp _ _, d, y, ht, hv => by simp [toD] at ht
  | 0, .ag _, d, y, ht, hv => by simp [toD] at ht
  | 0, .tu _, d, y, ht, hv => by simp [toD] at ht
  | 0, .fn _ _, d, y, ht, hv => by simp [toD] at ht
  | 0, .fc _ _ _, d, y, ht, hv => by simp [toD] at ht
  | 0, .un, d, y, ht, hv => by simp [toD] at ht
theorem mapD_from (h : Sim P w0 σ ν a w) {ob0 : List (Nat × OB)} (hsub : ∀ s o, lookO ob0 s = some o → lookO σ.ob s = some o) : ∀ (n : Nat) {xs : List AV} {ds : List D} {ys : List Value}, mapD (toD ob0 n) xs = some ds → VRs P w0 w σ.ob ν xs ys → ∃ bs, RDs w false ds ys bs ∧ ∀ b ∈ bs, From σ.ob ob0 ν w b
  | n, [], ds, ys, ht, hv => by
    simp only [mapD, Option.some.injEq] at ht
    subst ht
    simp only [VRs] at hv
    exact ⟨[], by simp [RDs, hv], by simp⟩
  | n, x :: xs, ds, ys, ht, hv => by
    simp only [mapD] at ht
    split at ht
    · rename_i d hd
      simp only [Option.map_eq_some_iff] at ht
      obtain ⟨ds', hds, rfl⟩ := ht
      simp only [VRs] at hv
      obtain ⟨y, ys', rfl, h1, h2⟩ := hv
      obtain ⟨b1, h3, h5⟩ := toD_from h hsub n hd h1
      obtain ⟨b2, h4, h6⟩ := mapD_from h hsub n hds h2
      simp only [RDs]
      exact ⟨b1 ++ b2, ⟨y, ys', b1, b2, rfl, rfl, h3, h4⟩, fun b hb => by rcases List.mem_append.1 hb with e | e; exact h5 b e; exact h6 b e⟩
    · cases ht
end

theorem toD_sound (h : Sim P w0 σ ν a w) (n : Nat) {x : AV} {d : D} {y : Value} (ht : toD σ.ob n x = some d) (hv : VR P w0 w σ.ob ν x y) : ∃ bs, RD w false d y bs := by
  obtain ⟨bs, h1, _⟩ := toD_from h (fun _ _ h => h) n ht hv
  exact ⟨bs, h1⟩

theorem mapD_sound (h : Sim P w0 σ ν a w) (n : Nat) {xs : List AV} {ds : List D} {ys : List Value} (ht : mapD (toD σ.ob n) xs = some ds) (hv : VRs P w0 w σ.ob ν xs ys) : ∃ bs, RDs w false ds ys bs := by
  obtain ⟨bs, h1, _⟩ := mapD_from h (fun _ _ h => h) n ht hv
  exact ⟨bs, h1⟩
end

end Go.Proofs.Ytdinkfmkhdnbpaa
