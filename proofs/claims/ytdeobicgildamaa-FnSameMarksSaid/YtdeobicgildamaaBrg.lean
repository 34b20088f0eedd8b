/- A library function that turns a row of cells in place, as a contract over an own object. -/
import Derived.Test.YtdeobicgildamaaFlowF
import Derived.WalkKit
import Derived.WalkSpells
import Derived.Sort.Grow
namespace Go.Proofs.Ytdeobicgildamaa
open Go.RowKit Go.Sort
set_option linter.unusedVariables false
set_option linter.unusedSimpArgs false

theorem vrs_plain {P : Program} {w0 : Env} {w : World} {ob : List (Nat × OB)} {ν : Loc} : ∀ {xs zs : List Value}, VRs P w0 w ob ν ((xs.map D.v).map AV.d) zs → zs = xs
  | [], zs, h => by simpa only [List.map_nil, VRs] using h
  | x :: xs, zs, h => by
    simp only [List.map_cons, VRs, VR] at h
    obtain ⟨y, ys, rfl, ⟨bs, h1, _⟩, h3⟩ := h
    simp only [RD] at h1
    rw [h1.1, vrs_plain h3]

theorem vrs_of_plain {P : Program} {w0 : Env} {w : World} {ob : List (Nat × OB)} {ν : Loc} : ∀ (xs : List Value), VRs P w0 w ob ν ((xs.map D.v).map AV.d) xs
  | [] => by simp only [List.map_nil, VRs]
  | x :: xs => by
    simp only [List.map_cons, VRs, VR]
    exact ⟨x, xs, rfl, ⟨[], by simp [RD], fun b hb => by cases hb⟩, vrs_of_plain xs⟩

theorem fnS_put {P : Program} {g : FuncId} (hok : FnOk P g) (xs xs' : List Value) (hne : xs ≠ []) (h1 : Ones xs') (hlen : xs'.length = xs.length) (n k : Nat) (hn : 0 < n) (ex : List Value) (exA : List AV) (hex : ∀ (w0 : Env) (w : World) (ob : List (Nat × OB)) (ν : Loc) (ys : List Value), VRs P w0 w ob ν exA ys → ys = ex)
    (hc : ∀ (w : World) (b off cap : Nat), b < w.heap.size → Holds id w b off xs.toArray → n ≤ cap → Calls P g ((.slice (some ⟨b, off, none⟩) n cap :: ex).toArray) w fun e w' => e = .returned (.tuple #[]) ∧ ∃ m os, w' = grow (putRow id (Sort.ahead w m) b off xs'.toArray) os) :
    FnS P g [(5000, .ds (xs.map D.v))] (.bs 5000 0 n k :: exA) [(5000, .ds (xs'.map D.v))] (.tu []) := by
  refine ⟨hok, fun w ν Dt vs hDt hm hv => ?_⟩
  simp only [VRs] at hv
  obtain ⟨y, ys, rfl, hy, hys⟩ := hv
  have hys := hex _ _ _ _ _ hys
  subst hys
  have ho : lookO [(5000, OB.ds (xs.map D.v))] 5000 = some (.ds (xs.map D.v)) := rfl
  have hobj := hm.objs 5000 _ ho
  simp only [OR, obCells] at hobj
  rcases hobj with ⟨_, hnil⟩ | ⟨b, base, c, T, zs, hν, ⟨hnS, hD⟩, hb, hcz, hones, hzs⟩
  · exact absurd (by simpa using hnil) hne
  replace hb : w.heap[b]? = some (.cells c T (0, 0)) := hb
  have hz := vrs_plain hzs
  subst hz
  have hlt : b < w.heap.size := (Array.getElem?_eq_some_iff.1 hb).1
  simp only [VR] at hy
  obtain ⟨_, hy⟩ := hy (by rw [ho]; rfl)
  rcases hy with ⟨_, _, h0, _⟩ | ⟨b', base', cap, a, c', T', hν', rfl, hcap, ha, _, _⟩
  · omega
  rw [hν] at hν'
  obtain ⟨rfl, rfl⟩ := Prod.mk.inj (Option.some.inj hν')
  have ha : a = ⟨b, base, none⟩ := by
    rcases ha with ⟨q, _⟩ | q
    · omega
    · simpa using q
  subst ha
  have hH : Holds id w b base zs.toArray := fun j hj => by
    have hj' : j < zs.length := by simpa using hj
    refine ⟨?_, by simp [World.frozen?, hb]⟩
    simp only [World.cell?, hb, Option.isSome_none, Bool.false_eq_true, if_false, id_eq]
    rw [hcz j hj', List.getElem?_eq_getElem hj']
    simp [hj']
  refine (hc w b base cap hlt hH hcap).mono fun e w' hh => ?_
  obtain ⟨rfl, m, os, rfl⟩ := hh
  have hb' : (grow (putRow id (Sort.ahead w m) b base xs'.toArray) os).heap[b]? = some (.cells (putCells id base xs'.toArray c) T (0, 0)) := by
    rw [heap_grow_old _ _ (by simpa [putRow, mapBlock, Sort.ahead] using hlt)]
    simp [putRow, mapBlock, Sort.ahead, Array.getElem?_modify, hb, onCells]
  have hother : ∀ j, j < w.heap.size → j ≠ b → (grow (putRow id (Sort.ahead w m) b base xs'.toArray) os).heap[j]? = w.heap[j]? := fun j hj hjb => by
    rw [heap_grow_old _ _ (by simpa [putRow, mapBlock, Sort.ahead] using hj)]
    simp [putRow, mapBlock, Sort.ahead, Array.getElem?_modify, Ne.symm hjb]
  have hsz : (putCells id base xs'.toArray c).size = c.size := by simp [putCells]
  refine ⟨_, ν, rfl, ⟨rfl, rfl, rfl, by simp [grow, putRow, mapBlock, Sort.ahead], fun j hj => hother j hj.1 fun q => ?_⟩, fun j cj Tj hj => ?_, ⟨fun s o hs => ?_, fun s s' o o' x x' hss hs hs' => ?_⟩, ?_, fun s o o' hs hs' => ?_⟩
  · subst q
    exact hj.2 5000 _ ho _ hν rfl
  · by_cases q : j = b
    · subst q
      rw [hb] at hj
      simp only [Option.some.injEq, Obj.cells.injEq] at hj
      obtain ⟨rfl, rfl, _⟩ := hj
      exact ⟨_, _, hb', hsz⟩
    · exact ⟨cj, Tj, by rw [hother j (Array.getElem?_eq_some_iff.1 hj).1 q, hj], rfl⟩
  · simp only [lookO] at hs
    split at hs
    · rename_i e
      subst e
      simp only [Option.some.injEq] at hs
      subst hs
      refine .inr ⟨b, base, _, T, xs', hν, ⟨hnS, hD⟩, hb', fun i hi => ?_, h1, vrs_of_plain xs'⟩
      have hi2 : i < zs.length := by omega
      have hci := hcz i hi2
      rw [List.getElem?_eq_getElem hi2] at hci
      have hlt2 := (Array.getElem?_eq_some_iff.1 hci).1
      rw [List.getElem?_eq_getElem hi]
      simp [putCells, hlt2, hi]
    · cases hs
  · simp only [lookO] at hs hs'
    split at hs
    · split at hs'
      · omega
      · cases hs'
    · cases hs
  · simp only [VR, VRs]
    exact ⟨[], rfl, rfl⟩
  · simp only [lookO] at hs hs'
    split at hs
    · rename_i e
      subst e
      simp only [if_true, Option.some.injEq] at hs hs'
      subst hs
      subst hs'
      exact ⟨rfl, by simp [obCells, hlen]⟩
    · cases hs

end Go.Proofs.Ytdeobicgildamaa
