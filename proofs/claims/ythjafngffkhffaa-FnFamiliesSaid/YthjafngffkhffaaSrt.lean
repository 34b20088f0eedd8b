/- Sorting a list of numbers in place: the library's contract, over an own object. -/
import Derived.Test.YthjafngffkhffaaBrg
import Derived.Test.YthjafngffkhffaaAsc
import Derived.WalkKit
import Derived.WalkSpells
import Derived.KernelRfl
import Derived.Sort.Grow
import Derived.Test.YthjafngffkhffaaShelf
namespace Go.Proofs.Ythjafngffkhffaa
open Go.RowKit Go.Sort
set_option linter.unusedVariables false
set_option linter.unusedSimpArgs false

theorem vD_int (zs : List Int) : (zs.map (Value.int .i64)).map D.v = zs.map D.int := by
  rw [List.map_map]
  rfl

theorem holds_id {zs : List Int} {w : World} {b off : Nat} (h : Holds id w b off (zs.map (Value.int .i64)).toArray) : Holds (Value.int .i64) w b off zs.toArray := fun j hj => by
  have h1 := h j (by simpa using hj)
  simp only [List.size_toArray] at hj
  simpa [hj] using h1

theorem putCells_id (off : Nat) (zs : List Int) (c : Array Value) : putCells (Value.int .i64) off zs.toArray c = putCells id off (zs.map (Value.int .i64)).toArray c := by
  unfold putCells
  apply Array.ext
  · simp
  · intro i h1 h2
    simp only [Array.getElem_mapIdx, List.size_toArray, List.length_map, id_eq]
    split
    · rename_i h
      have hlt : i - off < zs.length := by omega
      simp [hlt]
    · rfl

theorem putRow_id (w : World) (b off : Nat) (zs : List Int) : putRow (Value.int .i64) w b off zs.toArray = putRow id w b off (zs.map (Value.int .i64)).toArray := by
  unfold putRow
  congr 1
  funext c
  exact putCells_id off zs c

theorem sortOk : FnOk Try.prog 80 := ⟨_, Try.func80, by kernel_rfl, by kernel_rfl⟩

theorem sort_some (zs : List Int) (hne : zs ≠ []) (hl : zs.length ≤ 1048576) : FnS Try.prog 80 [(5000, .ds (zs.map D.int))] [.bs 5000 0 zs.length 1] [(5000, .ds ((srtI zs).map D.int))] (.tu []) := by
  have h := fnS_put sortOk (zs.map (Value.int .i64)) ((srtI zs).map (Value.int .i64)) (by simpa using hne) (fun x hx => by
    obtain ⟨n, _, rfl⟩ := List.mem_map.1 hx
    rfl) (by simp [srtI_len]) zs.length 1 (List.length_pos_iff.2 hne) [] [] (fun w0 w ob ν ys hy => by simpa only [VRs] using hy) (fun w b off cap hlt hH hcap => by
      have := Try.slices_Sort_int b off cap zs w (holds_id hH) hlt (by omega)
      refine Calls.mono this fun e w' hh => ?_
      obtain ⟨he, n, os, hw⟩ := hh
      refine ⟨he, n, os, ?_⟩
      rw [hw, putRow_id]
      rfl)
  simpa only [vD_int] using h

theorem sort_none : FnS Try.prog 80 [(5000, .ds [])] [.bs 5000 0 0 1] [(5000, .ds [])] (.tu []) := by
  refine ⟨sortOk, fun w ν Dt vs hDt hm hv => ?_⟩
  simp only [VRs] at hv
  obtain ⟨y, ys, rfl, hy, rfl⟩ := hv
  have hy2 : ∃ p cap, y = .slice p 0 cap := by
    simp only [VR] at hy
    obtain ⟨_, hy⟩ := hy (by simp [lookO])
    rcases hy with ⟨_, h1, _⟩ | ⟨b, base, cap, a, c, T, _, h1, _⟩
    · exact ⟨_, _, h1⟩
    · exact ⟨_, _, h1⟩
  obtain ⟨p, cap, rfl⟩ := hy2
  refine (Try.slices_Sort_int_none p cap w).mono fun e w' hh => ?_
  obtain ⟨rfl, rfl⟩ := hh
  exact ⟨_, ν, rfl, Keep.refl _ _, Rows.refl _, hm, by simp only [VR, VRs]; exact ⟨[], rfl, rfl⟩, fun s o o' h1 h2 => by rw [h1] at h2; cases h2; exact ⟨rfl, rfl⟩⟩

theorem sort_hi (zs : List Int) (hl : zs.length ≤ 1048576) : FnS Try.prog 80 [(5000, .ds (zs.map D.int))] [.bs 5000 0 zs.length 1] [(5000, .ds ((srtI zs).map D.int))] (.tu []) := by
  by_cases h : zs = []
  · subst h
    have e : srtI [] = [] := by simp [srtI]
    rw [e]
    exact sort_none
  · exact sort_some zs h hl

theorem sort_s (s : Nat) (zs : List Int) (hl : zs.length ≤ 1048576) : FnS Try.prog 80 [(s, .ds (zs.map D.int))] [.bs s 0 zs.length 1] [(s, .ds ((srtI zs).map D.int))] (.tu []) := by
  have h := (sort_hi zs hl).sw 5000 s
  simpa only [swO, AV.swL, AV.sw, OB.sw, swp, if_true] using h

end Go.Proofs.Ythjafngffkhffaa
