/- Lists of different persons; results under other names. -/
import Derived.Test.YthjafngffkhffaaFam6
import Derived.WalkKit
import Derived.WalkSpells
import Derived.KernelRfl
namespace Go.Proofs.Ythjafngffkhffaa
open Go.RowKit
set_option linter.unusedVariables false
set_option linter.unusedSimpArgs false

theorem nodup_le : ∀ (zs ids : List Int), zs.Nodup → (∀ a ∈ zs, a ∈ ids) → zs.length ≤ ids.length
  | [], ids, _, _ => by simp
  | a :: zs, ids, hn, hs => by
    rw [List.nodup_cons] at hn
    have ha := hs a (by simp)
    have := nodup_le zs (ids.erase a) hn.2 (fun b hb => (List.mem_erase_of_ne (fun (e : b = a) => hn.1 (by rw [← e]; exact hb))).2 (hs b (by simp [hb])))
    rw [List.length_erase_of_mem ha] at this
    have := List.length_pos_of_mem ha
    simp only [List.length_cons]
    omega

def okL (l : List PerV) (zs : List Int) : Prop := zs.Nodup ∧ ∀ a ∈ zs, 0 ≤ findP l a

theorem okL_len {l : List PerV} {zs : List Int} (h : okL l zs) : zs.length ≤ l.length := by
  have := nodup_le zs (l.map PerV.id) h.1 (fun a ha => by
    rw [List.mem_map]
    exact ⟨perOf l a, perOf_in (h.2 a ha), perOf_id (h.2 a ha)⟩)
  simpa using this

theorem okL_app {l : List PerV} {zs : List Int} {c : Int} (h : okL l zs) (hc : 0 ≤ findP l c) (hn : zs.contains c = false) : okL l (zs ++ [c]) := by
  have hm : c ∉ zs := fun hh => by
    rw [List.contains_iff_mem.2 hh] at hn
    cases hn
  refine ⟨?_, fun a ha => ?_⟩
  · rw [List.nodup_append]
    refine ⟨h.1, by simp, fun a ha b hb e => ?_⟩
    rw [List.mem_singleton] at hb
    subst hb
    subst e
    exact hm ha
  · rw [List.mem_append, List.mem_singleton] at ha
    rcases ha with ha | rfl
    · exact h.2 a ha
    · exact hc

def upG (l : List PerV) (n : Nat) (id : Int) : Prop := 0 ≤ findP l id ∧ (perOf l id).born ≤ n

theorem born_in {l : List PerV} (h : okFam l = true) {id : Int} (hid : 0 ≤ findP l id) : 1 ≤ (perOf l id).born ∧ (perOf l id).born ≤ 2999 := okPer_born (okFam_mem h (perOf_in hid))

theorem upG_zero {l : List PerV} (h : okFam l = true) (id : Int) : ¬ upG l 0 id := fun ⟨h1, h2⟩ => by
  have := born_in h h1
  omega

theorem upG_next {l : List PerV} (h : okFam l = true) (n : Nat) (id : Int) (hg : upG l (n + 1) id) : 0 ≤ findP l id ∧ ∀ o ∈ parI l id, upG l n o := by
  obtain ⟨h1, h2⟩ := hg
  refine ⟨h1, fun o ho => ?_⟩
  unfold parI at ho
  split at ho
  · simp at ho
  · rename_i h0
    have q := parents_in h h1 h0
    simp only [List.mem_cons, List.not_mem_nil, or_false] at ho
    rcases ho with rfl | rfl
    · exact ⟨q.1, by omega⟩
    · exact ⟨q.2.1, by omega⟩

end Go.Proofs.Ythjafngffkhffaa
