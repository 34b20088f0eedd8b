/- Breadth first: the fewest steps, as a list of pairs in the order in which they come up. -/
import Derived.Test.YtdeobicgildamaaGreatDoorPCode
import Derived.WalkKit
import Derived.WalkSpells
import Derived.KernelRfl
namespace Go.Proofs.YtdeobicgildamaaGreatDoor
open Go.RowKit
set_option linter.unusedVariables false
set_option linter.unusedSimpArgs false

attribute [local go_sem] PerV.d PerV.cs perL famD intL

attribute [local simp] refs_dmap perC_all perC_plains ints_plain ints_all ints_all1 ints_plain_take

def stB (v : Int) (L : List (Int × Int)) (c : Int) : List (Int × Int) := if (lkI c L).isSome then L else L ++ [(c, v)]

def bfsF (nx : Int → List Int) : Nat → List (Int × Int) → Nat → List (Int × Int)
  | 0, L, _ => L
  | n + 1, L, j => if j < L.length then bfsF nx n ((nx (L.getD j (0, 0)).1).foldl (stB ((L.getD j (0, 0)).2 + 1)) L) (j + 1) else L

theorem lkI_none {c : Int} : ∀ {L : List (Int × Int)}, lkI c L = none ↔ c ∉ L.map Prod.fst
  | [] => by simp [lkI]
  | (l, v) :: r => by
    simp only [lkI, List.map_cons, List.mem_cons, not_or]
    by_cases e : l = c
    · simp [e]
    · rw [if_neg e, lkI_none (L := r)]
      exact ⟨fun h => ⟨fun h2 => e h2.symm, h⟩, fun h => h.2⟩

theorem lkI_some {c : Int} : ∀ {L : List (Int × Int)} {v : Int}, lkI c L = some v → (c, v) ∈ L
  | [], v, h => by simp [lkI] at h
  | (l, u) :: r, v, h => by
    simp only [lkI] at h
    split at h
    · rename_i e
      cases h
      subst e
      simp
    · exact List.mem_cons_of_mem _ (lkI_some h)

theorem lkI_mem {c v : Int} : ∀ {L : List (Int × Int)}, (L.map Prod.fst).Nodup → (c, v) ∈ L → lkI c L = some v
  | [], _, h => by cases h
  | (l, u) :: r, hn, h => by
    simp only [List.map_cons, List.nodup_cons] at hn
    simp only [lkI]
    rcases List.mem_cons.1 h with e | h
    · cases e
      rw [if_pos rfl]
    · have : l ≠ c := fun e => hn.1 (by rw [e]; exact List.mem_map.2 ⟨_, h, rfl⟩)
      rw [if_neg this]
      exact lkI_mem hn.2 h

theorem lkI_app {c d : Int} {v : Int} : ∀ {L : List (Int × Int)}, lkI c (L ++ [(d, v)]) = (lkI c L).or (if d = c then some v else none)
  | [] => by simp [lkI]
  | (l, u) :: r => by
    simp only [List.cons_append, lkI]
    split
    · simp
    · exact lkI_app

theorem insI_app {c v : Int} : ∀ {L : List (Int × Int)}, lkI c L = none → insI' c v L = L ++ [(c, v)]
  | [], _ => rfl
  | (l, u) :: r, h => by
    simp only [lkI] at h
    split at h
    · cases h
    · rename_i e
      simp only [insI', List.cons_append]
      rw [if_neg e, insI_app h]

def okB (l : List PerV) (m : Nat) (L : List (Int × Int)) : Prop := okL l (L.map Prod.fst) ∧ ∀ p ∈ L, 0 ≤ p.2 ∧ p.2 ≤ m

theorem okB_mono {l : List PerV} {m n : Nat} {L : List (Int × Int)} (h : okB l m L) (hmn : m ≤ n) : okB l n L := ⟨h.1, fun p hp => ⟨(h.2 p hp).1, by have := (h.2 p hp).2; omega⟩⟩

theorem okB_len {l : List PerV} {m : Nat} {L : List (Int × Int)} (h : okB l m L) : L.length ≤ l.length := by
  have := okL_len h.1
  simpa using this

theorem okB_app {l : List PerV} {m : Nat} {L : List (Int × Int)} {c v : Int} (h : okB l m L) (hc : 0 ≤ findP l c) (hn : lkI c L = none) (h0 : 0 ≤ v) (hv : v ≤ m) : okB l m (L ++ [(c, v)]) := by
  refine ⟨?_, fun p hp => ?_⟩
  · rw [List.map_append]
    refine okL_app h.1 hc ?_
    cases hh : (L.map Prod.fst).contains c
    · rfl
    · exact absurd (List.contains_iff_mem.1 hh) (lkI_none.1 hn)
  · rw [List.mem_append, List.mem_singleton] at hp
    rcases hp with hp | rfl
    · exact h.2 p hp
    · exact ⟨h0, hv⟩

theorem okB_st {l : List PerV} {m : Nat} {L : List (Int × Int)} {c v : Int} (h : okB l m L) (hc : 0 ≤ findP l c) (h0 : 0 ≤ v) (hv : v ≤ m) : okB l m (stB v L c) := by
  unfold stB
  cases hh : lkI c L
  · rw [if_neg (by simp)]
    exact okB_app h hc hh h0 hv
  · rw [if_pos (by simp)]
    exact h

theorem okB_fold {l : List PerV} {m : Nat} {v : Int} (h0 : 0 ≤ v) (hv : v ≤ m) : ∀ (cs : List Int) {L : List (Int × Int)}, okB l m L → (∀ c ∈ cs, 0 ≤ findP l c) → okB l m (cs.foldl (stB v) L)
  | [], _, h, _ => h
  | c :: cs, L, h, hc => okB_fold h0 hv cs (okB_st h (hc c (by simp)) h0 hv) (fun d hd => hc d (by simp [hd]))

theorem stB_grow {v : Int} : ∀ (cs : List Int) (L : List (Int × Int)), ∃ M, cs.foldl (stB v) L = L ++ M ∧ ∀ p ∈ M, p.2 = v ∧ p.1 ∈ cs
  | [], L => ⟨[], by simp, by simp⟩
  | c :: cs, L => by
    obtain ⟨M, h1, h2⟩ := stB_grow cs (stB v L c)
    rw [List.foldl_cons, h1]
    unfold stB
    split
    · exact ⟨M, rfl, fun p hp => ⟨(h2 p hp).1, by simp [(h2 p hp).2]⟩⟩
    · refine ⟨(c, v) :: M, by simp, fun p hp => ?_⟩
      rcases List.mem_cons.1 hp with rfl | hp
      · simp
      · exact ⟨(h2 p hp).1, by simp [(h2 p hp).2]⟩

theorem foldB_next {v : Int} {P : List Int} {L : List (Int × Int)} {i : Nat} (h : i < P.length) : (P.take (i + 1)).foldl (stB v) L = stB v ((P.take i).foldl (stB v) L) (P.getD i 0) := by
  rw [take_next 0 h, List.foldl_append]
  rfl

theorem bfsF_end {nx : Int → List Int} {n : Nat} {L : List (Int × Int)} {j : Nat} (h : L.length ≤ j) : bfsF nx n L j = L := by
  cases n with
  | zero => rfl
  | succ n => rw [bfsF, if_neg (by omega)]

def bfsI (l : List PerV) (id : Int) : List (Int × Int) := bfsF (parI l) (l.length + 1) [(id, 0)] 0

end Go.Proofs.YtdeobicgildamaaGreatDoor
