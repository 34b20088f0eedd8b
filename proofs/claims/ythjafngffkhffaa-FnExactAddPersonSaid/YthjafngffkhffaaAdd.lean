/- A person is put into a list of persons. -/
import Derived.Test.YthjafngffkhffaaFam6
import Derived.WalkKit
import Derived.WalkSpells
import Derived.KernelRfl
namespace Go.Proofs.Ythjafngffkhffaa
open Go.RowKit
set_option linter.unusedVariables false
set_option linter.unusedSimpArgs false

def insI : List PerV → PerV → List PerV
  | [], p => [p]
  | q :: l, p => if q.id < p.id then q :: insI l p else p :: q :: l

theorem insI_len (l : List PerV) (p : PerV) : (insI l p).length = l.length + 1 := by
  induction l with
  | nil => rfl
  | cons q l ih =>
    rw [insI]
    split
    · rw [List.length_cons, ih, List.length_cons]
    · rfl

theorem insI_perm (l : List PerV) (p : PerV) : (insI l p).Perm (l ++ [p]) := by
  induction l with
  | nil => exact List.Perm.refl _
  | cons q l ih =>
    rw [insI]
    split
    · exact List.Perm.cons q ih
    · exact (List.perm_append_singleton p (q :: l)).symm

theorem insI_mem {l : List PerV} {p x : PerV} (h : x ∈ insI l p) : x = p ∨ x ∈ l := by
  have := (insI_perm l p).mem_iff.1 h
  rw [List.mem_append, List.mem_singleton] at this
  exact this.symm

theorem insI_asc {p : PerV} : ∀ {l : List PerV}, l.Pairwise (fun x y => x.id < y.id) → (∀ q ∈ l, q.id ≠ p.id) → (insI l p).Pairwise (fun x y => x.id < y.id)
  | [], _, _ => List.pairwise_singleton _ _
  | q :: l, h, hp => by
    obtain ⟨h1, h2⟩ := List.pairwise_cons.1 h
    rw [insI]
    split
    · rename_i g
      refine List.pairwise_cons.2 ⟨fun x hx => ?_, insI_asc h2 fun x hx => hp x (List.mem_cons_of_mem _ hx)⟩
      rcases insI_mem hx with rfl | hx
      · exact g
      · exact h1 x hx
    · rename_i g
      have hq := hp q (List.mem_cons_self ..)
      refine List.pairwise_cons.2 ⟨fun x hx => ?_, h⟩
      rcases List.mem_cons.1 hx with rfl | hx
      · omega
      · have := h1 x hx
        omega

theorem sort_eq {l d : List PerV} {p : PerV} (h : l.Pairwise (fun x y => x.id < y.id)) (hp : ∀ q ∈ l, q.id ≠ p.id) (hd : d.Perm (l ++ [p])) (hs : d.Pairwise (fun x y => x.id ≤ y.id)) : d = insI l p := by
  have ha := insI_asc h hp
  have hpm : d.Perm (insI l p) := hd.trans (insI_perm l p).symm
  refine List.Perm.eq_of_pairwise (le := fun x y => x.id ≤ y.id) ?_ hs (ha.imp fun h => by omega) hpm
  intro a b ha1 hb1 h1 h2
  have e : a.id = b.id := by omega
  have ha2 := hpm.mem_iff.1 ha1
  obtain ⟨i, hi, rfl⟩ := List.getElem_of_mem ha2
  obtain ⟨j, hj, rfl⟩ := List.getElem_of_mem hb1
  rw [List.pairwise_iff_getElem] at ha
  rcases Nat.lt_trichotomy i j with q | q | q
  · have := ha i j hi hj q
    omega
  · subst q
    rfl
  · have := ha j i hj hi q
    omega

theorem insI_at {l : List PerV} {p : PerV} {k : Nat} (hk : k ≤ l.length) (h1 : ∀ j, j < k → (l.getD j PerV.zero).id < p.id) (h2 : k = l.length ∨ ¬ (l.getD k PerV.zero).id < p.id) : l.take k ++ [p] ++ l.drop k = insI l p := by
  induction l generalizing k with
  | nil =>
    have : k = 0 := by simpa using hk
    subst this
    rfl
  | cons q l ih =>
    cases k with
    | zero =>
      have hq : ¬ q.id < p.id := by
        rcases h2 with h2 | h2
        · simp at h2
        · exact h2
      rw [insI, if_neg hq]
      rfl
    | succ k =>
      have hq : q.id < p.id := h1 0 (by omega)
      rw [insI, if_pos hq, List.take_succ_cons, List.drop_succ_cons, List.cons_append, List.cons_append, ih (by simpa using hk) (fun j hj => h1 (j + 1) (by omega)) (by
        rcases h2 with h2 | h2
        · left
          simpa using h2
        · exact .inr h2)]

theorem okFam_asc {l : List PerV} (h : okFam l = true) : l.Pairwise (fun x y => x.id < y.id) := by
  rw [List.pairwise_iff_getElem]
  intro i j hi hj hij
  have := okFam_lt h hij hj
  rwa [getD_eq _ hi, getD_eq _ hj] at this

theorem findP_no {l : List PerV} {id : Int} (h : findP l id < 0) : ∀ q ∈ l, q.id ≠ id := by
  rcases idxR_ex PerV.zero l (fun p => decide (p.id = id)) with ⟨_, h2⟩ | ⟨i, h1, _, _⟩
  · intro q hq e
    have := List.all_eq_true.1 h2 q hq
    simp [e] at this
  · rw [findP, h1] at h
    omega

theorem ins_twice {l : List PerV} {p : PerV} (h : 0 ≤ findP l p.id) : okFam (insI l p) = false := by
  cases g : okFam (insI l p) with
  | false => rfl
  | true =>
    have ha := okFam_asc g
    have h1 := findP_lt (l := l) (id := p.id) (by omega)
    have hm := getD_mem PerV.zero h1.1
    have hn : ((insI l p).map PerV.id).Nodup := by
      rw [List.nodup_iff_pairwise_ne, List.pairwise_map]
      exact ha.imp fun h => by omega
    have hn2 : ((l ++ [p]).map PerV.id).Nodup := ((insI_perm l p).map PerV.id).nodup_iff.1 hn
    rw [List.map_append, List.map_cons, List.map_nil, List.nodup_append] at hn2
    exact absurd rfl (hn2.2.2 p.id (List.mem_map.2 ⟨_, hm, h1.2.1⟩) p.id (by simp))

def addR (l : List PerV) (p : PerV) : D := if okFam l && okFam (insI l p) then .tu [famD (insI l p), .bool true] else .tu [famD [], .bool false]

end Go.Proofs.Ythjafngffkhffaa
