/- Ascending lists; who is a descendant. -/
import Derived.Test.YthjafngffkhffaaLin
import Derived.Test.YthjafngffkhffaaOkL
import Derived.Test.YthjafngffkhffaaFam6
import Derived.Test.YthjafngffkhffaaFam4
import Derived.Test.YthjafngffkhffaaFacts
import Derived.WalkKit
import Derived.WalkSpells
import Derived.KernelRfl
namespace Go.Proofs.Ythjafngffkhffaa
open Go.RowKit
set_option linter.unusedVariables false
set_option linter.unusedSimpArgs false

theorem asc_ext : ∀ (a b : List Int), a.Pairwise (· < ·) → b.Pairwise (· < ·) → (∀ x, x ∈ a ↔ x ∈ b) → a = b
  | [], [], _, _, _ => rfl
  | [], y :: b, _, _, h => by have := (h y).2 (by simp); cases this
  | x :: a, [], _, _, h => by have := (h x).1 (by simp); cases this
  | x :: a, y :: b, ha, hb, h => by
    rw [List.pairwise_cons] at ha hb
    have hxy : x = y := by
      have h1 := (h x).1 (by simp)
      have h2 := (h y).2 (by simp)
      rcases List.mem_cons.1 h1 with h1 | h1
      · exact h1
      · rcases List.mem_cons.1 h2 with h2 | h2
        · exact h2.symm
        · have := ha.1 _ h2
          have := hb.1 _ h1
          omega
    subst hxy
    refine congrArg _ (asc_ext a b ha.2 hb.2 fun z => ?_)
    have hz := h z
    simp only [List.mem_cons] at hz
    constructor
    · intro hm
      rcases hz.1 (.inr hm) with e | e
      · subst e
        have := ha.1 _ hm
        omega
      · exact e
    · intro hm
      rcases hz.2 (.inr hm) with e | e
      · subst e
        have := hb.1 _ hm
        omega
      · exact e

def srtI (zs : List Int) : List Int := zs.mergeSort fun x y => decide (x ≤ y)

theorem srtI_perm (zs : List Int) : (srtI zs).Perm zs := List.mergeSort_perm zs _

theorem srtI_mem {zs : List Int} {x : Int} : x ∈ srtI zs ↔ x ∈ zs := (srtI_perm zs).mem_iff

theorem srtI_len (zs : List Int) : (srtI zs).length = zs.length := (srtI_perm zs).length_eq

theorem srtI_asc {zs : List Int} (h : zs.Nodup) : (srtI zs).Pairwise (· < ·) := by
  have h1 : (srtI zs).Pairwise fun x y => (fun x y : Int => decide (x ≤ y)) x y = true := List.pairwise_mergeSort (fun a b c h1 h2 => by simp at *; omega) (fun a b => by simp; omega) zs
  have h2 : (srtI zs).Nodup := (srtI_perm zs).nodup_iff.2 h
  refine (List.Pairwise.and h1 h2).imp fun {a b} hab => ?_
  obtain ⟨h3, h4⟩ := hab
  simp only [decide_eq_true_eq] at h3
  omega

def idsF (l : List PerV) (q : Int → Bool) : List Int := (l.map PerV.id).filter q

def above (l : List PerV) (a x : Int) : Prop := ∃ m : Nat, pth (parI l) x (m + 1) a

def clos (l : List PerV) (out S : List Int) : Prop := ∀ y ∈ out, y ∉ S → ∀ c ∈ kidI l y, c ∈ out

theorem pth_in {l : List PerV} (h : okFam l = true) {x : Int} (hx : 0 ≤ findP l x) : ∀ (k : Nat) (z : Int), pth (parI l) x k z → 0 ≤ findP l z ∧ (perOf l z).born + 15 * (k : Int) ≤ (perOf l x).born
  | 0, z, e => by
    rw [pth] at e
    subst e
    exact ⟨hx, by omega⟩
  | k + 1, z, ⟨u, u1, u2⟩ => by
    obtain ⟨h1, h2⟩ := pth_in h hx k u u1
    unfold parI at u2
    split at u2
    · cases u2
    · rename_i h0
      have := parents_in h h1 h0
      simp only [List.mem_cons, List.not_mem_nil, or_false] at u2
      rcases u2 with rfl | rfl
      · exact ⟨this.1, by omega⟩
      · exact ⟨this.2.1, by omega⟩

end Go.Proofs.Ythjafngffkhffaa
