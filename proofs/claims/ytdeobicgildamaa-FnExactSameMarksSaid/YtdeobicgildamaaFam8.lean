/- Generations: the greatest number of steps to parents or to children. -/
import Derived.Test.YtdeobicgildamaaFam6
import Derived.Test.YtdeobicgildamaaFam5
import Derived.Test.YtdeobicgildamaaOkL
import Derived.WalkKit
import Derived.WalkSpells
import Derived.KernelRfl
namespace Go.Proofs.Ytdeobicgildamaa
open Go.RowKit
set_option linter.unusedVariables false
set_option linter.unusedSimpArgs false

attribute [local go_sem] PerV.d PerV.cs perL famD intL

attribute [local simp] perC_all perC_plains ints_plain ints_all ints_all1 ints_plain_take

def stepM (f : Int → Int) (m o : Int) : Int := if 1 + f o > m then 1 + f o else m

def farF (nx : Int → List Int) : Nat → Int → Int
  | 0, _ => 0
  | n + 1, id => (nx id).foldl (stepM (farF nx n)) 0

def hNx (nx : Int → List Int) : List D → D
  | [.v (.int .i64 id)] => intL (nx id)
  | _ => .bool false

def isG (g : Int → Prop) (ds : List D) : Prop := ∃ id : Int, ds = [.int id] ∧ g id

def dnG (l : List PerV) (n : Nat) (id : Int) : Prop := 0 ≤ findP l id ∧ 3000 - (perOf l id).born ≤ n

theorem dnG_zero {l : List PerV} (h : okFam l = true) (id : Int) : ¬ dnG l 0 id := fun ⟨h1, h2⟩ => by
  have := born_in h h1
  omega

theorem kid_born {l : List PerV} (h : okFam l = true) {id : Int} (hid : 0 ≤ findP l id) {x : PerV} (hx : x ∈ kids l id) : (perOf l id).born + 15 ≤ x.born := by
  obtain ⟨h1, h2⟩ := kids_mem.1 hx
  obtain ⟨i, hi, rfl⟩ := List.mem_iff_getElem.1 h1
  have hp := okFam_mem h (perOf_in hid)
  have hpid := perOf_id hid
  simp only [okPer, Bool.and_eq_true, inR_iff] at hp
  have q := (okAt_iff.1 (okFam_at h hi)).2.2
  rw [getD_eq _ hi] at q
  simp only [chil, Bool.or_eq_true, decide_eq_true_eq] at h2
  rcases q with q | ⟨_, q2, q3⟩
  · omega
  · rcases h2 with h2 | h2
    · rw [h2, mayG] at q2
      split at q2
      · cases q2
      · simp only [parB, Bool.and_eq_true, decide_eq_true_eq] at q2
        have := q2.1
        unfold perOf
        omega
    · rw [h2, mayG] at q3
      split at q3
      · cases q3
      · simp only [parB, Bool.and_eq_true, decide_eq_true_eq] at q3
        have := q3.1
        unfold perOf
        omega

theorem dnG_next {l : List PerV} (h : okFam l = true) (n : Nat) (id : Int) (hg : dnG l (n + 1) id) : 0 ≤ findP l id ∧ ∀ o ∈ kidI l id, dnG l n o := by
  obtain ⟨h1, h2⟩ := hg
  refine ⟨h1, fun o ho => ?_⟩
  rw [kidI, List.mem_map] at ho
  obtain ⟨x, hx, rfl⟩ := ho
  have q := kid_born h h1 hx
  obtain ⟨q1, q2⟩ := perOf_mem h (kids_mem.1 hx).1
  refine ⟨q2, ?_⟩
  rw [q1]
  omega

theorem kidI_len1 {l : List PerV} (h : okFam l = true) (id : Int) : (kidI l id).length ≤ 1000 := by
  have := okFam_len h
  have := kids_len l id
  rw [kidI_len]
  omega

def genR (l : List PerV) (id : Int) : D := if askF l id then .tu [.int (farF (parI l) 3000 id), .int (farF (kidI l) 3000 id), .bool true] else .tu [.int 0, .int 0, .bool false]

end Go.Proofs.Ytdeobicgildamaa
