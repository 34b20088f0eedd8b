/- The children of a person: a part of a list, sorted in place. -/
import Derived.Test.YteimddagjikcaaaInts
import Derived.Test.YteimddagjikcaaaFam
import Derived.WalkKit
import Derived.WalkSpells
import Derived.KernelRfl
namespace Go.Proofs.Yteimddagjikcaaa
open Go.RowKit
set_option linter.unusedVariables false
set_option linter.unusedSimpArgs false

attribute [local go_sem] PerV.d PerV.cs perL famD intL

attribute [local simp] perC_all perC_plains ints_plain ints_all ints_all1 ints_plain_take

def chil (p : PerV) (id : Int) : Bool := decide (p.one = id) || decide (p.two = id)

def kidF (l : List PerV) (id : Int) : List PerV := l.filter fun p => chil p id

def delL (l : List PerV) (id : Int) : List PerV := kidF l id ++ List.replicate (l.length - (kidF l id).length) PerV.zero

theorem idx_first {α : Type} {l : List α} {p : α → Bool} {i : Nat} (h : idxR l p = (i : Int)) : (l.take i).all (fun x => !p x) = true := by
  unfold idxR at h
  split at h
  · omega
  · have e : l.findIdx p = i := by omega
    subst e
    rw [List.all_eq_true]
    intro x hx
    rw [List.mem_take_iff_getElem] at hx
    obtain ⟨j, hj, rfl⟩ := hx
    have := List.not_of_lt_findIdx (show j < l.findIdx p by omega)
    rw [this]
    rfl

end Go.Proofs.Yteimddagjikcaaa
