/- Families: lists of persons; copying, comparing, finding; valid families. -/
import Derived.Test.YteimddagjikcaaaRecs
import Derived.Test.YteimddagjikcaaaBase
import Derived.Test.YteimddagjikcaaaFacts
import Derived.Test.YteimddagjikcaaaWords
import Derived.WalkKit
import Derived.WalkSpells
import Derived.KernelRfl
namespace Go.Proofs.Yteimddagjikcaaa
open Go.RowKit
set_option linter.unusedVariables false
set_option linter.unusedSimpArgs false

structure PerV where
  (id born died one two : Int)

def PerV.d (b : PerV) : D := .ag [.int b.id, .int b.born, .int b.died, .int b.one, .int b.two]

def PerV.cs (b : PerV) : List D := [.int b.id, .int b.born, .int b.died, .int b.one, .int b.two]

def PerV.zero : PerV := ⟨0, 0, 0, 0, 0⟩

def perC (l : List PerV) : List D := recC PerV.cs l

def perL (l : List PerV) : D := .ls 5 l.length (perC l)

def famD (l : List PerV) : D := .ag [perL l]

attribute [local go_sem] PerV.d PerV.cs perL famD

theorem per_k : ∀ b : PerV, b.cs.length = 5 := fun _ => rfl

theorem perC_all (l : List PerV) : (perC l).take (l.length * 5) = perC l := recC_all per_k l

theorem perC_plains (l : List PerV) : plains (perC l) := recC_plains (cs := PerV.cs) (fun b => (⟨trivial, trivial, trivial, trivial, trivial, trivial⟩ : plains [.int b.id, .int b.born, .int b.died, .int b.one, .int b.two])) l

@[simp] theorem perC_len (l : List PerV) : (perC l).length = l.length * 5 := recC_len per_k l

attribute [local simp] perC_all perC_plains

def idxR {α : Type} (l : List α) (p : α → Bool) : Int := if l.all (fun x => !p x) then -1 else (l.findIdx p : Nat)

theorem idxR_at {α : Type} (z : α) {l : List α} {p : α → Bool} {i : Nat} (hi : i < l.length) (h : (l.take i).all (fun x => !p x) = true) (hp : p (l.getD i z) = true) : idxR l p = i := by
  have h1 : l.all (fun x => !p x) = false := allR_not z (p := fun x => !p x) hi (by rw [hp]; rfl)
  have h2 : l.findIdx p = i := by
    rw [List.findIdx_eq hi]
    rw [getD_eq _ hi] at hp
    refine ⟨hp, fun j hj => ?_⟩
    have := List.all_eq_true.1 h (l[j]'(by omega)) (by
      rw [List.mem_take_iff_getElem]
      exact ⟨j, by omega, rfl⟩)
    simpa using this
  simp only [idxR, h1, h2]
  rfl

def findP (l : List PerV) (id : Int) : Int := idxR l (fun p => decide (p.id = id))

def hPer (p : PerV → Bool) : List D → D
  | [.ag [.v (.int .i64 a0), .v (.int .i64 a1), .v (.int .i64 a2), .v (.int .i64 a3), .v (.int .i64 a4)]] => .bool (p ⟨a0, a1, a2, a3, a4⟩)
  | _ => .bool false

def isPer (ds : List D) : Prop := ∃ x : PerV, ds = [x.d]

end Go.Proofs.Yteimddagjikcaaa
