/- Lemmas for loops over lists of data. -/
import Derived.Test.YteimddagjikcaaaFlowE
import Derived.WalkKit
import Derived.WalkSpells
namespace Go.Proofs.Yteimddagjikcaaa
open Go.RowKit
set_option linter.unusedVariables false
set_option linter.unusedSimpArgs false

theorem drop_at {α : Type} (l : List α) (n i : Nat) (d : α) : (l.drop n).getD i d = l.getD (n + i) d := by
  simp [List.getD_eq_getElem?_getD]

theorem map_at {α β : Type} (l : List α) (f : α → β) (i : Nat) (d : β) (d' : α) (h : i < l.length) : (l.map f).getD i d = f (l.getD i d') := by
  simp [List.getD_eq_getElem?_getD, h]

theorem str_at {l : List ByteArray} {i : Nat} {d : D} (h : i < l.length) : (l.map D.str).getD i d = D.str (l.getD i ⟨#[]⟩) := map_at l D.str i d _ h

theorem int_at {l : List Int} {i : Nat} {d : D} (h : i < l.length) : (l.map D.int).getD i d = D.int (l.getD i 0) := map_at l D.int i d _ h

def EqTo {α : Type} (d : α) (a b : List α) (i : Nat) : Prop := ∀ k, k < i → a.getD k d = b.getD k d

theorem getD_mem {α : Type} {l : List α} {i : Nat} (d : α) (h : i < l.length) : l.getD i d ∈ l := by
  simp [List.getD_eq_getElem?_getD, h]

theorem getD_eq {α : Type} {l : List α} {i : Nat} (d : α) (h : i < l.length) : l.getD i d = l[i] := by
  simp [List.getD_eq_getElem?_getD, h]

theorem take_next {α : Type} {l : List α} {i : Nat} (d : α) (h : i < l.length) : l.take (i + 1) = l.take i ++ [l.getD i d] := by
  rw [List.take_succ_eq_append_getElem h, getD_eq d h]

theorem drop_next {α : Type} {l : List α} {i : Nat} (d : α) (h : i < l.length) : l.drop i = l.getD i d :: l.drop (i + 1) := by
  rw [getD_eq d h]; exact List.drop_eq_getElem_cons h

end Go.Proofs.Yteimddagjikcaaa
