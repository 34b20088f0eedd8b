/- The marks along a line. -/
import Derived.Test.YtdeobicgildamaaGreatDoorDrC
import Derived.Test.YtdeobicgildamaaGreatDoorFam13
import Derived.WalkKit
import Derived.WalkSpells
import Derived.KernelRfl
namespace Go.Proofs.YtdeobicgildamaaGreatDoor
open Go.RowKit
set_option linter.unusedVariables false
set_option linter.unusedSimpArgs false

def mkO (l : List PerV) (y id : Int) : Option Int :=
  if (perOf l id).one = 0 then some 0
  else if 7 < 1 + ((cntB l id : Nat) : Int) then none
  else if 1 < 1 + ((cntB l id : Nat) : Int) then some (1 + ((cntB l id : Nat) : Int))
  else some (if aliveB l id y then 1 else 0)

theorem markD_mk (big : Int) (l : List PerV) (id y : Int) : markD big l id y = match mkO l y id with | none => .tu [.int big, .bool false] | some m => .tu [.int m, .bool true] := by
  unfold markD mkO
  repeat' split
  all_goals first | rfl | (rename_i h; cases h; rfl) | (rename_i h; cases h)

theorem markD_no {big : Int} {l : List PerV} {id y : Int} (h : mkO l y id = none) : markD big l id y = .tu [.int big, .bool false] := by rw [markD_mk, h]

theorem markD_yes {big m : Int} {l : List PerV} {id y : Int} (h : mkO l y id = some m) : markD big l id y = .tu [.int m, .bool true] := by rw [markD_mk, h]

theorem mkO_bnd {l : List PerV} {y id m : Int} (h : mkO l y id = some m) : 0 ≤ m ∧ m ≤ 7 := by
  unfold mkO at h
  repeat' split at h
  all_goals first | (cases h; done) | (cases h; omega) | (cases h; split <;> omega)

def stM (l : List PerV) (y : Int) (acc : Option (List Int)) (id : Int) : Option (List Int) :=
  match acc, mkO l y id with
  | some out, some m => some (if m = 0 then out else out ++ [m])
  | _, _ => none

def mksF (l : List PerV) (y : Int) (zs : List Int) : Option (List Int) := zs.foldl (stM l y) (some [])

theorem stM_none (l : List PerV) (y : Int) : ∀ zs : List Int, zs.foldl (stM l y) none = none
  | [] => rfl
  | _ :: zs => stM_none l y zs

theorem mksF_next {l : List PerV} {y : Int} {zs : List Int} {i : Nat} (h : i < zs.length) : mksF l y (zs.take (i + 1)) = stM l y (mksF l y (zs.take i)) (zs.getD i 0) := by
  rw [mksF, take_next 0 h, List.foldl_append]
  rfl

theorem mksF_no {l : List PerV} {y : Int} {zs : List Int} {i : Nat} (h : mksF l y (zs.take i) = none) : mksF l y zs = none := by
  have e : zs = zs.take i ++ zs.drop i := (List.take_append_drop i zs).symm
  unfold mksF at h ⊢
  rw [e, List.foldl_append, h]
  exact stM_none l y _

theorem mksF_len {l : List PerV} {y : Int} {zs out : List Int} (h : mksF l y zs = some out) : out.length ≤ zs.length := by
  have key : ∀ (zs a : List Int), ∀ out, zs.foldl (stM l y) (some a) = some out → out.length ≤ a.length + zs.length := by
    intro zs
    induction zs with
    | nil =>
      intro a out h
      cases h
      simp
    | cons z zs ih =>
      intro a out h
      rw [List.foldl_cons] at h
      cases hm : mkO l y z with
      | none =>
        rw [show stM l y (some a) z = none by simp only [stM, hm], stM_none] at h
        cases h
      | some m =>
        rw [show stM l y (some a) z = some (if m = 0 then a else a ++ [m]) by simp only [stM, hm]] at h
        have := ih _ _ h
        split at this
        · simp only [List.length_cons]; omega
        · simp only [List.length_append, List.length_cons, List.length_nil] at this ⊢; omega
  have := key zs [] out h
  simpa using this

def mksT (l : List PerV) (y : Int) (zs : List Int) : Option (List Int) := match mksF l y zs with
  | none => none
  | some out => if out.length ≤ 6 then some out else none

theorem mksT_none {l : List PerV} {y : Int} {zs : List Int} (h : mksF l y zs = none) : mksT l y zs = none := by rw [mksT, h]

theorem mksT_some {l : List PerV} {y : Int} {zs out : List Int} (h : mksF l y zs = some out) (h6 : out.length ≤ 6) : mksT l y zs = some out := by
  rw [mksT, h]
  simp only
  rw [if_pos h6]

theorem mksT_long {l : List PerV} {y : Int} {zs out : List Int} (h : mksF l y zs = some out) (h6 : ¬ out.length ≤ 6) : mksT l y zs = none := by
  rw [mksT, h]
  simp only
  rw [if_neg h6]

theorem mksT_len {l : List PerV} {y : Int} {zs out : List Int} (h : mksT l y zs = some out) : out.length ≤ 6 := by
  unfold mksT at h
  split at h
  · cases h
  · split at h
    · cases h
      assumption
    · cases h

def mksV (l : List PerV) (a to y : Int) : Option (List Int) := if toL l a to = [] then none else mksT l y ((toL l a to).drop 1)

def mksW (l : List PerV) (a to y : Int) : Option (List Int) := if (askF l a && askF l to && inR y 1 2999) = true then mksV l a to y else none

def mksD : Option (List Int) → D
  | none => .tu [intL [], .bool false]
  | some out => .tu [intL out, .bool true]

def mksN : Option (List Int) → D
  | none => .tu [.v (.slice none 0 0), .bool false]
  | some out => .tu [intL out, .bool true]

theorem mksN_le : ∀ o, leD (mksN o) (mksD o)
  | none => leD_tu (lesD_cons leD_nil (lesD_refl _))
  | some _ => leD_tu (lesD_refl _)

theorem mksV_len {l : List PerV} {a to y : Int} {out : List Int} (h : mksV l a to y = some out) : out.length ≤ 6 := by
  unfold mksV at h
  split at h
  · cases h
  · exact mksT_len h

end Go.Proofs.YtdeobicgildamaaGreatDoor
