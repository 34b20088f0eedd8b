/- Lists of numbers: copying, comparing, counting, marking. -/
/- Lists of rows of integers: read, copied, compared, marked. -/
/- Lists of boxes: copying, comparing, counting. -/
import Derived.Test.YtjbifidphckjoaaRecs
import Derived.Test.YtjbifidphckjoaaFacts
import Derived.Test.YtjbifidphckjoaaFlowE
import Derived.WalkKit
import Derived.WalkSpells
import Derived.KernelRfl
import Derived.Test.YtjbifidphckjoaaFlowF
import Derived.Test.YtjbifidphckjoaaBase
namespace Go.Proofs.Ytjbifidphckjoaa
open Go.RowKit
set_option linter.unusedVariables false
set_option linter.unusedSimpArgs false

def intC (l : List Int) : List D := l.map D.int

def intL (l : List Int) : D := .ls 1 l.length (l.map D.int)

attribute [local go_sem] intL

theorem map_set {α β : Type} (f : α -> β) (l : List α) (i : Nat) (x : α) : (l.map f).set i (f x) = (l.set i x).map f := by
 rw [List.map_set]

theorem ints_plain : ∀ l : List Int, plains (l.map D.int)
 | [] => trivial
 | _ :: l => ⟨trivial, ints_plain l⟩

theorem ints_plain_take (n : Nat) (l : List Int) : plains ((l.map D.int).take n) := by
 rw [← List.map_take]
 exact ints_plain _

theorem ints_all (l : List Int) : (l.map D.int).take (l.length * 1) = l.map D.int := by
 rw [Nat.mul_one]
 exact List.take_of_length_le (by simp)

theorem ints_raw (l : List Int) : D.ls 1 l.length (((l.map D.int).drop 0).take (l.length * 1)) = intL l := by
 rw [List.drop_zero, ints_all]
 rfl

theorem ints_all1 (l : List Int) : (l.map D.int).take l.length = l.map D.int := List.take_of_length_le (by simp)

attribute [local simp] ints_plain ints_all ints_all1

def intM (l : List Int) (i : Nat) : List Int := l.take i ++ List.replicate (l.length - i) 0

def nums (k : Int) (n : Nat) : List Int := tab (fun i => k + i) n

@[simp] theorem nums_len (k : Int) (n : Nat) : (nums k n).length = n := tab_len _ _

theorem sw_self (a b : Nat) : swp a b a = b := by simp [swp]

end Go.Proofs.Ytjbifidphckjoaa

namespace Go.Proofs.Ytjbifidphckjoaa
open Go.RowKit
set_option linter.unusedVariables false
set_option linter.unusedSimpArgs false

attribute [local go_sem] intL lookO_lo killO_grid delO_grid putO_lo gridO_app dropGe dropGe_grid cleanO_grid gridC_len gridC_refs gridQ_refs lens_len rowsD_len

attribute [local simp] ints_plain ints_all ints_all1 ints_plain_take refs_dmap

def gridD (zs : List (List Int)) : D := .ls 1 zs.length (rowsD zs)

attribute [local go_sem] gridD

theorem rowsD_at {zs : List (List Int)} {i : Nat} {d : D} (h : i < zs.length) : (rowsD zs).getD i d = .ls 1 (zs.getD i []).length ((zs.getD i []).map D.int) := by
 simp [rowsD, List.getD_eq_getElem?_getD, List.getElem?_map, h]

def szR : List (List Int) -> Int -> Int
 | [], l => l
 | z :: zs, l => if l - z.length < 0 then -1 else szR zs (l - z.length)

def szG (zs : List (List Int)) (l : Int) : Int := if l - zs.length < 0 then -1 else szR zs (l - zs.length)

def tot (zs : List (List Int)) : Nat := (zs.map List.length).sum

def numsR : Int -> List Nat -> List (List Int)
 | _, [] => []
 | k, n :: r => nums k n :: numsR (k + n) r

@[simp] theorem numsR_len (k : Int) (ls : List Nat) : (numsR k ls).length = ls.length := by
 induction ls generalizing k with
 | nil => rfl
 | cons n r ih => simp [numsR, ih]

theorem nums_lens (k : Int) (ls : List Nat) : lens (numsR k ls) = ls := by
 induction ls generalizing k with
 | nil => rfl
 | cons n r ih =>
  have := ih (k + n)
  simp only [lens] at this
  simp [numsR, lens, this]

theorem numsR_lens (k : Int) (ls : List Nat) : lens (numsR k ls) = ls := nums_lens k ls

theorem toD_nums {ob : List (Nat × OB)} {s B n m : Nat} {k : Int} {ls : List Nat} (h1 : lookO ob s = some (.av (gridC B ls))) (h2 : HasG ob B (numsR k ls)) (hn : n = ls.length) : toD ob (m + 2) (.bs s 0 n 1) = some (.ls 1 (numsR k ls).length (rowsD (numsR k ls))) := by
 subst hn
 have e : (numsR k ls).length = ls.length := numsR_len k ls
 have := toD_grid (m := m) (s := s) (n := ls.length) (by rw [h1, numsR_lens]) h2 e.symm
 rw [this, e]

def mkR (k : Int) (zs : List (List Int)) (i : Nat) : List (List Int) := numsR k (lens (zs.take i)) ++ zs.drop i

theorem lens_sum (zs : List (List Int)) : (lens zs).sum = tot zs := rfl

end Go.Proofs.Ytjbifidphckjoaa

namespace Go.Proofs.Ytjbifidphckjoaa
open Go.RowKit
set_option linter.unusedVariables false
set_option linter.unusedSimpArgs false

structure BoxV where
 (x y s : Int)

def BoxV.d (b : BoxV) : D := .ag [.int b.x, .int b.y, .int b.s]

def BoxV.cs (b : BoxV) : List D := [.int b.x, .int b.y, .int b.s]

def BoxV.zero : BoxV := ⟨0, 0, 0⟩

def boxC (l : List BoxV) : List D := recC BoxV.cs l

def boxL (l : List BoxV) : D := .ls 3 l.length (boxC l)

attribute [local go_sem] BoxV.d BoxV.cs boxL

theorem box_k : ∀ b : BoxV, b.cs.length = 3 := fun _ => rfl

theorem boxC_all (l : List BoxV) : (boxC l).take (l.length * 3) = boxC l := recC_all box_k l

theorem boxC_plains (l : List BoxV) : plains (boxC l) := recC_plains (cs := BoxV.cs) (fun b => (⟨trivial, trivial, trivial, trivial⟩ : plains [.int b.x, .int b.y, .int b.s])) l

@[simp] theorem boxC_len (l : List BoxV) : (boxC l).length = l.length * 3 := recC_len box_k l

attribute [local simp] boxC_all boxC_plains

end Go.Proofs.Ytjbifidphckjoaa
