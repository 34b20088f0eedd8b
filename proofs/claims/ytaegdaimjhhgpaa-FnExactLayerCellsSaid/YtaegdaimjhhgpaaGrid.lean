/- Lists of rows of integers: read, copied, compared, marked. -/
import Derived.Test.YtaegdaimjhhgpaaInts
import Derived.Test.YtaegdaimjhhgpaaFlowF
import Derived.WalkKit
import Derived.WalkSpells
import Derived.KernelRfl
namespace Go.Proofs.Ytaegdaimjhhgpaa
open Go.RowKit
set_option linter.unusedVariables false
set_option linter.unusedSimpArgs false

attribute [local go_sem] intL lookO_lo killO_grid delO_grid putO_lo gridO_app dropGe dropGe_grid cleanO_grid gridC_len gridC_refs gridQ_refs lens_len rowsD_len

attribute [local simp] ints_plain ints_all ints_all1 ints_plain_take refs_dmap

def gridD (zs : List (List Int)) : D := .ls 1 zs.length (rowsD zs)

attribute [local go_sem] gridD

theorem rowsD_at {zs : List (List Int)} {i : Nat} {d : D} (h : i < zs.length) : (rowsD zs).getD i d = .ls 1 (zs.getD i []).length ((zs.getD i []).map D.int) := by
  simp [rowsD, List.getD_eq_getElem?_getD, List.getElem?_map, h]

def szR : List (List Int) → Int → Int
  | [], l => l
  | z :: zs, l => if l - z.length < 0 then -1 else szR zs (l - z.length)

def szG (zs : List (List Int)) (l : Int) : Int := if l - zs.length < 0 then -1 else szR zs (l - zs.length)

def tot (zs : List (List Int)) : Nat := (zs.map List.length).sum

def numsR : Int → List Nat → List (List Int)
  | _, [] => []
  | k, n :: r => nums k n :: numsR (k + n) r

@[simp] theorem numsR_len (k : Int) (ls : List Nat) : (numsR k ls).length = ls.length := by
  induction ls generalizing k with
  | nil => rfl
  | cons n r ih => simp [numsR, ih]

theorem nums_lens (k : Int) (ls : List Nat) : lens (numsR k ls) = ls := by
  induction ls generalizing k with
  | nil => rfl
  | cons n r ih =>
    have := ih (k + n)
    simp only [lens] at this
    simp [numsR, lens, this]

theorem numsR_lens (k : Int) (ls : List Nat) : lens (numsR k ls) = ls := nums_lens k ls

theorem toD_nums {ob : List (Nat × OB)} {s B n m : Nat} {k : Int} {ls : List Nat} (h1 : lookO ob s = some (.av (gridC B ls))) (h2 : HasG ob B (numsR k ls)) (hn : n = ls.length) : toD ob (m + 2) (.bs s 0 n 1) = some (.ls 1 (numsR k ls).length (rowsD (numsR k ls))) := by
  subst hn
  have e : (numsR k ls).length = ls.length := numsR_len k ls
  have := toD_grid (m := m) (s := s) (n := ls.length) (by rw [h1, numsR_lens]) h2 e.symm
  rw [this, e]

def mkR (k : Int) (zs : List (List Int)) (i : Nat) : List (List Int) := numsR k (lens (zs.take i)) ++ zs.drop i

end Go.Proofs.Ytaegdaimjhhgpaa
