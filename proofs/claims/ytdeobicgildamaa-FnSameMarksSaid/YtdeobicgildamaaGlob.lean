/-
  DERIVED: THE SHELF's CONTRACTS AT THIS DUMP, IN PLAIN WORDS (tools/lay-plain.mjs out of 'TryShelf.lean', which tools/lay-shelf.mjs wrote): THE SAME DECLARATIONS UNDER THE SAME NAMES: 'import', 'namespace', 'open', 'def', 'theorem' AND NOTHING ELSE: no command of the shelf's: FOR A HAND-IN. Each laying: the table of numbers ('.._ren') and one theorem, a field a fact of the dump's own or the kernel's comparison; each contract: ONE APPLICATION.
-/
/- Lemmas for loops over lists of data. -/
/- Lists of records of k cells each (k is fixed by a record's cells), as data and as an object being filled. -/
/- Contracts of small helpers that most functions reach: range tests. -/
/- What a law's first world holds: the library's variable is some integer. -/
import Derived.Shelf.Sort.Plain
import Derived.Shelf.Slices.In.SortNone
import Derived.Test.YtdeobicgildamaaProg
import Derived.Test.YtdeobicgildamaaFlowE
import Derived.WalkKit
import Derived.WalkSpells
import Derived.KernelRfl
import Derived.Test.YtdeobicgildamaaRows
import Derived.WalkLawsBesides
import Derived.Test.YtdeobicgildamaaFlowA
import Derived.ProofKit
import Derived.HandedShaped
namespace Go.Proofs
open Go.Shelf
def Try.lays189_ren : Go.Shelf.Ren := ⟨fun | 189 => 46 | 125 => 73 | 257 => 72 | 128 => 104 | 129 => 105 | 294 => 95 | 295 => 96 | 296 => 97 | 297 => 98 | 298 => 99 | 299 => 100 | 216 => 101 | 300 => 102 | 301 => 103 | 328 => 124 | 329 => 125 | 330 => 126 | 331 => 127 | 332 => 128 | 215 => 129 | 343 => 131 | n => n, fun | 28 => 22 | 3 => 3 | 46 => 98 | 0 => 0 | 51 => 122 | 53 => 69 | 4 => 4 | 183 => 115 | 182 => 114 | 131 => 78 | 5 => 5 | 9 => 9 | 218 => 136 | 222 => 140 | 228 => 143 | 229 => 144 | n => n, fun | n => n⟩
theorem Try.lays189 : Go.Proofs.Lays.n189 Try.prog Try.lays189_ren := {
  mixed := by kernel_rfl
  f125 := Try.func73.trans (congrArg some (by kernel_rfl))
  f128 := Try.func104.trans (congrArg some (by kernel_rfl))
  f129 := Try.func105.trans (congrArg some (by kernel_rfl))
  f189 := Try.func46.trans (congrArg some (by kernel_rfl))
  f215 := Try.func129.trans (congrArg some (by kernel_rfl))
  f216 := Try.func101.trans (congrArg some (by kernel_rfl))
  f257 := Try.func72.trans (congrArg some (by kernel_rfl))
  f294 := Try.func95.trans (congrArg some (by kernel_rfl))
  f295 := Try.func96.trans (congrArg some (by kernel_rfl))
  f296 := Try.func97.trans (congrArg some (by kernel_rfl))
  f297 := Try.func98.trans (congrArg some (by kernel_rfl))
  f298 := Try.func99.trans (congrArg some (by kernel_rfl))
  f299 := Try.func100.trans (congrArg some (by kernel_rfl))
  f300 := Try.func102.trans (congrArg some (by kernel_rfl))
  f301 := Try.func103.trans (congrArg some (by kernel_rfl))
  f328 := Try.func124.trans (congrArg some (by kernel_rfl))
  f329 := Try.func125.trans (congrArg some (by kernel_rfl))
  f330 := Try.func126.trans (congrArg some (by kernel_rfl))
  f331 := Try.func127.trans (congrArg some (by kernel_rfl))
  f332 := Try.func128.trans (congrArg some (by kernel_rfl))
  f343 := Try.func131.trans (congrArg some (by kernel_rfl))
  t0 := Try.underlying0
  a0 := Try.isAgg0
  z0 := Try.sizeOf0
  v0 := Try.zeroValue0
  t3 := Try.underlying3
  a3 := Try.isAgg3
  z3 := Try.sizeOf3
  v3 := Try.zeroValue3
  t4 := Try.underlying4
  a4 := Try.isAgg4
  z4 := Try.sizeOf4
  v4 := Try.zeroValue4
  t5 := Try.underlying5
  a5 := Try.isAgg5
  z5 := Try.sizeOf5
  v5 := Try.zeroValue5
  t9 := Try.underlying9
  a9 := Try.isAgg9
  z9 := Try.sizeOf9
  v9 := Try.zeroValue9
  t28 := Try.underlying22
  a28 := Try.isAgg22
  z28 := Try.sizeOf22
  v28 := Try.zeroValue22
  t46 := Try.underlying98
  a46 := Try.isAgg98
  z46 := Try.sizeOf98
  v46 := Try.zeroValue98
  t51 := Try.underlying122
  a51 := Try.isAgg122
  z51 := Try.sizeOf122
  v51 := Try.zeroValue122
  t53 := Try.underlying69
  a53 := Try.isAgg69
  z53 := Try.sizeOf69
  v53 := Try.zeroValue69
  t131 := Try.underlying78
  a131 := Try.isAgg78
  z131 := Try.sizeOf78
  v131 := Try.zeroValue78
  t182 := Try.underlying114
  a182 := Try.isAgg114
  z182 := Try.sizeOf114
  v182 := Try.zeroValue114
  t183 := Try.underlying115
  a183 := Try.isAgg115
  z183 := Try.sizeOf115
  v183 := Try.zeroValue115
  t218 := Try.underlying136
  a218 := Try.isAgg136
  z218 := Try.sizeOf136
  v218 := Try.zeroValue136
  t222 := Try.underlying140
  a222 := Try.isAgg140
  z222 := Try.sizeOf140
  v222 := Try.zeroValue140
  t228 := Try.underlying143
  a228 := Try.isAgg143
  z228 := Try.sizeOf143
  v228 := Try.zeroValue143
  t229 := Try.underlying144
  a229 := Try.isAgg144
  z229 := Try.sizeOf144
  v229 := Try.zeroValue144 }
open Go.Sort Go.RowKit in
theorem Try.slices_Sort_int (blk off cap : Nat) (zs : List Int) (w : World) (hH : Holds (Value.int .i64) w blk off zs.toArray) (hblk : blk < w.heap.size) (hsz : zs.length < 4611686018427387904) :
    Calls Try.prog 46 #[.slice (some ⟨blk, off, none⟩) zs.length cap] w fun e w' =>
      e = .returned (.tuple #[]) ∧ ∃ n os, w' = grow (putRow (Value.int .i64) (Sort.ahead w n) blk off (zs.mergeSort fun x y => decide (x ≤ y)).toArray) os := Any.slices_Sort_int Try.lays189 blk off cap zs w hH hblk hsz
open Go.RowKit Go.Sort in
/-- .. and plain. (LAID: no walk: one application.) -/
theorem Try.slices_Sort_int_none (p : Option Addr) (cap : Nat) (w : World) :
    Calls Try.prog 46 #[.slice p 0 cap] w fun e w' => e = .returned (.tuple #[]) ∧ w' = w := Any.slices_Sort_int_none Try.lays189 p cap w
end Go.Proofs

namespace Go.Proofs.Ytdeobicgildamaa
open Go.RowKit
set_option linter.unusedVariables false
set_option linter.unusedSimpArgs false

theorem drop_at {α : Type} (l : List α) (n i : Nat) (d : α) : (l.drop n).getD i d = l.getD (n + i) d := by
  simp [List.getD_eq_getElem?_getD]

theorem map_at {α β : Type} (l : List α) (f : α → β) (i : Nat) (d : β) (d' : α) (h : i < l.length) : (l.map f).getD i d = f (l.getD i d') := by
  simp [List.getD_eq_getElem?_getD, h]

theorem str_at {l : List ByteArray} {i : Nat} {d : D} (h : i < l.length) : (l.map D.str).getD i d = D.str (l.getD i ⟨#[]⟩) := map_at l D.str i d _ h

theorem int_at {l : List Int} {i : Nat} {d : D} (h : i < l.length) : (l.map D.int).getD i d = D.int (l.getD i 0) := map_at l D.int i d _ h

def EqTo {α : Type} (d : α) (a b : List α) (i : Nat) : Prop := ∀ k, k < i → a.getD k d = b.getD k d

theorem eqTo_zero {α : Type} {d : α} {a b : List α} : EqTo d a b 0 := fun k h => absurd h (Nat.not_lt_zero k)

theorem eqTo_next {α : Type} {d : α} {a b : List α} {i : Nat} (h : EqTo d a b i) (e : a.getD i d = b.getD i d) : EqTo d a b (i + 1) := fun k hk => by
  by_cases hi : k = i
  · rw [hi]; exact e
  · exact h k (by omega)

theorem eqTo_all {α : Type} {d : α} {a b : List α} {i : Nat} (h : EqTo d a b i) (hl : a.length = b.length) (hi : a.length ≤ i) : a = b := by
  apply List.ext_getElem hl
  intro k h1 h2
  have := h k (by omega)
  simpa [List.getD_eq_getElem?_getD, h1, h2] using this

theorem getD_mem {α : Type} {l : List α} {i : Nat} (d : α) (h : i < l.length) : l.getD i d ∈ l := by
  simp [List.getD_eq_getElem?_getD, h]

theorem getD_eq {α : Type} {l : List α} {i : Nat} (d : α) (h : i < l.length) : l.getD i d = l[i] := by
  simp [List.getD_eq_getElem?_getD, h]

theorem take_next {α : Type} {l : List α} {i : Nat} (d : α) (h : i < l.length) : l.take (i + 1) = l.take i ++ [l.getD i d] := by
  rw [List.take_succ_eq_append_getElem h, getD_eq d h]

theorem drop_next {α : Type} {l : List α} {i : Nat} (d : α) (h : i < l.length) : l.drop i = l.getD i d :: l.drop (i + 1) := by
  rw [getD_eq d h]; exact List.drop_eq_getElem_cons h

end Go.Proofs.Ytdeobicgildamaa

namespace Go.Proofs.Ytdeobicgildamaa
open Go.RowKit
set_option linter.unusedVariables false
set_option linter.unusedSimpArgs false

def recC {α : Type} (cs : α → List D) (l : List α) : List D := l.flatMap cs

section
variable {α : Type} {cs : α → List D} {k : Nat}

theorem recC_app (l m : List α) : recC cs (l ++ m) = recC cs l ++ recC cs m := by simp [recC]

theorem recC_len (hk : ∀ x, (cs x).length = k) (l : List α) : (recC cs l).length = l.length * k := by
  induction l with
  | nil => simp [recC]
  | cons x l ih =>
    simp only [recC, List.flatMap_cons, List.length_append, List.length_cons] at ih ⊢
    rw [ih, hk, Nat.succ_mul]
    omega

theorem recC_take (hk : ∀ x, (cs x).length = k) (l : List α) (i : Nat) : (recC cs l).take (i * k) = recC cs (l.take i) := by
  by_cases h : i ≤ l.length
  · have e : recC cs l = recC cs (l.take i) ++ recC cs (l.drop i) := by rw [← recC_app, List.take_append_drop]
    have hl : (recC cs (l.take i)).length = i * k := by rw [recC_len hk, List.length_take, Nat.min_eq_left h]
    rw [e, ← hl, List.take_left']
    rfl
  · have : l.length * k ≤ i * k := Nat.mul_le_mul_right k (by omega)
    rw [List.take_of_length_le (by rw [recC_len hk]; exact this), List.take_of_length_le (by omega)]

theorem recC_drop (hk : ∀ x, (cs x).length = k) (l : List α) (i : Nat) : (recC cs l).drop (i * k) = recC cs (l.drop i) := by
  by_cases h : i ≤ l.length
  · have e : recC cs l = recC cs (l.take i) ++ recC cs (l.drop i) := by rw [← recC_app, List.take_append_drop]
    have hl : (recC cs (l.take i)).length = i * k := by rw [recC_len hk, List.length_take, Nat.min_eq_left h]
    rw [e, ← hl, List.drop_left']
    rfl
  · have : l.length * k ≤ i * k := Nat.mul_le_mul_right k (by omega)
    rw [List.drop_of_length_le (by rw [recC_len hk]; exact this), List.drop_of_length_le (by omega)]
    rfl

theorem recC_at (hk : ∀ x, (cs x).length = k) (z : α) {l : List α} {i : Nat} (h : i < l.length) : ((recC cs l).drop (i * k)).take k = cs (l.getD i z) := by
  rw [recC_drop hk, drop_next z h]
  simp only [recC, List.flatMap_cons]
  rw [List.take_append_of_le_length (by rw [hk]; exact Nat.le_refl k)]
  exact List.take_of_length_le (by rw [hk]; exact Nat.le_refl k)

theorem recC_all (hk : ∀ x, (cs x).length = k) (l : List α) : (recC cs l).take (l.length * k) = recC cs l := by rw [recC_take hk, List.take_length]

theorem recC_raw (hk : ∀ x, (cs x).length = k) (l : List α) : D.ls k l.length (((recC cs l).drop 0).take (l.length * k)) = D.ls k l.length (recC cs l) := by rw [List.drop_zero, recC_all hk]

theorem plains_app : ∀ (a b : List D), plains a → plains b → plains (a ++ b)
  | [], _, _, hb => hb
  | _ :: a, b, ha, hb => ⟨ha.1, plains_app a b ha.2 hb⟩

theorem recC_plains (hp : ∀ x, plains (cs x)) (l : List α) : plains (recC cs l) := by
  induction l with
  | nil => exact trivial
  | cons x l ih => exact plains_app _ _ (hp x) ih

def recM (z : α) (l : List α) (i : Nat) : List α := l.take i ++ List.replicate (l.length - i) z

def tab (f : Nat → α) (n : Nat) : List α := (List.range n).map f

@[simp] theorem tab_len (f : Nat → α) (n : Nat) : (tab f n).length = n := by simp [tab]

def recD (f : Nat → α) (l : List α) (i : Nat) : List α := tab f i ++ l.drop i

def setsL : List α → Nat → List α → List α
  | c, _, [] => c
  | c, o, x :: xs => setsL (c.set o x) (o + 1) xs

end

theorem allR_take {α : Type} (z : α) {l : List α} {i : Nat} {p : α → Bool} (h : (l.take i).all p = true) (hi : i < l.length) (hp : p (l.getD i z) = true) : (l.take (i + 1)).all p = true := by
  rw [take_next z hi, List.all_append, h]
  simpa using hp

theorem allR_not {α : Type} (z : α) {l : List α} {i : Nat} {p : α → Bool} (hi : i < l.length) (hp : p (l.getD i z) = false) : l.all p = false := by
  rw [List.all_eq_false]
  exact ⟨_, getD_mem z hi, by rw [hp]; simp⟩

theorem refsL_app (s : Nat) : ∀ a b : List AV, AV.refsL s (a ++ b) = (AV.refsL s a || AV.refsL s b)
  | [], b => by simp [AV.refsL]
  | x :: a, b => by simp [AV.refsL, refsL_app s a b, Bool.or_assoc]

end Go.Proofs.Ytdeobicgildamaa

namespace Go.Proofs.Ytdeobicgildamaa
open Go.RowKit
set_option linter.unusedVariables false
set_option linter.unusedSimpArgs false

def inR (n lo hi : Int) : Bool := decide (lo ≤ n) && decide (n ≤ hi)

theorem inR_iff {n lo hi : Int} : inR n lo hi = true ↔ lo ≤ n ∧ n ≤ hi := by simp [inR]

end Go.Proofs.Ytdeobicgildamaa

namespace Go.Proofs.Ytdeobicgildamaa
open Go.RowKit
set_option linter.unusedVariables false
set_option linter.unusedSimpArgs false

theorem glob_int {P : Program} {w : World} {g : Nat} {t : TypeId} {zero : Array Value} (h : w.ShapedOpen P) (hg : g < P.globals.size)
    (h0 : ((begin P (fun _ _ => 0) default).world.heap[g]?).bind Obj.row? = some (zero, t)) (hz : zero.size = 1)
    (hb : P.buildable t = true) (hc : P.cellTypes P.depth t = some [t]) (hu : P.underlying t = some (.int .i64)) : ∃ m, w.cell? ⟨g, 0, none⟩ = some (.int .i64 m) := by
  obtain ⟨cs, hh, hs, hr⟩ := h.1 g zero t hg h0
  obtain ⟨ts, hts, _, hall⟩ := hr hb
  rw [hc] at hts
  cases hts
  have h1 : 0 < cs.size := by omega
  obtain ⟨u, hu', hok⟩ := hall 0 cs[0] (by simp [h1])
  have : u = t := by simpa using hu'.symm
  subst this
  have hcell : w.cell? ⟨g, 0, none⟩ = some cs[0] := by simp [World.cell?, hh, h1]
  rw [hcell]
  unfold Cell.ok at hok
  rw [hu] at hok
  cases hv : cs[0] <;> rw [hv] at hok <;> first
    | (simp at hok; done)
    | (simp at hok
       obtain ⟨rfl, _⟩ := hok
       exact ⟨_, rfl⟩)

theorem glob_shaped {w : World} (h : w.ShapedOpen Try.prog) : GlobW w := fun b hb => by
  simp only [globB, List.mem_singleton] at hb
  subst hb
  exact glob_int h (of_decide_eq_true (by kernel_rfl)) (zero := #[.int .i64 0]) (t := 3) (by kernel_rfl) rfl (by kernel_rfl) (by kernel_rfl) Try.underlying3

end Go.Proofs.Ytdeobicgildamaa
