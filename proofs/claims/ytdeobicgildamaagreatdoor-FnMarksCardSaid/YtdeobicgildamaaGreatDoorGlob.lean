/-
  DERIVED: THE SHELF's CONTRACTS AT THIS DUMP, IN PLAIN WORDS (tools/lay-plain.mjs out of 'TryzShelf.lean', which tools/lay-shelf.mjs wrote): THE SAME DECLARATIONS UNDER THE SAME NAMES: 'import', 'namespace', 'open', 'def', 'theorem' AND NOTHING ELSE: no command of the shelf's: FOR A HAND-IN. Each laying: the table of numbers ('.._ren') and one theorem, a field a fact of the dump's own or the kernel's comparison; each contract: ONE APPLICATION.
-/
/- Lemmas for loops over lists of data. -/
/- Lists of records of k cells each (k is fixed by a record's cells), as data and as an object being filled. -/
/- Contracts of small helpers that most functions reach: range tests. -/
/- Texts as lists of bytes. -/
/- What a law's first world holds: the library's variable is some integer. -/
import Derived.Shelf.Strings.OnBuilder
import Derived.Test.YtdeobicgildamaaGreatDoorProg
import Derived.Test.YtdeobicgildamaaGreatDoorFlowE
import Derived.WalkKit
import Derived.WalkSpells
import Derived.KernelRfl
import Derived.Test.YtdeobicgildamaaGreatDoorRows
import Derived.WalkLawsBesides
import Derived.Test.YtdeobicgildamaaGreatDoorFlowA
import Derived.ProofKit
import Derived.HandedShaped
namespace Go.Proofs
open Go.Shelf
def Tryz.lays156_ren : Go.Shelf.Ren := ⟨fun | 156 => 21 | 165 => 39 | 166 => 40 | 169 => 41 | 240 => 58 | 241 => 59 | 276 => 80 | 277 => 81 | n => n, fun | 31 => 48 | 9 => 9 | 3 => 3 | 4 => 4 | 0 => 0 | 20 => 20 | 72 => 68 | 76 => 72 | 70 => 66 | 37 => 22 | 75 => 71 | 127 => 87 | 164 => 99 | 5 => 5 | 80 => 74 | n => n, fun | n => n⟩
theorem Tryz.lays156 : Go.Proofs.Lays.n156 Tryz.prog Tryz.lays156_ren := {
  mixed := by kernel_rfl
  f156 := Tryz.func21.trans (congrArg some (by kernel_rfl))
  f165 := Tryz.func39.trans (congrArg some (by kernel_rfl))
  f166 := Tryz.func40.trans (congrArg some (by kernel_rfl))
  f169 := Tryz.func41.trans (congrArg some (by kernel_rfl))
  f240 := Tryz.func58.trans (congrArg some (by kernel_rfl))
  f241 := Tryz.func59.trans (congrArg some (by kernel_rfl))
  f276 := Tryz.func80.trans (congrArg some (by kernel_rfl))
  f277 := Tryz.func81.trans (congrArg some (by kernel_rfl))
  t0 := Tryz.underlying0
  a0 := Tryz.isAgg0
  z0 := Tryz.sizeOf0
  v0 := Tryz.zeroValue0
  t3 := Tryz.underlying3
  a3 := Tryz.isAgg3
  z3 := Tryz.sizeOf3
  v3 := Tryz.zeroValue3
  t4 := Tryz.underlying4
  a4 := Tryz.isAgg4
  z4 := Tryz.sizeOf4
  v4 := Tryz.zeroValue4
  t9 := Tryz.underlying9
  a9 := Tryz.isAgg9
  z9 := Tryz.sizeOf9
  v9 := Tryz.zeroValue9
  t20 := Tryz.underlying20
  a20 := Tryz.isAgg20
  z20 := Tryz.sizeOf20
  v20 := Tryz.zeroValue20
  t31 := Tryz.underlying48
  a31 := Tryz.isAgg48
  z31 := Tryz.sizeOf48
  v31 := Tryz.zeroValue48
  t37 := Tryz.underlying22
  a37 := Tryz.isAgg22
  z37 := Tryz.sizeOf22
  v37 := Tryz.zeroValue22
  t70 := Tryz.underlying66
  a70 := Tryz.isAgg66
  z70 := Tryz.sizeOf66
  v70 := Tryz.zeroValue66
  t72 := Tryz.underlying68
  a72 := Tryz.isAgg68
  z72 := Tryz.sizeOf68
  v72 := Tryz.zeroValue68
  t75 := Tryz.underlying71
  a75 := Tryz.isAgg71
  z75 := Tryz.sizeOf71
  v75 := Tryz.zeroValue71
  t76 := Tryz.underlying72
  a76 := Tryz.isAgg72
  z76 := Tryz.sizeOf72
  v76 := Tryz.zeroValue72
  t127 := Tryz.underlying87
  a127 := Tryz.isAgg87
  z127 := Tryz.sizeOf87
  v127 := Tryz.zeroValue87
  t164 := Tryz.underlying99
  a164 := Tryz.isAgg99
  z164 := Tryz.sizeOf99
  v164 := Tryz.zeroValue99 }
theorem Tryz.Builder_Extra_156 : Builder.Extra Tryz.prog Tryz.lays156_ren := {
  sizeBuilder := by kernel_rfl
  liesBuilder := by kernel_rfl
  t5 := Tryz.underlying5
  a5 := Tryz.isAgg5
  z5 := Tryz.sizeOf5
  v5 := Tryz.zeroValue5
  infoByte := by kernel_rfl
  cellsByte := by kernel_rfl
  sizeByte := by kernel_rfl
  neB5 := by decide }
open Go.RowKit in
/-- No element: the empty string; the world is as it was. (Whatever the slice's address and capacity: a nil slice too.) (LAID: no walk: one application.) -/
theorem Tryz.strings_Join_none (a : Option Addr) (c : Nat) (sep : ByteArray) (w : World) :
    Calls Tryz.prog 21 #[.slice a 0 c, .string sep] w fun e w' => e = .returned (.string ⟨#[]⟩) ∧ w' = w := Any.strings_Join_none Tryz.lays156 Tryz.Builder_Extra_156 a c sep w
open Go.RowKit in
/-- strings.Join: "Join concatenates the elements of its first argument to create a single string. The separator string sep is placed between elements in the resulting string.": HOWEVER MANY ELEMENTS. Below the heap's end the world is as it was. (LAID: no walk: one application.) -/
theorem Tryz.strings_Join (bk o c : Nat) (xs : List ByteArray) (sep : ByteArray) (w : World) (hcells : ∀ (j : Nat) x, xs[j]? = some x → w.cell? ⟨bk, o + j, none⟩ = some (.string x)) (hbk : bk < w.heap.size) (hN : xs.length ≤ 140737488355328) (hcap : xs.length ≤ c) (hlen : (Lib.join (xs.map (·.data.toList)) sep.data.toList).length ≤ 140737488355328) :
    Calls Tryz.prog 21 #[.slice (some ⟨bk, o, none⟩) xs.length c, .string sep] w fun e w' => e = .returned (.string ⟨(Lib.join (xs.map (·.data.toList)) sep.data.toList).toArray⟩) ∧ Below w.heap.size w w' := Any.strings_Join Tryz.lays156 Tryz.Builder_Extra_156 bk o c xs sep w hcells hbk hN hcap hlen
end Go.Proofs

namespace Go.Proofs.YtdeobicgildamaaGreatDoor
open Go.RowKit
set_option linter.unusedVariables false
set_option linter.unusedSimpArgs false

theorem drop_at {α : Type} (l : List α) (n i : Nat) (d : α) : (l.drop n).getD i d = l.getD (n + i) d := by
  simp [List.getD_eq_getElem?_getD]

theorem map_at {α β : Type} (l : List α) (f : α → β) (i : Nat) (d : β) (d' : α) (h : i < l.length) : (l.map f).getD i d = f (l.getD i d') := by
  simp [List.getD_eq_getElem?_getD, h]

theorem str_at {l : List ByteArray} {i : Nat} {d : D} (h : i < l.length) : (l.map D.str).getD i d = D.str (l.getD i ⟨#[]⟩) := map_at l D.str i d _ h

theorem int_at {l : List Int} {i : Nat} {d : D} (h : i < l.length) : (l.map D.int).getD i d = D.int (l.getD i 0) := map_at l D.int i d _ h

def EqTo {α : Type} (d : α) (a b : List α) (i : Nat) : Prop := ∀ k, k < i → a.getD k d = b.getD k d

theorem eqTo_zero {α : Type} {d : α} {a b : List α} : EqTo d a b 0 := fun k h => absurd h (Nat.not_lt_zero k)

theorem eqTo_next {α : Type} {d : α} {a b : List α} {i : Nat} (h : EqTo d a b i) (e : a.getD i d = b.getD i d) : EqTo d a b (i + 1) := fun k hk => by
  by_cases hi : k = i
  · rw [hi]; exact e
  · exact h k (by omega)

theorem eqTo_all {α : Type} {d : α} {a b : List α} {i : Nat} (h : EqTo d a b i) (hl : a.length = b.length) (hi : a.length ≤ i) : a = b := by
  apply List.ext_getElem hl
  intro k h1 h2
  have := h k (by omega)
  simpa [List.getD_eq_getElem?_getD, h1, h2] using this

theorem getD_mem {α : Type} {l : List α} {i : Nat} (d : α) (h : i < l.length) : l.getD i d ∈ l := by
  simp [List.getD_eq_getElem?_getD, h]

theorem getD_eq {α : Type} {l : List α} {i : Nat} (d : α) (h : i < l.length) : l.getD i d = l[i] := by
  simp [List.getD_eq_getElem?_getD, h]

theorem take_next {α : Type} {l : List α} {i : Nat} (d : α) (h : i < l.length) : l.take (i + 1) = l.take i ++ [l.getD i d] := by
  rw [List.take_succ_eq_append_getElem h, getD_eq d h]

theorem drop_next {α : Type} {l : List α} {i : Nat} (d : α) (h : i < l.length) : l.drop i = l.getD i d :: l.drop (i + 1) := by
  rw [getD_eq d h]; exact List.drop_eq_getElem_cons h

end Go.Proofs.YtdeobicgildamaaGreatDoor

namespace Go.Proofs.YtdeobicgildamaaGreatDoor
open Go.RowKit
set_option linter.unusedVariables false
set_option linter.unusedSimpArgs false

def recC {α : Type} (cs : α → List D) (l : List α) : List D := l.flatMap cs

section
variable {α : Type} {cs : α → List D} {k : Nat}

theorem recC_app (l m : List α) : recC cs (l ++ m) = recC cs l ++ recC cs m := by simp [recC]

theorem recC_len (hk : ∀ x, (cs x).length = k) (l : List α) : (recC cs l).length = l.length * k := by
  induction l with
  | nil => simp [recC]
  | cons x l ih =>
    simp only [recC, List.flatMap_cons, List.length_append, List.length_cons] at ih ⊢
    rw [ih, hk, Nat.succ_mul]
    omega

theorem recC_take (hk : ∀ x, (cs x).length = k) (l : List α) (i : Nat) : (recC cs l).take (i * k) = recC cs (l.take i) := by
  by_cases h : i ≤ l.length
  · have e : recC cs l = recC cs (l.take i) ++ recC cs (l.drop i) := by rw [← recC_app, List.take_append_drop]
    have hl : (recC cs (l.take i)).length = i * k := by rw [recC_len hk, List.length_take, Nat.min_eq_left h]
    rw [e, ← hl, List.take_left']
    rfl
  · have : l.length * k ≤ i * k := Nat.mul_le_mul_right k (by omega)
    rw [List.take_of_length_le (by rw [recC_len hk]; exact this), List.take_of_length_le (by omega)]

theorem recC_drop (hk : ∀ x, (cs x).length = k) (l : List α) (i : Nat) : (recC cs l).drop (i * k) = recC cs (l.drop i) := by
  by_cases h : i ≤ l.length
  · have e : recC cs l = recC cs (l.take i) ++ recC cs (l.drop i) := by rw [← recC_app, List.take_append_drop]
    have hl : (recC cs (l.take i)).length = i * k := by rw [recC_len hk, List.length_take, Nat.min_eq_left h]
    rw [e, ← hl, List.drop_left']
    rfl
  · have : l.length * k ≤ i * k := Nat.mul_le_mul_right k (by omega)
    rw [List.drop_of_length_le (by rw [recC_len hk]; exact this), List.drop_of_length_le (by omega)]
    rfl

theorem recC_at (hk : ∀ x, (cs x).length = k) (z : α) {l : List α} {i : Nat} (h : i < l.length) : ((recC cs l).drop (i * k)).take k = cs (l.getD i z) := by
  rw [recC_drop hk, drop_next z h]
  simp only [recC, List.flatMap_cons]
  rw [List.take_append_of_le_length (by rw [hk]; exact Nat.le_refl k)]
  exact List.take_of_length_le (by rw [hk]; exact Nat.le_refl k)

theorem recC_all (hk : ∀ x, (cs x).length = k) (l : List α) : (recC cs l).take (l.length * k) = recC cs l := by rw [recC_take hk, List.take_length]

theorem recC_raw (hk : ∀ x, (cs x).length = k) (l : List α) : D.ls k l.length (((recC cs l).drop 0).take (l.length * k)) = D.ls k l.length (recC cs l) := by rw [List.drop_zero, recC_all hk]

theorem plains_app : ∀ (a b : List D), plains a → plains b → plains (a ++ b)
  | [], _, _, hb => hb
  | _ :: a, b, ha, hb => ⟨ha.1, plains_app a b ha.2 hb⟩

theorem recC_plains (hp : ∀ x, plains (cs x)) (l : List α) : plains (recC cs l) := by
  induction l with
  | nil => exact trivial
  | cons x l ih => exact plains_app _ _ (hp x) ih

def recM (z : α) (l : List α) (i : Nat) : List α := l.take i ++ List.replicate (l.length - i) z

def tab (f : Nat → α) (n : Nat) : List α := (List.range n).map f

@[simp] theorem tab_len (f : Nat → α) (n : Nat) : (tab f n).length = n := by simp [tab]

def recD (f : Nat → α) (l : List α) (i : Nat) : List α := tab f i ++ l.drop i

def setsL : List α → Nat → List α → List α
  | c, _, [] => c
  | c, o, x :: xs => setsL (c.set o x) (o + 1) xs

end

theorem allR_take {α : Type} (z : α) {l : List α} {i : Nat} {p : α → Bool} (h : (l.take i).all p = true) (hi : i < l.length) (hp : p (l.getD i z) = true) : (l.take (i + 1)).all p = true := by
  rw [take_next z hi, List.all_append, h]
  simpa using hp

theorem allR_not {α : Type} (z : α) {l : List α} {i : Nat} {p : α → Bool} (hi : i < l.length) (hp : p (l.getD i z) = false) : l.all p = false := by
  rw [List.all_eq_false]
  exact ⟨_, getD_mem z hi, by rw [hp]; simp⟩

theorem refsL_app (s : Nat) : ∀ a b : List AV, AV.refsL s (a ++ b) = (AV.refsL s a || AV.refsL s b)
  | [], b => by simp [AV.refsL]
  | x :: a, b => by simp [AV.refsL, refsL_app s a b, Bool.or_assoc]

end Go.Proofs.YtdeobicgildamaaGreatDoor

namespace Go.Proofs.YtdeobicgildamaaGreatDoor
open Go.RowKit
set_option linter.unusedVariables false
set_option linter.unusedSimpArgs false

def inR (n lo hi : Int) : Bool := decide (lo ≤ n) && decide (n ≤ hi)

theorem inR_iff {n lo hi : Int} : inR n lo hi = true ↔ lo ≤ n ∧ n ≤ hi := by simp [inR]

end Go.Proofs.YtdeobicgildamaaGreatDoor

namespace Go.Proofs.YtdeobicgildamaaGreatDoor
open Go.RowKit
set_option linter.unusedVariables false
set_option linter.unusedSimpArgs false

theorem ba_list (a : ByteArray) : (⟨a.data.toList.toArray⟩ : ByteArray) = a := by
  cases a
  simp

theorem ba_ext {a b : ByteArray} (h : a.data.toList = b.data.toList) : a = b := by
  rw [← ba_list a, ← ba_list b, h]

theorem ba_app (a b : ByteArray) : (a ++ b).data.toList = a.data.toList ++ b.data.toList := by
  simp [ByteArray.data_append]

theorem push_at (w : World) (o : Obj) : (w.alloc o).heap[w.heap.size]? = some o := by
  show (w.heap.push o)[w.heap.size]? = _
  simp

end Go.Proofs.YtdeobicgildamaaGreatDoor

namespace Go.Proofs.YtdeobicgildamaaGreatDoor
open Go.RowKit
set_option linter.unusedVariables false
set_option linter.unusedSimpArgs false

theorem glob_int {P : Program} {w : World} {g : Nat} {t : TypeId} {zero : Array Value} (h : w.ShapedOpen P) (hg : g < P.globals.size)
    (h0 : ((begin P (fun _ _ => 0) default).world.heap[g]?).bind Obj.row? = some (zero, t)) (hz : zero.size = 1)
    (hb : P.buildable t = true) (hc : P.cellTypes P.depth t = some [t]) (hu : P.underlying t = some (.int .i64)) : ∃ m, w.cell? ⟨g, 0, none⟩ = some (.int .i64 m) := by
  obtain ⟨cs, hh, hs, hr⟩ := h.1 g zero t hg h0
  obtain ⟨ts, hts, _, hall⟩ := hr hb
  rw [hc] at hts
  cases hts
  have h1 : 0 < cs.size := by omega
  obtain ⟨u, hu', hok⟩ := hall 0 cs[0] (by simp [h1])
  have : u = t := by simpa using hu'.symm
  subst this
  have hcell : w.cell? ⟨g, 0, none⟩ = some cs[0] := by simp [World.cell?, hh, h1]
  rw [hcell]
  unfold Cell.ok at hok
  rw [hu] at hok
  cases hv : cs[0] <;> rw [hv] at hok <;> first
    | (simp at hok; done)
    | (simp at hok
       obtain ⟨rfl, _⟩ := hok
       exact ⟨_, rfl⟩)

theorem glob_shaped {w : World} (h : w.ShapedOpen Tryz.prog) : GlobW w := fun b hb => by
  simp only [globB, List.mem_singleton] at hb
  subst hb
  exact glob_int h (of_decide_eq_true (by kernel_rfl)) (zero := #[.int .i64 0]) (t := 3) (by kernel_rfl) rfl (by kernel_rfl) (by kernel_rfl) Tryz.underlying3

end Go.Proofs.YtdeobicgildamaaGreatDoor
