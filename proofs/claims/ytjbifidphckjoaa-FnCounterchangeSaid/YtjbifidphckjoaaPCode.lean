/- All cells of a box. -/
/- Valid boxes; boxes that overlap. -/
/- Arguments of laws about draws: bytes. -/
import Derived.Test.YtjbifidphckjoaaBox2
import Derived.WalkKit
import Derived.WalkSpells
import Derived.KernelRfl
import Derived.Test.YtjbifidphckjoaaBits
import Derived.Test.YtjbifidphckjoaaLaw
import Derived.Test.YtjbifidphckjoaaCur
import Derived.ProofKit
namespace Go.Proofs.Ytjbifidphckjoaa
open Go.RowKit
set_option linter.unusedVariables false
set_option linter.unusedSimpArgs false

attribute [local go_sem] BoxV.d BoxV.cs boxL

def hXY (p : Int -> Int -> Bool) : List D -> D
 | [.v (.int .i64 x), .v (.int .i64 y)] => .bool (p x y)
 | _ => .bool false

theorem hXY_at {p : Int -> Int -> Bool} {x y : Int} : hXY p [.int x, .int y] = .bool (p x y) := rfl

def isXY (ds : List D) : Prop := ∃ x y : Int, ds = [.int x, .int y] /\ 0 <= x /\ x <= 2000 /\ 0 <= y /\ y <= 2000

def rowB (b : BoxV) (p : Int -> Int -> Bool) (j n : Nat) : Bool := (List.range n).all fun i => p (b.x + i) (b.y + j)

def allB (b : BoxV) (p : Int -> Int -> Bool) (n : Nat) : Bool := (List.range n).all fun j => rowB b p j b.s.toNat

end Go.Proofs.Ytjbifidphckjoaa

namespace Go.Proofs.Ytjbifidphckjoaa
open Go.RowKit
set_option linter.unusedVariables false
set_option linter.unusedSimpArgs false

attribute [local go_sem] BoxV.d BoxV.cs boxL intL

def hasB (b : BoxV) (x y : Int) : Bool := inR (x - b.x) 0 (b.s - 1) && inR (y - b.y) 0 (b.s - 1)

def fullZ : List Int := List.replicate 24 1048575

attribute [local simp] ints_plain ints_all ints_all1

def okBox (b : BoxV) : Bool := inR b.s 1 8 && inR b.x 0 19 && inR b.y 0 23 && allB b inSh b.s.toNat

end Go.Proofs.Ytjbifidphckjoaa

namespace Go.Proofs.Ytjbifidphckjoaa
open Go.ChangeShapes Go.WideShapes Go.ChangeAt Go.RowKit
set_option linter.unusedVariables false
set_option linter.unusedSimpArgs false

theorem bytes_es : ∀ es : List (List D), (∀ e ∈ es, HasSh .u8 e) -> ∃ bs : List Int, bs.length = es.length /\ bs.map byD = es.flatten /\ ∀ x ∈ bs, 0 <= x /\ x <= 255
 | [], _ => ⟨[], rfl, rfl, fun x hx => by cases hx⟩
 | e :: es, h => by
  have h0 := h e (by simp)
  rw [HasSh.eq_def] at h0
  obtain ⟨n, hn, hn2⟩ := h0
  obtain ⟨bs, h1, h2, h3⟩ := bytes_es es fun e he => h e (by simp [he])
  refine ⟨n :: bs, by simp [h1], ?_, ?_⟩
  ·
   rw [List.map_cons, List.flatten_cons, h2, hn]
   rfl
  ·
   intro x hx
   rcases List.mem_cons.1 hx with rfl | hx
   · exact hn2
   · exact h3 x hx

theorem bytes_of {d : D} (h : ArgSh (.sl .u8) d) : ∃ bs : List Int, d = codL bs /\ (∀ x ∈ bs, 0 <= x /\ x <= 255) /\ bs.length <= 9223372036854775807 := by
 simp only [ArgSh] at h
 rw [HasSh.eq_def] at h
 obtain ⟨es, h1, h2, h3⟩ := h
 obtain ⟨bs, k1, k2, k3⟩ := bytes_es es h2
 refine ⟨bs, ?_, k3, by omega⟩
 rw [(List.cons.inj h1).1, codL, k1, k2]
 rfl

end Go.Proofs.Ytjbifidphckjoaa
