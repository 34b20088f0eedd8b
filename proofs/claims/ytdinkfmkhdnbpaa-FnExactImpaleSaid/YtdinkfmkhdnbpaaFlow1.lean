/- An abstract view of a frame: data that a value reads as, and a frame's own objects. -/
import Derived.WalkKit
import Derived.WalkSpells
namespace Go.Proofs.Ytdinkfmkhdnbpaa
open Go.RowKit
set_option linter.unusedVariables false
set_option linter.unusedSimpArgs false

/-- Data as a call hands it over or gives it back: a value that is known outright, a struct or array (its cells in a row), a slice (k cells an element, n elements), a tuple, a pointer to cells that are only read. -/
inductive D where
  | v (x : Value)
  | ag (cs : List D)
  | ls (k n : Nat) (cs : List D)
  | tu (cs : List D)
  | pt (cs : List D)
  deriving Inhabited

abbrev D.int (n : Int) : D := .v (.int .i64 n)

abbrev D.bool (b : Bool) : D := .v (.bool b)

abbrev D.str (s : ByteArray) : D := .v (.string s)

abbrev D.ints (zs : List Int) : D := .ls 1 zs.length (zs.map D.int)

/-- Values of one cell each. -/
def Ones (xs : List Value) : Prop := ∀ x ∈ xs, x.oneCell' = true

/-- Block b holds, from cell off on, the values xs. 'o': the block is nobody else's, and has cells up to off + ext. -/
def Row (w : World) (o : Bool) (b off : Nat) (xs : List Value) (ext : Nat) : Prop :=
  Ones xs ∧ ∃ c T fz, w.heap[b]? = some (.cells c T fz) ∧ (∀ i, i < xs.length → c[off + i]? = xs[i]?) ∧ (o = true → fz = (0, 0) ∧ off + ext ≤ c.size)

mutual
/-- In the world w the value y reads as the data d; bs: the blocks that are met. -/
def RD (w : World) (o : Bool) : D → Value → List Nat → Prop
  | .v x, y, bs => y = x ∧ bs = []
  | .ag cs, y, bs => ∃ xs : List Value, y = .agg xs.toArray ∧ Ones xs ∧ RDs w o cs xs bs
  | .tu cs, y, bs => ∃ xs : List Value, y = .tuple xs.toArray ∧ RDs w o cs xs bs
  | .ls k n cs, y, bs => (∃ a c, y = .slice a 0 c ∧ (o = true → a = none ∧ c = 0) ∧ n = 0 ∧ cs = [] ∧ bs = []) ∨
      ∃ b off cap xs bs', y = .slice (some ⟨b, off, none⟩) n cap ∧ bs = b :: bs' ∧ n * k = cs.length ∧ n ≤ cap ∧ Row w o b off xs (cap * k) ∧ RDs w o cs xs bs'
  | .pt cs, y, bs => ∃ b off xs bs', y = .pointer (some ⟨b, off, none⟩) ∧ bs = b :: bs' ∧ Row w o b off xs cs.length ∧ RDs w o cs xs bs'
def RDs (w : World) (o : Bool) : List D → List Value → List Nat → Prop
  | [], xs, bs => xs = [] ∧ bs = []
  | d :: ds, xs, bs => ∃ x xs' b1 b2, xs = x :: xs' ∧ bs = b1 ++ b2 ∧ RD w o d x b1 ∧ RDs w o ds xs' b2
end

/-- What a slot of a frame holds: data; a pointer to cell o of the frame's own object s; a slice over the frame's own object s; a struct whose cells are such; a function that is known by what it gives back; a function known outright; nothing that is known. -/
inductive AV where
  | d (x : D)
  | bp (s o : Nat)
  | bs (s off n k : Nat)
  | ag (cs : List AV)
  | tu (cs : List AV)
  | fn (dom : List D → Prop) (h : List D → D)
  | fc (f : FuncId) (first captured : List AV)
  | un

/-- What an own object holds: data alone (the list may be an open term), or cells of whatever kind. -/
inductive OB where
  | ds (cs : List D)
  | av (cs : List AV)
  | dead

structure St where
  n : Nat
  sl : List (Nat × AV)
  ob : List (Nat × OB)

def look : List (Nat × AV) → Nat → AV
  | [], _ => .un
  | (k, x) :: r, t => if k = t then x else look r t

def put : List (Nat × AV) → Nat → AV → List (Nat × AV)
  | [], t, x => [(t, x)]
  | (k, y) :: r, t, x => if k = t then (t, x) :: r else (k, y) :: put r t x

def lookO : List (Nat × OB) → Nat → Option OB
  | [], _ => none
  | (k, x) :: r, t => if k = t then (match x with | .dead => none | x => some x) else lookO r t

def putO : List (Nat × OB) → Nat → OB → List (Nat × OB)
  | [], t, x => [(t, x)]
  | (k, y) :: r, t, x => if k = t then (t, x) :: r else (k, y) :: putO r t x

def delO : List (Nat × OB) → Nat → List (Nat × OB)
  | [], _ => []
  | (k, y) :: r, t => if k = t then (k, .dead) :: delO r t else (k, y) :: delO r t

mutual
def AV.refs (s : Nat) : AV → Bool
  | .bp t _ => t == s
  | .bs t _ _ _ => t == s
  | .ag cs => AV.refsL s cs
  | .tu cs => AV.refsL s cs
  | .fc _ a b => AV.refsL s a || AV.refsL s b
  | _ => false
def AV.refsL (s : Nat) : List AV → Bool
  | [] => false
  | x :: r => x.refs s || AV.refsL s r
end

def OB.refs (s : Nat) : OB → Bool
  | .av cs => AV.refsL s cs
  | _ => false

/-- Whatever names the object s is forgotten. -/
def killS (s : Nat) : List (Nat × AV) → List (Nat × AV)
  | [] => []
  | (k, x) :: r => (k, if x.refs s then .un else x) :: killS s r

def killO (s : Nat) : List (Nat × OB) → List (Nat × OB)
  | [] => []
  | (k, x) :: r => if k = s then killO s r else (k, if x.refs s then .dead else x) :: killO s r

def St.get (σ : St) (t : Nat) : AV := look σ.sl t

def St.ev (σ : St) : Operand → AV
  | .tmp t => look σ.sl t
  | .const x => .d (.v x)
  | .func f => .fc f [] []
  | .global _ => .un

def St.put (σ : St) (t : Nat) (x : AV) : St := { σ with sl := Go.Proofs.Ytdinkfmkhdnbpaa.put σ.sl t x }

def St.puto (σ : St) (t : Option Nat) (x : AV) : St := match t with | some t => σ.put t x | none => σ

/-- A new object under the name s, what named an older one of that name forgotten; slot s then holds x. -/
def St.new (σ : St) (s : Nat) (o : OB) (x : AV) : St := { n := σ.n, sl := Go.Proofs.Ytdinkfmkhdnbpaa.put (killS s σ.sl) s x, ob := (s, o) :: killO s σ.ob }

def allD : List AV → Option (List D)
  | [] => some []
  | .d x :: r => (allD r).map (x :: ·)
  | _ :: _ => none

/-- Cells in a row as one value. -/
def AV.pack (cs : List AV) : AV := match allD cs with | some ds => .d (.ag ds) | none => .ag cs

/-- It is a value of one cell. -/
def AV.one (ob : List (Nat × OB)) : AV → Bool
  | .d (.v x) => x.oneCell'
  | .d (.ls _ _ _) | .d (.pt _) => true
  | .bp s _ | .bs s _ _ _ => (lookO ob s).isSome
  | .fc _ _ _ | .fn _ _ => true
  | _ => false

/-- A value's cells. -/
def AV.split (ob : List (Nat × OB)) (x : AV) : Option (List AV) := match x with
  | .d (.ag ds) => some (ds.map AV.d)
  | .ag cs => some cs
  | x => if x.one ob then some [x] else none

end Go.Proofs.Ytdinkfmkhdnbpaa
