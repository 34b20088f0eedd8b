/- What a call promises, and what a region does, seen through the abstract view. -/
import Derived.Test.YtdinkfmkhdnbpaaFlow2
import Derived.WalkKit
import Derived.WalkSpells
namespace Go.Proofs.Ytdinkfmkhdnbpaa
open Go.RowKit
set_option linter.unusedVariables false
set_option linter.unusedSimpArgs false

/-- What a call hands over: data, or a function that is known by what it gives back. -/
inductive CV where
  | d (x : D)
  | fn (dom : List D → Prop) (h : List D → D)

/-- There is such a function, with a body. -/
def FnOk (P : Program) (g : FuncId) : Prop := ∃ fn, P.funcs[g]? = some fn ∧ fn.body.isSome = true ∧ (fn.name == "runtime.NumGoroutine") = false

/-- The blocks of S are as they were; no block has gone. -/
structure Keep (S : Nat → Prop) (w w' : World) : Prop where
  os : w'.os = w.os
  tape : w'.tape = w.tape
  output : w'.output = w.output
  size : w.heap.size ≤ w'.heap.size
  block : ∀ k, S k → w'.heap[k]? = w.heap[k]?

theorem Keep.refl (S : Nat → Prop) (w : World) : Keep S w w := ⟨rfl, rfl, rfl, Nat.le_refl _, fun _ _ => rfl⟩

theorem Keep.trans {S : Nat → Prop} {w w' w'' : World} (h : Keep S w w') (h' : Keep S w' w'') : Keep S w w'' :=
  ⟨h'.os.trans h.os, h'.tape.trans h.tape, h'.output.trans h.output, Nat.le_trans h.size h'.size, fun k hk => (h'.block k hk).trans (h.block k hk)⟩

theorem Keep.sub {S S' : Nat → Prop} {w w' : World} (h : Keep S w w') (hs : ∀ k, S' k → S k) : Keep S' w w' := ⟨h.os, h.tape, h.output, h.size, fun k hk => h.block k (hs k hk)⟩

theorem keep_below {S : Nat → Prop} {n : Nat} {w w' : World} (h : Below n w w') (hs : ∀ k, S k → k < n) : Keep S w w' := ⟨h.os, h.tape, h.output, h.size, fun k hk => h.block k (hs k hk)⟩

theorem Keep.below {n : Nat} {w w' : World} (h : Keep (· < n) w w') : Below n w w' := ⟨h.os, h.tape, h.output, h.size, h.block⟩

/-- The value y of function type: called with data of the domain, in whatever later world in which the blocks of S are as they were, it gives back data and turns nothing that was there. -/
def RF (P : Program) (S : Nat → Prop) (w : World) (y : Value) (dom : List D → Prop) (h : List D → D) : Prop :=
  ∃ g first cap, y = .func (.func g) first cap ∧ FnOk P g ∧
    ∀ w' ds vs bs, Keep S w w' → dom ds → RDs w' false ds vs bs → (∀ b ∈ bs, b < w'.heap.size) →
      Calls P g (first ++ vs.toArray ++ cap) w' fun e w'' => ∃ r bs', e = .returned r ∧ Below w'.heap.size w' w'' ∧ RD w'' true (h ds) r bs' ∧ bs'.Nodup ∧ ∀ b ∈ bs', w'.heap.size ≤ b

def RC (P : Program) (w : World) : CV → Value → Prop
  | .d x, y => ∃ bs, RD w false x y bs ∧ ∀ b ∈ bs, b < w.heap.size
  | .fn dom h, y => RF P (· < w.heap.size) w y dom h

def RCs (P : Program) (w : World) : List CV → List Value → Prop
  | [], vs => vs = []
  | c :: cs, vs => ∃ v vs', vs = v :: vs' ∧ RC P w c v ∧ RCs P w cs vs'

/-- THE CONTRACT OF A FUNCTION THAT LEAVES ALL MEMORY ALONE: called with values that read as 'args' it gives back a value that reads as 'res', in memory of its own, each block met once. -/
def Fn (P : Program) (f : FuncId) (args : List CV) (res : D) : Prop :=
  FnOk P f ∧ ∀ w vs, RCs P w args vs → Calls P f vs.toArray w fun e w' => ∃ r bs, e = .returned r ∧ Below w.heap.size w w' ∧ RD w' true res r bs ∧ bs.Nodup ∧ ∀ b ∈ bs, w.heap.size ≤ b

/-- The same, but what comes back may lie in the arguments' memory. -/
def FnA (P : Program) (f : FuncId) (args : List CV) (res : D) : Prop :=
  FnOk P f ∧ ∀ w vs, RCs P w args vs → Calls P f vs.toArray w fun e w' => ∃ r bs, e = .returned r ∧ Below w.heap.size w w' ∧ RD w' false res r bs ∧ ∀ b ∈ bs, b < w'.heap.size

/-- A contract over data alone. -/
def FnD (P : Program) (f : FuncId) (args : List D) (res : D) : Prop := Fn P f (args.map CV.d) res

/-- Where the frame's own objects lie: block and first cell. -/
abbrev Loc := Nat → Option (Nat × Nat)

/-- What a frame has to heed: the world in which it began, the blocks that must stay as they are, those that data may lie in, where the names from the frame's size on lay. -/
structure Env where
  w : World
  S : Nat → Prop
  D : Nat → Prop
  ν : Loc
  n : Nat := 0

def AvoidB (ob : List (Nat × OB)) (ν : Loc) (b : Nat) : Prop := ∀ s o, lookO ob s = some o → ∀ x, ν s = some x → x.1 ≠ b

mutual
/-- In the world w the value y is what x says. -/
def VR (P : Program) (w0 : Env) (w : World) (ob : List (Nat × OB)) (ν : Loc) : AV → Value → Prop
  | .d x, y => ∃ bs, RD w false x y bs ∧ ∀ b ∈ bs, b < w.heap.size ∧ AvoidB ob ν b ∧ w0.D b
  | .bp s o, y => (lookO ob s).isSome = true → ∃ b base, ν s = some (b, base) ∧ y = .pointer (some ⟨b, base + o, none⟩)
  | .bs s off n k, y => (lookO ob s).isSome = true → (∀ o, lookO ob s = some o → off + n * k ≤ (obCells o).length) ∧ ((ν s = none ∧ y = .slice none 0 0 ∧ n = 0 ∧ off = 0) ∨
      ∃ b base cap a c T, ν s = some (b, base) ∧ y = .slice (some a) n cap ∧ n ≤ cap ∧ ((cap = 0 ∧ ∃ x, x ≤ c.size ∧ a = ⟨b, x, none⟩) ∨ a = ⟨b, base + off, none⟩) ∧ w.heap[b]? = some (.cells c T (0, 0)) ∧ base + off + cap * k ≤ c.size)
  | .ag cs, y => ∃ xs : List Value, y = .agg xs.toArray ∧ Ones xs ∧ VRs P w0 w ob ν cs xs
  | .tu cs, y => ∃ xs : List Value, y = .tuple xs.toArray ∧ VRs P w0 w ob ν cs xs
  | .fn dom h, y => RF P w0.S w0.w y dom h
  | .fc g a b, y => ∃ xs ys : List Value, y = .func (.func g) xs.toArray ys.toArray ∧ VRs P w0 w ob ν a xs ∧ VRs P w0 w ob ν b ys
  | .un, _ => True
def VRs (P : Program) (w0 : Env) (w : World) (ob : List (Nat × OB)) (ν : Loc) : List AV → List Value → Prop
  | [], ys => ys = []
  | x :: xs, ys => ∃ y ys', ys = y :: ys' ∧ VR P w0 w ob ν x y ∧ VRs P w0 w ob ν xs ys'
end

/-- An own object lies in memory as the view says. -/
def OR (P : Program) (w0 : Env) (w : World) (ob : List (Nat × OB)) (ν : Loc) (s : Nat) (o : OB) : Prop :=
  (ν s = none ∧ obCells o = []) ∨
  ∃ b base c T xs, ν s = some (b, base) ∧ (¬ w0.S b ∧ w0.D b) ∧ w.heap[b]? = some (.cells c T (0, 0)) ∧ (∀ i, i < xs.length → c[base + i]? = xs[i]?) ∧ Ones xs ∧ VRs P w0 w ob ν (obCells o) xs

/-- Blocks of cells are blocks of as many cells. -/
def Rows (w w' : World) : Prop := ∀ (b : Nat) (c : Array Value) (T : TypeId), w.heap[b]? = some (.cells c T (0, 0)) → ∃ (c' : Array Value) (T' : TypeId), w'.heap[b]? = some (.cells c' T' (0, 0)) ∧ c'.size = c.size

theorem Rows.refl (w : World) : Rows w w := fun _ c T h => ⟨c, T, h, rfl⟩

theorem Rows.trans {w w' w'' : World} (h : Rows w w') (h' : Rows w' w'') : Rows w w'' := fun b c T e => by
  obtain ⟨c1, T1, e1, s1⟩ := h b c T e
  obtain ⟨c2, T2, e2, s2⟩ := h' b c1 T1 e1
  exact ⟨c2, T2, e2, s2.trans s1⟩

/-- The frame's own objects, in memory. -/
structure Mem (P : Program) (w0 : Env) (w : World) (ob : List (Nat × OB)) (ν : Loc) : Prop where
  objs : ∀ s o, lookO ob s = some o → OR P w0 w ob ν s o
  inj : ∀ s s' o o' x x', s ≠ s' → lookO ob s = some o → lookO ob s' = some o' → ν s = some x → ν s' = some x' → x.1 ≠ x'.1

structure Sim (P : Program) (w0 : Env) (σ : St) (ν : Loc) (a : Act) (w : World) : Prop extends Mem P w0 w σ.ob ν where
  below : Keep w0.S w0.w w
  rows : Rows w0.w w
  lt : ∀ b, w0.S b → b < w0.w.heap.size
  fresh : ∀ b, w0.w.heap.size ≤ b → w0.D b
  le : σ.n ≤ w0.n
  stab : ∀ s, w0.n ≤ s → ν s = w0.ν s
  defers : a.defers = []
  size : a.tmps.size = σ.n
  slots : ∀ t, VR P w0 w σ.ob ν (look σ.sl t) (a.tmps.getD t undef)

def SubS (sl : List (Nat × AV)) : List (Nat × AV) → Prop
  | [] => True
  | (t, x) :: r => look sl t = x ∧ SubS sl r

def SubO (ob : List (Nat × OB)) : List (Nat × OB) → Prop
  | [] => True
  | (s, o) :: r => lookO ob s = some o ∧ SubO ob r

/-- THE CONTRACT OF A FUNCTION THAT IS HANDED OBJECTS: it may change them, and no block else of those that were there; those that live on lie where they lay and have as many cells. -/
def FnS (P : Program) (g : FuncId) (ob : List (Nat × OB)) (args : List AV) (ob' : List (Nat × OB)) (res : AV) : Prop :=
  FnOk P g ∧ ∀ (w : World) (ν : Loc) (Dt : Nat → Prop) (vs : List Value), (∀ b, w.heap.size ≤ b → Dt b) →
    Mem P ⟨w, fun b => b < w.heap.size ∧ AvoidB ob ν b, Dt, ν, 0⟩ w ob ν → VRs P ⟨w, fun b => b < w.heap.size ∧ AvoidB ob ν b, Dt, ν, 0⟩ w ob ν args vs →
    Calls P g vs.toArray w fun e w' => ∃ r ν', e = .returned r ∧ Keep (fun b => b < w.heap.size ∧ AvoidB ob ν b) w w' ∧ Rows w w' ∧
      Mem P ⟨w, fun b => b < w.heap.size ∧ AvoidB ob ν b, Dt, ν, 0⟩ w' ob' ν' ∧ VR P ⟨w, fun b => b < w.heap.size ∧ AvoidB ob ν b, Dt, ν, 0⟩ w' ob' ν' res r ∧
      ∀ s o o', lookO ob s = some o → lookO ob' s = some o' → ν' s = ν s ∧ (obCells o').length = (obCells o).length

mutual
/-- It names no memory. -/
def D.plain : D → Prop
  | .v _ => True
  | .ag cs => plains cs
  | .tu cs => plains cs
  | .ls _ _ _ => False
  | .pt _ => False
def plains : List D → Prop
  | [] => True
  | d :: ds => d.plain ∧ plains ds
end

mutual
/-- The data in it names no memory. -/
def AV.plain : AV → Prop
  | .d x => x.plain
  | .ag cs => AV.plains cs
  | .tu cs => AV.plains cs
  | .fc _ a b => AV.plains a ∧ AV.plains b
  | _ => True
def AV.plains : List AV → Prop
  | [] => True
  | x :: r => x.plain ∧ AV.plains r
end

def OB.plain : OB → Prop
  | .ds cs => Go.Proofs.Ytdinkfmkhdnbpaa.plains cs
  | .av cs => AV.plains cs
  | .dead => True

def plainOs : List (Nat × OB) → Prop
  | [] => True
  | (_, o) :: r => o.plain ∧ plainOs r

/-- A function value as an argument: a closure over data. -/
def FcIs (P : Program) (σ : St) (g : FuncId) (first cap : List AV) (dom : List D → Prop) (h : List D → D) : Prop :=
  FnOk P g ∧ ∃ fs cs, mapD (toD σ.ob 4) first = some fs ∧ mapD (toD σ.ob 4) cap = some cs ∧ ∀ ds, dom ds → FnD P g (fs ++ ds ++ cs) (h ds)

def ArgIs (P : Program) (σ : St) : AV → CV → Prop
  | .fn dom h, .fn dom' h' => dom = dom' ∧ h = h'
  | .fc g first cap, .fn dom h => FcIs P σ g first cap dom h
  | x, .d y => toD σ.ob 4 x = some y
  | _, _ => False

def ArgsAre (P : Program) (σ : St) : List AV → List CV → Prop
  | [], cs => cs = []
  | x :: xs, cs => ∃ c cs', cs = c :: cs' ∧ ArgIs P σ x c ∧ ArgsAre P σ xs cs'

/-- A result is taken over: a slice that came back is an object of the frame's own from now on. -/
def adoptL (s : Nat) : List D → List AV × Option (List D)
  | [] => ([], none)
  | .ls k n cs :: r => (.bs s 0 n k :: r.map AV.d, some cs)
  | x :: r => let (a, o) := adoptL s r; (.d x :: a, o)

def St.adopt (σ : St) (dst : Option Nat) (r : D) : St := match dst with
  | none => σ
  | some s => match r with
    | .ls k n cs => σ.new s (.ds cs) (.bs s 0 n k)
    | .ag ds => match adoptL s ds with
      | (as, some cs) => σ.new s (.ds cs) (.ag as)
      | (_, none) => σ.put s (.d (.ag ds))
    | .tu ds => match adoptL s ds with
      | (as, some cs) => σ.new s (.ds cs) (.tu as)
      | (_, none) => σ.put s (.d (.tu ds))
    | x => σ.put s (.d x)

/-- Objects are handed over: those of these names are no more the frame's. -/
def killN (s : Nat) : List (Nat × OB) → List (Nat × OB)
  | [] => []
  | (k, x) :: r => if k = s then killN s r else (k, x) :: killN s r

def dropO (ob : List (Nat × OB)) : List (Nat × OB) → List (Nat × OB)
  | [] => ob
  | (s, _) :: r => dropO (killN s ob) r

/-- The names that come up. -/
def newN (ob : List (Nat × OB)) : List (Nat × OB) → List Nat
  | [] => []
  | (s, _) :: r => match lookO ob s with | some _ => newN ob r | none => s :: newN ob r

def killSs : List Nat → List (Nat × AV) → List (Nat × AV)
  | [], sl => sl
  | s :: r, sl => killSs r (killS s sl)

def killOs : List Nat → List (Nat × OB) → List (Nat × OB)
  | [], ob => ob
  | s :: r, ob => killOs r (killO s ob)

/-- Behind a call that was handed the objects ob and left ob'. -/
def St.after (σ : St) (ob ob' : List (Nat × OB)) (dst : Option Nat) (res : AV) : St :=
  St.puto { n := σ.n, sl := killSs (newN ob ob') σ.sl, ob := ob' ++ killOs (newN ob ob') (dropO σ.ob ob) } dst res

mutual
/-- No function in it is known by what it gives back alone. -/
def AV.nofn : AV → Bool
  | .fn _ _ => false
  | .ag cs => AV.nofns cs
  | .tu cs => AV.nofns cs
  | .fc _ a b => AV.nofns a && AV.nofns b
  | _ => true
def AV.nofns : List AV → Bool
  | [] => true
  | x :: r => x.nofn && AV.nofns r
end

/-- Nothing that is handed back names an object that was not handed over. -/
def apartO (rest ob' : List (Nat × OB)) (res : AV) : Bool := match rest with
  | [] => ob'.all (fun p => AV.nofns (obCells p.2)) && res.nofn
  | (t, _) :: r => ob'.all (fun p => !AV.refsL t (obCells p.2)) && !res.refs t && apartO r ob' res

def ltAll (n : Nat) : List Nat → Bool
  | [] => true
  | s :: r => decide (s < n) && ltAll n r

/-- Arguments of a call that is handed objects: as the contract has them, or (β) data that the frame's other objects read as. -/
def ArgS (σ : St) (ob : List (Nat × OB)) (β : Bool) (x c : AV) : Prop := x = c ∨ (β = true ∧ ∃ y, c = .d y ∧ toD (dropO σ.ob ob) 4 x = some y)

def ArgsS (σ : St) (ob : List (Nat × OB)) (β : Bool) : List AV → List AV → Prop
  | [], cs => cs = []
  | x :: xs, cs => ∃ c cs', cs = c :: cs' ∧ ArgS σ ob β x c ∧ ArgsS σ ob β xs cs'

/-- A call that is handed objects, by a contract. -/
def CallS (P : Program) (σ : St) (dst : Option Nat) (g : FuncId) (as : List AV) (K : St → Prop) : Prop :=
  ∃ ob cas ob' res β, FnS P g ob cas ob' res ∧ ArgsS σ ob β as cas ∧ (β = true → plainOs ob' ∧ res.plain) ∧ SubO σ.ob ob ∧ ltAll σ.n (newN ob ob') = true ∧
    apartO (dropO σ.ob ob) ob' res = true ∧ K (σ.after ob ob' dst res)

mutual
/-- Data whose every list has a name of its own. -/
def Opn : D → AV → List (Nat × OB) → Prop
  | .v x, a, os => a = .d (.v x) ∧ os = []
  | .ag cs, a, os => (plains cs ∧ a = .d (.ag cs) ∧ os = []) ∨ ∃ as, a = .ag as ∧ OpnL cs as os
  | .tu cs, a, os => (plains cs ∧ a = .d (.tu cs) ∧ os = []) ∨ ∃ as, a = .tu as ∧ OpnL cs as os
  | .ls k n cs, a, os => ∃ s, a = .bs s 0 n k ∧ ((plains cs ∧ os = [(s, .ds cs)]) ∨ ∃ as os', os = (s, .av as) :: os' ∧ OpnL cs as os' ∧ ∀ p ∈ os', p.1 ≠ s)
  | .pt _, _, _ => False
def OpnL : List D → List AV → List (Nat × OB) → Prop
  | [], as, os => as = [] ∧ os = []
  | d :: ds, as, os => ∃ a as' o1 o2, as = a :: as' ∧ os = o1 ++ o2 ∧ Opn d a o1 ∧ OpnL ds as' o2 ∧ ∀ p ∈ o1, ∀ q ∈ o2, p.1 ≠ q.1
end

/-- A call of a function that only reads; what it gives back is taken over whole. -/
def CallN (P : Program) (σ : St) (dst : Option Nat) (g : FuncId) (as : List AV) (K : St → Prop) : Prop :=
  ∃ ds r res os, FnD P g ds r ∧ mapD (toD σ.ob 4) as = some ds ∧ Opn r res os ∧ ltAll σ.n (newN [] os) = true ∧ apartO σ.ob os res = true ∧ K (σ.after [] os dst res)

/-- A call, by a contract (q: it must turn nothing that was there). -/
def CallOk (P : Program) (q : Bool) (σ : St) (dst : Option Nat) (f : AV) (args : List AV) (K : St → Prop) : Prop :=
  match f with
  | .fc g first cap => (∃ cvs r, ArgsAre P σ (first ++ args ++ cap) cvs ∧ Fn P g cvs r ∧ K (σ.adopt dst r)) ∨ (q = false ∧ CallS P σ dst g (first ++ args ++ cap) K) ∨ CallN P σ dst g (first ++ args ++ cap) K
  | .fn dom h => ∃ ds, mapD (toD σ.ob 4) args = some ds ∧ dom ds ∧ K (σ.adopt dst (h ds))
  | _ => False

/-- One operation other than a call of a function. -/
def stepOp (P : Program) (σ : St) (dst : Option Nat) (op : Op) : Option (Prop × St) :=
  match actOp P σ dst op with
  | some x => some x
  | none => match pureOp P σ op with
    | some (p, x) => some (p, σ.puto dst x)
    | none => none

/-- What stands in the temporary of operation j. -/
def guardOf (ops : List Oper) (σ : St) (j : Nat) : AV := match ops[j]? with
  | some o => match o.dst with | some t => look σ.sl t | none => .un
  | none => .un

def opOk (P : Program) (q : Bool) (o : Oper) (σ : St) (K : St → Prop) : Prop :=
  match o.op with
  | .call { callee := .value f, args := args, argTypes := _ } => CallOk P q σ o.dst (σ.ev f) (args.toList.map σ.ev) K
  | op => match stepOp P σ o.dst op with
    | some (p, σ') => p ∧ K σ'
    | none => False

/-- A region, in the order of the text. -/
def Run (P : Program) (q : Bool) (ops : List Oper) : List Oper → St → (St → Prop) → Prop
  | [], σ, K => K σ
  | o :: l, σ, K => match o.guard with
    | none => opOk P q o σ fun σ' => Run P q ops l σ' K
    | some (j, want) => match guardOf ops σ j with
      | .d (.v (.bool c)) => if c = want then opOk P q o σ fun σ' => Run P q ops l σ' K else Run P q ops l (σ.puto o.dst (.d (.v undef))) K
      | .d (.v (.tuple _)) => Run P q ops l (σ.puto o.dst (.d (.v undef))) K
      | _ => False

/-- The rest of a region, not looked into yet. -/
def RunK (P : Program) (q : Bool) (ops l : List Oper) (K : St → Prop) (σ : St) : Prop := Run P q ops l σ K

def Next (P : Program) (q : Bool) (ops l : List Oper) (K : St → Prop) : Option (Prop × St) → Prop
  | some (p, σ') => p ∧ Run P q ops l σ' K
  | none => False

def Guard (P : Program) (q : Bool) (ops : List Oper) (o : Oper) (l : List Oper) (σ : St) (K : St → Prop) (want : Bool) (g : AV) : Prop :=
  match g with
  | .d (.v (.bool c)) => if c = want then opOk P q o σ fun σ' => Run P q ops l σ' K else Run P q ops l (σ.puto o.dst (.d (.v undef))) K
  | .d (.v (.tuple _)) => Run P q ops l (σ.puto o.dst (.d (.v undef))) K
  | _ => False

section
variable {P : Program} {q : Bool} {ops l : List Oper} {σ : St} {K : St → Prop} {dst : Option Nat} {ty : TypeId} {pos : String} {after : Array Edge}

theorem rn_nil : Run P q ops [] σ K = K σ := rfl

theorem rn_guard {j : Nat} {want : Bool} {op : Op} : Run P q ops (⟨dst, op, ty, pos, after, some (j, want)⟩ :: l) σ K = Guard P q ops ⟨dst, op, ty, pos, after, none⟩ l σ K want (guardOf ops σ j) := rfl

theorem guard_tt {o : Oper} (ho : o.guard = none) : Guard P q ops o l σ K true (.d (.v (.bool true))) = Run P q ops (o :: l) σ K := by
  simp only [Guard, Run, ho, if_true]

theorem guard_ff {o : Oper} (ho : o.guard = none) : Guard P q ops o l σ K false (.d (.v (.bool false))) = Run P q ops (o :: l) σ K := by
  simp only [Guard, Run, ho, if_true]

theorem guard_tf {o : Oper} : Guard P q ops o l σ K true (.d (.v (.bool false))) = Run P q ops l (σ.puto o.dst (.d (.v undef))) K := by
  simp [Guard]

theorem guard_ft {o : Oper} : Guard P q ops o l σ K false (.d (.v (.bool true))) = Run P q ops l (σ.puto o.dst (.d (.v undef))) K := by
  simp [Guard]

theorem guard_un {o : Oper} {want : Bool} {vs : Array Value} : Guard P q ops o l σ K want (.d (.v (.tuple vs))) = Run P q ops l (σ.puto o.dst (.d (.v undef))) K := rfl

theorem guard_split {o : Oper} {want c : Bool} (h1 : c = true → Guard P q ops o l σ K want (.d (.v (.bool true)))) (h2 : c = false → Guard P q ops o l σ K want (.d (.v (.bool false)))) : Guard P q ops o l σ K want (.d (.v (.bool c))) := by
  cases c
  · exact h2 rfl
  · exact h1 rfl

theorem next_some {p : Prop} {σ' : St} : Next P q ops l K (some (p, σ')) = (p ∧ Run P q ops l σ' K) := rfl

theorem rn_call {f : Operand} {args : Array Operand} {ts : Array TypeId} : Run P q ops (⟨dst, .call ⟨.value f, args, ts⟩, ty, pos, after, none⟩ :: l) σ K = CallOk P q σ dst (σ.ev f) (args.toList.map σ.ev) (RunK P q ops l K) := rfl

theorem rn_step {op : Op} (h : ∀ c, op ≠ .call c) : Run P q ops (⟨dst, op, ty, pos, after, none⟩ :: l) σ K = Next P q ops l K (stepOp P σ dst op) := by
  cases op <;> first | rfl | exact absurd rfl (h _)

theorem rn_move {x : Operand} : Run P q ops (⟨dst, .move x, ty, pos, after, none⟩ :: l) σ K = Run P q ops l (σ.puto dst (σ.ev x)) K := (rn_step (fun _ h => by cases h)).trans (by simp [stepOp, actOp, pureOp, Next])

theorem rn_assign {x : Operand} : Run P q ops (⟨dst, .assign x, ty, pos, after, none⟩ :: l) σ K = Run P q ops l (σ.puto dst (σ.ev x)) K := (rn_step (fun _ h => by cases h)).trans (by simp [stepOp, actOp, pureOp, Next])

theorem rn_pick {c a b : Operand} : Run P q ops (⟨dst, .pick c a b, ty, pos, after, none⟩ :: l) σ K = Next P q ops l K (stepOp P σ dst (.pick c a b)) := rn_step (fun _ h => by cases h)

theorem rn_alloc {t : TypeId} : Run P q ops (⟨dst, .alloc t, ty, pos, after, none⟩ :: l) σ K = Next P q ops l K (stepOp P σ dst (.alloc t)) := rn_step (fun _ h => by cases h)

theorem rn_box {t : TypeId} {x : Operand} : Run P q ops (⟨dst, .box t x, ty, pos, after, none⟩ :: l) σ K = Next P q ops l K (stepOp P σ dst (.box t x)) := rn_step (fun _ h => by cases h)

theorem rn_buildSlice {t : TypeId} {n : Nat} {x : Array (Nat × Operand)} : Run P q ops (⟨dst, .buildSlice t n x, ty, pos, after, none⟩ :: l) σ K = Next P q ops l K (stepOp P σ dst (.buildSlice t n x)) := rn_step (fun _ h => by cases h)

theorem rn_load {t : TypeId} {x : Operand} : Run P q ops (⟨dst, .load t x, ty, pos, after, none⟩ :: l) σ K = Next P q ops l K (stepOp P σ dst (.load t x)) := rn_step (fun _ h => by cases h)

theorem rn_store {t : TypeId} {x y : Operand} : Run P q ops (⟨dst, .store t x y, ty, pos, after, none⟩ :: l) σ K = Next P q ops l K (stepOp P σ dst (.store t x y)) := rn_step (fun _ h => by cases h)

theorem rn_nilCheck {x : Operand} : Run P q ops (⟨dst, .nilCheck x, ty, pos, after, none⟩ :: l) σ K = Next P q ops l K (stepOp P σ dst (.nilCheck x)) := rn_step (fun _ h => by cases h)

theorem rn_binOp {op : BinOp} {t u : TypeId} {x y : Operand} : Run P q ops (⟨dst, .binOp op t x y u, ty, pos, after, none⟩ :: l) σ K = Next P q ops l K (stepOp P σ dst (.binOp op t x y u)) := rn_step (fun _ h => by cases h)

theorem rn_build {t : TypeId} {x : Array (Nat × Operand)} : Run P q ops (⟨dst, .build t x, ty, pos, after, none⟩ :: l) σ K = Next P q ops l K (stepOp P σ dst (.build t x)) := rn_step (fun _ h => by cases h)

theorem rn_unOp {op : UnOp} {t : TypeId} {x : Operand} : Run P q ops (⟨dst, .unOp op t x, ty, pos, after, none⟩ :: l) σ K = Next P q ops l K (stepOp P σ dst (.unOp op t x)) := rn_step (fun _ h => by cases h)

theorem rn_convert {t u : TypeId} {x : Operand} : Run P q ops (⟨dst, .convert t u x, ty, pos, after, none⟩ :: l) σ K = Next P q ops l K (stepOp P σ dst (.convert t u x)) := rn_step (fun _ h => by cases h)

theorem rn_makeFunc {f : Go.Fn} {a b : Array Operand} : Run P q ops (⟨dst, .makeFunc f a b, ty, pos, after, none⟩ :: l) σ K = Next P q ops l K (stepOp P σ dst (.makeFunc f a b)) := rn_step (fun _ h => by cases h)

theorem rn_makeSlice {t : TypeId} {a b : Operand} : Run P q ops (⟨dst, .makeSlice t a b, ty, pos, after, none⟩ :: l) σ K = Next P q ops l K (stepOp P σ dst (.makeSlice t a b)) := rn_step (fun _ h => by cases h)

theorem rn_slice {t : TypeId} {x : Operand} {a b c : Option Operand} : Run P q ops (⟨dst, .slice t x a b c, ty, pos, after, none⟩ :: l) σ K = Next P q ops l K (stepOp P σ dst (.slice t x a b c)) := rn_step (fun _ h => by cases h)

theorem rn_fieldAddr {t : TypeId} {x : Operand} {f : Nat} : Run P q ops (⟨dst, .fieldAddr t x f, ty, pos, after, none⟩ :: l) σ K = Next P q ops l K (stepOp P σ dst (.fieldAddr t x f)) := rn_step (fun _ h => by cases h)

theorem rn_field {t : TypeId} {x : Operand} {f : Nat} : Run P q ops (⟨dst, .field t x f, ty, pos, after, none⟩ :: l) σ K = Next P q ops l K (stepOp P σ dst (.field t x f)) := rn_step (fun _ h => by cases h)

theorem rn_indexAddr {t : TypeId} {x y : Operand} : Run P q ops (⟨dst, .indexAddr t x y, ty, pos, after, none⟩ :: l) σ K = Next P q ops l K (stepOp P σ dst (.indexAddr t x y)) := rn_step (fun _ h => by cases h)

theorem rn_index {t : TypeId} {x y : Operand} : Run P q ops (⟨dst, .index t x y, ty, pos, after, none⟩ :: l) σ K = Next P q ops l K (stepOp P σ dst (.index t x y)) := rn_step (fun _ h => by cases h)

theorem rn_extract {x : Operand} {i : Nat} : Run P q ops (⟨dst, .extract x i, ty, pos, after, none⟩ :: l) σ K = Next P q ops l K (stepOp P σ dst (.extract x i)) := rn_step (fun _ h => by cases h)

theorem rn_builtin {b : Builtin} {args : Array Operand} {ts : Array TypeId} : Run P q ops (⟨dst, .call ⟨.builtin b, args, ts⟩, ty, pos, after, none⟩ :: l) σ K = Next P q ops l K (stepOp P σ dst (.call ⟨.builtin b, args, ts⟩)) := rfl

end

end Go.Proofs.Ytdinkfmkhdnbpaa
