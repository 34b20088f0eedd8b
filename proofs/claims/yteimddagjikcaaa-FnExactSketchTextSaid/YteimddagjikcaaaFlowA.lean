/- The abstract view of a frame: data, slots, own objects; what an operation does, seen through the view. -/
import Derived.WalkKit
import Derived.WalkSpells
import Derived.Maps.RangeRun
namespace Go.Proofs.Yteimddagjikcaaa
open Go.RowKit
set_option linter.unusedVariables false
set_option linter.unusedSimpArgs false

inductive D where
  | v (x : Value)
  | ag (cs : List D)
  | ls (k n : Nat) (cs : List D)
  | tu (cs : List D)
  | pt (cs : List D)
  deriving Inhabited

abbrev D.int (n : Int) : D := .v (.int .i64 n)

abbrev D.bool (b : Bool) : D := .v (.bool b)

abbrev D.str (s : ByteArray) : D := .v (.string s)

abbrev D.ints (zs : List Int) : D := .ls 1 zs.length (zs.map D.int)

def Ones (xs : List Value) : Prop := ∀ x ∈ xs, x.oneCell' = true

def Row (w : World) (o : Bool) (b off : Nat) (xs : List Value) (ext : Nat) : Prop :=
  Ones xs ∧ ∃ c T fz, w.heap[b]? = some (.cells c T fz) ∧ (∀ i, i < xs.length → c[off + i]? = xs[i]?) ∧ (o = true → fz = (0, 0) ∧ off + ext ≤ c.size)

mutual
def RD (w : World) (o : Bool) : D → Value → List Nat → Prop
  | .v x, y, bs => y = x ∧ bs = []
  | .ag cs, y, bs => ∃ xs : List Value, y = .agg xs.toArray ∧ Ones xs ∧ RDs w o cs xs bs
  | .tu cs, y, bs => ∃ xs : List Value, y = .tuple xs.toArray ∧ RDs w o cs xs bs
  | .ls k n cs, y, bs => (∃ a c, y = .slice a 0 c ∧ (o = true → a = none ∧ c = 0) ∧ n = 0 ∧ cs = [] ∧ bs = []) ∨
      ∃ b off cap xs bs', y = .slice (some ⟨b, off, none⟩) n cap ∧ bs = b :: bs' ∧ n * k = cs.length ∧ n ≤ cap ∧ Row w o b off xs (cap * k) ∧ RDs w o cs xs bs'
  | .pt cs, y, bs => ∃ b off xs bs', y = .pointer (some ⟨b, off, none⟩) ∧ bs = b :: bs' ∧ Row w o b off xs cs.length ∧ RDs w o cs xs bs'
def RDs (w : World) (o : Bool) : List D → List Value → List Nat → Prop
  | [], xs, bs => xs = [] ∧ bs = []
  | d :: ds, xs, bs => ∃ x xs' b1 b2, xs = x :: xs' ∧ bs = b1 ++ b2 ∧ RD w o d x b1 ∧ RDs w o ds xs' b2
end

inductive AV where
  | d (x : D)
  | bp (s o : Nat)
  | bs (s off n k : Nat)
  | ag (cs : List AV)
  | tu (cs : List AV)
  | fn (dom : List D → Prop) (h : List D → D)
  | fc (f : FuncId) (first captured : List AV)
  | rf (s : Nat) (k : Bool)
  | un

inductive OB where
  | ds (cs : List D)
  | av (cs : List AV)
  | mp (kvs : List (List Int × Value))
  | it (t n : Nat) (seen : List Nat)
  | dead

structure St where
  n : Nat
  sl : List (Nat × AV)
  ob : List (Nat × OB)

def look : List (Nat × AV) → Nat → AV
  | [], _ => .un
  | (k, x) :: r, t => if k = t then x else look r t

def put : List (Nat × AV) → Nat → AV → List (Nat × AV)
  | [], t, x => [(t, x)]
  | (k, y) :: r, t, x => if k = t then (t, x) :: r else (k, y) :: put r t x

def lookO : List (Nat × OB) → Nat → Option OB
  | [], _ => none
  | (k, x) :: r, t => if k = t then (match x with | .dead => none | x => some x) else lookO r t

def putO : List (Nat × OB) → Nat → OB → List (Nat × OB)
  | [], t, x => [(t, x)]
  | (k, y) :: r, t, x => if k = t then (t, x) :: r else (k, y) :: putO r t x

def delO : List (Nat × OB) → Nat → List (Nat × OB)
  | [], _ => []
  | (k, y) :: r, t => if k = t then (k, .dead) :: delO r t else (k, y) :: delO r t

mutual
def AV.refs (s : Nat) : AV → Bool
  | .bp t _ => t == s
  | .bs t _ _ _ => t == s
  | .rf t _ => t == s
  | .ag cs => AV.refsL s cs
  | .tu cs => AV.refsL s cs
  | .fc _ a b => AV.refsL s a || AV.refsL s b
  | _ => false
def AV.refsL (s : Nat) : List AV → Bool
  | [] => false
  | x :: r => x.refs s || AV.refsL s r
end

def OB.refs (s : Nat) : OB → Bool
  | .av cs => AV.refsL s cs
  | .it t _ _ => t == s
  | _ => false

def killS (s : Nat) : List (Nat × AV) → List (Nat × AV)
  | [] => []
  | (k, x) :: r => (k, if x.refs s then .un else x) :: killS s r

def killO (s : Nat) : List (Nat × OB) → List (Nat × OB)
  | [] => []
  | (k, x) :: r => if k = s then killO s r else (k, if x.refs s then .dead else x) :: killO s r

def St.get (σ : St) (t : Nat) : AV := look σ.sl t

def St.ev (σ : St) : Operand → AV
  | .tmp t => look σ.sl t
  | .const x => .d (.v x)
  | .func f => .fc f [] []
  | .global _ => .un

def St.put (σ : St) (t : Nat) (x : AV) : St := { σ with sl := Go.Proofs.Yteimddagjikcaaa.put σ.sl t x }

def St.puto (σ : St) (t : Option Nat) (x : AV) : St := match t with | some t => σ.put t x | none => σ

def St.new (σ : St) (s : Nat) (o : OB) (x : AV) : St := { n := σ.n, sl := Go.Proofs.Yteimddagjikcaaa.put (killS s σ.sl) s x, ob := (s, o) :: killO s σ.ob }

def allD : List AV → Option (List D)
  | [] => some []
  | .d x :: r => (allD r).map (x :: ·)
  | _ :: _ => none

def AV.pack (cs : List AV) : AV := match allD cs with | some ds => .d (.ag ds) | none => .ag cs

def AV.one (ob : List (Nat × OB)) : AV → Bool
  | .d (.v x) => x.oneCell'
  | .d (.ls _ _ _) | .d (.pt _) => true
  | .bp s _ | .bs s _ _ _ => (lookO ob s).isSome
  | .fc _ _ _ | .fn _ _ => true
  | _ => false

def AV.split (ob : List (Nat × OB)) (x : AV) : Option (List AV) := match x with
  | .d (.ag ds) => some (ds.map AV.d)
  | .ag cs => some cs
  | x => if x.one ob then some [x] else none

def mapD (f : AV → Option D) : List AV → Option (List D)
  | [] => some []
  | x :: r => match f x with
    | some d => (mapD f r).map (d :: ·)
    | none => none

def toD (ob : List (Nat × OB)) : Nat → AV → Option D
  | n, .d x => match n with | 0 => some x | _ + 1 => some x
  | n + 1, .bs s off m k => match lookO ob s with
    | some (.ds cs) => some (.ls k m ((cs.drop off).take (m * k)))
    | some (.av cs) => (mapD (toD ob n) ((cs.drop off).take (m * k))).map (.ls k m)
    | _ => none
  | n + 1, .bp s off => match lookO ob s with
    | some (.ds cs) => some (.pt (cs.drop off))
    | some (.av cs) => (mapD (toD ob n) (cs.drop off)).map .pt
    | _ => none
  | n + 1, .ag cs => (mapD (toD ob n) cs).map .ag
  | n + 1, .tu cs => (mapD (toD ob n) cs).map .tu
  | _, _ => none

def tAgg (P : Program) (t : TypeId) : Bool := match P.underlying t with
  | some (.struct _) | some (.array _ _) => true
  | _ => false

def eqInts : List D → List D → Option Bool
  | [], [] => some true
  | .v (.int k a) :: xs, .v (.int k' b) :: ys => if k = k' then (eqInts xs ys).map (a == b && ·) else none
  | _, _ => none

def StructEq (P : Program) (t : TypeId) (n : Nat) : Prop := ∀ (xs ys : List (IntKind × Int)) (x y : Operand) (w : World), xs.length = n → ys.length = n → xs.map (·.1) = ys.map (·.1) →
  (∀ u v : Value, u = .agg (xs.map fun p => Value.int p.1 p.2).toArray → v = .agg (ys.map fun p => Value.int p.1 p.2).toArray →
    (eqGuard .eql t x y u v).run P w = .ok () w ∧ (eqGuard .neq t x y u v).run P w = .ok () w ∧ (Op.equal t u v).run P w = .ok (xs.map (·.2) == ys.map (·.2)) w)

def binD (P : Program) (t : TypeId) (op : BinOp) : D → D → Option (Prop × D)
  | .v (.int k a), .v (.int k' b) =>
    match op with
    | .shl => some (0 ≤ b, .v (.int k (k.wrap (a * 2 ^ (min b.toNat k.bits)))))
    | .shr => some (0 ≤ b, .v (.int k (a.fdiv (2 ^ (min b.toNat k.bits)))))
    | op => if k = k' then match op with
      | .add => some (True, .v (.int k (k.wrap (a + b))))
      | .sub => some (True, .v (.int k (k.wrap (a - b))))
      | .mul => some (True, .v (.int k (k.wrap (a * b))))
      | .quo => some (b ≠ 0, .v (.int k (k.wrap (a.tdiv b))))
      | .rem => some (b ≠ 0, .v (.int k (a.tmod b)))
      | .and => some (True, .v (.int k (bits .and k a b)))
      | .or => some (True, .v (.int k (bits .or k a b)))
      | .xor => some (True, .v (.int k (bits .xor k a b)))
      | .andNot => some (True, .v (.int k (bits .andNot k a b)))
      | .eql => some (True, .bool (a == b))
      | .neq => some (True, .bool (a != b))
      | .lss => some (True, .bool (decide (a < b)))
      | .leq => some (True, .bool (decide (a ≤ b)))
      | .gtr => some (True, .bool (decide (b < a)))
      | .geq => some (True, .bool (decide (b ≤ a)))
      | _ => none
    else none
  | .v (.string a), .v (.string b) => match op with
    | .add => some (a.size + b.size ≤ 9223372036854775807, .str (a ++ b))
    | .eql => some (True, .bool (decide (a = b)))
    | .neq => some (True, .bool (!decide (a = b)))
    | .lss => some (True, .bool (Op.bytesLess a.toList b.toList))
    | .leq => some (True, .bool (Op.bytesLess a.toList b.toList || decide (a = b)))
    | .gtr => some (True, .bool (!(Op.bytesLess a.toList b.toList || decide (a = b))))
    | .geq => some (True, .bool (!Op.bytesLess a.toList b.toList))
    | _ => none
  | .v (.bool a), .v (.bool b) => match op with
    | .eql => some (P.underlying t = some .bool, .bool (a == b))
    | .neq => some (P.underlying t = some .bool, .bool (a != b))
    | _ => none
  | .ag xs, .ag ys => match op with
    | .eql => (eqInts xs ys).map fun b => (StructEq P t xs.length, .bool b)
    | .neq => (eqInts xs ys).map fun b => (StructEq P t xs.length, .bool (!b))
    | _ => none
  | _, _ => none

def unD (op : UnOp) : D → Option D
  | .v (.bool b) => match op with | .not => some (.bool !b) | _ => none
  | .v (.int k a) => match op with | .neg => some (.v (.int k (k.wrap (0 - a)))) | _ => none
  | _ => none

def loadD (P : Program) (t : TypeId) (cs : List D) (o : Nat) : Option (Prop × D) :=
  if tAgg P t then some (o + P.cellsOf t ≤ cs.length, .ag ((cs.drop o).take (P.cellsOf t)))
  else some ((P.underlying t).isSome = true ∧ o < cs.length, cs.getD o (.v undef))

def loadA (P : Program) (t : TypeId) (cs : List AV) (o : Nat) : Option (Prop × AV) :=
  if tAgg P t then some (o + P.cellsOf t ≤ cs.length, AV.pack ((cs.drop o).take (P.cellsOf t)))
  else some ((P.underlying t).isSome = true ∧ o < cs.length, cs.getD o .un)

def pickA (c : Bool) : AV → AV → AV
  | .d (.v (.bool x)), .d (.v (.bool y)) => .d (.bool (bif c then x else y))
  | a, b => bif c then a else b

def zeroV (P : Program) (t : TypeId) : List Value := match (P.info? t).bind (·.zero) with
  | some v => v.cells.toList
  | none => []

def zeroOk (P : Program) (t : TypeId) : Bool := ((P.info? t).bind (·.zero)).isSome && (zeroV P t).all (·.oneCell') && (zeroV P t).length == P.cellsOf t

def zeroD (P : Program) (t : TypeId) : List D := (zeroV P t).map D.v

def fillP (ob : List (Nat × OB)) (pl : Nat → Option (Nat × Nat)) : List (Nat × AV) → List AV → Option (List AV)
  | [], cs => some cs
  | (i, x) :: r, cs => match pl i, x.split ob with
    | some (o, k), some ys => if ys.length = k ∧ o + k ≤ cs.length then fillP ob pl r (cs.take o ++ ys ++ cs.drop (o + k)) else none
    | _, _ => none

def allU (P : Program) : List Field → Prop
  | [] => True
  | f :: r => (P.underlying f.type).isSome = true ∧ allU P r

def keyV : List Int → Value
  | [n] => .int .i64 n
  | l => .agg (l.map (Value.int .i64)).toArray

def entsV : Nat → List (List Int × Value) → List MapEntry
  | _, [] => []
  | i, (k, v) :: r => { key := keyV k, val := v, born := i } :: entsV (i + 1) r

def keyI : D → Option Int
  | .v (.int .i64 n) => some n
  | _ => none

def keyD : D → Option (List Int)
  | .v (.int .i64 n) => some [n]
  | .ag [a, b] => match keyI a, keyI b with
    | some x, some y => some [x, y]
    | _, _ => none
  | _ => none

def keyB : List Int → D
  | [n] => .v (.int .i64 n)
  | l => .ag (l.map fun n => .v (.int .i64 n))

def findK (k : List Int) : List (List Int × Value) → Nat → Option (Nat × Value)
  | [], _ => none
  | (l, v) :: r, i => if l = k then some (i, v) else findK k r (i + 1)

def lookK (k : List Int) : List (List Int × Value) → Option Value
  | [] => none
  | (l, v) :: r => if l = k then some v else lookK k r

def setKV (k : List Int) (v : Value) : List (List Int × Value) → List (List Int × Value)
  | [] => [(k, v)]
  | (l, u) :: r => if l = k then (k, v) :: r else (l, u) :: setKV k v r

def KeyT (P : Program) (kt : TypeId) (m : Nat) : Prop := ∀ (k : List Int) (kvs : List (List Int × Value)) (w : World), k.length = m → (∀ p ∈ kvs, p.1.length = m) →
  (∀ em, (Instr.checkKey em 10000 kt (keyV k)).run P w = .ok () w) ∧ (Instr.findKey kt (keyV k) (entsV 0 kvs)).run P w = .ok (findK k kvs 0) w ∧ Instr.sameBits 10000 (keyV k) (keyV k) = true

def zeroOf (P : Program) (t : TypeId) : Option Value := (P.info? t).bind (·.zero)

def keysAre (m : Nat) (kvs : List (List Int × Value)) : Prop := ∀ p ∈ kvs, p.1.length = m

def lookD (k : List Int) (kvs : List (List Int × Value)) (z : Value) (ok : Bool) : D :=
  bif ok then .tu [.v ((lookK k kvs).getD z), .bool (lookK k kvs).isSome] else .v ((lookK k kvs).getD z)

def pureOp (P : Program) (σ : St) : Op → Option (Prop × AV)
  | .lookup t x i ok => match P.underlying t, σ.ev x, σ.ev i with
    | some (.map kt et), .rf s false, .d kd => match lookO σ.ob s, keyD kd, zeroOf P et with
      | some (.mp kvs), some k, some z => some (KeyT P kt k.length ∧ keysAre k.length kvs, .d (lookD k kvs z ok))
      | _, _, _ => none
    | _, _, _ => none
  | .entry x => match σ.ev x with
    | .rf s true => match lookO σ.ob s with
      | some (.it t n (i :: _)) => match lookO σ.ob t with
        | some (.mp kvs) => match kvs[i]? with
          | some (k, v) => some (kvs.length = n, .d (.tu [keyB k, .v v]))
          | none => none
        | _ => none
      | _ => none
    | _ => none
  | .move x | .assign x => some (True, σ.ev x)
  | .pick c a b => match σ.ev c with
    | .d (.v (.bool c)) => some (True, pickA c (σ.ev a) (σ.ev b))
    | _ => none
  | .load t a => match σ.ev a with
    | .bp s o => match lookO σ.ob s with
      | some (.ds cs) => (loadD P t cs o).map fun (p, x) => (p, .d x)
      | some (.av cs) => loadA P t cs o
      | _ => none
    | .d (.pt cs) => (loadD P t cs 0).map fun (p, x) => (p, .d x)
    | _ => none
  | .fieldAddr t x f => match P.underlying t with
    | some (.struct fs) => match fs[f]? with
      | some f => match σ.ev x with
        | .bp s o => some (P.cellsOf f.type ≠ 0 ∧ (lookO σ.ob s).isSome = true, .bp s (o + f.offset))
        | .d (.pt cs) => some (P.cellsOf f.type ≠ 0 ∧ f.offset ≤ cs.length, .d (.pt (cs.drop f.offset)))
        | _ => none
      | none => none
    | _ => none
  | .indexAddr t x i => match P.underlying t, σ.ev i with
    | some (.slice e), .d (.v (.int _ i)) => match σ.ev x with
      | .bs s off n k => some (0 ≤ i ∧ i < n ∧ P.cellsOf e = k ∧ k ≠ 0 ∧ (lookO σ.ob s).isSome = true, .bp s (off + i.toNat * k))
      | .d (.ls k n cs) => some (0 ≤ i ∧ i < n ∧ P.cellsOf e = k ∧ k ≠ 0, .d (.pt (cs.drop (i.toNat * k))))
      | _ => none
    | some (.array n e), .d (.v (.int _ i)) => match σ.ev x with
      | .bp s o => some (0 ≤ i ∧ i < n ∧ 1 < n ∧ P.cellsOf e ≠ 0 ∧ (lookO σ.ob s).isSome = true, .bp s (o + i.toNat * P.cellsOf e))
      | .d (.pt cs) => some (0 ≤ i ∧ i < n ∧ 1 < n ∧ P.cellsOf e ≠ 0 ∧ i.toNat * P.cellsOf e ≤ cs.length, .d (.pt (cs.drop (i.toNat * P.cellsOf e))))
      | _ => none
    | _, _ => none
  | .index t x i => match P.underlying t, σ.ev x, σ.ev i with
    | some .string, .d (.v (.string s)), .d (.v (.int _ i)) => some (0 ≤ i ∧ i < s.size, .d (.v (.int .u8 ((s.data.toList.getD i.toNat 0).toNat : Int))))
    | some (.array n e), .d (.ag cs), .d (.v (.int _ i)) =>
      if tAgg P e then none else some (0 ≤ i ∧ i < n ∧ n = cs.length ∧ P.cellsOf e = 1 ∧ (P.underlying e).isSome = true, .d (cs.getD i.toNat (.v undef)))
    | _, _, _ => none
  | .field t x f => match P.underlying t with
    | some (.struct fs) => match fs[f]? with
      | some f => match σ.ev x with
        | .d (.ag cs) => (loadD P f.type cs f.offset).map fun (p, x) => (p, .d x)
        | .ag cs => loadA P f.type cs f.offset
        | _ => none
      | none => none
    | _ => none
  | .extract x i => match σ.ev x with
    | .d (.tu cs) => match cs[i]? with | some y => some (True, .d y) | none => none
    | .tu cs => match cs[i]? with | some y => some (True, y) | none => none
    | _ => none
  | .binOp op t x y _ => match σ.ev x, σ.ev y with
    | .d a, .d b => (binD P t op a b).map fun (p, x) => (p, .d x)
    | _, _ => none
  | .unOp op _ x => match σ.ev x with
    | .d a => (unD op a).map fun x => (True, .d x)
    | _ => none
  | .convert s t x => match P.underlying s, P.underlying t, σ.ev x with
    | some (.int _), some (.int k), .d (.v (.int _ n)) => some (True, .d (.v (.int k (k.wrap n))))
    | _, _, _ => none
  | .slice t x lo hi none =>
    let low : Option AV := lo.map σ.ev
    let high : Option AV := hi.map σ.ev
    match P.underlying t, σ.ev x with
    | some (.slice e), .bs s off n k => match low, high with
      | none, none => some (P.cellsOf e = k ∧ k ≠ 0 ∧ (lookO σ.ob s).isSome = true, .bs s off n k)
      | some (.d (.v (.int _ l))), none => some (0 ≤ l ∧ l ≤ n ∧ P.cellsOf e = k ∧ k ≠ 0 ∧ (lookO σ.ob s).isSome = true, .bs s (off + l.toNat * k) (n - l.toNat) k)
      | none, some (.d (.v (.int _ h))) => some (0 ≤ h ∧ h ≤ n ∧ P.cellsOf e = k ∧ k ≠ 0 ∧ (lookO σ.ob s).isSome = true, .bs s off h.toNat k)
      | some (.d (.v (.int _ l))), some (.d (.v (.int _ h))) => some (0 ≤ l ∧ l ≤ h ∧ h ≤ n ∧ P.cellsOf e = k ∧ k ≠ 0 ∧ (lookO σ.ob s).isSome = true, .bs s (off + l.toNat * k) (h.toNat - l.toNat) k)
      | _, _ => none
    | some (.slice e), .d (.ls k n cs) => match low, high with
      | none, none => some (P.cellsOf e = k ∧ k ≠ 0, .d (.ls k n cs))
      | some (.d (.v (.int _ l))), none => some (0 ≤ l ∧ l ≤ n ∧ P.cellsOf e = k ∧ k ≠ 0, .d (.ls k (n - l.toNat) (cs.drop (l.toNat * k))))
      | none, some (.d (.v (.int _ h))) => some (0 ≤ h ∧ h ≤ n ∧ P.cellsOf e = k ∧ k ≠ 0, .d (.ls k h.toNat (cs.take (h.toNat * k))))
      | some (.d (.v (.int _ l))), some (.d (.v (.int _ h))) => some (0 ≤ l ∧ l ≤ h ∧ h ≤ n ∧ P.cellsOf e = k ∧ k ≠ 0, .d (.ls k (h.toNat - l.toNat) ((cs.take (h.toNat * k)).drop (l.toNat * k))))
      | _, _ => none
    | some .string, .d (.v (.string s)) => match low, high with
      | some (.d (.v (.int _ l))), none => some (0 ≤ l ∧ l ≤ s.size, .d (.str (s.extract l.toNat s.size)))
      | none, some (.d (.v (.int _ h))) => some (0 ≤ h ∧ h ≤ s.size, .d (.str (s.extract 0 h.toNat)))
      | some (.d (.v (.int _ l))), some (.d (.v (.int _ h))) => some (0 ≤ l ∧ l ≤ h ∧ h ≤ s.size, .d (.str (s.extract l.toNat h.toNat)))
      | _, _ => none
    | _, _ => none
  | .build t parts => match P.underlying t with
    | some (.struct fs) => match fillP σ.ob (fun i => (fs[i]?).map fun f => (f.offset, P.cellsOf f.type)) (parts.toList.map fun x => (x.1, σ.ev x.2)) ((zeroD P t).map AV.d) with
      | some cs => some (zeroOk P t = true ∧ allU P fs.toList, AV.pack cs)
      | none => none
    | some (.array _ e) => match fillP σ.ob (fun i => some (i * P.cellsOf e, P.cellsOf e)) (parts.toList.map fun x => (x.1, σ.ev x.2)) ((zeroD P t).map AV.d) with
      | some cs => some (zeroOk P t = true ∧ (P.underlying e).isSome = true, AV.pack cs)
      | none => none
    | _ => none
  | .makeFunc (.func f) first captured => some (True, .fc f (first.toList.map σ.ev) (captured.toList.map σ.ev))
  | .nilCheck x => match σ.ev x with
    | .fn dom h => some (True, .fn dom h)
    | .fc f a b => some (True, .fc f a b)
    | .bp s o => some ((lookO σ.ob s).isSome = true, .bp s o)
    | .d (.pt cs) => some (True, .d (.pt cs))
    | _ => none
  | .call { callee := .builtin .len, args := args, argTypes := ts } => match args.toList, ts.toList with
    | [x], [t] => match P.underlying t, σ.ev x with
      | some (.slice _), .bs s _ n _ => some ((lookO σ.ob s).isSome = true, .d (.int n))
      | some (.slice _), .d (.ls _ n _) => some (True, .d (.int n))
      | some .string, .d (.v (.string s)) => some (True, .d (.int s.size))
      | some (.array n _), _ => some (True, .d (.int n))
      | _, _ => none
    | _, _ => none
  | .call { callee := .builtin .min, args := args, .. } => match args.toList with
    | [x, y] => match σ.ev x, σ.ev y with
      | .d (.v (.int k a)), .d (.v (.int _ b)) => some (True, .d (.v (.int k (if b < a then b else a))))
      | _, _ => none
    | _ => none
  | .call { callee := .builtin .max, args := args, .. } => match args.toList with
    | [x, y] => match σ.ev x, σ.ev y with
      | .d (.v (.int k a)), .d (.v (.int _ b)) => some (True, .d (.v (.int k (if b > a then b else a))))
      | _, _ => none
    | _ => none
  | _ => none

def storeOb (P : Program) (ob : List (Nat × OB)) (t : TypeId) (o : OB) (off : Nat) (x : AV) : Option (Prop × OB) :=
  match x.split ob with
  | none => none
  | some cs => match o with
    | .av old => some (cs.length = P.cellsOf t ∧ P.cellsOf t ≠ 0 ∧ off + cs.length ≤ old.length, .av (old.take off ++ cs ++ old.drop (off + cs.length)))
    | .ds old => match allD cs with
      | some [c] => some (P.cellsOf t = 1 ∧ off < old.length, .ds (old.set off c))
      | some ds => some (ds.length = P.cellsOf t ∧ P.cellsOf t ≠ 0 ∧ off + ds.length ≤ old.length, .ds (old.take off ++ ds ++ old.drop (off + ds.length)))
      | none => some (cs.length = P.cellsOf t ∧ P.cellsOf t ≠ 0 ∧ off + cs.length ≤ old.length, .av (((old.take off).map AV.d) ++ cs ++ ((old.drop (off + cs.length)).map AV.d)))
    | _ => none

def fillA (ob : List (Nat × OB)) (k : Nat) : List (Nat × AV) → List AV → Option (List AV)
  | [], cs => some cs
  | (i, x) :: r, cs => match x.split ob with
    | some ys => if ys.length = k ∧ i * k + k ≤ cs.length then fillA ob k r (cs.take (i * k) ++ ys ++ cs.drop (i * k + k)) else none
    | none => none

def denseA (ob : List (Nat × OB)) (k : Nat) : Nat → List (Nat × AV) → Option (List AV)
  | _, [] => some []
  | i, (j, x) :: r => if j = i then match x.split ob with
      | some ys => if ys.length = k then (denseA ob k (i + 1) r).map (ys ++ ·) else none
      | none => none
    else none

def buildA (ob : List (Nat × OB)) (k n : Nat) (z : List D) (ps : List (Nat × AV)) : Option (List AV) :=
  match denseA ob k 0 ps with
  | some cs => if cs.length = n * k then some cs else fillA ob k ps ((List.replicate n (z.map AV.d)).flatten)
  | none => fillA ob k ps ((List.replicate n (z.map AV.d)).flatten)

def obCells : OB → List AV
  | .ds cs => cs.map AV.d
  | .av cs => cs
  | .mp _ => []
  | .it t _ _ => [.rf t false]
  | .dead => []

@[simp] def OB.row : OB → Bool
  | .ds _ => true
  | .av _ => true
  | _ => false

def mapRef : Option Value → Option Nat
  | some (.map r) => r
  | _ => none

def objOf (o : OB) (c : Array Value) (T : TypeId) : Obj := match o with
  | .mp kvs => .map (entsV 0 kvs).toArray kvs.length
  | .it _ n seen => .mapIter (mapRef c[0]?) n seen.reverse.toArray n
  | _ => .cells c T (0, 0)

theorem objOf_row {o : OB} (h : o.row = true) (c : Array Value) (T : TypeId) : objOf o c T = .cells c T (0, 0) := by
  cases o <;> first | rfl | cases h

theorem OB.row_ne {o : OB} (h : o.row = true) : o ≠ .dead := fun e => by subst e; cases h

def rfVal (k : Bool) (b : Nat) : Value := if k then .pointer (some ⟨b, 0, none⟩) else .map (some b)

def srcCells (σ : St) : AV → Option (Prop × Nat × Nat × OB)
  | .bs s off n k => match lookO σ.ob s with
    | some (.ds cs) => some (off + n * k ≤ cs.length, n, k, .ds ((cs.drop off).take (n * k)))
    | some (.av cs) => some (off + n * k ≤ cs.length, n, k, .av ((cs.drop off).take (n * k)))
    | _ => none
  | .d (.ls k n cs) => some (True, n, k, .ds cs)
  | _ => none

def OB.join : OB → OB → OB
  | .ds a, .ds b => .ds (a ++ b)
  | a, b => match allD (obCells a ++ obCells b) with
    | some cs => .ds cs
    | none => .av (obCells a ++ obCells b)

def obOf (cs : List AV) : OB := match allD cs with | some ds => .ds ds | none => .av cs

def OB.fill : OB → Nat → List D → OB
  | .ds cs, off, zs => .ds (cs.take off ++ zs ++ cs.drop (off + zs.length))
  | .av cs, off, zs => .av (cs.take off ++ zs.map AV.d ++ cs.drop (off + zs.length))
  | _, _, _ => .dead

def actOp (P : Program) (σ : St) (dst : Option Nat) : Op → Option (Prop × St)
  | .makeMap t r => match dst, r with
    | some s, none => some (True, σ.new s (.mp []) (.rf s false))
    | some s, some x => match P.underlying t, σ.ev x with
      | some (.map _ _), .d (.v (.int _ _)) => some (True, σ.new s (.mp []) (.rf s false))
      | _, _ => none
    | _, _ => none
  | .range t x => match dst, P.underlying t, σ.ev x with
    | some s, some (.map _ _), .rf m false => match lookO σ.ob m with
      | some (.mp kvs) => some (m ≠ s, σ.new s (.it m kvs.length []) (.rf s true))
      | _ => none
    | _, _, _ => none
  | .mapUpdate t m k x => match dst, P.underlying t, σ.ev m with
    | none, some (.map kt _), .rf s false => match σ.ev k, σ.ev x, lookO σ.ob s with
      | .d kd, .d (.v v), some (.mp kvs) => match keyD kd with
        | some k => some (KeyT P kt k.length ∧ keysAre k.length kvs, { σ with ob := putO σ.ob s (.mp (setKV k v kvs)) })
        | none => none
      | _, _, _ => none
    | _, _, _ => none
  | .insert t m k x => match dst, P.underlying t, σ.ev m with
    | none, some (.map kt _), .rf s false => match σ.ev k, σ.ev x, lookO σ.ob s with
      | .d kd, .d (.v v), some (.mp kvs) => match keyD kd with
        | some k => some (KeyT P kt k.length ∧ keysAre k.length kvs, { σ with ob := putO σ.ob s (.mp (setKV k v kvs)) })
        | none => none
      | _, _, _ => none
    | _, _, _ => none
  | .alloc t => match dst with
    | some s => some (zeroOk P t = true, σ.new s (.av ((zeroD P t).map AV.d)) (.bp s 0))
    | none => none
  | .box _ x => match dst, (σ.ev x).split σ.ob with
    | some s, some cs => some (AV.refsL s cs = false, σ.new s (.av cs) (.bp s 0))
    | _, _ => none
  | .buildSlice t n parts => match dst, P.underlying t with
    | some s, some (.slice e) => match buildA σ.ob (P.cellsOf e) n (zeroD P e) (parts.toList.map fun (i, x) => (i, σ.ev x)) with
      | some cs => some (n * P.cellsOf e ≤ 65536 ∧ zeroOk P e = true ∧ P.cellsOf e ≠ 0 ∧ AV.refsL s cs = false, σ.new s (obOf cs) (.bs s 0 n (P.cellsOf e)))
      | none => none
    | _, _ => none
  | .makeSlice t l c => match dst, P.underlying t, σ.ev l, σ.ev c with
    | some s, some (.slice e), .d (.v (.int .i64 a)), .d (.v (.int .i64 b)) =>
      some (0 ≤ a ∧ a = b ∧ a * P.bytesOf e ≤ 140737488355328 ∧ P.bytesOf e ≠ 0 ∧ zeroOk P e = true ∧ P.cellsOf e ≠ 0,
        σ.new s (.ds ((List.replicate a.toNat (zeroD P e)).flatten)) (.bs s 0 a.toNat (P.cellsOf e)))
    | _, _, _, _ => none
  | .store t a x => match dst, σ.ev a with
    | none, .bp s off => match lookO σ.ob s with
      | some o => match storeOb P σ.ob t o off (σ.ev x) with
        | some (p, o') => some (p, { σ with ob := putO σ.ob s o' })
        | none => none
      | none => none
    | _, _ => none
  | .call { callee := .builtin .clear, args := args, argTypes := ts } => match dst, args.toList, ts.toList with
    | none, [x], [t] => match P.underlying t, σ.ev x with
      | some (.slice e), .bs s off n k => match lookO σ.ob s with
        | some o => some (P.cellsOf e = k ∧ k ≠ 0 ∧ n ≠ 0 ∧ zeroOk P e = true ∧ off + n * k ≤ (obCells o).length, { σ with ob := putO σ.ob s (o.fill off ((List.replicate n (zeroD P e)).flatten)) })
        | none => none
      | _, _ => none
    | _, _, _ => none
  | .call { callee := .builtin .append, args := args, argTypes := ts } => match dst, args.toList, ts.toList with
    | some s, [x, y], [t, t'] => match P.underlying t, σ.ev x, srcCells σ (σ.ev y) with
      | some (.slice e), .bs b off n k, some (q, m, k', new) => match lookO σ.ob b, srcCells σ (.bs b off n k) with
        | some o, some (_, _, _, old) => some (t = t' ∧ k = k' ∧ P.cellsOf e = k ∧ k ≠ 0 ∧ P.bytesOf e ≠ 0 ∧ zeroOk P e = true ∧ off + n * k ≤ (obCells o).length ∧ (n + m) * P.bytesOf e ≤ 140737488355328 ∧ q ∧ AV.refsL s (obCells old ++ obCells new) = false,
            St.new { σ with ob := delO σ.ob b } s (old.join new) (.bs s 0 (n + m) k))
        | _, _ => none
      | _, _, _ => none
    | _, _, _ => none
  | _ => none

inductive CV where
  | d (x : D)
  | fn (dom : List D → Prop) (h : List D → D)

def FnOk (P : Program) (g : FuncId) : Prop := ∃ fn, P.funcs[g]? = some fn ∧ fn.body.isSome = true ∧ (fn.name == "runtime.NumGoroutine") = false

structure Keep (S : Nat → Prop) (w w' : World) : Prop where
  os : w'.os = w.os
  tape : w'.tape = w.tape
  output : w'.output = w.output
  size : w.heap.size ≤ w'.heap.size
  block : ∀ k, S k → w'.heap[k]? = w.heap[k]?

theorem Keep.refl (S : Nat → Prop) (w : World) : Keep S w w := ⟨rfl, rfl, rfl, Nat.le_refl _, fun _ _ => rfl⟩

theorem Keep.trans {S : Nat → Prop} {w w' w'' : World} (h : Keep S w w') (h' : Keep S w' w'') : Keep S w w'' :=
  ⟨h'.os.trans h.os, h'.tape.trans h.tape, h'.output.trans h.output, Nat.le_trans h.size h'.size, fun k hk => (h'.block k hk).trans (h.block k hk)⟩

theorem Keep.sub {S S' : Nat → Prop} {w w' : World} (h : Keep S w w') (hs : ∀ k, S' k → S k) : Keep S' w w' := ⟨h.os, h.tape, h.output, h.size, fun k hk => h.block k (hs k hk)⟩

theorem keep_below {S : Nat → Prop} {n : Nat} {w w' : World} (h : Below n w w') (hs : ∀ k, S k → k < n) : Keep S w w' := ⟨h.os, h.tape, h.output, h.size, fun k hk => h.block k (hs k hk)⟩

theorem Keep.below {n : Nat} {w w' : World} (h : Keep (· < n) w w') : Below n w w' := ⟨h.os, h.tape, h.output, h.size, h.block⟩

def globB : List Nat := [0]

def GlobW (w : World) : Prop := ∀ b ∈ globB, ∃ m, w.cell? ⟨b, 0, none⟩ = some (.int .i64 m)

def RF (P : Program) (S : Nat → Prop) (w : World) (y : Value) (dom : List D → Prop) (h : List D → D) : Prop :=
  ∃ g first cap, y = .func (.func g) first cap ∧ FnOk P g ∧
    ∀ w' ds vs bs, (Keep S w w' ∧ GlobW w') → dom ds → RDs w' false ds vs bs → (∀ b ∈ bs, b < w'.heap.size) →
      Calls P g (first ++ vs.toArray ++ cap) w' fun e w'' => ∃ r bs', e = .returned r ∧ Below w'.heap.size w' w'' ∧ RD w'' true (h ds) r bs' ∧ bs'.Nodup ∧ ∀ b ∈ bs', w'.heap.size ≤ b

def RC (P : Program) (w : World) : CV → Value → Prop
  | .d x, y => ∃ bs, RD w false x y bs ∧ ∀ b ∈ bs, b < w.heap.size
  | .fn dom h, y => RF P (· < w.heap.size) w y dom h

def RCs (P : Program) (w : World) : List CV → List Value → Prop
  | [], vs => vs = []
  | c :: cs, vs => ∃ v vs', vs = v :: vs' ∧ RC P w c v ∧ RCs P w cs vs'

def Fn (P : Program) (f : FuncId) (args : List CV) (res : D) : Prop :=
  FnOk P f ∧ ∀ w vs, (RCs P w args vs ∧ GlobW w) → Calls P f vs.toArray w fun e w' => ∃ r bs, e = .returned r ∧ Below w.heap.size w w' ∧ RD w' true res r bs ∧ bs.Nodup ∧ ∀ b ∈ bs, w.heap.size ≤ b

def FnA (P : Program) (f : FuncId) (args : List CV) (res : D) : Prop :=
  FnOk P f ∧ ∀ w vs, (RCs P w args vs ∧ GlobW w) → Calls P f vs.toArray w fun e w' => ∃ r bs, e = .returned r ∧ Below w.heap.size w w' ∧ RD w' false res r bs ∧ ∀ b ∈ bs, b < w'.heap.size

def FnD (P : Program) (f : FuncId) (args : List D) (res : D) : Prop := Fn P f (args.map CV.d) res

abbrev Loc := Nat → Option (Nat × Nat)

structure Env where
  w : World
  S : Nat → Prop
  D : Nat → Prop
  ν : Loc
  n : Nat := 0

def AvoidB (ob : List (Nat × OB)) (ν : Loc) (b : Nat) : Prop := ∀ s o, lookO ob s = some o → ∀ x, ν s = some x → x.1 ≠ b

mutual
def VR (P : Program) (w0 : Env) (w : World) (ob : List (Nat × OB)) (ν : Loc) : AV → Value → Prop
  | .d x, y => ∃ bs, RD w false x y bs ∧ ∀ b ∈ bs, b < w.heap.size ∧ AvoidB ob ν b ∧ w0.D b
  | .bp s o, y => (lookO ob s).isSome = true → ∃ b base, ν s = some (b, base) ∧ y = .pointer (some ⟨b, base + o, none⟩)
  | .bs s off n k, y => (lookO ob s).isSome = true → (∀ o, lookO ob s = some o → off + n * k ≤ (obCells o).length) ∧ ((ν s = none ∧ y = .slice none 0 0 ∧ n = 0 ∧ off = 0) ∨
      ∃ b base cap a c T, ν s = some (b, base) ∧ y = .slice (some a) n cap ∧ n ≤ cap ∧ ((cap = 0 ∧ ∃ x, x ≤ c.size ∧ a = ⟨b, x, none⟩) ∨ a = ⟨b, base + off, none⟩) ∧ w.heap[b]? = some (.cells c T (0, 0)) ∧ base + off + cap * k ≤ c.size)
  | .ag cs, y => ∃ xs : List Value, y = .agg xs.toArray ∧ Ones xs ∧ VRs P w0 w ob ν cs xs
  | .tu cs, y => ∃ xs : List Value, y = .tuple xs.toArray ∧ VRs P w0 w ob ν cs xs
  | .fn dom h, y => RF P w0.S w0.w y dom h
  | .rf s k, y => (lookO ob s).isSome = true → ∃ b, ν s = some (b, 0) ∧ y = rfVal k b
  | .fc g a b, y => ∃ xs ys : List Value, y = .func (.func g) xs.toArray ys.toArray ∧ VRs P w0 w ob ν a xs ∧ VRs P w0 w ob ν b ys
  | .un, _ => True
def VRs (P : Program) (w0 : Env) (w : World) (ob : List (Nat × OB)) (ν : Loc) : List AV → List Value → Prop
  | [], ys => ys = []
  | x :: xs, ys => ∃ y ys', ys = y :: ys' ∧ VR P w0 w ob ν x y ∧ VRs P w0 w ob ν xs ys'
end

def OR (P : Program) (w0 : Env) (w : World) (ob : List (Nat × OB)) (ν : Loc) (s : Nat) (o : OB) : Prop :=
  (ν s = none ∧ obCells o = []) ∨
  ∃ b base c T xs, ν s = some (b, base) ∧ (¬ w0.S b ∧ w0.D b) ∧ w.heap[b]? = some (objOf o c T) ∧ (∀ i, i < xs.length → c[base + i]? = xs[i]?) ∧ Ones xs ∧ VRs P w0 w ob ν (obCells o) xs

def Rows (w w' : World) : Prop := ∀ (b : Nat) (c : Array Value) (T : TypeId), w.heap[b]? = some (.cells c T (0, 0)) → ∃ (c' : Array Value) (T' : TypeId), w'.heap[b]? = some (.cells c' T' (0, 0)) ∧ c'.size = c.size

theorem Rows.refl (w : World) : Rows w w := fun _ c T h => ⟨c, T, h, rfl⟩

theorem Rows.trans {w w' w'' : World} (h : Rows w w') (h' : Rows w' w'') : Rows w w'' := fun b c T e => by
  obtain ⟨c1, T1, e1, s1⟩ := h b c T e
  obtain ⟨c2, T2, e2, s2⟩ := h' b c1 T1 e1
  exact ⟨c2, T2, e2, s2.trans s1⟩

structure Mem (P : Program) (w0 : Env) (w : World) (ob : List (Nat × OB)) (ν : Loc) : Prop where
  objs : ∀ s o, lookO ob s = some o → OR P w0 w ob ν s o
  inj : ∀ s s' o o' x x', s ≠ s' → lookO ob s = some o → lookO ob s' = some o' → ν s = some x → ν s' = some x' → x.1 ≠ x'.1

structure Sim (P : Program) (w0 : Env) (σ : St) (ν : Loc) (a : Act) (w : World) : Prop extends Mem P w0 w σ.ob ν where
  below : Keep w0.S w0.w w
  rows : Rows w0.w w
  lt : ∀ b, w0.S b → b < w0.w.heap.size
  fresh : ∀ b, w0.w.heap.size ≤ b → w0.D b
  le : σ.n ≤ w0.n
  glob : ∀ b ∈ globB, w0.S b ∧ ∃ m, w0.w.cell? ⟨b, 0, none⟩ = some (.int .i64 m)
  stab : ∀ s, w0.n ≤ s → s < 1000000000 → ν s = w0.ν s
  defers : a.defers = []
  size : a.tmps.size = σ.n
  slots : ∀ t, VR P w0 w σ.ob ν (look σ.sl t) (a.tmps.getD t undef)

def SubS (sl : List (Nat × AV)) : List (Nat × AV) → Prop
  | [] => True
  | (t, x) :: r => look sl t = x ∧ SubS sl r

def SubO (ob : List (Nat × OB)) : List (Nat × OB) → Prop
  | [] => True
  | (s, o) :: r => lookO ob s = some o ∧ SubO ob r

def FnS (P : Program) (g : FuncId) (ob : List (Nat × OB)) (args : List AV) (ob' : List (Nat × OB)) (res : AV) : Prop :=
  FnOk P g ∧ ∀ (w : World) (ν : Loc) (Dt : Nat → Prop) (vs : List Value), ((∀ b, w.heap.size ≤ b → Dt b) ∧ GlobW w ∧ ∀ b ∈ globB, AvoidB ob ν b) →
    Mem P ⟨w, fun b => b < w.heap.size ∧ AvoidB ob ν b, Dt, ν, 0⟩ w ob ν → VRs P ⟨w, fun b => b < w.heap.size ∧ AvoidB ob ν b, Dt, ν, 0⟩ w ob ν args vs →
    Calls P g vs.toArray w fun e w' => ∃ r ν', e = .returned r ∧ Keep (fun b => b < w.heap.size ∧ AvoidB ob ν b) w w' ∧ Rows w w' ∧
      Mem P ⟨w, fun b => b < w.heap.size ∧ AvoidB ob ν b, Dt, ν, 0⟩ w' ob' ν' ∧ VR P ⟨w, fun b => b < w.heap.size ∧ AvoidB ob ν b, Dt, ν, 0⟩ w' ob' ν' res r ∧
      ∀ s o o', lookO ob s = some o → lookO ob' s = some o' → ν' s = ν s ∧ (obCells o').length = (obCells o).length

def FnX (P : Program) (g : FuncId) (ob : List (Nat × OB)) (args : List AV) (RR : List (Nat × OB) → AV → Prop) : Prop :=
  FnOk P g ∧ ∀ (w : World) (ν : Loc) (Dt : Nat → Prop) (vs : List Value), ((∀ b, w.heap.size ≤ b → Dt b) ∧ GlobW w ∧ ∀ b ∈ globB, AvoidB ob ν b) →
    Mem P ⟨w, fun b => b < w.heap.size ∧ AvoidB ob ν b, Dt, ν, 0⟩ w ob ν → VRs P ⟨w, fun b => b < w.heap.size ∧ AvoidB ob ν b, Dt, ν, 0⟩ w ob ν args vs →
    Calls P g vs.toArray w fun e w' => ∃ ob' res, RR ob' res ∧ ∃ r ν', e = .returned r ∧ Keep (fun b => b < w.heap.size ∧ AvoidB ob ν b) w w' ∧ Rows w w' ∧
      Mem P ⟨w, fun b => b < w.heap.size ∧ AvoidB ob ν b, Dt, ν, 0⟩ w' ob' ν' ∧ VR P ⟨w, fun b => b < w.heap.size ∧ AvoidB ob ν b, Dt, ν, 0⟩ w' ob' ν' res r ∧
      ∀ s o o', lookO ob s = some o → lookO ob' s = some o' → ν' s = ν s ∧ (obCells o').length = (obCells o).length

theorem FnS.x {P : Program} {g : FuncId} {ob ob' : List (Nat × OB)} {args : List AV} {res : AV} (h : FnS P g ob args ob' res) : FnX P g ob args (fun o r => o = ob' ∧ r = res) :=
  ⟨h.1, fun w ν Dt vs h1 h2 h3 => (h.2 w ν Dt vs h1 h2 h3).mono fun _ _ he => ⟨ob', res, ⟨rfl, rfl⟩, he⟩⟩

mutual
def D.plain : D → Prop
  | .v _ => True
  | .ag cs => plains cs
  | .tu cs => plains cs
  | .ls _ _ _ => False
  | .pt _ => False
def plains : List D → Prop
  | [] => True
  | d :: ds => d.plain ∧ plains ds
end

mutual
def AV.plain : AV → Prop
  | .d x => x.plain
  | .ag cs => AV.plains cs
  | .tu cs => AV.plains cs
  | .fc _ a b => AV.plains a ∧ AV.plains b
  | _ => True
def AV.plains : List AV → Prop
  | [] => True
  | x :: r => x.plain ∧ AV.plains r
end

def OB.plain : OB → Prop
  | .ds cs => Go.Proofs.Yteimddagjikcaaa.plains cs
  | .av cs => AV.plains cs
  | _ => True

def plainOs : List (Nat × OB) → Prop
  | [] => True
  | (_, o) :: r => o.plain ∧ plainOs r

def FcIs (P : Program) (σ : St) (g : FuncId) (first cap : List AV) (dom : List D → Prop) (h : List D → D) : Prop :=
  FnOk P g ∧ ∃ fs cs, mapD (toD σ.ob 4) first = some fs ∧ mapD (toD σ.ob 4) cap = some cs ∧ ∀ ds, dom ds → FnD P g (fs ++ ds ++ cs) (h ds)

def ArgIs (P : Program) (σ : St) : AV → CV → Prop
  | .fn dom h, .fn dom' h' => dom = dom' ∧ h = h'
  | .fc g first cap, .fn dom h => FcIs P σ g first cap dom h
  | x, .d y => toD σ.ob 4 x = some y
  | _, _ => False

def ArgsAre (P : Program) (σ : St) : List AV → List CV → Prop
  | [], cs => cs = []
  | x :: xs, cs => ∃ c cs', cs = c :: cs' ∧ ArgIs P σ x c ∧ ArgsAre P σ xs cs'

def adoptL (s : Nat) : List D → List AV × Option (List D)
  | [] => ([], none)
  | .ls k n cs :: r => (.bs s 0 n k :: r.map AV.d, some cs)
  | x :: r => let (a, o) := adoptL s r; (.d x :: a, o)

def St.adopt (σ : St) (dst : Option Nat) (r : D) : St := match dst with
  | none => σ
  | some s => match r with
    | .ls k n cs => σ.new s (.ds cs) (.bs s 0 n k)
    | .ag ds => match adoptL s ds with
      | (as, some cs) => σ.new s (.ds cs) (.ag as)
      | (_, none) => σ.put s (.d (.ag ds))
    | .tu ds => match adoptL s ds with
      | (as, some cs) => σ.new s (.ds cs) (.tu as)
      | (_, none) => σ.put s (.d (.tu ds))
    | x => σ.put s (.d x)

def killN (s : Nat) : List (Nat × OB) → List (Nat × OB)
  | [] => []
  | (k, x) :: r => if k = s then killN s r else (k, x) :: killN s r

def dropO (ob : List (Nat × OB)) : List (Nat × OB) → List (Nat × OB)
  | [] => ob
  | (s, _) :: r => dropO (killN s ob) r

def newN (ob : List (Nat × OB)) : List (Nat × OB) → List Nat
  | [] => []
  | (s, _) :: r => match lookO ob s with | some _ => newN ob r | none => s :: newN ob r

def killSs : List Nat → List (Nat × AV) → List (Nat × AV)
  | [], sl => sl
  | s :: r, sl => killSs r (killS s sl)

def killOs : List Nat → List (Nat × OB) → List (Nat × OB)
  | [], ob => ob
  | s :: r, ob => killOs r (killO s ob)

def St.after (σ : St) (ob ob' : List (Nat × OB)) (dst : Option Nat) (res : AV) : St :=
  St.puto { n := σ.n, sl := killSs (newN ob ob') σ.sl, ob := ob' ++ killOs (newN ob ob') (dropO σ.ob ob) } dst res

mutual
def AV.nofn : AV → Bool
  | .fn _ _ => false
  | .ag cs => AV.nofns cs
  | .tu cs => AV.nofns cs
  | .fc _ a b => AV.nofns a && AV.nofns b
  | _ => true
def AV.nofns : List AV → Bool
  | [] => true
  | x :: r => x.nofn && AV.nofns r
end

def apartO (rest ob' : List (Nat × OB)) (res : AV) : Bool := match rest with
  | [] => ob'.all (fun p => AV.nofns (obCells p.2)) && res.nofn
  | (t, _) :: r => ob'.all (fun p => !AV.refsL t (obCells p.2)) && !res.refs t && apartO r ob' res

def ltAll (n : Nat) : List Nat → Bool
  | [] => true
  | s :: r => (decide (s < n) || decide (1000000000 ≤ s)) && ltAll n r

def ArgS (σ : St) (ob : List (Nat × OB)) (β : Bool) (x c : AV) : Prop := x = c ∨ (β = true ∧ ∃ y, c = .d y ∧ toD (dropO σ.ob ob) 4 x = some y) ∨
  (β = true ∧ ∃ g a b as bs, x = .fc g a b ∧ c = .fc g (as.map AV.d) (bs.map AV.d) ∧ mapD (toD (dropO σ.ob ob) 4) a = some as ∧ mapD (toD (dropO σ.ob ob) 4) b = some bs)

def ArgsS (σ : St) (ob : List (Nat × OB)) (β : Bool) : List AV → List AV → Prop
  | [], cs => cs = []
  | x :: xs, cs => ∃ c cs', cs = c :: cs' ∧ ArgS σ ob β x c ∧ ArgsS σ ob β xs cs'

def CallS (P : Program) (σ : St) (dst : Option Nat) (g : FuncId) (as : List AV) (K : St → Prop) : Prop :=
  ∃ ob cas RR β, FnX P g ob cas RR ∧ ArgsS σ ob β as cas ∧ SubO σ.ob ob ∧ (∃ ob' res, RR ob' res) ∧ ∀ ob' res, RR ob' res → (β = true → plainOs ob' ∧ res.plain) ∧ ltAll σ.n (newN ob ob') = true ∧
    apartO (dropO σ.ob ob) ob' res = true ∧ K (σ.after ob ob' dst res)

mutual
def Opn : D → AV → List (Nat × OB) → Prop
  | .v x, a, os => a = .d (.v x) ∧ os = []
  | .ag cs, a, os => (plains cs ∧ a = .d (.ag cs) ∧ os = []) ∨ ∃ as, a = .ag as ∧ OpnL cs as os
  | .tu cs, a, os => (plains cs ∧ a = .d (.tu cs) ∧ os = []) ∨ ∃ as, a = .tu as ∧ OpnL cs as os
  | .ls k n cs, a, os => ∃ s, a = .bs s 0 n k ∧ ((plains cs ∧ os = [(s, .ds cs)]) ∨ ∃ as os', os = (s, .av as) :: os' ∧ OpnL cs as os' ∧ ∀ p ∈ os', p.1 ≠ s)
  | .pt _, _, _ => False
def OpnL : List D → List AV → List (Nat × OB) → Prop
  | [], as, os => as = [] ∧ os = []
  | d :: ds, as, os => ∃ a as' o1 o2, as = a :: as' ∧ os = o1 ++ o2 ∧ Opn d a o1 ∧ OpnL ds as' o2 ∧ ∀ p ∈ o1, ∀ q ∈ o2, p.1 ≠ q.1
end

def CallN (P : Program) (σ : St) (dst : Option Nat) (g : FuncId) (as : List AV) (K : St → Prop) : Prop :=
  ∃ ds r res os, FnD P g ds r ∧ mapD (toD σ.ob 4) as = some ds ∧ Opn r res os ∧ ltAll σ.n (newN [] os) = true ∧ apartO σ.ob os res = true ∧ K (σ.after [] os dst res)

def CallOk (P : Program) (q : Bool) (σ : St) (dst : Option Nat) (f : AV) (args : List AV) (K : St → Prop) : Prop :=
  match f with
  | .fc g first cap => (∃ cvs r, ArgsAre P σ (first ++ args ++ cap) cvs ∧ Fn P g cvs r ∧ K (σ.adopt dst r)) ∨ (q = false ∧ CallS P σ dst g (first ++ args ++ cap) K) ∨ CallN P σ dst g (first ++ args ++ cap) K
  | .fn dom h => ∃ ds, mapD (toD σ.ob 4) args = some ds ∧ dom ds ∧ K (σ.adopt dst (h ds))
  | _ => False

def NextOk (σ : St) (dst : Option Nat) (x : AV) (str : Bool) (K : St → Prop) : Prop :=
  match x with
  | .rf s true => match lookO σ.ob s with
    | some (.it t n seen) => match lookO σ.ob t with
      | some (.mp kvs) => str = false ∧ kvs.length = n ∧
          (∀ i, i < n → i ∉ seen → K (St.puto { σ with ob := putO σ.ob s (.it t n (i :: seen)) } dst (.tu [.d (.bool true), .un, .un]))) ∧
          ((∀ i, i < n → i ∈ seen) → K (σ.puto dst (.d (.tu [.bool false]))))
      | _ => False
    | _ => False
  | _ => False

def stepOp (P : Program) (σ : St) (dst : Option Nat) (op : Op) : Option (Prop × St) :=
  match actOp P σ dst op with
  | some x => some x
  | none => match pureOp P σ op with
    | some (p, x) => some (p, σ.puto dst x)
    | none => none

def guardOf (ops : List Oper) (σ : St) (j : Nat) : AV := match ops[j]? with
  | some o => match o.dst with | some t => look σ.sl t | none => .un
  | none => .un

def opOk (P : Program) (q : Bool) (o : Oper) (σ : St) (K : St → Prop) : Prop :=
  match o.op with
  | .call { callee := .value f, args := args, argTypes := _ } => CallOk P q σ o.dst (σ.ev f) (args.toList.map σ.ev) K
  | .next x str => NextOk σ o.dst (σ.ev x) str K
  | op => match stepOp P σ o.dst op with
    | some (p, σ') => p ∧ K σ'
    | none => False

def Run (P : Program) (q : Bool) (ops : List Oper) : List Oper → St → (St → Prop) → Prop
  | [], σ, K => K σ
  | o :: l, σ, K => match o.guard with
    | none => opOk P q o σ fun σ' => Run P q ops l σ' K
    | some (j, want) => match guardOf ops σ j with
      | .d (.v (.bool c)) => if c = want then opOk P q o σ fun σ' => Run P q ops l σ' K else Run P q ops l (σ.puto o.dst (.d (.v undef))) K
      | .d (.v (.tuple _)) => Run P q ops l (σ.puto o.dst (.d (.v undef))) K
      | _ => False

def RunK (P : Program) (q : Bool) (ops l : List Oper) (K : St → Prop) (σ : St) : Prop := Run P q ops l σ K

def Next (P : Program) (q : Bool) (ops l : List Oper) (K : St → Prop) : Option (Prop × St) → Prop
  | some (p, σ') => p ∧ Run P q ops l σ' K
  | none => False

def Guard (P : Program) (q : Bool) (ops : List Oper) (o : Oper) (l : List Oper) (σ : St) (K : St → Prop) (want : Bool) (g : AV) : Prop :=
  match g with
  | .d (.v (.bool c)) => if c = want then opOk P q o σ fun σ' => Run P q ops l σ' K else Run P q ops l (σ.puto o.dst (.d (.v undef))) K
  | .d (.v (.tuple _)) => Run P q ops l (σ.puto o.dst (.d (.v undef))) K
  | _ => False

section
variable {P : Program} {q : Bool} {ops l : List Oper} {σ : St} {K : St → Prop} {dst : Option Nat} {ty : TypeId} {pos : String} {after : Array Edge}

theorem rn_nil : Run P q ops [] σ K = K σ := Eq.trans rfl rfl

theorem rn_guard {j : Nat} {want : Bool} {op : Op} : Run P q ops (⟨dst, op, ty, pos, after, some (j, want)⟩ :: l) σ K = Guard P q ops ⟨dst, op, ty, pos, after, none⟩ l σ K want (guardOf ops σ j) := Eq.trans rfl rfl

theorem guard_tt {o : Oper} (ho : o.guard = none) : Guard P q ops o l σ K true (.d (.v (.bool true))) = Run P q ops (o :: l) σ K := by
  simp only [Guard, Run, ho, if_true]

theorem guard_ff {o : Oper} (ho : o.guard = none) : Guard P q ops o l σ K false (.d (.v (.bool false))) = Run P q ops (o :: l) σ K := by
  simp only [Guard, Run, ho, if_true]

theorem guard_tf {o : Oper} : Guard P q ops o l σ K true (.d (.v (.bool false))) = Run P q ops l (σ.puto o.dst (.d (.v undef))) K := by
  simp [Guard]

theorem guard_ft {o : Oper} : Guard P q ops o l σ K false (.d (.v (.bool true))) = Run P q ops l (σ.puto o.dst (.d (.v undef))) K := by
  simp [Guard]

theorem guard_un {o : Oper} {want : Bool} {vs : Array Value} : Guard P q ops o l σ K want (.d (.v (.tuple vs))) = Run P q ops l (σ.puto o.dst (.d (.v undef))) K := Eq.trans rfl rfl

theorem next_some {p : Prop} {σ' : St} : Next P q ops l K (some (p, σ')) = (p ∧ Run P q ops l σ' K) := Eq.trans rfl rfl

theorem rn_call {f : Operand} {args : Array Operand} {ts : Array TypeId} : Run P q ops (⟨dst, .call ⟨.value f, args, ts⟩, ty, pos, after, none⟩ :: l) σ K = CallOk P q σ dst (σ.ev f) (args.toList.map σ.ev) (RunK P q ops l K) := Eq.trans rfl rfl

theorem rn_next {x : Operand} {str : Bool} : Run P q ops (⟨dst, .next x str, ty, pos, after, none⟩ :: l) σ K = NextOk σ dst (σ.ev x) str (RunK P q ops l K) := Eq.trans rfl rfl

theorem rn_step {op : Op} (h : ∀ c, op ≠ .call c) (h' : ∀ x s, op ≠ .next x s) : Run P q ops (⟨dst, op, ty, pos, after, none⟩ :: l) σ K = Next P q ops l K (stepOp P σ dst op) := by
  cases op <;> first | rfl | exact absurd rfl (h _) | exact absurd rfl (h' _ _)

theorem rn_move {x : Operand} : Run P q ops (⟨dst, .move x, ty, pos, after, none⟩ :: l) σ K = Run P q ops l (σ.puto dst (σ.ev x)) K := (rn_step (fun _ h => by cases h) (fun _ _ h => by cases h)).trans (by simp [stepOp, actOp, pureOp, Next])

theorem rn_assign {x : Operand} : Run P q ops (⟨dst, .assign x, ty, pos, after, none⟩ :: l) σ K = Run P q ops l (σ.puto dst (σ.ev x)) K := (rn_step (fun _ h => by cases h) (fun _ _ h => by cases h)).trans (by simp [stepOp, actOp, pureOp, Next])

theorem rn_pick {c a b : Operand} : Run P q ops (⟨dst, .pick c a b, ty, pos, after, none⟩ :: l) σ K = Next P q ops l K (stepOp P σ dst (.pick c a b)) := rn_step (fun _ h => by cases h) (fun _ _ h => by cases h)

theorem rn_alloc {t : TypeId} : Run P q ops (⟨dst, .alloc t, ty, pos, after, none⟩ :: l) σ K = Next P q ops l K (stepOp P σ dst (.alloc t)) := rn_step (fun _ h => by cases h) (fun _ _ h => by cases h)

theorem rn_box {t : TypeId} {x : Operand} : Run P q ops (⟨dst, .box t x, ty, pos, after, none⟩ :: l) σ K = Next P q ops l K (stepOp P σ dst (.box t x)) := rn_step (fun _ h => by cases h) (fun _ _ h => by cases h)

theorem rn_buildSlice {t : TypeId} {n : Nat} {x : Array (Nat × Operand)} : Run P q ops (⟨dst, .buildSlice t n x, ty, pos, after, none⟩ :: l) σ K = Next P q ops l K (stepOp P σ dst (.buildSlice t n x)) := rn_step (fun _ h => by cases h) (fun _ _ h => by cases h)

theorem rn_load {t : TypeId} {x : Operand} : Run P q ops (⟨dst, .load t x, ty, pos, after, none⟩ :: l) σ K = Next P q ops l K (stepOp P σ dst (.load t x)) := rn_step (fun _ h => by cases h) (fun _ _ h => by cases h)

theorem rn_store {t : TypeId} {x y : Operand} : Run P q ops (⟨dst, .store t x y, ty, pos, after, none⟩ :: l) σ K = Next P q ops l K (stepOp P σ dst (.store t x y)) := rn_step (fun _ h => by cases h) (fun _ _ h => by cases h)

theorem rn_nilCheck {x : Operand} : Run P q ops (⟨dst, .nilCheck x, ty, pos, after, none⟩ :: l) σ K = Next P q ops l K (stepOp P σ dst (.nilCheck x)) := rn_step (fun _ h => by cases h) (fun _ _ h => by cases h)

theorem rn_binOp {op : BinOp} {t u : TypeId} {x y : Operand} : Run P q ops (⟨dst, .binOp op t x y u, ty, pos, after, none⟩ :: l) σ K = Next P q ops l K (stepOp P σ dst (.binOp op t x y u)) := rn_step (fun _ h => by cases h) (fun _ _ h => by cases h)

theorem rn_build {t : TypeId} {x : Array (Nat × Operand)} : Run P q ops (⟨dst, .build t x, ty, pos, after, none⟩ :: l) σ K = Next P q ops l K (stepOp P σ dst (.build t x)) := rn_step (fun _ h => by cases h) (fun _ _ h => by cases h)

theorem rn_unOp {op : UnOp} {t : TypeId} {x : Operand} : Run P q ops (⟨dst, .unOp op t x, ty, pos, after, none⟩ :: l) σ K = Next P q ops l K (stepOp P σ dst (.unOp op t x)) := rn_step (fun _ h => by cases h) (fun _ _ h => by cases h)

theorem rn_convert {t u : TypeId} {x : Operand} : Run P q ops (⟨dst, .convert t u x, ty, pos, after, none⟩ :: l) σ K = Next P q ops l K (stepOp P σ dst (.convert t u x)) := rn_step (fun _ h => by cases h) (fun _ _ h => by cases h)

theorem rn_makeFunc {f : Go.Fn} {a b : Array Operand} : Run P q ops (⟨dst, .makeFunc f a b, ty, pos, after, none⟩ :: l) σ K = Next P q ops l K (stepOp P σ dst (.makeFunc f a b)) := rn_step (fun _ h => by cases h) (fun _ _ h => by cases h)

theorem rn_makeSlice {t : TypeId} {a b : Operand} : Run P q ops (⟨dst, .makeSlice t a b, ty, pos, after, none⟩ :: l) σ K = Next P q ops l K (stepOp P σ dst (.makeSlice t a b)) := rn_step (fun _ h => by cases h) (fun _ _ h => by cases h)

theorem rn_slice {t : TypeId} {x : Operand} {a b c : Option Operand} : Run P q ops (⟨dst, .slice t x a b c, ty, pos, after, none⟩ :: l) σ K = Next P q ops l K (stepOp P σ dst (.slice t x a b c)) := rn_step (fun _ h => by cases h) (fun _ _ h => by cases h)

theorem rn_fieldAddr {t : TypeId} {x : Operand} {f : Nat} : Run P q ops (⟨dst, .fieldAddr t x f, ty, pos, after, none⟩ :: l) σ K = Next P q ops l K (stepOp P σ dst (.fieldAddr t x f)) := rn_step (fun _ h => by cases h) (fun _ _ h => by cases h)

theorem rn_field {t : TypeId} {x : Operand} {f : Nat} : Run P q ops (⟨dst, .field t x f, ty, pos, after, none⟩ :: l) σ K = Next P q ops l K (stepOp P σ dst (.field t x f)) := rn_step (fun _ h => by cases h) (fun _ _ h => by cases h)

theorem rn_indexAddr {t : TypeId} {x y : Operand} : Run P q ops (⟨dst, .indexAddr t x y, ty, pos, after, none⟩ :: l) σ K = Next P q ops l K (stepOp P σ dst (.indexAddr t x y)) := rn_step (fun _ h => by cases h) (fun _ _ h => by cases h)

theorem rn_index {t : TypeId} {x y : Operand} : Run P q ops (⟨dst, .index t x y, ty, pos, after, none⟩ :: l) σ K = Next P q ops l K (stepOp P σ dst (.index t x y)) := rn_step (fun _ h => by cases h) (fun _ _ h => by cases h)

theorem rn_lookup {t : TypeId} {x y : Operand} {b : Bool} : Run P q ops (⟨dst, .lookup t x y b, ty, pos, after, none⟩ :: l) σ K = Next P q ops l K (stepOp P σ dst (.lookup t x y b)) := rn_step (fun _ h => by cases h) (fun _ _ h => by cases h)

theorem rn_entry {x : Operand} : Run P q ops (⟨dst, .entry x, ty, pos, after, none⟩ :: l) σ K = Next P q ops l K (stepOp P σ dst (.entry x)) := rn_step (fun _ h => by cases h) (fun _ _ h => by cases h)

theorem rn_makeMap {t : TypeId} {r : Option Operand} : Run P q ops (⟨dst, .makeMap t r, ty, pos, after, none⟩ :: l) σ K = Next P q ops l K (stepOp P σ dst (.makeMap t r)) := rn_step (fun _ h => by cases h) (fun _ _ h => by cases h)

theorem rn_range {t : TypeId} {x : Operand} : Run P q ops (⟨dst, .range t x, ty, pos, after, none⟩ :: l) σ K = Next P q ops l K (stepOp P σ dst (.range t x)) := rn_step (fun _ h => by cases h) (fun _ _ h => by cases h)

theorem rn_mapUpdate {t : TypeId} {x y z : Operand} : Run P q ops (⟨dst, .mapUpdate t x y z, ty, pos, after, none⟩ :: l) σ K = Next P q ops l K (stepOp P σ dst (.mapUpdate t x y z)) := rn_step (fun _ h => by cases h) (fun _ _ h => by cases h)

theorem rn_insert {t : TypeId} {x y z : Operand} : Run P q ops (⟨dst, .insert t x y z, ty, pos, after, none⟩ :: l) σ K = Next P q ops l K (stepOp P σ dst (.insert t x y z)) := rn_step (fun _ h => by cases h) (fun _ _ h => by cases h)

theorem rn_extract {x : Operand} {i : Nat} : Run P q ops (⟨dst, .extract x i, ty, pos, after, none⟩ :: l) σ K = Next P q ops l K (stepOp P σ dst (.extract x i)) := rn_step (fun _ h => by cases h) (fun _ _ h => by cases h)

theorem rn_builtin {b : Builtin} {args : Array Operand} {ts : Array TypeId} : Run P q ops (⟨dst, .call ⟨.builtin b, args, ts⟩, ty, pos, after, none⟩ :: l) σ K = Next P q ops l K (stepOp P σ dst (.call ⟨.builtin b, args, ts⟩)) := rfl

end

def AW (P : Program) (c : Code) (Q : Exit → St → Prop) (σ : St) : Prop :=
  ∀ w0 ν a w, Sim P w0 σ ν a w → c.wp P (fun e a' w' => ∃ σ' ν', Q e σ' ∧ Sim P w0 σ' ν' a' w') a w

theorem Row.keep {w w' : World} {o : Bool} {b off ext : Nat} {xs : List Value} (h : Row w o b off xs ext) (hk : w'.heap[b]? = w.heap[b]?) : Row w' o b off xs ext := by
  obtain ⟨h0, c, T, fz, h1, h2, h3⟩ := h
  exact ⟨h0, c, T, fz, hk.trans h1, h2, h3⟩

theorem Row.lt {w : World} {o : Bool} {b off ext : Nat} {xs : List Value} (h : Row w o b off xs ext) : b < w.heap.size := by
  obtain ⟨_, c, T, fz, h1, _⟩ := h
  have := Array.getElem?_eq_some_iff.1 h1
  exact this.1

theorem Row.weak {w : World} {b off ext : Nat} {xs : List Value} (h : Row w true b off xs ext) (o : Bool) : Row w o b off xs ext := by
  obtain ⟨h0, c, T, fz, h1, h2, h3⟩ := h
  exact ⟨h0, c, T, fz, h1, h2, fun _ => h3 rfl⟩

mutual
theorem RD.keep {w w' : World} {o : Bool} : ∀ {d : D} {y : Value} {bs : List Nat}, RD w o d y bs → (∀ b ∈ bs, w'.heap[b]? = w.heap[b]?) → RD w' o d y bs
  | .v x, y, bs, h, _ => by simp only [RD] at h ⊢; exact h
  | .ag cs, y, bs, h, hk => by
    simp only [RD] at h ⊢
    obtain ⟨xs, h1, h0, h2⟩ := h
    exact ⟨xs, h1, h0, RDs.keep h2 hk⟩
  | .tu cs, y, bs, h, hk => by
    simp only [RD] at h ⊢
    obtain ⟨xs, h1, h2⟩ := h
    exact ⟨xs, h1, RDs.keep h2 hk⟩
  | .ls k n cs, y, bs, h, hk => by
    simp only [RD] at h ⊢
    rcases h with h | ⟨b, off, cap, xs, bs', h1, h2, h3, h4, h5, h6⟩
    · exact .inl h
    · subst h2
      exact .inr ⟨b, off, cap, xs, bs', h1, rfl, h3, h4, h5.keep (hk b (by simp)), RDs.keep h6 (fun b hb => hk b (by simp [hb]))⟩
  | .pt cs, y, bs, h, hk => by
    simp only [RD] at h ⊢
    obtain ⟨b, off, xs, bs', h1, h2, h3, h4⟩ := h
    subst h2
    exact ⟨b, off, xs, bs', h1, rfl, h3.keep (hk b (by simp)), RDs.keep h4 (fun b hb => hk b (by simp [hb]))⟩
theorem RDs.keep {w w' : World} {o : Bool} : ∀ {ds : List D} {ys : List Value} {bs : List Nat}, RDs w o ds ys bs → (∀ b ∈ bs, w'.heap[b]? = w.heap[b]?) → RDs w' o ds ys bs
  | [], ys, bs, h, _ => by simp only [RDs] at h ⊢; exact h
  | d :: ds, ys, bs, h, hk => by
    simp only [RDs] at h ⊢
    obtain ⟨x, xs', b1, b2, h1, h2, h3, h4⟩ := h
    subst h2
    exact ⟨x, xs', b1, b2, h1, rfl, RD.keep h3 (fun b hb => hk b (by simp [hb])), RDs.keep h4 (fun b hb => hk b (by simp [hb]))⟩
end

mutual
theorem RD.lt {w : World} {o : Bool} : ∀ {d : D} {y : Value} {bs : List Nat}, RD w o d y bs → ∀ b ∈ bs, b < w.heap.size
  | .v x, y, bs, h => by simp only [RD] at h; simp [h.2]
  | .ag cs, y, bs, h => by
    simp only [RD] at h
    obtain ⟨xs, h1, _, h2⟩ := h
    exact RDs.lt h2
  | .tu cs, y, bs, h => by
    simp only [RD] at h
    obtain ⟨xs, h1, h2⟩ := h
    exact RDs.lt h2
  | .ls k n cs, y, bs, h => by
    simp only [RD] at h
    rcases h with ⟨_, _, _, _, _, _, h⟩ | ⟨b, off, cap, xs, bs', h1, h2, h3, h4, h5, h6⟩
    · simp [h]
    · subst h2
      intro b' hb'
      rcases List.mem_cons.1 hb' with rfl | hb'
      · exact h5.lt
      · exact RDs.lt h6 b' hb'
  | .pt cs, y, bs, h => by
    simp only [RD] at h
    obtain ⟨b, off, xs, bs', h1, h2, h3, h4⟩ := h
    subst h2
    intro b' hb'
    rcases List.mem_cons.1 hb' with rfl | hb'
    · exact h3.lt
    · exact RDs.lt h4 b' hb'
theorem RDs.lt {w : World} {o : Bool} : ∀ {ds : List D} {ys : List Value} {bs : List Nat}, RDs w o ds ys bs → ∀ b ∈ bs, b < w.heap.size
  | [], ys, bs, h => by simp only [RDs] at h; simp [h.2]
  | d :: ds, ys, bs, h => by
    simp only [RDs] at h
    obtain ⟨x, xs', b1, b2, h1, h2, h3, h4⟩ := h
    subst h2
    intro b hb
    rcases List.mem_append.1 hb with hb | hb
    · exact RD.lt h3 b hb
    · exact RDs.lt h4 b hb
end

mutual
theorem RD.weak {w : World} (o : Bool) : ∀ {d : D} {y : Value} {bs : List Nat}, RD w true d y bs → RD w o d y bs
  | .v x, y, bs, h => by simp only [RD] at h ⊢; exact h
  | .ag cs, y, bs, h => by
    simp only [RD] at h ⊢
    obtain ⟨xs, h1, h0, h2⟩ := h
    exact ⟨xs, h1, h0, RDs.weak o h2⟩
  | .tu cs, y, bs, h => by
    simp only [RD] at h ⊢
    obtain ⟨xs, h1, h2⟩ := h
    exact ⟨xs, h1, RDs.weak o h2⟩
  | .ls k n cs, y, bs, h => by
    simp only [RD] at h ⊢
    rcases h with ⟨a, c, h1, h2, h3⟩ | ⟨b, off, cap, xs, bs', h1, h2, h3, h4, h5, h6⟩
    · exact .inl ⟨a, c, h1, (fun _ => by simpa using h2), h3⟩
    · exact .inr ⟨b, off, cap, xs, bs', h1, h2, h3, h4, h5.weak o, RDs.weak o h6⟩
  | .pt cs, y, bs, h => by
    simp only [RD] at h ⊢
    obtain ⟨b, off, xs, bs', h1, h2, h3, h4⟩ := h
    exact ⟨b, off, xs, bs', h1, h2, h3.weak o, RDs.weak o h4⟩
theorem RDs.weak {w : World} (o : Bool) : ∀ {ds : List D} {ys : List Value} {bs : List Nat}, RDs w true ds ys bs → RDs w o ds ys bs
  | [], ys, bs, h => by simp only [RDs] at h ⊢; exact h
  | d :: ds, ys, bs, h => by
    simp only [RDs] at h ⊢
    obtain ⟨x, xs', b1, b2, h1, h2, h3, h4⟩ := h
    exact ⟨x, xs', b1, b2, h1, h2, RD.weak o h3, RDs.weak o h4⟩
end

structure Later (ob : List (Nat × OB)) (ν : Loc) (w : World) (ob' : List (Nat × OB)) (ν' : Loc) (w' : World) : Prop where
  size : w.heap.size ≤ w'.heap.size
  avoid : ∀ b, b < w.heap.size → AvoidB ob ν b → AvoidB ob' ν' b ∧ w'.heap[b]? = w.heap[b]?
  rows : ∀ (b : Nat) (c : Array Value) (T : TypeId), w.heap[b]? = some (.cells c T (0, 0)) → ∃ (c' : Array Value) (T' : TypeId), w'.heap[b]? = some (.cells c' T' (0, 0)) ∧ c'.size = c.size

def Fits (ob : List (Nat × OB)) (ν : Loc) (ob' : List (Nat × OB)) (ν' : Loc) (s : Nat) : Prop := (lookO ob' s).isSome = true → (lookO ob s).isSome = true ∧ ν' s = ν s ∧ ∀ o o', lookO ob s = some o → lookO ob' s = some o' → (obCells o').length = (obCells o).length

mutual
theorem VR.later {P : Program} {w0 : Env} {w w' : World} {ob ob' : List (Nat × OB)} {ν ν' : Loc} (hl : Later ob ν w ob' ν' w') : ∀ {x : AV} {y : Value}, VR P w0 w ob ν x y → (∀ s, x.refs s = true → Fits ob ν ob' ν' s) → VR P w0 w' ob' ν' x y
  | .d x, y, h, _ => by
    simp only [VR] at h ⊢
    obtain ⟨bs, h1, h2⟩ := h
    refine ⟨bs, h1.keep (fun b hb => (hl.avoid b (h2 b hb).1 (h2 b hb).2.1).2), fun b hb => ⟨Nat.lt_of_lt_of_le (h2 b hb).1 hl.size, (hl.avoid b (h2 b hb).1 (h2 b hb).2.1).1, (h2 b hb).2.2⟩⟩
  | .bp s o, y, h, hr => by
    simp only [VR] at h ⊢
    intro hs
    obtain ⟨h1, h2, _⟩ := hr s (by simp [AV.refs]) hs
    obtain ⟨b, base, h3, h4⟩ := h h1
    exact ⟨b, base, h2.trans h3, h4⟩
  | .bs s off n k, y, h, hr => by
    simp only [VR] at h ⊢
    intro hs
    obtain ⟨h1, h2, hlen⟩ := hr s (by simp [AV.refs]) hs
    obtain ⟨o1, ho1⟩ := Option.isSome_iff_exists.1 h1
    obtain ⟨hle, h⟩ := h h1
    refine ⟨fun o' ho' => by rw [hlen o1 o' ho1 ho']; exact hle o1 ho1, ?_⟩
    rcases h with h3 | ⟨b, base, cap, a, c, T, h3, h4, h5, h6, h7, h8⟩
    · exact .inl ⟨h2.trans h3.1, h3.2⟩
    · obtain ⟨c', T', h9, h10⟩ := hl.rows b c T h7
      exact .inr ⟨b, base, cap, a, c', T', h2.trans h3, h4, h5, by rw [h10]; exact h6, h9, by omega⟩
  | .ag cs, y, h, hr => by
    simp only [VR] at h ⊢
    obtain ⟨xs, h1, h0, h2⟩ := h
    exact ⟨xs, h1, h0, VRs.later hl h2 (fun s hs => hr s (by simpa [AV.refs] using hs))⟩
  | .tu cs, y, h, hr => by
    simp only [VR] at h ⊢
    obtain ⟨xs, h1, h2⟩ := h
    exact ⟨xs, h1, VRs.later hl h2 (fun s hs => hr s (by simpa [AV.refs] using hs))⟩
  | .fn dom k, y, h, _ => by
    simp only [VR] at h ⊢
    exact h
  | .fc g a b, y, h, hr => by
    simp only [VR] at h ⊢
    obtain ⟨xs, ys, h1, h2, h3⟩ := h
    exact ⟨xs, ys, h1, VRs.later hl h2 (fun s hs => hr s (by simp [AV.refs, hs])), VRs.later hl h3 (fun s hs => hr s (by simp [AV.refs, hs]))⟩
  | .rf s k, y, h, hr => by
    simp only [VR] at h ⊢
    intro hs
    obtain ⟨h1, h2, _⟩ := hr s (by simp [AV.refs]) hs
    obtain ⟨b, h3, h4⟩ := h h1
    exact ⟨b, h2.trans h3, h4⟩
  | .un, y, h, _ => by simp only [VR]
theorem VRs.later {P : Program} {w0 : Env} {w w' : World} {ob ob' : List (Nat × OB)} {ν ν' : Loc} (hl : Later ob ν w ob' ν' w') : ∀ {xs : List AV} {ys : List Value}, VRs P w0 w ob ν xs ys → (∀ s, AV.refsL s xs = true → Fits ob ν ob' ν' s) → VRs P w0 w' ob' ν' xs ys
  | [], ys, h, _ => by simp only [VRs] at h ⊢; exact h
  | x :: xs, ys, h, hr => by
    simp only [VRs] at h ⊢
    obtain ⟨y, ys', h1, h2, h3⟩ := h
    exact ⟨y, ys', h1, VR.later hl h2 (fun s hs => hr s (by simp [AV.refsL, hs])), VRs.later hl h3 (fun s hs => hr s (by simp [AV.refsL, hs]))⟩
end

theorem look_put (sl : List (Nat × AV)) (t : Nat) (x : AV) (t' : Nat) : look (put sl t x) t' = if t' = t then x else look sl t' := by
  induction sl with
  | nil =>
    simp only [put, look]
    by_cases h : t = t'
    · simp [h]
    · rw [if_neg h, if_neg (fun e => h e.symm)]
  | cons p r ih =>
    obtain ⟨k, y⟩ := p
    simp only [put]
    by_cases h : k = t
    · subst h
      simp only [if_true, look]
      by_cases h' : k = t'
      · simp [h']
      · rw [if_neg h', if_neg h', if_neg (fun e => h' e.symm)]
    · rw [if_neg h]
      simp only [look, ih]
      by_cases h' : k = t'
      · subst h'
        rw [if_pos rfl, if_pos rfl, if_neg h]
      · rw [if_neg h', if_neg h']

theorem look_kill (s : Nat) (sl : List (Nat × AV)) (t : Nat) : look (killS s sl) t = if (look sl t).refs s then .un else look sl t := by
  induction sl with
  | nil => simp [killS, look, AV.refs]
  | cons p r ih =>
    obtain ⟨k, y⟩ := p
    simp only [killS, look]
    by_cases h : k = t
    · simp [h]
    · simp only [if_neg h, ih]

theorem lookO_ne {ob : List (Nat × OB)} {t : Nat} {o : OB} (h : lookO ob t = some o) : o ≠ .dead := by
  induction ob with
  | nil => simp [lookO] at h
  | cons p r ih =>
    obtain ⟨k, y⟩ := p
    simp only [lookO] at h
    by_cases ht : k = t
    · rw [if_pos ht] at h
      cases y <;> simp_all
      all_goals (rw [← h]; simp)
    · rw [if_neg ht] at h
      exact ih h

theorem lookO_kill {s : Nat} {ob : List (Nat × OB)} {t : Nat} {o : OB} (h : lookO (killO s ob) t = some o) : t ≠ s ∧ lookO ob t = some o ∧ o.refs s = false := by
  induction ob with
  | nil => simp [killO, lookO] at h
  | cons p r ih =>
    obtain ⟨k, y⟩ := p
    simp only [killO] at h
    by_cases hk : k = s
    · rw [if_pos hk] at h
      obtain ⟨h1, h2, h3⟩ := ih h
      refine ⟨h1, ?_, h3⟩
      simp only [lookO]
      rw [if_neg (fun e => h1 (e.symm.trans hk))]
      exact h2
    · rw [if_neg hk] at h
      simp only [lookO] at h ⊢
      by_cases ht : k = t
      · subst ht
        rw [if_pos rfl] at h ⊢
        refine ⟨hk, ?_, ?_⟩
        · by_cases hr : y.refs s = true
          · simp [hr] at h
          · simpa [hr] using h
        · by_cases hr : y.refs s = true
          · simp [hr] at h
          · have hy : o = y := by
              cases y <;> simp_all
            rw [hy]; simpa using hr
      · rw [if_neg ht] at h ⊢
        exact ih h

theorem lookO_del {ob : List (Nat × OB)} {b t : Nat} {o : OB} (h : lookO (delO ob b) t = some o) : t ≠ b ∧ lookO ob t = some o := by
  induction ob with
  | nil => simp [delO, lookO] at h
  | cons p r ih =>
    obtain ⟨k, y⟩ := p
    simp only [delO] at h
    by_cases hk : k = b
    · rw [if_pos hk] at h
      simp only [lookO] at h
      by_cases ht : k = t
      · rw [if_pos ht] at h; simp at h
      · rw [if_neg ht] at h
        obtain ⟨h1, h2⟩ := ih h
        refine ⟨h1, ?_⟩
        simp only [lookO]
        rw [if_neg ht]
        exact h2
    · rw [if_neg hk] at h
      simp only [lookO] at h ⊢
      by_cases ht : k = t
      · subst ht
        rw [if_pos rfl] at h ⊢
        exact ⟨hk, h⟩
      · rw [if_neg ht] at h ⊢
        exact ih h

theorem lookO_put {ob : List (Nat × OB)} {s t : Nat} {o : OB} (ho : o ≠ .dead) : lookO (putO ob s o) t = if t = s then some o else lookO ob t := by
  have hm : (match o with | .dead => none | x => some x) = some o := by cases o <;> first | rfl | exact absurd rfl ho
  induction ob with
  | nil =>
    simp only [putO, lookO]
    by_cases h : s = t
    · rw [if_pos h, if_pos h.symm]; try exact hm
    · rw [if_neg h, if_neg (fun e => h e.symm)]
  | cons p r ih =>
    obtain ⟨k, y⟩ := p
    simp only [putO]
    by_cases h : k = s
    · subst h
      simp only [if_true, lookO]
      by_cases h' : k = t
      · rw [if_pos h', if_pos h'.symm]; try exact hm
      · rw [if_neg h', if_neg h', if_neg (fun e => h' e.symm)]
    · rw [if_neg h]
      simp only [lookO]
      by_cases h' : k = t
      · subst h'
        rw [if_pos rfl, if_pos rfl, if_neg h]
      · rw [if_neg h', if_neg h', ih]

section
variable {P : Program} {w0 : Env} {w w' : World} {σ σ' : St} {ν ν' : Loc} {a : Act}

theorem tmps_put (a : Act) (t : Nat) (v : Value) (ht : t < a.tmps.size) (t' : Nat) : (a.put (some t) v).tmps.getD t' undef = if t' = t then v else a.tmps.getD t' undef := by
  simp only [Act.put, Array.getD_eq_getD_getElem?, Array.getElem?_setIfInBounds]
  by_cases h : t = t'
  · subst h
    simp [ht]
  · rw [if_neg h, if_neg (fun e => h e.symm)]

theorem size_put (a : Act) (t : Nat) (v : Value) : (a.put (some t) v).tmps.size = a.tmps.size := by simp [Act.put]

theorem Sim.put (h : Sim P w0 σ ν a w) {t : Nat} (ht : t < σ.n) {x : AV} {v : Value} (hv : VR P w0 w σ.ob ν x v) : Sim P w0 (σ.put t x) ν (a.put (some t) v) w := by
  refine ⟨h.toMem, h.below, h.rows, h.lt, h.fresh, h.le, h.glob, h.stab, h.defers, (size_put a t v).trans h.size, fun t' => ?_⟩
  rw [tmps_put a t v (h.size ▸ ht)]
  show VR P w0 w σ.ob ν (look (Go.Proofs.Yteimddagjikcaaa.put σ.sl t x) t') _
  rw [look_put]
  split
  · exact hv
  · exact h.slots t'

theorem Sim.puto (h : Sim P w0 σ ν a w) {dst : Option Nat} (ht : ∀ t, dst = some t → t < σ.n) {x : AV} {v : Value} (hv : VR P w0 w σ.ob ν x v) : Sim P w0 (σ.puto dst x) ν (a.put dst v) w := by
  cases dst with
  | none => exact h
  | some t => exact h.put (ht t rfl) hv

theorem later_below (hb : Below w.heap.size w w') (ob : List (Nat × OB)) (ν : Loc) : Later ob ν w ob ν w' :=
  ⟨hb.size, fun b hb' ha => ⟨ha, hb.block b hb'⟩, fun b c T h => ⟨c, T, (hb.block b (Array.getElem?_eq_some_iff.1 h).1).trans h, rfl⟩⟩

theorem fits_refl (ob : List (Nat × OB)) (ν : Loc) (s : Nat) : Fits ob ν ob ν s := fun h => ⟨h, rfl, fun o o' h1 h2 => by rw [h1] at h2; cases h2; rfl⟩

theorem OR.later {s : Nat} {o : OB} (h : OR P w0 w σ.ob ν s o) (hl : Later σ.ob ν w σ'.ob ν' w') (hs : ν' s = ν s) (hr : ∀ s', AV.refsL s' (obCells o) = true → Fits σ.ob ν σ'.ob ν' s')
    (hk : ∀ b base, ν s = some (b, base) → w'.heap[b]? = w.heap[b]?) : OR P w0 w' σ'.ob ν' s o := by
  rcases h with ⟨h1, h2⟩ | ⟨b, base, c, T, xs, h1, h2, h3, h4, h0, h5⟩
  · exact .inl ⟨hs.trans h1, h2⟩
  · exact .inr ⟨b, base, c, T, xs, hs.trans h1, h2, (hk b base h1).trans h3, h4, h0, VRs.later hl h5 hr⟩

theorem Sim.keep (h : Sim P w0 σ ν a w) (hb : Below w.heap.size w w') : Keep w0.S w0.w w' :=
  h.below.trans (keep_below hb (fun k hk => Nat.lt_of_lt_of_le (h.lt k hk) h.below.size))

theorem rows_below (hb : Below w.heap.size w w') : Rows w w' := fun b c T h => ⟨c, T, (hb.block b (Array.getElem?_eq_some_iff.1 h).1).trans h, rfl⟩

theorem Sim.newB (h : Sim P w0 σ ν a w) {b : Nat} (hb : w.heap.size ≤ b) : ¬ w0.S b ∧ w0.D b :=
  ⟨fun hs => by have := h.lt b hs; have := h.below.size; omega, h.fresh b (Nat.le_trans h.below.size hb)⟩

theorem Sim.grown (h : Sim P w0 σ ν a w) (hb : Below w.heap.size w w') : Sim P w0 σ ν a w' := by
  have hl := later_below hb σ.ob ν
  refine ⟨⟨fun s o ho => ?_, h.inj⟩, h.keep hb, h.rows.trans (rows_below hb), h.lt, h.fresh, h.le, h.glob, h.stab, h.defers, h.size, fun t => VR.later hl (h.slots t) (fun s _ => fits_refl _ _ s)⟩
  refine (h.objs s o ho).later hl rfl (fun s' _ => fits_refl _ _ s') (fun b base hs => ?_)
  rcases h.objs s o ho with ⟨h1, _⟩ | ⟨b', base', c, T, xs, h1, h2, h3, h4, h5⟩
  · rw [h1] at hs; cases hs
  · rw [h1] at hs
    cases hs
    exact hb.block b (Array.getElem?_eq_some_iff.1 h3).1

theorem Sim.new (h : Sim P w0 σ ν a w) (hb : Below w.heap.size w w') {s : Nat} (hs : s < σ.n) {o : OB} (ho : o ≠ .dead) {x : AV} {v : Value} {loc : Option (Nat × Nat)}
    (hloc : ∀ p, loc = some p → w.heap.size ≤ p.1)
    (hor : ∀ ob' ν', Later σ.ob ν w ob' ν' w' → (∀ s', s' ≠ s → Fits σ.ob ν ob' ν' s') → ν' s = loc → lookO ob' s = some o → OR P w0 w' ob' ν' s o ∧ VR P w0 w' ob' ν' x v) :
    ∃ ν', Sim P w0 (σ.new s o x) ν' (a.put (some s) v) w' := by
  have hm : ∀ r, lookO ((s, o) :: r) s = some o := fun r => by
    simp only [lookO, if_true]
  let ob' := (s, o) :: killO s σ.ob
  let ν' : Loc := fun t => if t = s then loc else ν t
  have hν : ∀ t, t ≠ s → ν' t = ν t := fun t ht => by simp only [ν']; rw [if_neg ht]
  have hνs : ν' s = loc := by simp [ν']
  have hlook : ∀ t o', lookO ob' t = some o' → (t = s ∧ o' = o) ∨ (t ≠ s ∧ lookO σ.ob t = some o' ∧ o'.refs s = false) := fun t o' ht => by
    by_cases hts : t = s
    · subst hts
      rw [show lookO ob' t = some o from hm _] at ht
      exact .inl ⟨rfl, (Option.some.inj ht).symm⟩
    · have : lookO ob' t = lookO (killO s σ.ob) t := by
        show lookO ((s, o) :: killO s σ.ob) t = _
        simp only [lookO]
        rw [if_neg (fun e => hts e.symm)]
      rw [this] at ht
      exact .inr (lookO_kill ht)
  have hl : Later σ.ob ν w ob' ν' w' := by
    refine ⟨hb.size, fun b hbl ha => ⟨fun t o' ht p hp => ?_, hb.block b hbl⟩, (later_below hb σ.ob ν).rows⟩
    rcases hlook t o' ht with ⟨rfl, _⟩ | ⟨h1, h2, _⟩
    · rw [hνs] at hp
      have := hloc p hp
      omega
    · rw [hν t h1] at hp
      exact ha t o' h2 p hp
  have hf : ∀ s', s' ≠ s → Fits σ.ob ν ob' ν' s' := fun s' hs' hsome => by
    obtain ⟨o', ho'⟩ := Option.isSome_iff_exists.1 hsome
    rcases hlook s' o' ho' with ⟨e, _⟩ | ⟨_, h2, _⟩
    · exact absurd e hs'
    · exact ⟨by rw [h2]; rfl, hν s' hs', fun o1 o2 g1 g2 => by
        rw [h2] at g1; rw [ho'] at g2; cases g1; cases g2; rfl⟩
  obtain ⟨hor1, hor2⟩ := hor ob' ν' hl hf hνs (hm _)
  refine ⟨ν', ⟨fun t o' ht => ?_, fun t t' o1 o2 p p' hne h1 h2 hp hp' => ?_⟩, h.keep hb, h.rows.trans (rows_below hb), h.lt, h.fresh, h.le, h.glob, fun t ht ht2 => (hν t (fun e => by have := h.le; omega)).trans (h.stab t ht ht2), h.defers, (size_put a s v).trans h.size, fun t => ?_⟩
  rotate_left 2
  · rw [tmps_put a s v (h.size ▸ hs)]
    show VR P w0 w' ob' ν' (look (Go.Proofs.Yteimddagjikcaaa.put (killS s σ.sl) s x) t) _
    rw [look_put]
    split
    · exact hor2
    · rw [look_kill]
      split
      · simp only [VR]
      · rename_i hr
        exact VR.later hl (h.slots t) (fun s' hs' => hf s' (fun e => hr (e ▸ hs')))
  · rcases hlook t o' ht with ⟨rfl, rfl⟩ | ⟨h1, h2, h3⟩
    · exact hor1
    · refine (h.objs t o' h2).later (σ' := ⟨0, [], ob'⟩) hl (hν t h1) (fun s' hs' => hf s' (fun e => ?_)) (fun b base hsb => ?_)
      · subst e
        have hne := lookO_ne h2
        cases o' <;> try (simp_all [obCells, OB.refs, AV.refsL, AV.refs]; done)
        all_goals simp_all [obCells, OB.refs]
        rename_i cs
        have : ∀ cs : List D, AV.refsL s' (cs.map AV.d) = false := fun cs => by induction cs <;> simp_all [AV.refsL, AV.refs]
        rw [this] at hs'; cases hs'
      · rcases h.objs t o' h2 with ⟨h4, _⟩ | ⟨b', base', c, T, xs, h4, h5, h6, _⟩
        · rw [h4] at hsb; cases hsb
        · rw [h4] at hsb; cases hsb
          exact hb.block b (Array.getElem?_eq_some_iff.1 h6).1
  · have hlt : ∀ t o' p, t ≠ s → lookO σ.ob t = some o' → ν t = some p → p.1 < w.heap.size := fun t o' p _ h2 hp => by
      rcases h.objs t o' h2 with ⟨h4, _⟩ | ⟨b', base', c, T, xs, h4, h5, h6, _⟩
      · rw [h4] at hp; cases hp
      · rw [h4] at hp; cases hp
        exact (Array.getElem?_eq_some_iff.1 h6).1
    rcases hlook t o1 h1 with ⟨rfl, _⟩ | ⟨h3, h4, _⟩
    · rcases hlook t' o2 h2 with ⟨rfl, _⟩ | ⟨h5, h6, _⟩
      · exact absurd rfl hne
      · rw [hν t' h5] at hp'
        rw [hνs] at hp
        have := hloc p hp
        have := hlt t' o2 p' h5 h6 hp'
        omega
    · rcases hlook t' o2 h2 with ⟨rfl, _⟩ | ⟨h5, h6, _⟩
      · rw [hν t h3] at hp
        rw [hνs] at hp'
        have := hloc p' hp'
        have := hlt t o1 p h3 h4 hp
        omega
      · rw [hν t h3] at hp
        rw [hν t' h5] at hp'
        exact h.inj t t' o1 o2 p p' hne h4 h6 hp hp'

end

theorem RDs.length {w : World} {o : Bool} : ∀ {ds : List D} {ys : List Value} {bs : List Nat}, RDs w o ds ys bs → ys.length = ds.length
  | [], ys, bs, h => by simp only [RDs] at h; simp [h.1]
  | d :: ds, ys, bs, h => by
    simp only [RDs] at h
    obtain ⟨x, xs', b1, b2, rfl, h2, h3, h4⟩ := h
    simp [RDs.length h4]

theorem RDs.drop {w : World} {o : Bool} : ∀ (i : Nat) {ds : List D} {ys : List Value} {bs : List Nat}, RDs w o ds ys bs → ∃ bs', RDs w o (ds.drop i) (ys.drop i) bs' ∧ ∀ b ∈ bs', b ∈ bs
  | 0, ds, ys, bs, h => ⟨bs, by simpa using h, fun b hb => hb⟩
  | i + 1, [], ys, bs, h => by
    simp only [RDs] at h
    exact ⟨[], by simp [RDs, h.1], by simp⟩
  | i + 1, d :: ds, ys, bs, h => by
    simp only [RDs] at h
    obtain ⟨x, xs', b1, b2, rfl, rfl, h3, h4⟩ := h
    obtain ⟨bs', h5, h6⟩ := RDs.drop i h4
    exact ⟨bs', by simpa using h5, fun b hb => by simp [h6 b hb]⟩

theorem RDs.take {w : World} {o : Bool} : ∀ (i : Nat) {ds : List D} {ys : List Value} {bs : List Nat}, RDs w o ds ys bs → ∃ bs', RDs w o (ds.take i) (ys.take i) bs' ∧ ∀ b ∈ bs', b ∈ bs
  | 0, ds, ys, bs, h => ⟨[], by simp [RDs], by simp⟩
  | i + 1, [], ys, bs, h => by
    simp only [RDs] at h
    exact ⟨[], by simp [RDs, h.1], by simp⟩
  | i + 1, d :: ds, ys, bs, h => by
    simp only [RDs] at h
    obtain ⟨x, xs', b1, b2, rfl, rfl, h3, h4⟩ := h
    obtain ⟨bs', h5, h6⟩ := RDs.take i h4
    refine ⟨b1 ++ bs', ?_, fun b hb => ?_⟩
    · simp only [List.take_succ_cons, RDs]
      exact ⟨x, xs'.take i, b1, bs', rfl, rfl, h3, h5⟩
    · rcases List.mem_append.1 hb with hb | hb
      · simp [hb]
      · simp [h6 b hb]

theorem RDs.get {w : World} {o : Bool} : ∀ {ds : List D} {ys : List Value} {bs : List Nat}, RDs w o ds ys bs → ∀ i, i < ds.length → ∃ y bs', ys[i]? = some y ∧ RD w o (ds.getD i (.v undef)) y bs' ∧ ∀ b ∈ bs', b ∈ bs
  | [], ys, bs, h, i, hi => by simp at hi
  | d :: ds, ys, bs, h, i, hi => by
    simp only [RDs] at h
    obtain ⟨x, xs', b1, b2, rfl, rfl, h3, h4⟩ := h
    cases i with
    | zero => exact ⟨x, b1, by simp, by simpa using h3, fun b hb => by simp [hb]⟩
    | succ i =>
      obtain ⟨y, bs', h5, h6, h7⟩ := RDs.get h4 i (by simpa using hi)
      exact ⟨y, bs', by simpa using h5, by simpa using h6, fun b hb => by simp [h7 b hb]⟩

theorem RDs.append {w : World} {o : Bool} : ∀ {ds : List D} {ys : List Value} {bs : List Nat} {ds' : List D} {ys' : List Value} {bs' : List Nat}, RDs w o ds ys bs → RDs w o ds' ys' bs' → RDs w o (ds ++ ds') (ys ++ ys') (bs ++ bs')
  | [], ys, bs, ds', ys', bs', h, h' => by
    simp only [RDs] at h
    obtain ⟨rfl, rfl⟩ := h
    simpa using h'
  | d :: ds, ys, bs, ds', ys', bs', h, h' => by
    simp only [RDs] at h
    obtain ⟨x, xs', b1, b2, rfl, rfl, h3, h4⟩ := h
    simp only [List.cons_append, RDs]
    exact ⟨x, xs' ++ ys', b1, b2 ++ bs', rfl, by simp, h3, RDs.append h4 h'⟩

section
variable {P : Program} {w0 : Env} {w : World} {ob : List (Nat × OB)} {ν : Loc}

theorem VRs.length : ∀ {cs : List AV} {ys : List Value}, VRs P w0 w ob ν cs ys → ys.length = cs.length
  | [], ys, h => by simp only [VRs] at h; simp [h]
  | d :: ds, ys, h => by
    simp only [VRs] at h
    obtain ⟨y, ys', rfl, h2, h3⟩ := h
    simp [VRs.length h3]

theorem VRs.drop : ∀ (i : Nat) {cs : List AV} {ys : List Value}, VRs P w0 w ob ν cs ys → VRs P w0 w ob ν (cs.drop i) (ys.drop i)
  | 0, cs, ys, h => by simpa using h
  | i + 1, [], ys, h => by simp only [VRs] at h; simp [VRs, h]
  | i + 1, d :: ds, ys, h => by
    simp only [VRs] at h
    obtain ⟨y, ys', rfl, h2, h3⟩ := h
    simpa using VRs.drop i h3

theorem VRs.take : ∀ (i : Nat) {cs : List AV} {ys : List Value}, VRs P w0 w ob ν cs ys → VRs P w0 w ob ν (cs.take i) (ys.take i)
  | 0, cs, ys, h => by simp [VRs]
  | i + 1, [], ys, h => by simp only [VRs] at h; simp [VRs, h]
  | i + 1, d :: ds, ys, h => by
    simp only [VRs] at h
    obtain ⟨y, ys', rfl, h2, h3⟩ := h
    simp only [List.take_succ_cons, VRs]
    exact ⟨y, ys'.take i, rfl, h2, VRs.take i h3⟩

theorem VRs.get : ∀ {cs : List AV} {ys : List Value}, VRs P w0 w ob ν cs ys → ∀ i, i < cs.length → ∃ y, ys[i]? = some y ∧ VR P w0 w ob ν (cs.getD i .un) y
  | [], ys, h, i, hi => by simp at hi
  | d :: ds, ys, h, i, hi => by
    simp only [VRs] at h
    obtain ⟨y, ys', rfl, h2, h3⟩ := h
    cases i with
    | zero => exact ⟨y, by simp, by simpa using h2⟩
    | succ i =>
      obtain ⟨z, h5, h6⟩ := VRs.get h3 i (by simpa using hi)
      exact ⟨z, by simpa using h5, by simpa using h6⟩

theorem VRs.append : ∀ {cs : List AV} {ys : List Value} {cs' : List AV} {ys' : List Value}, VRs P w0 w ob ν cs ys → VRs P w0 w ob ν cs' ys' → VRs P w0 w ob ν (cs ++ cs') (ys ++ ys')
  | [], ys, cs', ys', h, h' => by simp only [VRs] at h; subst h; simpa using h'
  | d :: ds, ys, cs', ys', h, h' => by
    simp only [VRs] at h
    obtain ⟨y, ys1, rfl, h2, h3⟩ := h
    simp only [List.cons_append, VRs]
    exact ⟨y, ys1 ++ ys', rfl, h2, VRs.append h3 h'⟩

def Free (w0 : Env) (w : World) (ob : List (Nat × OB)) (ν : Loc) (bs : List Nat) : Prop := ∀ b ∈ bs, b < w.heap.size ∧ AvoidB ob ν b ∧ w0.D b

theorem VRs.of_rds : ∀ {ds : List D} {ys : List Value} {bs : List Nat}, RDs w false ds ys bs → Free w0 w ob ν bs → VRs P w0 w ob ν (ds.map AV.d) ys
  | [], ys, bs, h, _ => by simp only [RDs] at h; simp [VRs, h.1]
  | d :: ds, ys, bs, h, hf => by
    simp only [RDs] at h
    obtain ⟨x, xs', b1, b2, rfl, rfl, h3, h4⟩ := h
    simp only [List.map_cons, VRs]
    refine ⟨x, xs', rfl, ?_, VRs.of_rds h4 (fun b hb => hf b (by simp [hb]))⟩
    simp only [VR]
    exact ⟨b1, h3, fun b hb => hf b (by simp [hb])⟩

theorem VRs.to_rds : ∀ {ds : List D} {ys : List Value}, VRs P w0 w ob ν (ds.map AV.d) ys → ∃ bs, RDs w false ds ys bs ∧ Free w0 w ob ν bs
  | [], ys, h => by
    simp only [List.map_nil, VRs] at h
    exact ⟨[], by simp [RDs, h], fun b hb => by cases hb⟩
  | d :: ds, ys, h => by
    simp only [List.map_cons, VRs] at h
    obtain ⟨y, ys', rfl, h2, h3⟩ := h
    simp only [VR] at h2
    obtain ⟨b1, h4, h5⟩ := h2
    obtain ⟨b2, h6, h7⟩ := VRs.to_rds h3
    refine ⟨b1 ++ b2, ?_, fun b hb => ?_⟩
    · simp only [RDs]
      exact ⟨y, ys', b1, b2, rfl, rfl, h4, h6⟩
    · rcases List.mem_append.1 hb with hb | hb
      · exact h5 b hb
      · exact h7 b hb

theorem allD_spec : ∀ {cs : List AV} {ds : List D}, allD cs = some ds → cs = ds.map AV.d
  | [], ds, h => by simp [allD] at h; simp [h]
  | .d x :: r, ds, h => by
    simp only [allD, Option.map_eq_some_iff] at h
    obtain ⟨ds', h1, rfl⟩ := h
    simp [allD_spec h1]
  | .bp _ _ :: _, ds, h => by simp [allD] at h
  | .bs _ _ _ _ :: _, ds, h => by simp [allD] at h
  | .ag _ :: _, ds, h => by simp [allD] at h
  | .tu _ :: _, ds, h => by simp [allD] at h
  | .fn _ _ :: _, ds, h => by simp [allD] at h
  | .fc _ _ _ :: _, ds, h => by simp [allD] at h
  | .un :: _, ds, h => by simp [allD] at h

theorem addr_add (b off j : Nat) : (⟨b, off, none⟩ : Addr).add j = ⟨b, off + j, none⟩ := by
  unfold Addr.add
  split
  · rename_i h; subst h; rfl
  · rfl

theorem run_size {t : TypeId} (h : (P.underlying t).isSome = true) : (sizeOf t).run P w = .ok (P.cellsOf t) w := by
  unfold Program.underlying at h
  cases hi : P.info? t with
  | none => simp [hi] at h
  | some i => simp [sizeOf, typeInfo, Program.cellsOf, hi]

theorem run_agg {t : TypeId} (h : (P.underlying t).isSome = true) : (isAgg t).run P w = .ok (tAgg P t) w := by
  obtain ⟨d, hd⟩ := Option.isSome_iff_exists.1 h
  simp only [isAgg, Sem.run_bind, run_underlying hd, Result.andThen_ok, tAgg, hd]
  cases d <;> rfl

theorem tAgg_some {t : TypeId} (h : tAgg P t = true) : (P.underlying t).isSome = true := by
  unfold tAgg at h
  cases hu : P.underlying t with
  | none => simp [hu] at h
  | some d => rfl

theorem cell_row {b : Nat} {c : Array Value} {T : TypeId} {fz : Nat × Nat} (h : w.heap[b]? = some (.cells c T fz)) (i : Nat) : w.cell? ⟨b, i, none⟩ = c[i]? := by
  simp [World.cell?, h]

def RT {α : Type} (P : Program) (w : World) (s : Sem α) (v : α) : Prop := ∀ w', Below w.heap.size w w' → s.run P w' = .ok v w'

theorem RT.here {α : Type} {P : Program} {w : World} {s : Sem α} {v : α} (h : RT P w s v) : s.run P w = .ok v w := h w (Below.refl _ _)

theorem run_loadVar_agg {t : TypeId} (ht : tAgg P t = true) {b off : Nat} {ys : List Value} (hl : ys.length = P.cellsOf t) (hc : ∀ i, i < ys.length → w.cell? ⟨b, off + i, none⟩ = ys[i]?) :
    (loadVar t ⟨b, off, none⟩).run P w = .ok (.agg ys.toArray) w := by
  have h1 := run_loadCells_list (P := P) w ⟨b, off, none⟩ ys (fun j v hv => by
    rw [addr_add]
    have hj : j < ys.length := (List.getElem?_eq_some_iff.1 hv).1
    rw [hc j hj, hv])
  simp only [loadVar, Sem.run_bind, run_agg (tAgg_some ht), Result.andThen_ok, ht, if_true, run_size (tAgg_some ht), ← hl, h1, Sem.run_pure]

theorem run_loadVar_one {t : TypeId} (ht : tAgg P t = false) (hu : (P.underlying t).isSome = true) {b off : Nat} {y : Value} (hc : w.cell? ⟨b, off, none⟩ = some y) :
    (loadVar t ⟨b, off, none⟩).run P w = .ok y w := by
  simp only [loadVar, Sem.run_bind, run_agg hu, Result.andThen_ok, ht, Bool.false_eq_true, if_false]
  rw [run_load]
  simp [hc]

end

end Go.Proofs.Yteimddagjikcaaa
