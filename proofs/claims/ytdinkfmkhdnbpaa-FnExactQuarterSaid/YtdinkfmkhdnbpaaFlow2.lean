/- What an operation does, seen through the abstract view. -/
import Derived.Test.YtdinkfmkhdnbpaaFlow1
import Derived.WalkKit
import Derived.WalkSpells
namespace Go.Proofs.Ytdinkfmkhdnbpaa
open Go.RowKit
set_option linter.unusedVariables false
set_option linter.unusedSimpArgs false

def mapD (f : AV → Option D) : List AV → Option (List D)
  | [] => some []
  | x :: r => match f x with
    | some d => (mapD f r).map (d :: ·)
    | none => none

/-- What the frame holds, as data for a call (n: how deep objects may name objects). -/
def toD (ob : List (Nat × OB)) : Nat → AV → Option D
  | n, .d x => match n with | 0 => some x | _ + 1 => some x
  | n + 1, .bs s off m k => match lookO ob s with
    | some (.ds cs) => some (.ls k m ((cs.drop off).take (m * k)))
    | some (.av cs) => (mapD (toD ob n) ((cs.drop off).take (m * k))).map (.ls k m)
    | _ => none
  | n + 1, .bp s off => match lookO ob s with
    | some (.ds cs) => some (.pt (cs.drop off))
    | some (.av cs) => (mapD (toD ob n) (cs.drop off)).map .pt
    | _ => none
  | n + 1, .ag cs => (mapD (toD ob n) cs).map .ag
  | n + 1, .tu cs => (mapD (toD ob n) cs).map .tu
  | _, _ => none

def tAgg (P : Program) (t : TypeId) : Bool := match P.underlying t with
  | some (.struct _) | some (.array _ _) => true
  | _ => false

/-- Struct equality of data whose cells are integers. -/
def eqInts : List D → List D → Option Bool
  | [], [] => some true
  | .v (.int k a) :: xs, .v (.int k' b) :: ys => if k = k' then (eqInts xs ys).map (a == b && ·) else none
  | _, _ => none

/-- '==' and '!=' at a struct or array type of n integers. -/
def StructEq (P : Program) (t : TypeId) (n : Nat) : Prop := ∀ (xs ys : List (IntKind × Int)) (x y : Operand) (w : World), xs.length = n → ys.length = n → xs.map (·.1) = ys.map (·.1) →
  (∀ u v : Value, u = .agg (xs.map fun p => Value.int p.1 p.2).toArray → v = .agg (ys.map fun p => Value.int p.1 p.2).toArray →
    (eqGuard .eql t x y u v).run P w = .ok () w ∧ (eqGuard .neq t x y u v).run P w = .ok () w ∧ (Op.equal t u v).run P w = .ok (xs.map (·.2) == ys.map (·.2)) w)

def binD (P : Program) (t : TypeId) (op : BinOp) : D → D → Option (Prop × D)
  | .v (.int k a), .v (.int k' b) =>
    match op with
    | .shl => some (0 ≤ b, .v (.int k (k.wrap (a * 2 ^ (min b.toNat k.bits)))))
    | .shr => some (0 ≤ b, .v (.int k (a.fdiv (2 ^ (min b.toNat k.bits)))))
    | op => if k = k' then match op with
      | .add => some (True, .v (.int k (k.wrap (a + b))))
      | .sub => some (True, .v (.int k (k.wrap (a - b))))
      | .mul => some (True, .v (.int k (k.wrap (a * b))))
      | .quo => some (b ≠ 0, .v (.int k (k.wrap (a.tdiv b))))
      | .rem => some (b ≠ 0, .v (.int k (a.tmod b)))
      | .and => some (True, .v (.int k (bits .and k a b)))
      | .or => some (True, .v (.int k (bits .or k a b)))
      | .xor => some (True, .v (.int k (bits .xor k a b)))
      | .andNot => some (True, .v (.int k (bits .andNot k a b)))
      | .eql => some (True, .bool (a == b))
      | .neq => some (True, .bool (a != b))
      | .lss => some (True, .bool (decide (a < b)))
      | .leq => some (True, .bool (decide (a ≤ b)))
      | .gtr => some (True, .bool (decide (b < a)))
      | .geq => some (True, .bool (decide (b ≤ a)))
      | _ => none
    else none
  | .v (.string a), .v (.string b) => match op with
    | .add => some (a.size + b.size ≤ 9223372036854775807, .str (a ++ b))
    | .eql => some (True, .bool (decide (a = b)))
    | .neq => some (True, .bool (!decide (a = b)))
    | .lss => some (True, .bool (Op.bytesLess a.toList b.toList))
    | .leq => some (True, .bool (Op.bytesLess a.toList b.toList || decide (a = b)))
    | .gtr => some (True, .bool (!(Op.bytesLess a.toList b.toList || decide (a = b))))
    | .geq => some (True, .bool (!Op.bytesLess a.toList b.toList))
    | _ => none
  | .v (.bool a), .v (.bool b) => match op with
    | .eql => some (P.underlying t = some .bool, .bool (a == b))
    | .neq => some (P.underlying t = some .bool, .bool (a != b))
    | _ => none
  | .ag xs, .ag ys => match op with
    | .eql => (eqInts xs ys).map fun b => (StructEq P t xs.length, .bool b)
    | .neq => (eqInts xs ys).map fun b => (StructEq P t xs.length, .bool (!b))
    | _ => none
  | _, _ => none

def unD (op : UnOp) : D → Option D
  | .v (.bool b) => match op with | .not => some (.bool !b) | _ => none
  | .v (.int k a) => match op with | .neg => some (.v (.int k (k.wrap (0 - a)))) | _ => none
  | _ => none

/-- The value at cell o of data cells, t: its type. -/
def loadD (P : Program) (t : TypeId) (cs : List D) (o : Nat) : Option (Prop × D) :=
  if tAgg P t then some (o + P.cellsOf t ≤ cs.length, .ag ((cs.drop o).take (P.cellsOf t)))
  else some ((P.underlying t).isSome = true ∧ o < cs.length, cs.getD o (.v undef))

def loadA (P : Program) (t : TypeId) (cs : List AV) (o : Nat) : Option (Prop × AV) :=
  if tAgg P t then some (o + P.cellsOf t ≤ cs.length, AV.pack ((cs.drop o).take (P.cellsOf t)))
  else some ((P.underlying t).isSome = true ∧ o < cs.length, cs.getD o .un)

def pickA (c : Bool) : AV → AV → AV
  | .d (.v (.bool x)), .d (.v (.bool y)) => .d (.bool (bif c then x else y))
  | a, b => bif c then a else b

/-- The zero value's cells of a type. -/
def zeroV (P : Program) (t : TypeId) : List Value := match (P.info? t).bind (·.zero) with
  | some v => v.cells.toList
  | none => []

/-- The type has a zero value, of cells of one value each, as many as it has cells. -/
def zeroOk (P : Program) (t : TypeId) : Bool := ((P.info? t).bind (·.zero)).isSome && (zeroV P t).all (·.oneCell') && (zeroV P t).length == P.cellsOf t

def zeroD (P : Program) (t : TypeId) : List D := (zeroV P t).map D.v

/-- Parts at their places. -/
def fillP (ob : List (Nat × OB)) (pl : Nat → Option (Nat × Nat)) : List (Nat × AV) → List AV → Option (List AV)
  | [], cs => some cs
  | (i, x) :: r, cs => match pl i, x.split ob with
    | some (o, k), some ys => if ys.length = k ∧ o + k ≤ cs.length then fillP ob pl r (cs.take o ++ ys ++ cs.drop (o + k)) else none
    | _, _ => none

def allU (P : Program) : List Field → Prop
  | [] => True
  | f :: r => (P.underlying f.type).isSome = true ∧ allU P r

def pureOp (P : Program) (σ : St) : Op → Option (Prop × AV)
  | .move x | .assign x => some (True, σ.ev x)
  | .pick c a b => match σ.ev c with
    | .d (.v (.bool c)) => some (True, pickA c (σ.ev a) (σ.ev b))
    | _ => none
  | .load t a => match σ.ev a with
    | .bp s o => match lookO σ.ob s with
      | some (.ds cs) => (loadD P t cs o).map fun (p, x) => (p, .d x)
      | some (.av cs) => loadA P t cs o
      | _ => none
    | .d (.pt cs) => (loadD P t cs 0).map fun (p, x) => (p, .d x)
    | _ => none
  | .fieldAddr t x f => match P.underlying t with
    | some (.struct fs) => match fs[f]? with
      | some f => match σ.ev x with
        | .bp s o => some (P.cellsOf f.type ≠ 0 ∧ (lookO σ.ob s).isSome = true, .bp s (o + f.offset))
        | .d (.pt cs) => some (P.cellsOf f.type ≠ 0 ∧ f.offset ≤ cs.length, .d (.pt (cs.drop f.offset)))
        | _ => none
      | none => none
    | _ => none
  | .indexAddr t x i => match P.underlying t, σ.ev i with
    | some (.slice e), .d (.v (.int _ i)) => match σ.ev x with
      | .bs s off n k => some (0 ≤ i ∧ i < n ∧ P.cellsOf e = k ∧ k ≠ 0 ∧ (lookO σ.ob s).isSome = true, .bp s (off + i.toNat * k))
      | .d (.ls k n cs) => some (0 ≤ i ∧ i < n ∧ P.cellsOf e = k ∧ k ≠ 0, .d (.pt (cs.drop (i.toNat * k))))
      | _ => none
    | some (.array n e), .d (.v (.int _ i)) => match σ.ev x with
      | .bp s o => some (0 ≤ i ∧ i < n ∧ 1 < n ∧ P.cellsOf e ≠ 0 ∧ (lookO σ.ob s).isSome = true, .bp s (o + i.toNat * P.cellsOf e))
      | .d (.pt cs) => some (0 ≤ i ∧ i < n ∧ 1 < n ∧ P.cellsOf e ≠ 0 ∧ i.toNat * P.cellsOf e ≤ cs.length, .d (.pt (cs.drop (i.toNat * P.cellsOf e))))
      | _ => none
    | _, _ => none
  | .index t x i => match P.underlying t, σ.ev x, σ.ev i with
    | some .string, .d (.v (.string s)), .d (.v (.int _ i)) => some (0 ≤ i ∧ i < s.size, .d (.v (.int .u8 ((s.data.toList.getD i.toNat 0).toNat : Int))))
    | some (.array n e), .d (.ag cs), .d (.v (.int _ i)) =>
      if tAgg P e then none else some (0 ≤ i ∧ i < n ∧ n = cs.length ∧ P.cellsOf e = 1 ∧ (P.underlying e).isSome = true, .d (cs.getD i.toNat (.v undef)))
    | _, _, _ => none
  | .field t x f => match P.underlying t with
    | some (.struct fs) => match fs[f]? with
      | some f => match σ.ev x with
        | .d (.ag cs) => (loadD P f.type cs f.offset).map fun (p, x) => (p, .d x)
        | .ag cs => loadA P f.type cs f.offset
        | _ => none
      | none => none
    | _ => none
  | .extract x i => match σ.ev x with
    | .d (.tu cs) => match cs[i]? with | some y => some (True, .d y) | none => none
    | .tu cs => match cs[i]? with | some y => some (True, y) | none => none
    | _ => none
  | .binOp op t x y _ => match σ.ev x, σ.ev y with
    | .d a, .d b => (binD P t op a b).map fun (p, x) => (p, .d x)
    | _, _ => none
  | .unOp op _ x => match σ.ev x with
    | .d a => (unD op a).map fun x => (True, .d x)
    | _ => none
  | .convert s t x => match P.underlying s, P.underlying t, σ.ev x with
    | some (.int _), some (.int k), .d (.v (.int _ n)) => some (True, .d (.v (.int k (k.wrap n))))
    | _, _, _ => none
  | .slice t x lo hi none =>
    let low : Option AV := lo.map σ.ev
    let high : Option AV := hi.map σ.ev
    match P.underlying t, σ.ev x with
    | some (.slice e), .bs s off n k => match low, high with
      | none, none => some (P.cellsOf e = k ∧ k ≠ 0 ∧ (lookO σ.ob s).isSome = true, .bs s off n k)
      | some (.d (.v (.int _ l))), none => some (0 ≤ l ∧ l ≤ n ∧ P.cellsOf e = k ∧ k ≠ 0 ∧ (lookO σ.ob s).isSome = true, .bs s (off + l.toNat * k) (n - l.toNat) k)
      | none, some (.d (.v (.int _ h))) => some (0 ≤ h ∧ h ≤ n ∧ P.cellsOf e = k ∧ k ≠ 0 ∧ (lookO σ.ob s).isSome = true, .bs s off h.toNat k)
      | some (.d (.v (.int _ l))), some (.d (.v (.int _ h))) => some (0 ≤ l ∧ l ≤ h ∧ h ≤ n ∧ P.cellsOf e = k ∧ k ≠ 0 ∧ (lookO σ.ob s).isSome = true, .bs s (off + l.toNat * k) (h.toNat - l.toNat) k)
      | _, _ => none
    | some (.slice e), .d (.ls k n cs) => match low, high with
      | none, none => some (P.cellsOf e = k ∧ k ≠ 0, .d (.ls k n cs))
      | some (.d (.v (.int _ l))), none => some (0 ≤ l ∧ l ≤ n ∧ P.cellsOf e = k ∧ k ≠ 0, .d (.ls k (n - l.toNat) (cs.drop (l.toNat * k))))
      | none, some (.d (.v (.int _ h))) => some (0 ≤ h ∧ h ≤ n ∧ P.cellsOf e = k ∧ k ≠ 0, .d (.ls k h.toNat (cs.take (h.toNat * k))))
      | some (.d (.v (.int _ l))), some (.d (.v (.int _ h))) => some (0 ≤ l ∧ l ≤ h ∧ h ≤ n ∧ P.cellsOf e = k ∧ k ≠ 0, .d (.ls k (h.toNat - l.toNat) ((cs.take (h.toNat * k)).drop (l.toNat * k))))
      | _, _ => none
    | some .string, .d (.v (.string s)) => match low, high with
      | some (.d (.v (.int _ l))), none => some (0 ≤ l ∧ l ≤ s.size, .d (.str (s.extract l.toNat s.size)))
      | none, some (.d (.v (.int _ h))) => some (0 ≤ h ∧ h ≤ s.size, .d (.str (s.extract 0 h.toNat)))
      | some (.d (.v (.int _ l))), some (.d (.v (.int _ h))) => some (0 ≤ l ∧ l ≤ h ∧ h ≤ s.size, .d (.str (s.extract l.toNat h.toNat)))
      | _, _ => none
    | _, _ => none
  | .build t parts => match P.underlying t with
    | some (.struct fs) => match fillP σ.ob (fun i => (fs[i]?).map fun f => (f.offset, P.cellsOf f.type)) (parts.toList.map fun x => (x.1, σ.ev x.2)) ((zeroD P t).map AV.d) with
      | some cs => some (zeroOk P t = true ∧ allU P fs.toList, AV.pack cs)
      | none => none
    | some (.array _ e) => match fillP σ.ob (fun i => some (i * P.cellsOf e, P.cellsOf e)) (parts.toList.map fun x => (x.1, σ.ev x.2)) ((zeroD P t).map AV.d) with
      | some cs => some (zeroOk P t = true ∧ (P.underlying e).isSome = true, AV.pack cs)
      | none => none
    | _ => none
  | .makeFunc (.func f) first captured => some (True, .fc f (first.toList.map σ.ev) (captured.toList.map σ.ev))
  | .nilCheck x => match σ.ev x with
    | .fn dom h => some (True, .fn dom h)
    | .fc f a b => some (True, .fc f a b)
    | .bp s o => some ((lookO σ.ob s).isSome = true, .bp s o)
    | .d (.pt cs) => some (True, .d (.pt cs))
    | _ => none
  | .call { callee := .builtin .len, args := args, argTypes := ts } => match args.toList, ts.toList with
    | [x], [t] => match P.underlying t, σ.ev x with
      | some (.slice _), .bs s _ n _ => some ((lookO σ.ob s).isSome = true, .d (.int n))
      | some (.slice _), .d (.ls _ n _) => some (True, .d (.int n))
      | some .string, .d (.v (.string s)) => some (True, .d (.int s.size))
      | some (.array n _), _ => some (True, .d (.int n))
      | _, _ => none
    | _, _ => none
  | .call { callee := .builtin .min, args := args, .. } => match args.toList with
    | [x, y] => match σ.ev x, σ.ev y with
      | .d (.v (.int k a)), .d (.v (.int _ b)) => some (True, .d (.v (.int k (if b < a then b else a))))
      | _, _ => none
    | _ => none
  | .call { callee := .builtin .max, args := args, .. } => match args.toList with
    | [x, y] => match σ.ev x, σ.ev y with
      | .d (.v (.int k a)), .d (.v (.int _ b)) => some (True, .d (.v (.int k (if b > a then b else a))))
      | _, _ => none
    | _ => none
  | _ => none

/-- A store. -/
def storeOb (P : Program) (ob : List (Nat × OB)) (t : TypeId) (o : OB) (off : Nat) (x : AV) : Option (Prop × OB) :=
  match x.split ob with
  | none => none
  | some cs => match o with
    | .av old => some (cs.length = P.cellsOf t ∧ P.cellsOf t ≠ 0 ∧ off + cs.length ≤ old.length, .av (old.take off ++ cs ++ old.drop (off + cs.length)))
    | .ds old => match allD cs with
      | some [c] => some (P.cellsOf t = 1 ∧ off < old.length, .ds (old.set off c))
      | some ds => some (ds.length = P.cellsOf t ∧ P.cellsOf t ≠ 0 ∧ off + ds.length ≤ old.length, .ds (old.take off ++ ds ++ old.drop (off + ds.length)))
      | none => none
    | .dead => none

def fillA (ob : List (Nat × OB)) (k : Nat) : List (Nat × AV) → List AV → Option (List AV)
  | [], cs => some cs
  | (i, x) :: r, cs => match x.split ob with
    | some ys => if ys.length = k ∧ i * k + k ≤ cs.length then fillA ob k r (cs.take (i * k) ++ ys ++ cs.drop (i * k + k)) else none
    | none => none

/-- Parts that come one after another. -/
def denseA (ob : List (Nat × OB)) (k : Nat) : Nat → List (Nat × AV) → Option (List AV)
  | _, [] => some []
  | i, (j, x) :: r => if j = i then match x.split ob with
      | some ys => if ys.length = k then (denseA ob k (i + 1) r).map (ys ++ ·) else none
      | none => none
    else none

/-- The cells of a slice that is built. -/
def buildA (ob : List (Nat × OB)) (k n : Nat) (z : List D) (ps : List (Nat × AV)) : Option (List AV) :=
  match denseA ob k 0 ps with
  | some cs => if cs.length = n * k then some cs else fillA ob k ps ((List.replicate n (z.map AV.d)).flatten)
  | none => fillA ob k ps ((List.replicate n (z.map AV.d)).flatten)

/-- The cells that an append takes over: out of a slice's value. -/
def obCells : OB → List AV
  | .ds cs => cs.map AV.d
  | .av cs => cs
  | .dead => []

def srcCells (σ : St) : AV → Option (Prop × Nat × Nat × OB)
  | .bs s off n k => match lookO σ.ob s with
    | some (.ds cs) => some (off + n * k ≤ cs.length, n, k, .ds ((cs.drop off).take (n * k)))
    | some (.av cs) => some (off + n * k ≤ cs.length, n, k, .av ((cs.drop off).take (n * k)))
    | _ => none
  | .d (.ls k n cs) => some (True, n, k, .ds cs)
  | _ => none

def OB.join : OB → OB → OB
  | .ds a, .ds b => .ds (a ++ b)
  | a, b => match allD (obCells a ++ obCells b) with
    | some cs => .ds cs
    | none => .av (obCells a ++ obCells b)

/-- An object that holds these cells. -/
def obOf (cs : List AV) : OB := match allD cs with | some ds => .ds ds | none => .av cs

/-- An operation that makes an object of the frame's own, or writes one. -/
def actOp (P : Program) (σ : St) (dst : Option Nat) : Op → Option (Prop × St)
  | .alloc t => match dst with
    | some s => some (zeroOk P t = true, σ.new s (.av ((zeroD P t).map AV.d)) (.bp s 0))
    | none => none
  | .box _ x => match dst, (σ.ev x).split σ.ob with
    | some s, some cs => some (AV.refsL s cs = false, σ.new s (.av cs) (.bp s 0))
    | _, _ => none
  | .buildSlice t n parts => match dst, P.underlying t with
    | some s, some (.slice e) => match buildA σ.ob (P.cellsOf e) n (zeroD P e) (parts.toList.map fun (i, x) => (i, σ.ev x)) with
      | some cs => some (n * P.cellsOf e ≤ 65536 ∧ zeroOk P e = true ∧ P.cellsOf e ≠ 0 ∧ AV.refsL s cs = false, σ.new s (obOf cs) (.bs s 0 n (P.cellsOf e)))
      | none => none
    | _, _ => none
  | .makeSlice t l c => match dst, P.underlying t, σ.ev l, σ.ev c with
    | some s, some (.slice e), .d (.v (.int .i64 a)), .d (.v (.int .i64 b)) =>
      some (0 ≤ a ∧ a = b ∧ a * P.bytesOf e ≤ 140737488355328 ∧ P.bytesOf e ≠ 0 ∧ zeroOk P e = true ∧ P.cellsOf e ≠ 0,
        σ.new s (.ds ((List.replicate a.toNat (zeroD P e)).flatten)) (.bs s 0 a.toNat (P.cellsOf e)))
    | _, _, _, _ => none
  | .store t a x => match dst, σ.ev a with
    | none, .bp s off => match lookO σ.ob s with
      | some o => match storeOb P σ.ob t o off (σ.ev x) with
        | some (p, o') => some (p, { σ with ob := putO σ.ob s o' })
        | none => none
      | none => none
    | _, _ => none
  | .call { callee := .builtin .append, args := args, argTypes := ts } => match dst, args.toList, ts.toList with
    | some s, [x, y], [t, t'] => match P.underlying t, σ.ev x, srcCells σ (σ.ev y) with
      | some (.slice e), .bs b off n k, some (q, m, k', new) => match lookO σ.ob b, srcCells σ (.bs b off n k) with
        | some o, some (_, _, _, old) => some (t = t' ∧ k = k' ∧ P.cellsOf e = k ∧ k ≠ 0 ∧ P.bytesOf e ≠ 0 ∧ zeroOk P e = true ∧ off + n * k = (obCells o).length ∧ (n + m) * P.bytesOf e ≤ 140737488355328 ∧ q ∧ AV.refsL s (obCells old ++ obCells new) = false,
            St.new { σ with ob := delO σ.ob b } s (old.join new) (.bs s 0 (n + m) k))
        | _, _ => none
      | _, _, _ => none
    | _, _, _ => none
  | _ => none

end Go.Proofs.Ytdinkfmkhdnbpaa
