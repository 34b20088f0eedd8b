/- Regions that draw their order, gone over with fewer orders: a pure operation comes either now, or behind the next operation that is not pure. -/
import Derived.Test.YteimddagjikcaaaFlowE
import Derived.WalkKit
import Derived.WalkSpells
namespace Go.Proofs.Yteimddagjikcaaa
open Go.RowKit
set_option linter.unusedVariables false
set_option linter.unusedSimpArgs false

def wpAnyV (P : Program) (ops : Array Oper) (Q : Exit → Act → World → Prop) (V : List Nat) : Nat → List Nat → Array Bool → Act → World → Prop
  | 0, _, listed, a, w => Region.ready .any ops listed = [] ∧ Q .normal a w
  | n + 1, B, listed, a, w => Region.ready .any ops listed ≠ [] ∧ ∀ i ∈ Region.ready .any ops listed, i ∉ B →
      (i ∈ V → ∃ o v, ops[i]? = some o ∧ YieldsIf P ops (Below w.heap.size w) o v a ∧ wpAnyV P ops Q V n B (listed.setIfInBounds i true) (a.put o.dst v) w) ∧
      (i ∉ V → wpOp P ops Q i (fun a' w' => wpAnyV P ops Q V n [] (listed.setIfInBounds i true) a' w') a w)

section
variable {P : Program} {ops : Array Oper} {Q : Exit → Act → World → Prop} {V : List Nat}

def FreeAt (ops : Array Oper) (i : Nat) (oi : Oper) (listed : Array Bool) : Prop := ∀ j oj, ops[j]? = some oj → j ≠ i → listed.getD j true = false → (∀ e ∈ oj.after, Region.binds .any e = true → e.on ≠ i) → oi.apart ops oj = true

theorem FreeAt.next {i j : Nat} {oi oj : Oper} {listed : Array Bool} (h : FreeAt ops i oi listed) (hjun : listed.getD j true = false) : FreeAt ops i oi (listed.setIfInBounds j true) := fun k ok hk hki hun hno => by
  refine h k ok hk hki ?_ hno
  by_cases hjk : j = k
  · subst hjk
    exact hjun
  · rw [getD_set_ne true hjk] at hun; exact hun

end

inductive PV where
  | fin
  | dead (n : Nat)
  | still (i : Nat) (t : PV)
  | calc (i : Nat) (t : PV)
  | split (i : Nat) (t u : PV)
  | one (i : Nat) (t : PV)
  | two (i : Nat) (t : PV) (j : Nat) (u : PV)

def PV.depth : PV → Nat
  | .fin => 0
  | .dead n => n + 1
  | .still _ t => t.depth + 1
  | .calc _ t => t.depth + 1
  | .split _ t _ => t.depth + 1
  | .one _ t => t.depth + 1
  | .two _ t _ _ => t.depth + 1

def planV (ops : Array Oper) (V : List Nat) : PV → List Nat → Array Bool → Bool
  | .fin, _, listed => (Region.ready .any ops listed).isEmpty
  | .dead _, B, listed => !(Region.ready .any ops listed).isEmpty && (Region.ready .any ops listed).all (fun i => B.contains i)
  | .still i r, B, listed => V.contains i && kindAt stillKind ops i && (Region.ready .any ops listed).contains i && Region.free .any ops listed i && planV ops V r B (listed.setIfInBounds i true)
  | .calc i r, B, listed => V.contains i && kindAt calcKind ops i && (Region.ready .any ops listed).contains i && Region.free .any ops listed i && planV ops V r B (listed.setIfInBounds i true)
  | .split i r u, B, listed => V.contains i && kindAt pureKind ops i && (Region.ready .any ops listed).contains i && Region.free .any ops listed i && r.depth + 1 == u.depth && planV ops V r B (listed.setIfInBounds i true) && planV ops V u (i :: B) listed
  | .one i r, B, listed => !V.contains i && (Region.ready .any ops listed).filter (fun j => !B.contains j) == [i] && planV ops V r [] (listed.setIfInBounds i true)
  | .two i r j u, B, listed => !V.contains i && !V.contains j && (Region.ready .any ops listed).filter (fun j => !B.contains j) == [i, j] && r.depth == u.depth && planV ops V r [] (listed.setIfInBounds i true) && planV ops V u [] (listed.setIfInBounds j true)

def planVB (l : List Oper) (E : PV) (V : List Nat) : Bool :=
  Region.noSelect l.toArray && E.depth == l.length && planV l.toArray V E [] (Array.replicate l.length false)

def RunV (P : Program) (ops : List Oper) : PV → St → (St → Prop) → Prop
  | .fin, σ, K => K σ
  | .dead _, _, _ => True
  | .still i t, σ, K => AtU P true ops ops[i]? σ (fun σ' => RunV P ops t σ' K)
  | .calc i t, σ, K => calcB ops[i]? σ = true ∧ AtU P true ops ops[i]? σ (fun σ' => RunV P ops t σ' K)
  | .split i t u, σ, K => AtU P true ops ops[i]? σ (fun σ' => RunV P ops t σ' K) ∧ RunV P ops u σ K
  | .one i t, σ, K => AtU P false ops ops[i]? σ (fun σ' => RunV P ops t σ' K)
  | .two i t j u, σ, K => AtU P false ops ops[i]? σ (fun σ' => RunV P ops t σ' K) ∧ AtU P false ops ops[j]? σ (fun σ' => RunV P ops u σ' K)

section
variable {P : Program} {w0 : Env} {l : List Oper} {K : St → Prop} {Q : Exit → Act → World → Prop}

end

section
variable {P : Program} {σ : St} {K : St → Prop} {ops : List Oper}

def RunVK (P : Program) (ops : List Oper) (t : PV) (K : St → Prop) (σ : St) : Prop := RunV P ops t σ K

def RunAtV (P : Program) (q : Bool) (ops : List Oper) (o : Option Oper) (t : PV) (σ : St) (K : St → Prop) : Prop := match o with
  | some o => Run P q ops [o] σ (RunVK P ops t K)
  | none => False

theorem rv_at {q : Bool} {t : PV} (x : Option Oper) : AtU P q ops x σ (fun σ' => RunV P ops t σ' K) = RunAtV P q ops x t σ K := by
  cases x with
  | none => rfl
  | some o =>
    simp only [RunAtV, AtU, run_cons]
    rfl

theorem rvk {t : PV} : RunVK P ops t K σ = RunV P ops t σ K := Eq.trans rfl rfl

theorem rv_fin : RunV P ops .fin σ K = K σ := Eq.trans rfl rfl

theorem rv_dead {n : Nat} : RunV P ops (.dead n) σ K = True := Eq.trans rfl rfl

theorem rv_calc {i : Nat} {t : PV} : RunV P ops (.calc i t) σ K = (calcB ops[i]? σ = true ∧ RunAtV P true ops ops[i]? t σ K) := by
  rw [RunV]; exact congrArg _ (rv_at _)

theorem rv_still {i : Nat} {t : PV} : RunV P ops (.still i t) σ K = RunAtV P true ops ops[i]? t σ K := by
  rw [RunV]; exact rv_at _

theorem rv_one {i : Nat} {t : PV} : RunV P ops (.one i t) σ K = RunAtV P false ops ops[i]? t σ K := by
  rw [RunV]; exact rv_at _

theorem rv_split {i : Nat} {t u : PV} (h1 : RunAtV P true ops ops[i]? t σ K) (h2 : RunV P ops u σ K) : RunV P ops (.split i t u) σ K := by
  rw [RunV]
  exact ⟨(rv_at _).mpr h1, h2⟩

theorem rv_two {i j : Nat} {t u : PV} (h1 : RunAtV P false ops ops[i]? t σ K) (h2 : RunAtV P false ops ops[j]? u σ K) : RunV P ops (.two i t j u) σ K := by
  rw [RunV]
  exact ⟨(rv_at _).mpr h1, (rv_at _).mpr h2⟩

theorem rav_some {q : Bool} {o : Oper} {t : PV} : RunAtV P q ops (some o) t σ K = Run P q ops [o] σ (RunVK P ops t K) := Eq.trans rfl rfl

instance {t : PV} : Evg (RunV P ops t σ K) (RunV P ops t σ K) := ⟨id⟩

instance {q : Bool} {o : Option Oper} {t : PV} : Evg (RunAtV P q ops o t σ K) (RunAtV P q ops o t σ K) := ⟨id⟩

end

end Go.Proofs.Yteimddagjikcaaa
