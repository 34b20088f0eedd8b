/- Names turned by any map that is its own inverse; lists of rows of integers (an object whose cells are slices over objects with names in a row). -/
import Derived.Test.YthjafngffkhffaaFlowE
import Derived.WalkKit
import Derived.WalkSpells
namespace Go.Proofs.Ythjafngffkhffaa
open Go.RowKit
set_option linter.unusedVariables false
set_option linter.unusedSimpArgs false

set_option linter.unusedSectionVars false

class Inv (π : Nat → Nat) : Prop where
  inv : ∀ s, π (π s) = s

theorem iv (π : Nat → Nat) [Inv π] : ∀ s, π (π s) = s := Inv.inv

mutual
def AV.pm (π : Nat → Nat) : AV → AV
  | .bp s o => .bp (π s) o
  | .bs s off n k => .bs (π s) off n k
  | .ag cs => .ag (AV.pmL π cs)
  | .tu cs => .tu (AV.pmL π cs)
  | .fc g x y => .fc g (AV.pmL π x) (AV.pmL π y)
  | .d x => .d x
  | .fn dom h => .fn dom h
  | .rf s k => .rf (π s) k
  | .un => .un
def AV.pmL (π : Nat → Nat) : List AV → List AV
  | [] => []
  | x :: r => x.pm π :: AV.pmL π r
end

def OB.pm (π : Nat → Nat) : OB → OB
  | .ds cs => .ds cs
  | .av cs => .av (AV.pmL π cs)
  | .mp kvs => .mp kvs
  | .it t n seen => .it (π t) n seen
  | .dead => .dead

def pmO (π : Nat → Nat) : List (Nat × OB) → List (Nat × OB)
  | [] => []
  | (s, o) :: r => (π s, o.pm π) :: pmO π r

section
variable {P : Program} {w0 : Env} {w w' : World} {σ : St} {ν : Loc} {a : Act} {π : Nat → Nat} [Inv π]

theorem lookO_pm {ob : List (Nat × OB)} {s : Nat} {o : OB} (h : lookO (pmO π ob) s = some o) : ∃ o1, lookO ob (π s) = some o1 ∧ o = o1.pm π := by
  induction ob with
  | nil => simp [pmO, lookO] at h
  | cons p r ih =>
    obtain ⟨k, x⟩ := p
    simp only [pmO, lookO] at h ⊢
    by_cases e : π k = s
    · rw [if_pos e] at h
      have e2 : k = π s := by rw [← e, iv π]
      rw [if_pos e2]
      cases x with
      | dead => simp [OB.pm] at h
      | ds cs => simp only [OB.pm, Option.some.injEq] at h; exact ⟨_, rfl, h.symm⟩
      | av cs => simp only [OB.pm, Option.some.injEq] at h; exact ⟨_, rfl, h.symm⟩
      | mp _ => simp only [OB.pm, Option.some.injEq] at h; exact ⟨_, rfl, h.symm⟩
      | it _ _ _ => simp only [OB.pm, Option.some.injEq] at h; exact ⟨_, rfl, h.symm⟩
    · rw [if_neg e] at h
      have e2 : ¬ k = π s := fun e2 => e (by rw [e2, iv π])
      rw [if_neg e2]
      exact ih h

theorem lookO_pm_of {ob : List (Nat × OB)} {s : Nat} {o : OB} (h : lookO ob s = some o) : lookO (pmO π ob) (π s) = some (o.pm π) := by
  induction ob with
  | nil => simp [lookO] at h
  | cons p r ih =>
    obtain ⟨k, x⟩ := p
    simp only [pmO, lookO] at h ⊢
    by_cases e : k = s
    · rw [if_pos e] at h
      rw [if_pos (by rw [e])]
      cases x with
      | dead => simp at h
      | ds cs => simp only [Option.some.injEq] at h; subst h; rfl
      | av cs => simp only [Option.some.injEq] at h; subst h; rfl
      | mp _ => simp only [Option.some.injEq] at h; subst h; rfl
      | it _ _ _ => simp only [Option.some.injEq] at h; subst h; rfl
    · rw [if_neg e] at h
      have e2 : ¬ π k = π s := fun e2 => e (by have := congrArg π e2; rwa [iv π, iv π] at this)
      rw [if_neg e2]
      exact ih h

theorem pmL_d : ∀ cs : List D, AV.pmL π (cs.map AV.d) = cs.map AV.d
  | [] => rfl
  | c :: cs => by simp only [List.map_cons, AV.pmL, AV.pm, pmL_d cs]

theorem pmL_length : ∀ cs : List AV, (AV.pmL π cs).length = cs.length
  | [] => rfl
  | c :: cs => by simp only [AV.pmL, List.length_cons, pmL_length cs]

theorem cells_pm (o : OB) : obCells (o.pm π) = AV.pmL π (obCells o) := by
  cases o with
  | ds cs => simp only [OB.pm, obCells, pmL_d]
  | av cs => simp only [OB.pm, obCells]
  | mp _ => simp only [OB.pm, obCells, AV.pmL]
  | it _ _ _ => simp only [OB.pm, obCells, AV.pmL, AV.pm]
  | dead => simp only [OB.pm, obCells, AV.pmL]

theorem objOf_pm (o : OB) (c : Array Value) (T : TypeId) : objOf (o.pm π) c T = objOf o c T := by
  cases o <;> rfl

theorem avoid_pm {ob : List (Nat × OB)} {b : Nat} (h : AvoidB ob ν b) : AvoidB (pmO π ob) (fun s => ν (π s)) b := fun s o hs x hx => by
  obtain ⟨o1, h1, _⟩ := lookO_pm hs
  exact h _ o1 h1 x hx

mutual
theorem VR.pm {ob : List (Nat × OB)} : ∀ {x : AV} {y : Value}, VR P w0 w ob ν x y → VR P w0 w (pmO π ob) (fun s => ν (π s)) (x.pm π) y
  | .d x, y, h => by
    simp only [AV.pm, VR] at h ⊢
    obtain ⟨bs, h1, h2⟩ := h
    exact ⟨bs, h1, fun b hb => ⟨(h2 b hb).1, avoid_pm (h2 b hb).2.1, (h2 b hb).2.2⟩⟩
  | .bp s o, y, h => by
    simp only [AV.pm, VR, iv π] at h ⊢
    intro hs
    obtain ⟨o1, hs⟩ := Option.isSome_iff_exists.1 hs
    obtain ⟨o2, h1, _⟩ := lookO_pm hs
    rw [iv π] at h1
    exact h (by rw [h1]; rfl)
  | .bs s off k l, y, h => by
    simp only [AV.pm, VR, iv π] at h ⊢
    intro hs
    obtain ⟨o1, hs⟩ := Option.isSome_iff_exists.1 hs
    obtain ⟨o2, h1, _⟩ := lookO_pm hs
    rw [iv π] at h1
    obtain ⟨h2, h3⟩ := h (by rw [h1]; rfl)
    refine ⟨fun o ho => ?_, h3⟩
    obtain ⟨o3, h4, rfl⟩ := lookO_pm ho
    rw [iv π] at h4
    rw [cells_pm, pmL_length]
    exact h2 o3 h4
  | .ag cs, y, h => by
    simp only [AV.pm, VR] at h ⊢
    obtain ⟨xs, h1, h0, h2⟩ := h
    exact ⟨xs, h1, h0, VRs.pm h2⟩
  | .tu cs, y, h => by
    simp only [AV.pm, VR] at h ⊢
    obtain ⟨xs, h1, h2⟩ := h
    exact ⟨xs, h1, VRs.pm h2⟩
  | .fn dom k, y, h => by
    simp only [AV.pm, VR] at h ⊢
    exact h
  | .fc g l1 l2, y, h => by
    simp only [AV.pm, VR] at h ⊢
    obtain ⟨xs, ys, h1, h2, h3⟩ := h
    exact ⟨xs, ys, h1, VRs.pm h2, VRs.pm h3⟩
  | .rf s k, y, h => by
    simp only [AV.pm, VR, iv π] at h ⊢
    intro hs
    obtain ⟨o1, hs⟩ := Option.isSome_iff_exists.1 hs
    obtain ⟨o2, h1, _⟩ := lookO_pm hs
    rw [iv π] at h1
    exact h (by rw [h1]; rfl)
  | .un, y, h => by simp only [AV.pm, VR]
theorem VRs.pm {ob : List (Nat × OB)} : ∀ {xs : List AV} {ys : List Value}, VRs P w0 w ob ν xs ys → VRs P w0 w (pmO π ob) (fun s => ν (π s)) (AV.pmL π xs) ys
  | [], ys, h => by simp only [AV.pmL, VRs] at h ⊢; exact h
  | x :: xs, ys, h => by
    simp only [AV.pmL, VRs] at h ⊢
    obtain ⟨y, ys', h1, h2, h3⟩ := h
    exact ⟨y, ys', h1, VR.pm h2, VRs.pm h3⟩
end

theorem Mem.pm {ob : List (Nat × OB)} (h : Mem P w0 w ob ν) : Mem P w0 w (pmO π ob) (fun s => ν (π s)) := by
  refine ⟨fun s o hs => ?_, fun s s' o o' x x' hne h1 h2 h3 h4 => ?_⟩
  · obtain ⟨o1, h1, rfl⟩ := lookO_pm hs
    rcases h.objs _ o1 h1 with ⟨g1, g2⟩ | ⟨b, base, c, T, xs, g1, g2, g3, g4, g5, g6⟩
    · exact .inl ⟨g1, by rw [cells_pm, g2]; rfl⟩
    · exact .inr ⟨b, base, c, T, xs, g1, g2, g3.trans (by rw [objOf_pm]), g4, g5, by rw [cells_pm]; exact VRs.pm g6⟩
  · obtain ⟨o1, g1, _⟩ := lookO_pm h1
    obtain ⟨o2, g2, _⟩ := lookO_pm h2
    exact h.inj _ _ o1 o2 x x' (fun e => hne (by have := congrArg π e; rwa [iv π, iv π] at this)) g1 g2 h3 h4

mutual
theorem AV.pm_pm : ∀ x : AV, (x.pm π).pm π = x
  | .bp s o => by simp only [AV.pm, iv π]
  | .bs s off k l => by simp only [AV.pm, iv π]
  | .ag cs => by simp only [AV.pm, AV.pmL_pmL cs]
  | .tu cs => by simp only [AV.pm, AV.pmL_pmL cs]
  | .fc g x y => by simp only [AV.pm, AV.pmL_pmL x, AV.pmL_pmL y]
  | .d x => by simp only [AV.pm]
  | .fn dom h => by simp only [AV.pm]
  | .rf s k => by simp only [AV.pm, iv π]
  | .un => by simp only [AV.pm]
theorem AV.pmL_pmL : ∀ xs : List AV, AV.pmL π (AV.pmL π xs) = xs
  | [] => by simp only [AV.pmL]
  | x :: r => by simp only [AV.pmL, AV.pm_pm x, AV.pmL_pmL r]
end

theorem OB.pm_pm (o : OB) : (o.pm π).pm π = o := by
  cases o <;> simp only [OB.pm, AV.pmL_pmL, iv π]

theorem pmO_pmO : ∀ ob : List (Nat × OB), pmO π (pmO π ob) = ob
  | [] => rfl
  | (s, o) :: r => by simp only [pmO, iv π, OB.pm_pm, pmO_pmO r]

theorem avoid_pm_iff {ob : List (Nat × OB)} {b : Nat} : AvoidB (pmO π ob) ν b ↔ AvoidB ob (fun s => ν (π s)) b := by
  constructor
  · intro h s o hs x hx
    exact h _ _ (lookO_pm_of hs) x hx
  · intro h s o hs x hx
    obtain ⟨o1, h1, _⟩ := lookO_pm hs
    exact h _ o1 h1 x (by simpa only [iv π] using hx)

theorem FnS.pm {g : FuncId} {ob ob' : List (Nat × OB)} {args : List AV} {res : AV} (π : Nat → Nat) [Inv π] (h : FnS P g ob args ob' res) : FnS P g (pmO π ob) (AV.pmL π args) (pmO π ob') (res.pm π) := by
  refine ⟨h.1, fun w ν Dt vs hDt hm hv => ?_⟩
  have hS : (fun b => b < w.heap.size ∧ AvoidB (pmO π ob) ν b) = (fun b => b < w.heap.size ∧ AvoidB ob (fun s => ν (π s)) b) := by
    funext b
    rw [avoid_pm_iff]
  have hm1 := hm.pm (π := π)
  rw [pmO_pmO] at hm1
  have hv1 := VRs.pm (π := π) hv
  rw [pmO_pmO, AV.pmL_pmL] at hv1
  rw [hS] at hm1 hv1
  have hm2 : Mem P ⟨w, fun b => b < w.heap.size ∧ AvoidB ob (fun s => ν (π s)) b, Dt, fun s => ν (π s), 0⟩ w ob (fun s => ν (π s)) := hm1.env (fun _ h => h) (fun _ h => h) (fun _ h => h)
  have hv2 : VRs P ⟨w, fun b => b < w.heap.size ∧ AvoidB ob (fun s => ν (π s)) b, Dt, fun s => ν (π s), 0⟩ w ob (fun s => ν (π s)) args vs := VRs.into (w0 := ⟨w, fun b => b < w.heap.size ∧ AvoidB ob (fun s => ν (π s)) b, Dt, ν, 0⟩) (E := ⟨w, fun b => b < w.heap.size ∧ AvoidB ob (fun s => ν (π s)) b, Dt, fun s => ν (π s), 0⟩) (fun _ _ h => h) (fun b _ _ h => h) (fun _ h => h) hv1
  refine (h.2 w (fun s => ν (π s)) Dt vs hDt hm2 hv2).mono fun e w' hh => ?_
  obtain ⟨r, ν', he, hk, hr, hm3, hv3, hf⟩ := hh
  rw [hS]
  refine ⟨r, fun s => ν' (π s), he, hk, hr, ?_, ?_, fun s o o' e1 e2 => ?_⟩
  · exact (hm3.pm (π := π)).env (fun _ h => h) (fun _ h => h) (fun _ h => h)
  · exact VR.into (w0 := ⟨w, fun b => b < w.heap.size ∧ AvoidB ob (fun s => ν (π s)) b, Dt, fun s => ν (π s), 0⟩) (E := ⟨w, fun b => b < w.heap.size ∧ AvoidB ob (fun s => ν (π s)) b, Dt, ν, 0⟩) (fun _ _ h => h) (fun b _ _ h => h) (fun _ h => h) (VR.pm (π := π) hv3)
  · obtain ⟨o1, g1, rfl⟩ := lookO_pm e1
    obtain ⟨o2, g2, rfl⟩ := lookO_pm e2
    obtain ⟨q1, q2⟩ := hf _ o1 o2 g1 g2
    refine ⟨?_, by rw [cells_pm, cells_pm, pmL_length, pmL_length, q2]⟩
    show ν' (π s) = ν s
    rw [q1]
    show ν (π (π s)) = ν s
    rw [iv π]

end

def gridC : Nat → List Nat → List AV
  | _, [] => []
  | B, n :: r => .bs B 0 n 1 :: gridC (B + 1) r

def gridO : Nat → List (List Int) → List (Nat × OB) → List (Nat × OB)
  | _, [], r => r
  | B, z :: zs, r => (B, .ds (z.map D.int)) :: gridO (B + 1) zs r

theorem take_zero (zs : List (List Int)) : zs.take 0 = [] := rfl

theorem gridO_app (B : Nat) (zs : List (List Int)) (r q : List (Nat × OB)) : gridO B zs r ++ q = gridO B zs (r ++ q) := by
  induction zs generalizing B with
  | nil => rfl
  | cons z zs ih => simp only [gridO, List.cons_append, ih]

def gridQ (B : Nat) (ls : List Nat) (n : Nat) : List AV := gridC B ls ++ List.replicate (n - ls.length) (.d (.v (.slice none 0 0)))

@[simp] theorem gridC_len (B : Nat) (ls : List Nat) : (gridC B ls).length = ls.length := by
  induction ls generalizing B with
  | nil => rfl
  | cons n r ih => simp [gridC, ih]

theorem gridC_refs {B : Nat} {ls : List Nat} {s : Nat} (h : s < B) : AV.refsL s (gridC B ls) = false := by
  induction ls generalizing B with
  | nil => rfl
  | cons n r ih =>
    simp only [gridC, AV.refsL, AV.refs, ih (show s < B + 1 by omega), Bool.or_false]
    rw [beq_eq_false_iff_ne]
    omega

theorem refsL_app' (s : Nat) (a b : List AV) : AV.refsL s (a ++ b) = (AV.refsL s a || AV.refsL s b) := by
  induction a with
  | nil => rfl
  | cons x r ih => simp only [List.cons_append, AV.refsL, ih, Bool.or_assoc]

theorem refsL_rep (s n : Nat) (x : D) : AV.refsL s (List.replicate n (.d x)) = false := by
  induction n with
  | zero => rfl
  | succ n ih => simp only [List.replicate_succ, AV.refsL, AV.refs, ih, Bool.or_self]

theorem gridQ_refs {B : Nat} {ls : List Nat} {n s : Nat} (h : s < B) : AV.refsL s (gridQ B ls n) = false := by
  rw [gridQ, refsL_app', gridC_refs h, refsL_rep]
  rfl

theorem lookO_lo {B t : Nat} {zs : List (List Int)} {r : List (Nat × OB)} (h : t < B) : lookO (gridO B zs r) t = lookO r t := by
  induction zs generalizing B with
  | nil => rfl
  | cons z zs ih =>
    simp only [gridO, lookO]
    rw [if_neg (by omega), ih (by omega)]

theorem lookO_row {B i : Nat} {zs : List (List Int)} {r : List (Nat × OB)} (h : i < zs.length) : lookO (gridO B zs r) (i + B) = some (.ds ((zs.getD i []).map D.int)) := by
  induction zs generalizing B i with
  | nil => simp at h
  | cons z zs ih =>
    simp only [gridO, lookO]
    cases i with
    | zero => rw [if_pos (by omega)]; simp
    | succ i =>
      rw [if_neg (by omega), show i + 1 + B = i + (B + 1) by omega, ih (by simpa using h)]
      simp

theorem killO_grid {B s : Nat} {zs : List (List Int)} {r : List (Nat × OB)} (h : s < B) : killO s (gridO B zs r) = gridO B zs (killO s r) := by
  induction zs generalizing B with
  | nil => rfl
  | cons z zs ih =>
    simp only [gridO, killO]
    rw [if_neg (by omega), ih (by omega)]
    simp [OB.refs]

theorem delO_grid {B s : Nat} {zs : List (List Int)} {r : List (Nat × OB)} (h : s < B) : delO (gridO B zs r) s = gridO B zs (delO r s) := by
  induction zs generalizing B with
  | nil => rfl
  | cons z zs ih =>
    simp only [gridO, delO]
    rw [if_neg (by omega), ih (by omega)]

theorem putO_lo {B s : Nat} {zs : List (List Int)} {r : List (Nat × OB)} {o : OB} (h : s < B) : putO (gridO B zs r) s o = gridO B zs (putO r s o) := by
  induction zs generalizing B with
  | nil => rfl
  | cons z zs ih =>
    simp only [gridO, putO]
    rw [if_neg (by omega), ih (by omega)]

def dropGe (lim : Nat) : List (Nat × OB) → List (Nat × OB)
  | [] => []
  | (s, o) :: r => if lim ≤ s then dropGe lim r else (s, o) :: dropGe lim r

theorem dropGe_grid {lim B : Nat} {zs : List (List Int)} {r : List (Nat × OB)} (h : lim ≤ B) : dropGe lim (gridO B zs r) = dropGe lim r := by
  induction zs generalizing B with
  | nil => rfl
  | cons z zs ih =>
    simp only [gridO, dropGe]
    rw [if_pos h, ih (by omega)]

theorem cleanO_grid {B : Nat} {zs : List (List Int)} {r : List (Nat × OB)} : cleanO (gridO B zs r) = gridO B zs (cleanO r) := by
  induction zs generalizing B with
  | nil => rfl
  | cons z zs ih => simp only [gridO, cleanO, ih]

def HasG (ob : List (Nat × OB)) (B : Nat) (zs : List (List Int)) : Prop := ∀ i, i < zs.length → lookO ob (i + B) = some (.ds ((zs.getD i []).map D.int))

def rowsD (zs : List (List Int)) : List D := zs.map fun z => .ls 1 z.length (z.map D.int)

def lens (zs : List (List Int)) : List Nat := zs.map List.length

@[simp] theorem lens_len (zs : List (List Int)) : (lens zs).length = zs.length := by simp [lens]

@[simp] theorem rowsD_len (zs : List (List Int)) : (rowsD zs).length = zs.length := by simp [rowsD]

theorem newN_grid {ob r : List (Nat × OB)} {B : Nat} {zs : List (List Int)} (h : ∀ i, i < zs.length → (lookO ob (i + B)).isSome = true) : newN ob (gridO B zs r) = newN ob r := by
  induction zs generalizing B with
  | nil => rfl
  | cons z zs ih =>
    simp only [gridO, newN]
    have h0 := h 0 (by simp)
    rw [Nat.zero_add] at h0
    obtain ⟨o, ho⟩ := Option.isSome_iff_exists.1 h0
    rw [ho]
    exact ih (fun i hi => by rw [show i + (B + 1) = i + 1 + B by omega]; exact h (i + 1) (by simpa using hi))

def gridN : Nat → Nat → List Nat
  | _, 0 => []
  | B, n + 1 => B :: gridN (B + 1) n

theorem newN_all {r : List (Nat × OB)} {B : Nat} {zs : List (List Int)} : newN [] (gridO B zs r) = gridN B zs.length ++ newN [] r := by
  induction zs generalizing B with
  | nil => rfl
  | cons z zs ih => simp only [gridO, newN, lookO, ih, List.length_cons, gridN, List.cons_append]

def rng (A B N s : Nat) : Nat := if A ≤ s ∧ s < A + N then s - A + B else if B ≤ s ∧ s < B + N then s - B + A else s

theorem rng_inv {A B N : Nat} (h : A + N ≤ B) : Inv (rng A B N) := ⟨fun s => by
  unfold rng
  by_cases h1 : A ≤ s ∧ s < A + N
  · rw [if_pos h1, if_neg (by omega), if_pos (by omega)]
    omega
  · rw [if_neg h1]
    by_cases h2 : B ≤ s ∧ s < B + N
    · rw [if_pos h2, if_pos (by omega)]
      omega
    · rw [if_neg h2, if_neg h1, if_neg h2]⟩

instance rng_inv1 : Inv (rng 10000 1000000000 2000000) := rng_inv (by decide)

instance rng_inv2 : Inv (rng 10000 2000000000 2000000) := rng_inv (by decide)

def St.updG (σ : St) (ws : List Nat) (sl : List (Nat × AV)) (os : List Nat) (lim : Nat) (ob : List (Nat × OB)) : St := { n := σ.n, sl := sl ++ dropS ws σ.sl, ob := ob ++ dropOs os (dropGe lim σ.ob) }

def avO (s : Nat) : List (Nat × OB) → List (Nat × OB)
  | [] => []
  | (k, o) :: r => if k = s then (k, match o with | .ds cs => .av (cs.map AV.d) | o => o) :: avO s r else (k, o) :: avO s r

theorem lookO_avO {s t : Nat} {o : OB} : ∀ {ob : List (Nat × OB)}, lookO (avO s ob) t = some o → ∃ o1, lookO ob t = some o1 ∧ obCells o = obCells o1 ∧ ∀ c T, objOf o c T = objOf o1 c T
  | [], h => by simp [avO, lookO] at h
  | (k, x) :: r, h => by
    simp only [avO] at h
    by_cases e : k = s
    · rw [if_pos e] at h
      simp only [lookO] at h ⊢
      by_cases e2 : k = t
      · rw [if_pos e2] at h ⊢
        cases x with
        | ds cs => simp only [Option.some.injEq] at h; subst h; exact ⟨_, rfl, rfl, fun _ _ => rfl⟩
        | av cs => simp only [Option.some.injEq] at h; subst h; exact ⟨_, rfl, rfl, fun _ _ => rfl⟩
        | mp _ => simp only [Option.some.injEq] at h; subst h; exact ⟨_, rfl, rfl, fun _ _ => rfl⟩
        | it _ _ _ => simp only [Option.some.injEq] at h; subst h; exact ⟨_, rfl, rfl, fun _ _ => rfl⟩
        | dead => cases h
      · rw [if_neg e2] at h ⊢
        exact lookO_avO h
    · rw [if_neg e] at h
      simp only [lookO] at h ⊢
      by_cases e2 : k = t
      · rw [if_pos e2] at h ⊢
        exact ⟨o, h, rfl, fun _ _ => rfl⟩
      · rw [if_neg e2] at h ⊢
        exact lookO_avO h

def St.asAv (σ : St) (s : Nat) : St := { n := σ.n, sl := σ.sl, ob := avO s σ.ob }

section
variable {P : Program} {w0 : Env} {w : World} {σ : St} {ν : Loc} {a : Act} {Q : Exit → St → Prop}

theorem Sim.asAv (h : Sim P w0 σ ν a w) (s : Nat) : Sim P w0 (σ.asAv s) ν a w := by
  have ho : ∀ t o, lookO (avO s σ.ob) t = some o → ∃ o1, lookO σ.ob t = some o1 ∧ obCells o = obCells o1 ∧ ∀ c T, objOf o c T = objOf o1 c T := fun t o ht => lookO_avO ht
  have hav : ∀ b, AvoidB σ.ob ν b → AvoidB (avO s σ.ob) ν b := fun b hb t o ht => by
    obtain ⟨o1, h1, _⟩ := ho t o ht
    exact hb t o1 h1
  have hlat : Later σ.ob ν w (avO s σ.ob) ν w := ⟨Nat.le_refl _, fun b _ hb => ⟨hav b hb, rfl⟩, fun b c T hb => ⟨c, T, hb, rfl⟩⟩
  have hfit : ∀ t, Fits σ.ob ν (avO s σ.ob) ν t := fun t hs => by
    obtain ⟨o, hso⟩ := Option.isSome_iff_exists.1 hs
    obtain ⟨o1, h1, h2, _⟩ := ho t o hso
    exact ⟨by rw [h1]; rfl, rfl, fun o2 o3 e1 e2 => by
      rw [h1] at e1
      have e2 : lookO (avO s σ.ob) t = some o3 := e2
      rw [hso] at e2
      cases e1; cases e2
      rw [h2]⟩
  refine ⟨⟨fun t o hs => ?_, fun t t' o o' x x' hne e1 e2 => ?_⟩, h.below, h.rows, h.lt, h.fresh, h.le, h.stab, h.defers, h.size, fun t => VR.later hlat (h.slots t) (fun t' _ => hfit t')⟩
  · obtain ⟨o1, h1, h2, h3⟩ := ho t o hs
    rcases h.objs t o1 h1 with ⟨e, e'⟩ | ⟨b, base, c, T, xs, e1, e2, e3, e4, e5, e6⟩
    · exact .inl ⟨e, by rw [h2]; exact e'⟩
    · exact .inr ⟨b, base, c, T, xs, e1, e2, e3.trans (by rw [h3]), e4, e5, by rw [h2]; exact VRs.later hlat e6 (fun t' _ => hfit t')⟩
  · obtain ⟨o1, h1, _⟩ := ho t o e1
    obtain ⟨o2, h2, _⟩ := ho t' o' e2
    exact h.inj t t' o1 o2 x x' hne h1 h2

end

def killR (B : Nat) : Nat → List (Nat × OB) → List (Nat × OB)
  | 0, ob => ob
  | n + 1, ob => killR (B + 1) n (killN B ob)

theorem dropO_grid {ob : List (Nat × OB)} {B : Nat} {zs : List (List Int)} {r : List (Nat × OB)} : dropO ob (gridO B zs r) = dropO (killR B zs.length ob) r := by
  induction zs generalizing B ob with
  | nil => rfl
  | cons z zs ih =>
    simp only [gridO, dropO, List.length_cons, killR]
    exact ih

theorem killR_nil {B n : Nat} : killR B n [] = [] := by
  induction n generalizing B with
  | zero => rfl
  | succ n ih => simp only [killR, killN, ih]

theorem killR_cons {B n k : Nat} {o : OB} {r : List (Nat × OB)} (h : k < B) : killR B n ((k, o) :: r) = (k, o) :: killR B n r := by
  induction n generalizing B r with
  | zero => rfl
  | succ n ih =>
    simp only [killR, killN]
    rw [if_neg (by omega), ih (by omega)]

theorem killN_grid {s B : Nat} {zs : List (List Int)} {r : List (Nat × OB)} (h : s < B ∨ B + zs.length ≤ s) : killN s (gridO B zs r) = gridO B zs (killN s r) := by
  induction zs generalizing B with
  | nil => rfl
  | cons z zs ih =>
    simp only [List.length_cons] at h
    simp only [gridO, killN]
    rw [if_neg (by omega), ih (by omega)]

theorem killN_lo {s B : Nat} {zs : List (List Int)} {r : List (Nat × OB)} (h : s < B) : killN s (gridO B zs r) = gridO B zs (killN s r) := killN_grid (.inl h)

theorem killR_grid {B n : Nat} {zs : List (List Int)} {r : List (Nat × OB)} (h : zs.length ≤ n) : killR B n (gridO B zs r) = killR B n r := by
  induction n generalizing B zs r with
  | zero =>
    have : zs = [] := List.eq_nil_of_length_eq_zero (by omega)
    subst this
    rfl
  | succ n ih =>
    cases zs with
    | nil => rfl
    | cons z zs =>
      simp only [List.length_cons] at h
      simp only [gridO, killR, killN, if_true]
      rw [killN_grid (.inl (by omega)), ih (by omega)]

def HasN (ob : List (Nat × OB)) (B n : Nat) : Prop := ∀ i, i < n → (lookO ob (i + B)).isSome = true

theorem hasN_cons {k B n : Nat} {o : OB} {r : List (Nat × OB)} (h : k < B) : HasN ((k, o) :: r) B n = HasN r B n := by
  apply propext
  simp only [HasN, lookO]
  constructor <;> intro g i hi
  · have := g i hi
    rwa [if_neg (by omega)] at this
  · rw [if_neg (by omega)]
    exact g i hi

theorem hasN_grid {B n : Nat} {r : List (Nat × OB)} {zs : List (List Int)} (h : n ≤ zs.length) : HasN (gridO B zs r) B n = True := eq_true (fun i hi => by rw [lookO_row (by omega)]; rfl)

theorem newN_gridN {ob r : List (Nat × OB)} {B : Nat} {zs : List (List Int)} (h : HasN ob B zs.length) : newN ob (gridO B zs r) = newN ob r := newN_grid h

def setG (zs : List (List Int)) (x y : Nat) (v : Int) : List (List Int) := zs.set y ((zs.getD y []).set x v)

@[simp] theorem setG_len (zs : List (List Int)) (x y : Nat) (v : Int) : (setG zs x y v).length = zs.length := by simp [setG]

mutual
def AV.lo (B : Nat) : AV → Prop
  | .bp s _ => s < B
  | .bs s _ _ _ => s < B
  | .ag cs => AV.loL B cs
  | .tu cs => AV.loL B cs
  | .fc _ a b => AV.loL B a ∧ AV.loL B b
  | .d _ => True
  | .fn _ _ => True
  | .rf s _ => s < B
  | .un => True
def AV.loL (B : Nat) : List AV → Prop
  | [] => True
  | x :: r => x.lo B ∧ AV.loL B r
end

mutual
theorem AV.lo_refs {B t : Nat} (ht : B ≤ t) : ∀ {x : AV}, x.lo B → x.refs t = false
  | .bp s _, h => by
    simp only [AV.lo] at h
    simp only [AV.refs, beq_eq_false_iff_ne]
    omega
  | .bs s _ _ _, h => by
    simp only [AV.lo] at h
    simp only [AV.refs, beq_eq_false_iff_ne]
    omega
  | .ag cs, h => by
    simp only [AV.lo] at h
    simp only [AV.refs]
    exact AV.loL_refs ht h
  | .tu cs, h => by
    simp only [AV.lo] at h
    simp only [AV.refs]
    exact AV.loL_refs ht h
  | .fc _ a b, h => by
    simp only [AV.lo] at h
    simp only [AV.refs, AV.loL_refs ht h.1, AV.loL_refs ht h.2, Bool.or_self]
  | .d _, _ => rfl
  | .fn _ _, _ => rfl
  | .rf s _, h => by
    simp only [AV.lo] at h
    simp only [AV.refs, beq_eq_false_iff_ne]
    omega
  | .un, _ => rfl
theorem AV.loL_refs {B t : Nat} (ht : B ≤ t) : ∀ {xs : List AV}, AV.loL B xs → AV.refsL t xs = false
  | [], _ => rfl
  | x :: r, h => by
    simp only [AV.loL] at h
    simp only [AV.refsL, AV.lo_refs ht h.1, AV.loL_refs ht h.2, Bool.or_self]
end

theorem loL_dmap (B : Nat) (cs : List D) : AV.loL B (cs.map AV.d) = True := by
  apply eq_true
  induction cs with
  | nil => simp only [List.map_nil, AV.loL]
  | cons c cs ih =>
    simp only [List.map_cons, AV.loL, AV.lo]
    exact ⟨trivial, ih⟩

theorem loL_gridC {B B' : Nat} {ls : List Nat} (h : B' + ls.length ≤ B) : AV.loL B (gridC B' ls) = True := by
  apply eq_true
  induction ls generalizing B' with
  | nil => simp only [gridC, AV.loL]
  | cons n r ih =>
    simp only [List.length_cons] at h
    simp only [gridC, AV.loL, AV.lo]
    exact ⟨by omega, ih (by omega)⟩

def loS (B : Nat) : List (Nat × AV) → Prop
  | [] => True
  | (_, x) :: r => x.lo B ∧ loS B r

def loO (B : Nat) : List (Nat × OB) → Prop
  | [] => True
  | (s, o) :: r => s < B ∧ AV.loL B (obCells o) ∧ loO B r

theorem loO_grid {B B' : Nat} {zs : List (List Int)} {r : List (Nat × OB)} (h : B' + zs.length ≤ B) : loO B (gridO B' zs r) = loO B r := by
  induction zs generalizing B' with
  | nil => rfl
  | cons z zs ih =>
    simp only [List.length_cons] at h
    simp only [gridO, loO, obCells, loL_dmap, true_and]
    rw [ih (by omega)]
    exact propext ⟨fun q => q.2, fun q => ⟨by omega, q⟩⟩

theorem killS_lo {B t : Nat} (ht : B ≤ t) : ∀ {sl : List (Nat × AV)}, loS B sl → killS t sl = sl
  | [], _ => rfl
  | (k, x) :: r, h => by
    simp only [loS] at h
    simp only [killS, AV.lo_refs ht h.1, killS_lo ht h.2]
    rfl

theorem killO_lo {B t : Nat} (ht : B ≤ t) : ∀ {ob : List (Nat × OB)}, loO B ob → killO t ob = ob
  | [], _ => rfl
  | (k, o) :: r, h => by
    simp only [loO] at h
    simp only [killO, killO_lo ht h.2.2]
    rw [if_neg (by omega)]
    have : o.refs t = false := by
      cases o with
      | av cs => exact AV.loL_refs ht h.2.1
      | ds cs => rfl
      | mp _ => rfl
      | it t' _ _ =>
        have := h.2.1
        simp only [obCells, AV.loL, AV.lo] at this
        simp only [OB.refs, beq_eq_false_iff_ne]
        omega
      | dead => rfl
    rw [this]
    rfl

theorem killSs_gridN {B n : Nat} {r : List Nat} {sl : List (Nat × AV)} (h : loS B sl) : killSs (gridN B n ++ r) sl = killSs r sl := by
  have key : ∀ n B', B ≤ B' → killSs (gridN B' n ++ r) sl = killSs r sl := fun n => by
    induction n with
    | zero => intro B' _; rfl
    | succ n ih =>
      intro B' hB
      simp only [gridN, List.cons_append, killSs, killS_lo hB h]
      exact ih (B' + 1) (by omega)
  exact key n B (Nat.le_refl _)

theorem killOs_gridN {B n : Nat} {r : List Nat} {ob : List (Nat × OB)} (h : loO B ob) : killOs (gridN B n ++ r) ob = killOs r ob := by
  have key : ∀ n B', B ≤ B' → killOs (gridN B' n ++ r) ob = killOs r ob := fun n => by
    induction n with
    | zero => intro B' _; rfl
    | succ n ih =>
      intro B' hB
      simp only [gridN, List.cons_append, killOs, killO_lo hB h]
      exact ih (B' + 1) (by omega)
  exact key n B (Nat.le_refl _)

theorem killSs_gridN0 {B n : Nat} {sl : List (Nat × AV)} (h : loS B sl) : killSs (gridN B n) sl = sl := by
  have := killSs_gridN (n := n) (r := []) h
  rwa [List.append_nil] at this

theorem killOs_gridN0 {B n : Nat} {ob : List (Nat × OB)} (h : loO B ob) : killOs (gridN B n) ob = ob := by
  have := killOs_gridN (n := n) (r := []) h
  rwa [List.append_nil] at this

theorem loS_nil {B : Nat} : loS B [] = True := eq_true trivial

theorem loS_cons {B k : Nat} {x : AV} {r : List (Nat × AV)} : loS B ((k, x) :: r) = (x.lo B ∧ loS B r) := Eq.trans rfl rfl

theorem loL_nil {B : Nat} : AV.loL B [] = True := eq_true trivial

theorem loL_cons {B : Nat} {x : AV} {r : List AV} : AV.loL B (x :: r) = (x.lo B ∧ AV.loL B r) := by simp only [AV.loL]

theorem lo_bp {B s o : Nat} : (AV.bp s o).lo B = (s < B) := by simp only [AV.lo]

theorem lo_bs {B s o n k : Nat} : (AV.bs s o n k).lo B = (s < B) := by simp only [AV.lo]

theorem lo_ag {B : Nat} {cs : List AV} : (AV.ag cs).lo B = AV.loL B cs := by simp only [AV.lo]

theorem lo_tu {B : Nat} {cs : List AV} : (AV.tu cs).lo B = AV.loL B cs := by simp only [AV.lo]

theorem lo_fc {B : Nat} {g : FuncId} {a b : List AV} : (AV.fc g a b).lo B = (AV.loL B a ∧ AV.loL B b) := by simp only [AV.lo]

theorem lo_d {B : Nat} {x : D} : (AV.d x).lo B = True := by simp only [AV.lo]

theorem lo_un {B : Nat} : AV.un.lo B = True := by simp only [AV.lo]

theorem loO_nil {B : Nat} : loO B [] = True := eq_true trivial

theorem loO_ds {B s : Nat} {cs : List D} {r : List (Nat × OB)} : loO B ((s, .ds cs) :: r) = (s < B ∧ loO B r) := by
  simp only [loO, obCells, loL_dmap, true_and]

theorem loO_av {B s : Nat} {cs : List AV} {r : List (Nat × OB)} : loO B ((s, .av cs) :: r) = (s < B ∧ AV.loL B cs ∧ loO B r) := by
  simp only [loO, obCells]

theorem loO_dead {B s : Nat} {r : List (Nat × OB)} : loO B ((s, .dead) :: r) = (s < B ∧ loO B r) := by
  simp only [loO, obCells, AV.loL, true_and]

end Go.Proofs.Ythjafngffkhffaa
