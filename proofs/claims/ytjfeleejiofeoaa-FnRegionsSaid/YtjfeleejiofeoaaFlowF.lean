/- Names turned by any map that is its own inverse; lists of rows of integers (an object whose cells are slices over objects with names in a row). -/
import Derived.Test.YtjfeleejiofeoaaFlowS
import Derived.WalkKit
import Derived.WalkSpells
namespace Go.Proofs.Ytjfeleejiofeoaa
open Go.RowKit
set_option linter.unusedVariables false
set_option linter.unusedSimpArgs false

set_option linter.unusedSectionVars false

class Inv (π : Nat → Nat) : Prop where
  inv : ∀ s, π (π s) = s

theorem iv (π : Nat → Nat) [Inv π] : ∀ s, π (π s) = s := Inv.inv

mutual
def AV.pm (π : Nat → Nat) : AV → AV
  | .bp s o => .bp (π s) o
  | .bs s off n k => .bs (π s) off n k
  | .ag cs => .ag (AV.pmL π cs)
  | .tu cs => .tu (AV.pmL π cs)
  | .fc g x y => .fc g (AV.pmL π x) (AV.pmL π y)
  | .d x => .d x
  | .fn dom h => .fn dom h
  | .rf s k => .rf (π s) k
  | .un => .un
def AV.pmL (π : Nat → Nat) : List AV → List AV
  | [] => []
  | x :: r => x.pm π :: AV.pmL π r
end

def OB.pm (π : Nat → Nat) : OB → OB
  | .ds cs => .ds cs
  | .av cs => .av (AV.pmL π cs)
  | .mp kvs => .mp kvs
  | .it t n seen => .it (π t) n seen
  | .dead => .dead

def pmO (π : Nat → Nat) : List (Nat × OB) → List (Nat × OB)
  | [] => []
  | (s, o) :: r => (π s, o.pm π) :: pmO π r

section
variable {P : Program} {w0 : Env} {w w' : World} {σ : St} {ν : Loc} {a : Act} {π : Nat → Nat} [Inv π]

theorem lookO_pm {ob : List (Nat × OB)} {s : Nat} {o : OB} (h : lookO (pmO π ob) s = some o) : ∃ o1, lookO ob (π s) = some o1 ∧ o = o1.pm π := by
  induction ob with
  | nil => simp [pmO, lookO] at h
  | cons p r ih =>
    obtain ⟨k, x⟩ := p
    simp only [pmO, lookO] at h ⊢
    by_cases e : π k = s
    · rw [if_pos e] at h
      have e2 : k = π s := by rw [← e, iv π]
      rw [if_pos e2]
      cases x with
      | dead => simp [OB.pm] at h
      | ds cs => simp only [OB.pm, Option.some.injEq] at h; exact ⟨_, rfl, h.symm⟩
      | av cs => simp only [OB.pm, Option.some.injEq] at h; exact ⟨_, rfl, h.symm⟩
      | mp _ => simp only [OB.pm, Option.some.injEq] at h; exact ⟨_, rfl, h.symm⟩
      | it _ _ _ => simp only [OB.pm, Option.some.injEq] at h; exact ⟨_, rfl, h.symm⟩
    · rw [if_neg e] at h
      have e2 : ¬ k = π s := fun e2 => e (by rw [e2, iv π])
      rw [if_neg e2]
      exact ih h

theorem lookO_pm_of {ob : List (Nat × OB)} {s : Nat} {o : OB} (h : lookO ob s = some o) : lookO (pmO π ob) (π s) = some (o.pm π) := by
  induction ob with
  | nil => simp [lookO] at h
  | cons p r ih =>
    obtain ⟨k, x⟩ := p
    simp only [pmO, lookO] at h ⊢
    by_cases e : k = s
    · rw [if_pos e] at h
      rw [if_pos (by rw [e])]
      cases x with
      | dead => simp at h
      | ds cs => simp only [Option.some.injEq] at h; subst h; rfl
      | av cs => simp only [Option.some.injEq] at h; subst h; rfl
      | mp _ => simp only [Option.some.injEq] at h; subst h; rfl
      | it _ _ _ => simp only [Option.some.injEq] at h; subst h; rfl
    · rw [if_neg e] at h
      have e2 : ¬ π k = π s := fun e2 => e (by have := congrArg π e2; rwa [iv π, iv π] at this)
      rw [if_neg e2]
      exact ih h

theorem pmL_d : ∀ cs : List D, AV.pmL π (cs.map AV.d) = cs.map AV.d
  | [] => rfl
  | c :: cs => by simp only [List.map_cons, AV.pmL, AV.pm, pmL_d cs]

theorem pmL_length : ∀ cs : List AV, (AV.pmL π cs).length = cs.length
  | [] => rfl
  | c :: cs => by simp only [AV.pmL, List.length_cons, pmL_length cs]

theorem cells_pm (o : OB) : obCells (o.pm π) = AV.pmL π (obCells o) := by
  cases o with
  | ds cs => simp only [OB.pm, obCells, pmL_d]
  | av cs => simp only [OB.pm, obCells]
  | mp _ => simp only [OB.pm, obCells, AV.pmL]
  | it _ _ _ => simp only [OB.pm, obCells, AV.pmL, AV.pm]
  | dead => simp only [OB.pm, obCells, AV.pmL]

theorem objOf_pm (o : OB) (c : Array Value) (T : TypeId) : objOf (o.pm π) c T = objOf o c T := by
  cases o <;> rfl

theorem avoid_pm {ob : List (Nat × OB)} {b : Nat} (h : AvoidB ob ν b) : AvoidB (pmO π ob) (fun s => ν (π s)) b := fun s o hs x hx => by
  obtain ⟨o1, h1, _⟩ := lookO_pm hs
  exact h _ o1 h1 x hx

mutual
theorem VR.pm {ob : List (Nat × OB)} : ∀ {x : AV} {y : Value}, VR P w0 w ob ν x y → VR P w0 w (pmO π ob) (fun s => ν (π s)) (x.pm π) y
  | .d x, y, h => by
    simp only [AV.pm, VR] at h ⊢
    obtain ⟨bs, h1, h2⟩ := h
    exact ⟨bs, h1, fun b hb => ⟨(h2 b hb).1, avoid_pm (h2 b hb).2.1, (h2 b hb).2.2⟩⟩
  | .bp s o, y, h => by
    simp only [AV.pm, VR, iv π] at h ⊢
    intro hs
    obtain ⟨o1, hs⟩ := Option.isSome_iff_exists.1 hs
    obtain ⟨o2, h1, _⟩ := lookO_pm hs
    rw [iv π] at h1
    exact h (by rw [h1]; rfl)
  | .bs s off k l, y, h => by
    simp only [AV.pm, VR, iv π] at h ⊢
    intro hs
    obtain ⟨o1, hs⟩ := Option.isSome_iff_exists.1 hs
    obtain ⟨o2, h1, _⟩ := lookO_pm hs
    rw [iv π] at h1
    obtain ⟨h2, h3⟩ := h (by rw [h1]; rfl)
    refine ⟨fun o ho => ?_, h3⟩
    obtain ⟨o3, h4, rfl⟩ := lookO_pm ho
    rw [iv π] at h4
    rw [cells_pm, pmL_length]
    exact h2 o3 h4
  | .ag cs, y, h => by
    simp only [AV.pm, VR] at h ⊢
    obtain ⟨xs, h1, h0, h2⟩ := h
    exact ⟨xs, h1, h0, VRs.pm h2⟩
  | .tu cs, y, h => by
    simp only [AV.pm, VR] at h ⊢
    obtain ⟨xs, h1, h2⟩ := h
    exact ⟨xs, h1, VRs.pm h2⟩
  | .fn dom k, y, h => by
    simp only [AV.pm, VR] at h ⊢
    exact h
  | .fc g l1 l2, y, h => by
    simp only [AV.pm, VR] at h ⊢
    obtain ⟨xs, ys, h1, h2, h3⟩ := h
    exact ⟨xs, ys, h1, VRs.pm h2, VRs.pm h3⟩
  | .rf s k, y, h => by
    simp only [AV.pm, VR, iv π] at h ⊢
    intro hs
    obtain ⟨o1, hs⟩ := Option.isSome_iff_exists.1 hs
    obtain ⟨o2, h1, _⟩ := lookO_pm hs
    rw [iv π] at h1
    exact h (by rw [h1]; rfl)
  | .un, y, h => by simp only [AV.pm, VR]
theorem VRs.pm {ob : List (Nat × OB)} : ∀ {xs : List AV} {ys : List Value}, VRs P w0 w ob ν xs ys → VRs P w0 w (pmO π ob) (fun s => ν (π s)) (AV.pmL π xs) ys
  | [], ys, h => by simp only [AV.pmL, VRs] at h ⊢; exact h
  | x :: xs, ys, h => by
    simp only [AV.pmL, VRs] at h ⊢
    obtain ⟨y, ys', h1, h2, h3⟩ := h
    exact ⟨y, ys', h1, VR.pm h2, VRs.pm h3⟩
end

theorem Mem.pm {ob : List (Nat × OB)} (h : Mem P w0 w ob ν) : Mem P w0 w (pmO π ob) (fun s => ν (π s)) := by
  refine ⟨fun s o hs => ?_, fun s s' o o' x x' hne h1 h2 h3 h4 => ?_⟩
  · obtain ⟨o1, h1, rfl⟩ := lookO_pm hs
    rcases h.objs _ o1 h1 with ⟨g1, g2⟩ | ⟨b, base, c, T, xs, g1, g2, g3, g4, g5, g6⟩
    · exact .inl ⟨g1, by rw [cells_pm, g2]; rfl⟩
    · exact .inr ⟨b, base, c, T, xs, g1, g2, g3.trans (by rw [objOf_pm]), g4, g5, by rw [cells_pm]; exact VRs.pm g6⟩
  · obtain ⟨o1, g1, _⟩ := lookO_pm h1
    obtain ⟨o2, g2, _⟩ := lookO_pm h2
    exact h.inj _ _ o1 o2 x x' (fun e => hne (by have := congrArg π e; rwa [iv π, iv π] at this)) g1 g2 h3 h4

mutual
theorem AV.pm_pm : ∀ x : AV, (x.pm π).pm π = x
  | .bp s o => by simp only [AV.pm, iv π]
  | .bs s off k l => by simp only [AV.pm, iv π]
  | .ag cs => by simp only [AV.pm, AV.pmL_pmL cs]
  | .tu cs => by simp only [AV.pm, AV.pmL_pmL cs]
  | .fc g x y => by simp only [AV.pm, AV.pmL_pmL x, AV.pmL_pmL y]
  | .d x => by simp only [AV.pm]
  | .fn dom h => by simp only [AV.pm]
  | .rf s k => by simp only [AV.pm, iv π]
  | .un => by simp only [AV.pm]
theorem AV.pmL_pmL : ∀ xs : List AV, AV.pmL π (AV.pmL π xs) = xs
  | [] => by simp only [AV.pmL]
  | x :: r => by simp only [AV.pmL, AV.pm_pm x, AV.pmL_pmL r]
end

theorem OB.pm_pm (o : OB) : (o.pm π).pm π = o := by
  cases o <;> simp only [OB.pm, AV.pmL_pmL, iv π]

theorem pmO_pmO : ∀ ob : List (Nat × OB), pmO π (pmO π ob) = ob
  | [] => rfl
  | (s, o) :: r => by simp only [pmO, iv π, OB.pm_pm, pmO_pmO r]

theorem avoid_pm_iff {ob : List (Nat × OB)} {b : Nat} : AvoidB (pmO π ob) ν b ↔ AvoidB ob (fun s => ν (π s)) b := by
  constructor
  · intro h s o hs x hx
    exact h _ _ (lookO_pm_of hs) x hx
  · intro h s o hs x hx
    obtain ⟨o1, h1, _⟩ := lookO_pm hs
    exact h _ o1 h1 x (by simpa only [iv π] using hx)

theorem FnS.pm {g : FuncId} {ob ob' : List (Nat × OB)} {args : List AV} {res : AV} (π : Nat → Nat) [Inv π] (h : FnS P g ob args ob' res) : FnS P g (pmO π ob) (AV.pmL π args) (pmO π ob') (res.pm π) := by
  refine ⟨h.1, fun w ν Dt vs hDt hm hv => ?_⟩
  have hS : (fun b => b < w.heap.size ∧ AvoidB (pmO π ob) ν b) = (fun b => b < w.heap.size ∧ AvoidB ob (fun s => ν (π s)) b) := by
    funext b
    rw [avoid_pm_iff]
  have hm1 := hm.pm (π := π)
  rw [pmO_pmO] at hm1
  have hv1 := VRs.pm (π := π) hv
  rw [pmO_pmO, AV.pmL_pmL] at hv1
  rw [hS] at hm1 hv1
  have hm2 : Mem P ⟨w, fun b => b < w.heap.size ∧ AvoidB ob (fun s => ν (π s)) b, Dt, fun s => ν (π s), 0⟩ w ob (fun s => ν (π s)) := hm1.env (fun _ h => h) (fun _ h => h) (fun _ h => h)
  have hv2 : VRs P ⟨w, fun b => b < w.heap.size ∧ AvoidB ob (fun s => ν (π s)) b, Dt, fun s => ν (π s), 0⟩ w ob (fun s => ν (π s)) args vs := VRs.into (w0 := ⟨w, fun b => b < w.heap.size ∧ AvoidB ob (fun s => ν (π s)) b, Dt, ν, 0⟩) (E := ⟨w, fun b => b < w.heap.size ∧ AvoidB ob (fun s => ν (π s)) b, Dt, fun s => ν (π s), 0⟩) (fun _ _ h => h) (fun b _ _ h => h) (fun _ h => h) hv1
  refine (h.2 w (fun s => ν (π s)) Dt vs ⟨hDt.1, hDt.2.1, fun b hb => avoid_pm_iff.1 (hDt.2.2 b hb)⟩ hm2 hv2).mono fun e w' hh => ?_
  obtain ⟨r, ν', he, hk, hr, hm3, hv3, hf⟩ := hh
  rw [hS]
  refine ⟨r, fun s => ν' (π s), he, hk, hr, ?_, ?_, fun s o o' e1 e2 => ?_⟩
  · exact (hm3.pm (π := π)).env (fun _ h => h) (fun _ h => h) (fun _ h => h)
  · exact VR.into (w0 := ⟨w, fun b => b < w.heap.size ∧ AvoidB ob (fun s => ν (π s)) b, Dt, fun s => ν (π s), 0⟩) (E := ⟨w, fun b => b < w.heap.size ∧ AvoidB ob (fun s => ν (π s)) b, Dt, ν, 0⟩) (fun _ _ h => h) (fun b _ _ h => h) (fun _ h => h) (VR.pm (π := π) hv3)
  · obtain ⟨o1, g1, rfl⟩ := lookO_pm e1
    obtain ⟨o2, g2, rfl⟩ := lookO_pm e2
    obtain ⟨q1, q2⟩ := hf _ o1 o2 g1 g2
    refine ⟨?_, by rw [cells_pm, cells_pm, pmL_length, pmL_length, q2]⟩
    show ν' (π s) = ν s
    rw [q1]
    show ν (π (π s)) = ν s
    rw [iv π]

end

def gridC : Nat → List Nat → List AV
  | _, [] => []
  | B, n :: r => .bs B 0 n 1 :: gridC (B + 1) r

def gridO : Nat → List (List Int) → List (Nat × OB) → List (Nat × OB)
  | _, [], r => r
  | B, z :: zs, r => (B, .ds (z.map D.int)) :: gridO (B + 1) zs r

theorem take_zero (zs : List (List Int)) : zs.take 0 = [] := rfl

def gridQ (B : Nat) (ls : List Nat) (n : Nat) : List AV := gridC B ls ++ List.replicate (n - ls.length) (.d (.v (.slice none 0 0)))

@[simp] theorem gridC_len (B : Nat) (ls : List Nat) : (gridC B ls).length = ls.length := by
  induction ls generalizing B with
  | nil => rfl
  | cons n r ih => simp [gridC, ih]

def dropGe (lim : Nat) : List (Nat × OB) → List (Nat × OB)
  | [] => []
  | (s, o) :: r => if lim ≤ s then dropGe lim r else (s, o) :: dropGe lim r

def HasG (ob : List (Nat × OB)) (B : Nat) (zs : List (List Int)) : Prop := ∀ i, i < zs.length → lookO ob (i + B) = some (.ds ((zs.getD i []).map D.int))

def rowsD (zs : List (List Int)) : List D := zs.map fun z => .ls 1 z.length (z.map D.int)

def lens (zs : List (List Int)) : List Nat := zs.map List.length

@[simp] theorem lens_len (zs : List (List Int)) : (lens zs).length = zs.length := by simp [lens]

@[simp] theorem rowsD_len (zs : List (List Int)) : (rowsD zs).length = zs.length := by simp [rowsD]

def gridN : Nat → Nat → List Nat
  | _, 0 => []
  | B, n + 1 => B :: gridN (B + 1) n

def rng (A B N s : Nat) : Nat := if A ≤ s ∧ s < A + N then s - A + B else if B ≤ s ∧ s < B + N then s - B + A else s

theorem rng_inv {A B N : Nat} (h : A + N ≤ B) : Inv (rng A B N) := ⟨fun s => by
  unfold rng
  by_cases h1 : A ≤ s ∧ s < A + N
  · rw [if_pos h1, if_neg (by omega), if_pos (by omega)]
    omega
  · rw [if_neg h1]
    by_cases h2 : B ≤ s ∧ s < B + N
    · rw [if_pos h2, if_pos (by omega)]
      omega
    · rw [if_neg h2, if_neg h1, if_neg h2]⟩

instance rng_inv1 : Inv (rng 10000 1000000000 2000000) := rng_inv (by decide)

instance rng_inv2 : Inv (rng 10000 2000000000 2000000) := rng_inv (by decide)

def St.updG (σ : St) (ws : List Nat) (sl : List (Nat × AV)) (os : List Nat) (lim : Nat) (ob : List (Nat × OB)) : St := { n := σ.n, sl := sl ++ dropS ws σ.sl, ob := ob ++ dropOs os (dropGe lim σ.ob) }

def avO (s : Nat) : List (Nat × OB) → List (Nat × OB)
  | [] => []
  | (k, o) :: r => if k = s then (k, match o with | .ds cs => .av (cs.map AV.d) | o => o) :: avO s r else (k, o) :: avO s r

theorem lookO_avO {s t : Nat} {o : OB} : ∀ {ob : List (Nat × OB)}, lookO (avO s ob) t = some o → ∃ o1, lookO ob t = some o1 ∧ obCells o = obCells o1 ∧ ∀ c T, objOf o c T = objOf o1 c T
  | [], h => by simp [avO, lookO] at h
  | (k, x) :: r, h => by
    simp only [avO] at h
    by_cases e : k = s
    · rw [if_pos e] at h
      simp only [lookO] at h ⊢
      by_cases e2 : k = t
      · rw [if_pos e2] at h ⊢
        cases x with
        | ds cs => simp only [Option.some.injEq] at h; subst h; exact ⟨_, rfl, rfl, fun _ _ => rfl⟩
        | av cs => simp only [Option.some.injEq] at h; subst h; exact ⟨_, rfl, rfl, fun _ _ => rfl⟩
        | mp _ => simp only [Option.some.injEq] at h; subst h; exact ⟨_, rfl, rfl, fun _ _ => rfl⟩
        | it _ _ _ => simp only [Option.some.injEq] at h; subst h; exact ⟨_, rfl, rfl, fun _ _ => rfl⟩
        | dead => cases h
      · rw [if_neg e2] at h ⊢
        exact lookO_avO h
    · rw [if_neg e] at h
      simp only [lookO] at h ⊢
      by_cases e2 : k = t
      · rw [if_pos e2] at h ⊢
        exact ⟨o, h, rfl, fun _ _ => rfl⟩
      · rw [if_neg e2] at h ⊢
        exact lookO_avO h

def St.asAv (σ : St) (s : Nat) : St := { n := σ.n, sl := σ.sl, ob := avO s σ.ob }

section
variable {P : Program} {w0 : Env} {w : World} {σ : St} {ν : Loc} {a : Act} {Q : Exit → St → Prop}

theorem Sim.asAv (h : Sim P w0 σ ν a w) (s : Nat) : Sim P w0 (σ.asAv s) ν a w := by
  have ho : ∀ t o, lookO (avO s σ.ob) t = some o → ∃ o1, lookO σ.ob t = some o1 ∧ obCells o = obCells o1 ∧ ∀ c T, objOf o c T = objOf o1 c T := fun t o ht => lookO_avO ht
  have hav : ∀ b, AvoidB σ.ob ν b → AvoidB (avO s σ.ob) ν b := fun b hb t o ht => by
    obtain ⟨o1, h1, _⟩ := ho t o ht
    exact hb t o1 h1
  have hlat : Later σ.ob ν w (avO s σ.ob) ν w := ⟨Nat.le_refl _, fun b _ hb => ⟨hav b hb, rfl⟩, fun b c T hb => ⟨c, T, hb, rfl⟩⟩
  have hfit : ∀ t, Fits σ.ob ν (avO s σ.ob) ν t := fun t hs => by
    obtain ⟨o, hso⟩ := Option.isSome_iff_exists.1 hs
    obtain ⟨o1, h1, h2, _⟩ := ho t o hso
    exact ⟨by rw [h1]; rfl, rfl, fun o2 o3 e1 e2 => by
      rw [h1] at e1
      have e2 : lookO (avO s σ.ob) t = some o3 := e2
      rw [hso] at e2
      cases e1; cases e2
      rw [h2]⟩
  refine ⟨⟨fun t o hs => ?_, fun t t' o o' x x' hne e1 e2 => ?_⟩, h.below, h.rows, h.lt, h.fresh, h.le, h.glob, h.stab, h.defers, h.size, fun t => VR.later hlat (h.slots t) (fun t' _ => hfit t')⟩
  · obtain ⟨o1, h1, h2, h3⟩ := ho t o hs
    rcases h.objs t o1 h1 with ⟨e, e'⟩ | ⟨b, base, c, T, xs, e1, e2, e3, e4, e5, e6⟩
    · exact .inl ⟨e, by rw [h2]; exact e'⟩
    · exact .inr ⟨b, base, c, T, xs, e1, e2, e3.trans (by rw [h3]), e4, e5, by rw [h2]; exact VRs.later hlat e6 (fun t' _ => hfit t')⟩
  · obtain ⟨o1, h1, _⟩ := ho t o e1
    obtain ⟨o2, h2, _⟩ := ho t' o' e2
    exact h.inj t t' o1 o2 x x' hne h1 h2

end

def killR (B : Nat) : Nat → List (Nat × OB) → List (Nat × OB)
  | 0, ob => ob
  | n + 1, ob => killR (B + 1) n (killN B ob)

def HasN (ob : List (Nat × OB)) (B n : Nat) : Prop := ∀ i, i < n → (lookO ob (i + B)).isSome = true

def setG (zs : List (List Int)) (x y : Nat) (v : Int) : List (List Int) := zs.set y ((zs.getD y []).set x v)

@[simp] theorem setG_len (zs : List (List Int)) (x y : Nat) (v : Int) : (setG zs x y v).length = zs.length := by simp [setG]

theorem ress_unit {P : Program} {σ : St} {ob ob' : List (Nat × OB)} (hl : lensO ob ob') (hs : SubO σ.ob ob') : ResS P [] σ ob ob' (.tu []) := by
  refine ⟨by simp, hl, [], rfl, hs, ?_⟩
  simp only [resAVs, joinR, swsA]
  exact ⟨trivial, trivial⟩

mutual
def AV.lo (B : Nat) : AV → Prop
  | .bp s _ => s < B
  | .bs s _ _ _ => s < B
  | .ag cs => AV.loL B cs
  | .tu cs => AV.loL B cs
  | .fc _ a b => AV.loL B a ∧ AV.loL B b
  | .d _ => True
  | .fn _ _ => True
  | .rf s _ => s < B
  | .un => True
def AV.loL (B : Nat) : List AV → Prop
  | [] => True
  | x :: r => x.lo B ∧ AV.loL B r
end

def loS (B : Nat) : List (Nat × AV) → Prop
  | [] => True
  | (_, x) :: r => x.lo B ∧ loS B r

def loO (B : Nat) : List (Nat × OB) → Prop
  | [] => True
  | (s, o) :: r => s < B ∧ AV.loL B (obCells o) ∧ loO B r

end Go.Proofs.Ytjfeleejiofeoaa
