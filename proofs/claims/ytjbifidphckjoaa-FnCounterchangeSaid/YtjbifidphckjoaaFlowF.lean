/- Names turned by any map that is its own inverse; lists of rows of integers (an object whose cells are slices over objects with names in a row). -/
import Derived.Test.YtjbifidphckjoaaFlowS
import Derived.WalkKit
import Derived.WalkSpells
namespace Go.Proofs.Ytjbifidphckjoaa
open Go.RowKit
set_option linter.unusedVariables false
set_option linter.unusedSimpArgs false

set_option linter.unusedSectionVars false

class Inv (π : Nat -> Nat) : Prop where
 inv : ∀ s, π (π s) = s

theorem iv (π : Nat -> Nat) [Inv π] : ∀ s, π (π s) = s := Inv.inv

mutual
def AV.pm (π : Nat -> Nat) : AV -> AV
 | .bp s o => .bp (π s) o
 | .bs s off n k => .bs (π s) off n k
 | .ag cs => .ag (AV.pmL π cs)
 | .tu cs => .tu (AV.pmL π cs)
 | .fc g x y => .fc g (AV.pmL π x) (AV.pmL π y)
 | .d x => .d x
 | .fn dom h => .fn dom h
 | .rf s k => .rf (π s) k
 | .un => .un
def AV.pmL (π : Nat -> Nat) : List AV -> List AV
 | [] => []
 | x :: r => x.pm π :: AV.pmL π r
end

def OB.pm (π : Nat -> Nat) : OB -> OB
 | .ds cs => .ds cs
 | .av cs => .av (AV.pmL π cs)
 | .mp kvs => .mp kvs
 | .it t n seen => .it (π t) n seen
 | .dead => .dead

def pmO (π : Nat -> Nat) : List (Nat × OB) -> List (Nat × OB)
 | [] => []
 | (s, o) :: r => (π s, o.pm π) :: pmO π r

section
variable {P : Program} {w0 : Env} {w w' : World} {σ : St} {ν : Loc} {a : Act} {π : Nat -> Nat} [Inv π]

theorem lookO_pm {ob : List (Nat × OB)} {s : Nat} {o : OB} (h : lookO (pmO π ob) s = some o) : ∃ o1, lookO ob (π s) = some o1 /\ o = o1.pm π := by
 induction ob with
 | nil => simp [pmO, lookO] at h
 | cons p r ih =>
  obtain ⟨k, x⟩ := p
  simp only [pmO, lookO] at h ⊢
  by_cases e : π k = s
  ·
   rw [if_pos e] at h
   have e2 : k = π s := by rw [← e, iv π]
   rw [if_pos e2]
   cases x with
   | dead => simp [OB.pm] at h
   | ds cs => simp only [OB.pm, Option.some.injEq] at h; exact ⟨_, rfl, h.symm⟩
   | av cs => simp only [OB.pm, Option.some.injEq] at h; exact ⟨_, rfl, h.symm⟩
   | mp _ => simp only [OB.pm, Option.some.injEq] at h; exact ⟨_, rfl, h.symm⟩
   | it _ _ _ => simp only [OB.pm, Option.some.injEq] at h; exact ⟨_, rfl, h.symm⟩
  ·
   rw [if_neg e] at h
   have e2 : ¬ k = π s := fun e2 => e (by rw [e2, iv π])
   rw [if_neg e2]
   exact ih h

theorem lookO_pm_of {ob : List (Nat × OB)} {s : Nat} {o : OB} (h : lookO ob s = some o) : lookO (pmO π ob) (π s) = some (o.pm π) := by
 induction ob with
 | nil => simp [lookO] at h
 | cons p r ih =>
  obtain ⟨k, x⟩ := p
  simp only [pmO, lookO] at h ⊢
  by_cases e : k = s
  ·
   rw [if_pos e] at h
   rw [if_pos (by rw [e])]
   cases x with
   | dead => simp at h
   | ds cs => simp only [Option.some.injEq] at h; subst h; rfl
   | av cs => simp only [Option.some.injEq] at h; subst h; rfl
   | mp _ => simp only [Option.some.injEq] at h; subst h; rfl
   | it _ _ _ => simp only [Option.some.injEq] at h; subst h; rfl
  ·
   rw [if_neg e] at h
   have e2 : ¬ π k = π s := fun e2 => e (by have := congrArg π e2; rwa [iv π, iv π] at this)
   rw [if_neg e2]
   exact ih h

theorem pmL_d : ∀ cs : List D, AV.pmL π (cs.map AV.d) = cs.map AV.d
 | [] => rfl
 | c :: cs => by simp only [List.map_cons, AV.pmL, AV.pm, pmL_d cs]

theorem pmL_length : ∀ cs : List AV, (AV.pmL π cs).length = cs.length
 | [] => rfl
 | c :: cs => by simp only [AV.pmL, List.length_cons, pmL_length cs]

theorem cells_pm (o : OB) : obCells (o.pm π) = AV.pmL π (obCells o) := by
 cases o with
 | ds cs => simp only [OB.pm, obCells, pmL_d]
 | av cs => simp only [OB.pm, obCells]
 | mp _ => simp only [OB.pm, obCells, AV.pmL]
 | it _ _ _ => simp only [OB.pm, obCells, AV.pmL, AV.pm]
 | dead => simp only [OB.pm, obCells, AV.pmL]

theorem objOf_pm (o : OB) (c : Array Value) (T : TypeId) : objOf (o.pm π) c T = objOf o c T := by
 cases o <;> rfl

theorem avoid_pm {ob : List (Nat × OB)} {b : Nat} (h : AvoidB ob ν b) : AvoidB (pmO π ob) (fun s => ν (π s)) b := fun s o hs x hx => by
 obtain ⟨o1, h1, _⟩ := lookO_pm hs
 exact h _ o1 h1 x hx

mutual
theorem VR.pm {ob : List (Nat × OB)} : ∀ {x : AV} {y : Value}, VR P w0 w ob ν x y -> VR P w0 w (pmO π ob) (fun s => ν (π s)) (x.pm π) y
 | .d x, y, h => by
  simp only [AV.pm, VR] at h ⊢
  obtain ⟨bs, h1, h2⟩ := h
  exact ⟨bs, h1, fun b hb => ⟨(h2 b hb).1, avoid_pm (h2 b hb).2.1, (h2 b hb).2.2⟩⟩
 | .bp s o, y, h => by
  simp only [AV.pm, VR, iv π] at h ⊢
  intro hs
  obtain ⟨o1, hs⟩ := Option.isSome_iff_exists.1 hs
  obtain ⟨o2, h1, _⟩ := lookO_pm hs
  rw [iv π] at h1
  exact h (by rw [h1]; rfl)
 | .bs s off k l, y, h => by
  simp only [AV.pm, VR, iv π] at h ⊢
  intro hs
  obtain ⟨o1, hs⟩ := Option.isSome_iff_exists.1 hs
  obtain ⟨o2, h1, _⟩ := lookO_pm hs
  rw [iv π] at h1
  obtain ⟨h2, h3⟩ := h (by rw [h1]; rfl)
  refine ⟨fun o ho => ?_, h3⟩
  obtain ⟨o3, h4, rfl⟩ := lookO_pm ho
  rw [iv π] at h4
  rw [cells_pm, pmL_length]
  exact h2 o3 h4
 | .ag cs, y, h => by
  simp only [AV.pm, VR] at h ⊢
  obtain ⟨xs, h1, h0, h2⟩ := h
  exact ⟨xs, h1, h0, VRs.pm h2⟩
 | .tu cs, y, h => by
  simp only [AV.pm, VR] at h ⊢
  obtain ⟨xs, h1, h2⟩ := h
  exact ⟨xs, h1, VRs.pm h2⟩
 | .fn dom k, y, h => by
  simp only [AV.pm, VR] at h ⊢
  exact h
 | .fc g l1 l2, y, h => by
  simp only [AV.pm, VR] at h ⊢
  obtain ⟨xs, ys, h1, h2, h3⟩ := h
  exact ⟨xs, ys, h1, VRs.pm h2, VRs.pm h3⟩
 | .rf s k, y, h => by
  simp only [AV.pm, VR, iv π] at h ⊢
  intro hs
  obtain ⟨o1, hs⟩ := Option.isSome_iff_exists.1 hs
  obtain ⟨o2, h1, _⟩ := lookO_pm hs
  rw [iv π] at h1
  exact h (by rw [h1]; rfl)
 | .un, y, h => by simp only [AV.pm, VR]
theorem VRs.pm {ob : List (Nat × OB)} : ∀ {xs : List AV} {ys : List Value}, VRs P w0 w ob ν xs ys -> VRs P w0 w (pmO π ob) (fun s => ν (π s)) (AV.pmL π xs) ys
 | [], ys, h => by simp only [AV.pmL, VRs] at h ⊢; exact h
 | x :: xs, ys, h => by
  simp only [AV.pmL, VRs] at h ⊢
  obtain ⟨y, ys', h1, h2, h3⟩ := h
  exact ⟨y, ys', h1, VR.pm h2, VRs.pm h3⟩
end

theorem Mem.pm {ob : List (Nat × OB)} (h : Mem P w0 w ob ν) : Mem P w0 w (pmO π ob) (fun s => ν (π s)) := by
 refine ⟨fun s o hs => ?_, fun s s' o o' x x' hne h1 h2 h3 h4 => ?_⟩
 ·
  obtain ⟨o1, h1, rfl⟩ := lookO_pm hs
  rcases h.objs _ o1 h1 with ⟨g1, g2⟩ | ⟨b, base, c, T, xs, g1, g2, g3, g4, g5, g6⟩
  · exact .inl ⟨g1, by rw [cells_pm, g2]; rfl⟩
  · exact .inr ⟨b, base, c, T, xs, g1, g2, g3.trans (by rw [objOf_pm]), g4, g5, by rw [cells_pm]; exact VRs.pm g6⟩
 ·
  obtain ⟨o1, g1, _⟩ := lookO_pm h1
  obtain ⟨o2, g2, _⟩ := lookO_pm h2
  exact h.inj _ _ o1 o2 x x' (fun e => hne (by have := congrArg π e; rwa [iv π, iv π] at this)) g1 g2 h3 h4

mutual
theorem AV.pm_pm : ∀ x : AV, (x.pm π).pm π = x
 | .bp s o => by simp only [AV.pm, iv π]
 | .bs s off k l => by simp only [AV.pm, iv π]
 | .ag cs => by simp only [AV.pm, AV.pmL_pmL cs]
 | .tu cs => by simp only [AV.pm, AV.pmL_pmL cs]
 | .fc g x y => by simp only [AV.pm, AV.pmL_pmL x, AV.pmL_pmL y]
 | .d x => by simp only [AV.pm]
 | .fn dom h => by simp only [AV.pm]
 | .rf s k => by simp only [AV.pm, iv π]
 | .un => by simp only [AV.pm]
theorem AV.pmL_pmL : ∀ xs : List AV, AV.pmL π (AV.pmL π xs) = xs
 | [] => by simp only [AV.pmL]
 | x :: r => by simp only [AV.pmL, AV.pm_pm x, AV.pmL_pmL r]
end

theorem OB.pm_pm (o : OB) : (o.pm π).pm π = o := by
 cases o <;> simp only [OB.pm, AV.pmL_pmL, iv π]

theorem pmO_pmO : ∀ ob : List (Nat × OB), pmO π (pmO π ob) = ob
 | [] => rfl
 | (s, o) :: r => by simp only [pmO, iv π, OB.pm_pm, pmO_pmO r]

theorem avoid_pm_iff {ob : List (Nat × OB)} {b : Nat} : AvoidB (pmO π ob) ν b ↔ AvoidB ob (fun s => ν (π s)) b := by
 constructor
 ·
  intro h s o hs x hx
  exact h _ _ (lookO_pm_of hs) x hx
 ·
  intro h s o hs x hx
  obtain ⟨o1, h1, _⟩ := lookO_pm hs
  exact h _ o1 h1 x (by simpa only [iv π] using hx)

theorem FnS.pm {g : FuncId} {ob ob' : List (Nat × OB)} {args : List AV} {res : AV} (π : Nat -> Nat) [Inv π] (h : FnS P g ob args ob' res) : FnS P g (pmO π ob) (AV.pmL π args) (pmO π ob') (res.pm π) := by
 refine ⟨h.1, fun w ν Dt vs hDt hm hv => ?_⟩
 have hS : (fun b => b < w.heap.size /\ AvoidB (pmO π ob) ν b) = (fun b => b < w.heap.size /\ AvoidB ob (fun s => ν (π s)) b) := by
  funext b
  rw [avoid_pm_iff]
 have hm1 := hm.pm (π := π)
 rw [pmO_pmO] at hm1
 have hv1 := VRs.pm (π := π) hv
 rw [pmO_pmO, AV.pmL_pmL] at hv1
 rw [hS] at hm1 hv1
 have hm2 : Mem P ⟨w, fun b => b < w.heap.size /\ AvoidB ob (fun s => ν (π s)) b, Dt, fun s => ν (π s), 0⟩ w ob (fun s => ν (π s)) := hm1.env (fun _ h => h) (fun _ h => h) (fun _ h => h)
 have hv2 : VRs P ⟨w, fun b => b < w.heap.size /\ AvoidB ob (fun s => ν (π s)) b, Dt, fun s => ν (π s), 0⟩ w ob (fun s => ν (π s)) args vs := VRs.into (w0 := ⟨w, fun b => b < w.heap.size /\ AvoidB ob (fun s => ν (π s)) b, Dt, ν, 0⟩) (E := ⟨w, fun b => b < w.heap.size /\ AvoidB ob (fun s => ν (π s)) b, Dt, fun s => ν (π s), 0⟩) (fun _ _ h => h) (fun b _ _ h => h) (fun _ h => h) hv1
 refine (h.2 w (fun s => ν (π s)) Dt vs ⟨hDt.1, hDt.2.1, fun b hb => avoid_pm_iff.1 (hDt.2.2 b hb)⟩ hm2 hv2).mono fun e w' hh => ?_
 obtain ⟨r, ν', he, hk, hr, hm3, hv3, hf⟩ := hh
 rw [hS]
 refine ⟨r, fun s => ν' (π s), he, hk, hr, ?_, ?_, fun s o o' e1 e2 => ?_⟩
 · exact (hm3.pm (π := π)).env (fun _ h => h) (fun _ h => h) (fun _ h => h)
 · exact VR.into (w0 := ⟨w, fun b => b < w.heap.size /\ AvoidB ob (fun s => ν (π s)) b, Dt, fun s => ν (π s), 0⟩) (E := ⟨w, fun b => b < w.heap.size /\ AvoidB ob (fun s => ν (π s)) b, Dt, ν, 0⟩) (fun _ _ h => h) (fun b _ _ h => h) (fun _ h => h) (VR.pm (π := π) hv3)
 ·
  obtain ⟨o1, g1, rfl⟩ := lookO_pm e1
  obtain ⟨o2, g2, rfl⟩ := lookO_pm e2
  obtain ⟨q1, q2⟩ := hf _ o1 o2 g1 g2
  refine ⟨?_, by rw [cells_pm, cells_pm, pmL_length, pmL_length, q2]⟩
  show ν' (π s) = ν s
  rw [q1]
  show ν (π (π s)) = ν s
  rw [iv π]

end

def gridC : Nat -> List Nat -> List AV
 | _, [] => []
 | B, n :: r => .bs B 0 n 1 :: gridC (B + 1) r

def gridO : Nat -> List (List Int) -> List (Nat × OB) -> List (Nat × OB)
 | _, [], r => r
 | B, z :: zs, r => (B, .ds (z.map D.int)) :: gridO (B + 1) zs r

theorem gridO_nil (B : Nat) (r : List (Nat × OB)) : gridO B [] r = r := rfl

theorem take_zero (zs : List (List Int)) : zs.take 0 = [] := rfl

theorem gridO_app (B : Nat) (zs : List (List Int)) (r q : List (Nat × OB)) : gridO B zs r ++ q = gridO B zs (r ++ q) := by
 induction zs generalizing B with
 | nil => rfl
 | cons z zs ih => simp only [gridO, List.cons_append, ih]

def gridQ (B : Nat) (ls : List Nat) (n : Nat) : List AV := gridC B ls ++ List.replicate (n - ls.length) (.d (.v (.slice none 0 0)))

@[simp] theorem gridC_len (B : Nat) (ls : List Nat) : (gridC B ls).length = ls.length := by
 induction ls generalizing B with
 | nil => rfl
 | cons n r ih => simp [gridC, ih]

theorem gridQ_len {B : Nat} {ls : List Nat} {n : Nat} (h : ls.length <= n) : (gridQ B ls n).length = n := by
 simp only [gridQ, List.length_append, gridC_len, List.length_replicate]
 omega

theorem gridC_app (B : Nat) (ls ms : List Nat) : gridC B (ls ++ ms) = gridC B ls ++ gridC (B + ls.length) ms := by
 induction ls generalizing B with
 | nil => rfl
 | cons n r ih => simp only [List.cons_append, gridC, ih, List.length_cons, Nat.add_assoc, Nat.add_comm 1]

theorem gridC_snoc (B : Nat) (ls : List Nat) (n : Nat) : gridC B (ls ++ [n]) = gridC B ls ++ [.bs (ls.length + B) 0 n 1] := by
 rw [gridC_app, Nat.add_comm]
 rfl

theorem gridC_at {B : Nat} {ls : List Nat} {i : Nat} (h : i < ls.length) : (gridC B ls).getD i .un = .bs (i + B) 0 (ls.getD i 0) 1 := by
 induction ls generalizing B i with
 | nil => simp at h
 | cons n r ih =>
  cases i with
  | zero => simp [gridC]
  | succ i =>
   simp only [gridC, List.getD_cons_succ]
   rw [ih (by simpa using h)]
   congr 1
   omega

theorem gridQ_full {B : Nat} {ls : List Nat} {n : Nat} (h : n <= ls.length) : gridQ B ls n = gridC B ls := by
 rw [gridQ, show n - ls.length = 0 by omega]
 simp

theorem gridC_refs {B : Nat} {ls : List Nat} {s : Nat} (h : s < B) : AV.refsL s (gridC B ls) = false := by
 induction ls generalizing B with
 | nil => rfl
 | cons n r ih =>
  simp only [gridC, AV.refsL, AV.refs, ih (show s < B + 1 by omega), Bool.or_false]
  rw [beq_eq_false_iff_ne]
  omega

theorem gridC_refsR {B : Nat} {ls : List Nat} {s : Nat} (h : B + ls.length <= s) : AV.refsL s (gridC B ls) = false := by
 induction ls generalizing B with
 | nil => rfl
 | cons n r ih =>
  simp only [List.length_cons] at h
  simp only [gridC, AV.refsL, AV.refs, ih (show B + 1 + r.length <= s by omega), Bool.or_false]
  rw [beq_eq_false_iff_ne]
  omega

theorem refsL_app' (s : Nat) (a b : List AV) : AV.refsL s (a ++ b) = (AV.refsL s a || AV.refsL s b) := by
 induction a with
 | nil => rfl
 | cons x r ih => simp only [List.cons_append, AV.refsL, ih, Bool.or_assoc]

theorem refsL_rep (s n : Nat) (x : D) : AV.refsL s (List.replicate n (.d x)) = false := by
 induction n with
 | zero => rfl
 | succ n ih => simp only [List.replicate_succ, AV.refsL, AV.refs, ih, Bool.or_self]

theorem gridQ_refs {B : Nat} {ls : List Nat} {n s : Nat} (h : s < B) : AV.refsL s (gridQ B ls n) = false := by
 rw [gridQ, refsL_app', gridC_refs h, refsL_rep]
 rfl

theorem gridC_nofns (B : Nat) (ls : List Nat) : AV.nofns (gridC B ls) = true := by
 induction ls generalizing B with
 | nil => rfl
 | cons n r ih => simp only [gridC, AV.nofns, AV.nofn, ih, Bool.and_self]

theorem swL_app (m n : Nat) (a b : List AV) : AV.swL m n (a ++ b) = AV.swL m n a ++ AV.swL m n b := by
 induction a with
 | nil => rfl
 | cons x r ih => simp only [List.cons_append, AV.swL, ih]

theorem swL_rep (m n k : Nat) (x : D) : AV.swL m n (List.replicate k (.d x)) = List.replicate k (.d x) := by
 induction k with
 | zero => rfl
 | succ k ih => simp only [List.replicate_succ, AV.swL, AV.sw, ih]

theorem gridC_sw {B : Nat} {ls : List Nat} {m n : Nat} (hm : m < B) (hn : B + ls.length <= n) : AV.swL m n (gridC B ls) = gridC B ls := by
 induction ls generalizing B with
 | nil => rfl
 | cons k r ih =>
  simp only [List.length_cons] at hn
  simp only [gridC, AV.swL, AV.sw]
  rw [ih (by omega) (by omega), swp_ne (by omega) (by omega)]

theorem gridQ_put {B : Nat} {ls : List Nat} {n m t : Nat} (ht : t < B) (hn : ls.length < n) : AV.swL t (ls.length + B) ((gridQ B ls n).take ls.length ++ [.bs t 0 m 1] ++ (gridQ B ls n).drop (ls.length + 1)) = gridQ B (ls ++ [m]) n := by
 have e1 : (gridQ B ls n).take ls.length = gridC B ls := by
  rw [gridQ, List.take_append_of_le_length (by simp), List.take_of_length_le (by simp)]
 have e2 : (gridQ B ls n).drop (ls.length + 1) = List.replicate (n - (ls ++ [m]).length) (.d (.v (.slice none 0 0))) := by
  rw [gridQ, List.drop_append, List.drop_of_length_le (by simp), List.nil_append, List.drop_replicate]
  congr 1
  simp
  omega
 rw [e1, e2, swL_app, swL_app, gridC_sw ht (by omega), swL_rep, gridQ, gridC_snoc]
 simp only [AV.swL, AV.sw, swp, if_true]

theorem lookO_lo {B t : Nat} {zs : List (List Int)} {r : List (Nat × OB)} (h : t < B) : lookO (gridO B zs r) t = lookO r t := by
 induction zs generalizing B with
 | nil => rfl
 | cons z zs ih =>
  simp only [gridO, lookO]
  rw [if_neg (by omega), ih (by omega)]

theorem lookO_hi {B t : Nat} {zs : List (List Int)} {r : List (Nat × OB)} (h : B + zs.length <= t) : lookO (gridO B zs r) t = lookO r t := by
 induction zs generalizing B with
 | nil => rfl
 | cons z zs ih =>
  simp only [List.length_cons] at h
  simp only [gridO, lookO]
  rw [if_neg (by omega), ih (by omega)]

theorem lookO_row {B i : Nat} {zs : List (List Int)} {r : List (Nat × OB)} (h : i < zs.length) : lookO (gridO B zs r) (i + B) = some (.ds ((zs.getD i []).map D.int)) := by
 induction zs generalizing B i with
 | nil => simp at h
 | cons z zs ih =>
  simp only [gridO, lookO]
  cases i with
  | zero => rw [if_pos (by omega)]; simp
  | succ i =>
   rw [if_neg (by omega), show i + 1 + B = i + (B + 1) by omega, ih (by simpa using h)]
   simp

theorem killO_grid {B s : Nat} {zs : List (List Int)} {r : List (Nat × OB)} (h : s < B) : killO s (gridO B zs r) = gridO B zs (killO s r) := by
 induction zs generalizing B with
 | nil => rfl
 | cons z zs ih =>
  simp only [gridO, killO]
  rw [if_neg (by omega), ih (by omega)]
  simp [OB.refs]

theorem delO_grid {B s : Nat} {zs : List (List Int)} {r : List (Nat × OB)} (h : s < B) : delO (gridO B zs r) s = gridO B zs (delO r s) := by
 induction zs generalizing B with
 | nil => rfl
 | cons z zs ih =>
  simp only [gridO, delO]
  rw [if_neg (by omega), ih (by omega)]

theorem putO_lo {B s : Nat} {zs : List (List Int)} {r : List (Nat × OB)} {o : OB} (h : s < B) : putO (gridO B zs r) s o = gridO B zs (putO r s o) := by
 induction zs generalizing B with
 | nil => rfl
 | cons z zs ih =>
  simp only [gridO, putO]
  rw [if_neg (by omega), ih (by omega)]

theorem putO_row {B i : Nat} {zs : List (List Int)} {r : List (Nat × OB)} {z : List Int} (h : i < zs.length) : putO (gridO B zs r) (i + B) (.ds (z.map D.int)) = gridO B (zs.set i z) r := by
 induction zs generalizing B i with
 | nil => simp at h
 | cons y zs ih =>
  simp only [gridO, putO]
  cases i with
  | zero => rw [if_pos (by omega)]; simp [gridO]
  | succ i =>
   rw [if_neg (by omega), show i + 1 + B = i + (B + 1) by omega, ih (by simpa using h)]
   simp [gridO]

def dropGe (lim : Nat) : List (Nat × OB) -> List (Nat × OB)
 | [] => []
 | (s, o) :: r => if lim <= s then dropGe lim r else (s, o) :: dropGe lim r

theorem dropGe_grid {lim B : Nat} {zs : List (List Int)} {r : List (Nat × OB)} (h : lim <= B) : dropGe lim (gridO B zs r) = dropGe lim r := by
 induction zs generalizing B with
 | nil => rfl
 | cons z zs ih =>
  simp only [gridO, dropGe]
  rw [if_pos h, ih (by omega)]

theorem dropGe_keep {lim B : Nat} {zs : List (List Int)} {r : List (Nat × OB)} (h : B + zs.length <= lim) : dropGe lim (gridO B zs r) = gridO B zs (dropGe lim r) := by
 induction zs generalizing B with
 | nil => rfl
 | cons z zs ih =>
  simp only [List.length_cons] at h
  simp only [gridO, dropGe]
  rw [if_neg (by omega), ih (by omega)]

theorem swO_grid {B m n : Nat} {zs : List (List Int)} {r : List (Nat × OB)} (hm : m < B) (hn : B + zs.length <= n) : swO m n (gridO B zs r) = gridO B zs (swO m n r) := by
 induction zs generalizing B with
 | nil => rfl
 | cons z zs ih =>
  simp only [List.length_cons] at hn
  simp only [gridO, swO]
  rw [ih (by omega) (by omega), swp_ne (by omega) (by omega)]
  rfl

theorem swO_grid0 {B m n : Nat} {zs : List (List Int)} {r : List (Nat × OB)} (hm : m < B) (hn : n < B) : swO m n (gridO B zs r) = gridO B zs (swO m n r) := by
 induction zs generalizing B with
 | nil => rfl
 | cons z zs ih =>
  simp only [gridO, swO]
  rw [ih (by omega) (by omega), swp_ne (by omega) (by omega)]
  rfl

theorem cleanO_grid {B : Nat} {zs : List (List Int)} {r : List (Nat × OB)} : cleanO (gridO B zs r) = gridO B zs (cleanO r) := by
 induction zs generalizing B with
 | nil => rfl
 | cons z zs ih => simp only [gridO, cleanO, ih]

def HasG (ob : List (Nat × OB)) (B : Nat) (zs : List (List Int)) : Prop := ∀ i, i < zs.length -> lookO ob (i + B) = some (.ds ((zs.getD i []).map D.int))

theorem subO_grid {ob r : List (Nat × OB)} {B : Nat} {zs : List (List Int)} : SubO ob (gridO B zs r) = (HasG ob B zs /\ SubO ob r) := by
 apply propext
 induction zs generalizing B with
 | nil => simp [gridO, HasG]
 | cons z zs ih =>
  simp only [gridO, SubO, ih]
  constructor
  ·
   rintro ⟨h1, h2, h3⟩
   refine ⟨fun i hi => ?_, h3⟩
   cases i with
   | zero => simpa using h1
   | succ i =>
    have := h2 i (by simpa using hi)
    rw [show i + 1 + B = i + (B + 1) by omega, this]
    simp
  ·
   rintro ⟨h1, h2⟩
   refine ⟨by simpa using h1 0 (by simp), fun i hi => ?_, h2⟩
   have := h1 (i + 1) (by simpa using hi)
   rw [show i + (B + 1) = i + 1 + B by omega, this]
   simp

theorem hasG_nil {ob : List (Nat × OB)} {B : Nat} : HasG ob B [] = True := eq_true (fun i hi => by simp at hi)

theorem hasG_cons {k B : Nat} {o : OB} {r : List (Nat × OB)} {zs : List (List Int)} (h : k < B) : HasG ((k, o) :: r) B zs = HasG r B zs := by
 apply propext
 simp only [HasG, lookO]
 constructor <;> intro g i hi
 ·
  have := g i hi
  rwa [if_neg (by omega)] at this
 ·
  rw [if_neg (by omega)]
  exact g i hi

theorem hasG_next {j B : Nat} {o : OB} {r : List (Nat × OB)} {zs : List (List Int)} (h : zs.length <= j) : HasG ((j + B, o) :: r) B zs = HasG r B zs := by
 apply propext
 simp only [HasG, lookO]
 constructor <;> intro g i hi
 ·
  have := g i hi
  rwa [if_neg (by omega)] at this
 ·
  rw [if_neg (by omega)]
  exact g i hi

theorem hasG_self {B : Nat} {r : List (Nat × OB)} {zs : List (List Int)} : HasG (gridO B zs r) B zs = True := eq_true (fun i hi => lookO_row hi)

theorem hasG_lo {B B' : Nat} {r : List (Nat × OB)} {zs zs' : List (List Int)} (h : B' + zs'.length <= B) : HasG (gridO B' zs' r) B zs = HasG r B zs := by
 apply propext
 simp only [HasG]
 constructor <;> intro g i hi
 ·
  have := g i hi
  rwa [lookO_hi (by omega)] at this
 ·
  rw [lookO_hi (by omega)]
  exact g i hi

theorem hasG_hi {B B' : Nat} {r : List (Nat × OB)} {zs zs' : List (List Int)} (h : B + zs.length <= B') : HasG (gridO B' zs' r) B zs = HasG r B zs := by
 apply propext
 simp only [HasG]
 constructor <;> intro g i hi
 ·
  have := g i hi
  rwa [lookO_lo (by omega)] at this
 ·
  rw [lookO_lo (by omega)]
  exact g i hi

theorem hasG_snoc {ob : List (Nat × OB)} {B : Nat} {zs : List (List Int)} {z : List Int} : HasG ob B (zs ++ [z]) = (HasG ob B zs /\ lookO ob (zs.length + B) = some (.ds (z.map D.int))) := by
 apply propext
 simp only [HasG, List.length_append, List.length_cons, List.length_nil]
 constructor
 ·
  intro g
  refine ⟨fun i hi => ?_, ?_⟩
  ·
   have := g i (by omega)
   rw [this]
   simp [List.getD_eq_getElem?_getD, List.getElem?_append, hi]
  ·
   have := g zs.length (by omega)
   rw [this]
   simp
 ·
  rintro ⟨g1, g2⟩ i hi
  by_cases e : i < zs.length
  ·
   rw [g1 i e]
   simp [List.getD_eq_getElem?_getD, List.getElem?_append, e]
  ·
   have e2 : i = zs.length := by omega
   subst e2
   rw [g2]
   simp

def rowsD (zs : List (List Int)) : List D := zs.map fun z => .ls 1 z.length (z.map D.int)

def lens (zs : List (List Int)) : List Nat := zs.map List.length

@[simp] theorem lens_len (zs : List (List Int)) : (lens zs).length = zs.length := by simp [lens]

@[simp] theorem rowsD_len (zs : List (List Int)) : (rowsD zs).length = zs.length := by simp [rowsD]

theorem HasG.tail {ob : List (Nat × OB)} {B : Nat} {z : List Int} {zs : List (List Int)} (h : HasG ob B (z :: zs)) : lookO ob B = some (.ds (z.map D.int)) /\ HasG ob (B + 1) zs := by
 refine ⟨by simpa using h 0 (by simp), fun i hi => ?_⟩
 have := h (i + 1) (by simpa using hi)
 rw [show i + (B + 1) = i + 1 + B by omega, this]
 simp

theorem mapD_grid {ob : List (Nat × OB)} (m : Nat) : ∀ {zs : List (List Int)} {B : Nat}, HasG ob B zs -> mapD (toD ob (m + 1)) (gridC B (lens zs)) = some (rowsD zs)
 | [], _, _ => rfl
 | z :: zs, B, h => by
  obtain ⟨h1, h2⟩ := h.tail
  have e : toD ob (m + 1) (.bs B 0 z.length 1) = some (.ls 1 z.length (z.map D.int)) := by
   simp only [toD, h1, List.drop_zero, Nat.mul_one]
   rw [List.take_of_length_le (by simp)]
  show mapD (toD ob (m + 1)) (.bs B 0 z.length 1 :: gridC (B + 1) (lens zs)) = _
  simp only [mapD, e, mapD_grid m h2]
  rfl

theorem toD_grid {ob : List (Nat × OB)} {s B n m : Nat} {zs : List (List Int)} (h1 : lookO ob s = some (.av (gridC B (lens zs)))) (h2 : HasG ob B zs) (hn : n = zs.length) : toD ob (m + 2) (.bs s 0 n 1) = some (.ls 1 n (rowsD zs)) := by
 subst hn
 simp only [toD, h1, List.drop_zero, Nat.mul_one]
 rw [List.take_of_length_le (by simp), mapD_grid m h2]
 rfl

theorem ownL_grid {ob : List (Nat × OB)} (m : Nat) : ∀ {zs : List (List Int)} {B : Nat}, HasG ob B zs -> ∃ p ss, ownL (own ob (m + 1)) (gridC B (lens zs)) = some (p, rowsD zs, ss) /\ p /\ ss.Nodup /\ ∀ s ∈ ss, B <= s
 | [], _, _ => ⟨True, [], rfl, trivial, List.nodup_nil, by simp⟩
 | z :: zs, B, h => by
  obtain ⟨h1, h2⟩ := h.tail
  obtain ⟨p, ss, e1, e2, e3, e4⟩ := ownL_grid m h2
  have e : own ob (m + 1) (.bs B 0 z.length 1) = some (plains (z.map D.int), .ls 1 z.length (z.map D.int), [B]) := by
   simp only [own, h1, List.drop_zero, Nat.mul_one]
   rw [List.take_of_length_le (by simp)]
  have hpl : ∀ l : List Int, plains (l.map D.int) := fun l => by
   induction l with
   | nil => exact trivial
   | cons x l ih => exact ⟨trivial, ih⟩
  refine ⟨plains (z.map D.int) /\ p, [B] ++ ss, ?_, ⟨hpl z, e2⟩, ?_, ?_⟩
  ·
   show ownL (own ob (m + 1)) (.bs B 0 z.length 1 :: gridC (B + 1) (lens zs)) = _
   simp only [ownL, e, e1]
   rfl
  ·
   rw [List.singleton_append, List.nodup_cons]
   exact ⟨fun hb => by have := e4 B hb; omega, e3⟩
  ·
   intro s hs
   rw [List.singleton_append, List.mem_cons] at hs
   rcases hs with rfl | hs
   · exact Nat.le_refl _
   ·
    have := e4 s hs
    omega

theorem own_grid {ob : List (Nat × OB)} {s B n m : Nat} {zs : List (List Int)} (h1 : lookO ob s = some (.av (gridC B (lens zs)))) (h2 : HasG ob B zs) (hn : n = zs.length) (hs : s < B) : ∃ p ss, own ob (m + 2) (.bs s 0 n 1) = some (p, .ls 1 n (rowsD zs), ss) /\ p /\ ss.Nodup := by
 subst hn
 obtain ⟨p, ss, e1, e2, e3, e4⟩ := ownL_grid m h2
 refine ⟨p, s :: ss, ?_, e2, List.nodup_cons.2 ⟨fun hb => by have := e4 s hb; omega, e3⟩⟩
 simp only [own, h1, List.drop_zero, Nat.mul_one]
 rw [List.take_of_length_le (by simp), e1]

theorem res_grid {P : Program} {σ : St} {t s B n : Nat} {zs : List (List Int)} {res : D} (ht : look σ.sl t = .bs s 0 n 1) (h1 : lookO σ.ob s = some (.av (gridC B (lens zs)))) (h2 : HasG σ.ob B zs) (hn : n = zs.length) (hs : s < B) (hd : .ls 1 n (rowsD zs) = res) : ResOk P [.tmp t] σ res := by
 obtain ⟨p, ss, e1, e2, e3⟩ := own_grid (m := 18) h1 h2 hn hs
 exact res_tmp (by rw [ht]; exact e1) e2 e3 hd

theorem opnL_rows : ∀ (zs : List (List Int)) (B : Nat), OpnL (rowsD zs) (gridC B (lens zs)) (gridO B zs []) /\ ∀ p ∈ gridO B zs [], B <= p.1
 | [], _ => ⟨opnL_nil, by simp [gridO]⟩
 | z :: zs, B => by
  obtain ⟨h1, h2⟩ := opnL_rows zs (B + 1)
  have hpl : ∀ l : List Int, plains (l.map D.int) := fun l => by
   induction l with
   | nil => exact trivial
   | cons x l ih => exact ⟨trivial, ih⟩
  refine ⟨?_, fun p hp => ?_⟩
  ·
   have := opnL_cons (opn_ls B (k := 1) (n := z.length) (hpl z)) h1 (by
    simp only [apartN, List.all_cons, List.all_nil, Bool.and_true, List.all_eq_true, bne_iff_ne]
    intro q hq
    have := h2 q hq
    omega)
   exact this
  ·
   simp only [gridO, List.mem_cons] at hp
   rcases hp with rfl | hp
   · exact Nat.le_refl _
   ·
    have := h2 p hp
    omega

theorem opn_grid (s B : Nat) (zs : List (List Int)) (hs : s < B) : Opn (.ls 1 zs.length (rowsD zs)) (.bs s 0 zs.length 1) ((s, .av (gridC B (lens zs))) :: gridO B zs []) := by
 obtain ⟨h1, h2⟩ := opnL_rows zs B
 exact opn_rows s h1 (fun p hp => by have := h2 p hp; omega)

theorem newN_grid {ob r : List (Nat × OB)} {B : Nat} {zs : List (List Int)} (h : ∀ i, i < zs.length -> (lookO ob (i + B)).isSome = true) : newN ob (gridO B zs r) = newN ob r := by
 induction zs generalizing B with
 | nil => rfl
 | cons z zs ih =>
  simp only [gridO, newN]
  have h0 := h 0 (by simp)
  rw [Nat.zero_add] at h0
  obtain ⟨o, ho⟩ := Option.isSome_iff_exists.1 h0
  rw [ho]
  exact ih (fun i hi => by rw [show i + (B + 1) = i + 1 + B by omega]; exact h (i + 1) (by simpa using hi))

def gridN : Nat -> Nat -> List Nat
 | _, 0 => []
 | B, n + 1 => B :: gridN (B + 1) n

theorem newN_all {r : List (Nat × OB)} {B : Nat} {zs : List (List Int)} : newN [] (gridO B zs r) = gridN B zs.length ++ newN [] r := by
 induction zs generalizing B with
 | nil => rfl
 | cons z zs ih => simp only [gridO, newN, lookO, ih, List.length_cons, gridN, List.cons_append]

theorem ltAll_grid {n B k : Nat} {r : List Nat} (h : 1000000000 <= B) : ltAll n (gridN B k ++ r) = ltAll n r := by
 induction k generalizing B with
 | zero => rfl
 | succ k ih =>
  simp only [gridN, List.cons_append, ltAll]
  rw [decide_eq_true h, Bool.or_true, Bool.true_and, ih (by omega)]

def rng (A B N s : Nat) : Nat := if A <= s /\ s < A + N then s - A + B else if B <= s /\ s < B + N then s - B + A else s

theorem rng_inv {A B N : Nat} (h : A + N <= B) : Inv (rng A B N) := ⟨fun s => by
 unfold rng
 by_cases h1 : A <= s /\ s < A + N
 ·
  rw [if_pos h1, if_neg (by omega), if_pos (by omega)]
  omega
 ·
  rw [if_neg h1]
  by_cases h2 : B <= s /\ s < B + N
  ·
   rw [if_pos h2, if_pos (by omega)]
   omega
  · rw [if_neg h2, if_neg h1, if_neg h2]⟩

instance rng_inv1 : Inv (rng 10000 1000000000 2000000) := rng_inv (by decide)

instance rng_inv2 : Inv (rng 10000 2000000000 2000000) := rng_inv (by decide)

theorem pmL_gridC {A B N : Nat} : ∀ {ls : List Nat} (i : Nat), i + ls.length <= N -> AV.pmL (rng A B N) (gridC (A + i) ls) = gridC (B + i) ls
 | [], _, _ => rfl
 | n :: r, i, h => by
  simp only [List.length_cons] at h
  simp only [gridC, AV.pmL, AV.pm]
  rw [Nat.add_assoc, Nat.add_assoc, pmL_gridC (i + 1) (by omega)]
  have : rng A B N (A + i) = B + i := by
   rw [rng, if_pos (by omega)]
   omega
  rw [this]

theorem pmO_grid {A B N : Nat} {r : List (Nat × OB)} : ∀ {zs : List (List Int)} (i : Nat), i + zs.length <= N -> pmO (rng A B N) (gridO (A + i) zs r) = gridO (B + i) zs (pmO (rng A B N) r)
 | [], _, _ => rfl
 | z :: zs, i, h => by
  simp only [List.length_cons] at h
  simp only [gridO, pmO]
  rw [Nat.add_assoc, Nat.add_assoc, pmO_grid (i + 1) (by omega)]
  have : rng A B N (A + i) = B + i := by
   rw [rng, if_pos (by omega)]
   omega
  rw [this]
  rfl

theorem pmL_grid1 {ls : List Nat} (h : ls.length <= 2000000) : AV.pmL (rng 10000 1000000000 2000000) (gridC 10000 ls) = gridC 1000000000 ls := pmL_gridC 0 (by omega)

theorem pmO_grid1 {zs : List (List Int)} {r : List (Nat × OB)} (h : zs.length <= 2000000) : pmO (rng 10000 1000000000 2000000) (gridO 10000 zs r) = gridO 1000000000 zs (pmO (rng 10000 1000000000 2000000) r) := pmO_grid 0 (by omega)

theorem rng1_lo {s : Nat} (h : s < 10000) : rng 10000 1000000000 2000000 s = s := by
 rw [rng, if_neg (by omega), if_neg (by omega)]

def St.updG (σ : St) (ws : List Nat) (sl : List (Nat × AV)) (os : List Nat) (lim : Nat) (ob : List (Nat × OB)) : St := { n := σ.n, sl := sl ++ dropS ws σ.sl, ob := ob ++ dropOs os (dropGe lim σ.ob) }

theorem aw_loopG {P : Program} {σ : St} (ws os : List Nat) (lim : Nat) {c : Code} {Q : Exit -> St -> Prop} {α : Type} (f : α -> List (Nat × AV)) (g : α -> List (Nat × OB)) (ok : α -> Prop) (μ : α -> Nat) (i0 : α) (h0 : ok i0) (hl : LessW σ (σ.updG ws (f i0) os lim (g i0)))
  (hr : ∀ i, ok i -> AW P c (Kx (fun σ' => ∃ j, ok j /\ μ j < μ i /\ LessW σ' (σ.updG ws (f j) os lim (g j))) Q) (σ.updG ws (f i) os lim (g i))) : AW P (.loop c) Q σ :=
 aw_loopW (fun i => σ.updG ws (f i) os lim (g i)) ok μ i0 h0 hl hr

def avO (s : Nat) : List (Nat × OB) -> List (Nat × OB)
 | [] => []
 | (k, o) :: r => if k = s then (k, match o with | .ds cs => .av (cs.map AV.d) | o => o) :: avO s r else (k, o) :: avO s r

theorem lookO_avO {s t : Nat} {o : OB} : ∀ {ob : List (Nat × OB)}, lookO (avO s ob) t = some o -> ∃ o1, lookO ob t = some o1 /\ obCells o = obCells o1 /\ ∀ c T, objOf o c T = objOf o1 c T
 | [], h => by simp [avO, lookO] at h
 | (k, x) :: r, h => by
  simp only [avO] at h
  by_cases e : k = s
  ·
   rw [if_pos e] at h
   simp only [lookO] at h ⊢
   by_cases e2 : k = t
   ·
    rw [if_pos e2] at h ⊢
    cases x with
    | ds cs => simp only [Option.some.injEq] at h; subst h; exact ⟨_, rfl, rfl, fun _ _ => rfl⟩
    | av cs => simp only [Option.some.injEq] at h; subst h; exact ⟨_, rfl, rfl, fun _ _ => rfl⟩
    | mp _ => simp only [Option.some.injEq] at h; subst h; exact ⟨_, rfl, rfl, fun _ _ => rfl⟩
    | it _ _ _ => simp only [Option.some.injEq] at h; subst h; exact ⟨_, rfl, rfl, fun _ _ => rfl⟩
    | dead => cases h
   ·
    rw [if_neg e2] at h ⊢
    exact lookO_avO h
  ·
   rw [if_neg e] at h
   simp only [lookO] at h ⊢
   by_cases e2 : k = t
   ·
    rw [if_pos e2] at h ⊢
    exact ⟨o, h, rfl, fun _ _ => rfl⟩
   ·
    rw [if_neg e2] at h ⊢
    exact lookO_avO h

def St.asAv (σ : St) (s : Nat) : St := { n := σ.n, sl := σ.sl, ob := avO s σ.ob }

section
variable {P : Program} {w0 : Env} {w : World} {σ : St} {ν : Loc} {a : Act} {Q : Exit -> St -> Prop}

theorem Sim.asAv (h : Sim P w0 σ ν a w) (s : Nat) : Sim P w0 (σ.asAv s) ν a w := by
 have ho : ∀ t o, lookO (avO s σ.ob) t = some o -> ∃ o1, lookO σ.ob t = some o1 /\ obCells o = obCells o1 /\ ∀ c T, objOf o c T = objOf o1 c T := fun t o ht => lookO_avO ht
 have hav : ∀ b, AvoidB σ.ob ν b -> AvoidB (avO s σ.ob) ν b := fun b hb t o ht => by
  obtain ⟨o1, h1, _⟩ := ho t o ht
  exact hb t o1 h1
 have hlat : Later σ.ob ν w (avO s σ.ob) ν w := ⟨Nat.le_refl _, fun b _ hb => ⟨hav b hb, rfl⟩, fun b c T hb => ⟨c, T, hb, rfl⟩⟩
 have hfit : ∀ t, Fits σ.ob ν (avO s σ.ob) ν t := fun t hs => by
  obtain ⟨o, hso⟩ := Option.isSome_iff_exists.1 hs
  obtain ⟨o1, h1, h2, _⟩ := ho t o hso
  exact ⟨by rw [h1]; rfl, rfl, fun o2 o3 e1 e2 => by
   rw [h1] at e1
   have e2 : lookO (avO s σ.ob) t = some o3 := e2
   rw [hso] at e2
   cases e1; cases e2
   rw [h2]⟩
 refine ⟨⟨fun t o hs => ?_, fun t t' o o' x x' hne e1 e2 => ?_⟩, h.below, h.rows, h.lt, h.fresh, h.le, h.glob, h.stab, h.defers, h.size, fun t => VR.later hlat (h.slots t) (fun t' _ => hfit t')⟩
 ·
  obtain ⟨o1, h1, h2, h3⟩ := ho t o hs
  rcases h.objs t o1 h1 with ⟨e, e'⟩ | ⟨b, base, c, T, xs, e1, e2, e3, e4, e5, e6⟩
  · exact .inl ⟨e, by rw [h2]; exact e'⟩
  · exact .inr ⟨b, base, c, T, xs, e1, e2, e3.trans (by rw [h3]), e4, e5, by rw [h2]; exact VRs.later hlat e6 (fun t' _ => hfit t')⟩
 ·
  obtain ⟨o1, h1, _⟩ := ho t o e1
  obtain ⟨o2, h2, _⟩ := ho t' o' e2
  exact h.inj t t' o1 o2 x x' hne h1 h2

theorem aw_asAv {c : Code} (s : Nat) (h : AW P c Q (σ.asAv s)) : AW P c Q σ := fun w0 ν a w hs => h w0 ν a w (hs.asAv s)

end

theorem gridQ_step {B n t i m : Nat} {ls : List Nat} (h : ls.length = i) (ht : t < B) (hn : i < n) : AV.swL t (i + B) ((gridQ B ls n).take i ++ .bs t 0 m 1 :: (gridQ B ls n).drop (i + 1)) = gridQ B (ls ++ [m]) n := by
 subst h
 have := gridQ_put (m := m) ht hn
 rwa [List.append_assoc, List.singleton_append] at this

theorem gridC_step {B t i m : Nat} {ls : List Nat} (h : ls.length = i) (ht : t < B) : AV.swL t (i + B) (gridC B ls ++ [.bs t 0 m 1]) = gridC B (ls ++ [m]) := by
 subst h
 rw [swL_app, gridC_sw ht (by omega), gridC_snoc]
 simp only [AV.swL, AV.sw, swp, if_true]

theorem hasG_step {B t s i : Nat} {zs : List (List Int)} {z : List Int} {o : OB} {r : List (Nat × OB)} (h : zs.length = i) (ht : t < B) (hs : s < B) : HasG ((i + B, .ds (z.map D.int)) :: (s, o) :: swO t (i + B) (gridO B zs r)) B (zs ++ [z]) := by
 subst h
 rw [hasG_snoc, hasG_next (Nat.le_refl _), hasG_cons hs, swO_grid ht (by omega), hasG_self]
 refine ⟨trivial, ?_⟩
 simp only [lookO, if_true]

theorem geAll_grid {n B : Nat} {zs : List (List Int)} {r : List (Nat × OB)} (h1 : n <= B) (h2 : B + zs.length <= 1000000000) : geAll n (gridO B zs r) = geAll n r := by
 induction zs generalizing B with
 | nil => rfl
 | cons z zs ih =>
  simp only [List.length_cons] at h2
  simp only [gridO, geAll]
  rw [ih (by omega) (by omega), decide_eq_true h1, decide_eq_true (by omega)]
  rfl

theorem lookKN {s t : Nat} {ob : List (Nat × OB)} (h : t ≠ s) : lookO (killN s ob) t = lookO ob t := by
 induction ob with
 | nil => rfl
 | cons p r ih =>
  obtain ⟨k, x⟩ := p
  simp only [killN, lookO]
  by_cases e : k = s
  · rw [if_pos e, if_neg (by omega), ih]
  ·
   rw [if_neg e]
   simp only [lookO, ih]

theorem lensO_grid {ob r : List (Nat × OB)} (hr : lensO ob r) : ∀ {zs zs' : List (List Int)} {B : Nat}, HasG ob B zs -> lens zs' = lens zs -> lensO ob (gridO B zs' r)
 | [], [], _, _, _ => hr
 | z :: zs, z' :: zs', B, h, hl => by
  simp only [lens, List.map_cons, List.cons.injEq] at hl
  obtain ⟨h1, h2⟩ := h.tail
  simp only [gridO, lensO, h1, obCells, List.length_map]
  exact ⟨hl.1, lensO_grid hr h2 hl.2⟩
 | [], _ :: _, _, _, hl => by simp [lens] at hl
 | _ :: _, [], _, _, hl => by simp [lens] at hl

theorem gridC_sw0 {B : Nat} {ls : List Nat} {m n : Nat} (hm : m < B) (hn : n < B) : AV.swL m n (gridC B ls) = gridC B ls := by
 induction ls generalizing B with
 | nil => rfl
 | cons k r ih =>
  simp only [gridC, AV.swL, AV.sw]
  rw [ih (by omega) (by omega), swp_ne (by omega) (by omega)]

def killR (B : Nat) : Nat -> List (Nat × OB) -> List (Nat × OB)
 | 0, ob => ob
 | n + 1, ob => killR (B + 1) n (killN B ob)

theorem dropO_grid {ob : List (Nat × OB)} {B : Nat} {zs : List (List Int)} {r : List (Nat × OB)} : dropO ob (gridO B zs r) = dropO (killR B zs.length ob) r := by
 induction zs generalizing B ob with
 | nil => rfl
 | cons z zs ih =>
  simp only [gridO, dropO, List.length_cons, killR]
  exact ih

theorem killR_nil {B n : Nat} : killR B n [] = [] := by
 induction n generalizing B with
 | zero => rfl
 | succ n ih => simp only [killR, killN, ih]

theorem killR_cons {B n k : Nat} {o : OB} {r : List (Nat × OB)} (h : k < B) : killR B n ((k, o) :: r) = (k, o) :: killR B n r := by
 induction n generalizing B r with
 | zero => rfl
 | succ n ih =>
  simp only [killR, killN]
  rw [if_neg (by omega), ih (by omega)]

theorem killN_grid {s B : Nat} {zs : List (List Int)} {r : List (Nat × OB)} (h : s < B ∨ B + zs.length <= s) : killN s (gridO B zs r) = gridO B zs (killN s r) := by
 induction zs generalizing B with
 | nil => rfl
 | cons z zs ih =>
  simp only [List.length_cons] at h
  simp only [gridO, killN]
  rw [if_neg (by omega), ih (by omega)]

theorem killN_lo {s B : Nat} {zs : List (List Int)} {r : List (Nat × OB)} (h : s < B) : killN s (gridO B zs r) = gridO B zs (killN s r) := killN_grid (.inl h)

theorem killR_grid {B n : Nat} {zs : List (List Int)} {r : List (Nat × OB)} (h : zs.length <= n) : killR B n (gridO B zs r) = killR B n r := by
 induction n generalizing B zs r with
 | zero =>
  have : zs = [] := List.eq_nil_of_length_eq_zero (by omega)
  subst this
  rfl
 | succ n ih =>
  cases zs with
  | nil => rfl
  | cons z zs =>
   simp only [List.length_cons] at h
   simp only [gridO, killR, killN, if_true]
   rw [killN_grid (.inl (by omega)), ih (by omega)]

theorem killR_hi {B B' n : Nat} {zs : List (List Int)} {r : List (Nat × OB)} (h : B + n <= B' ∨ B' + zs.length <= B) : killR B n (gridO B' zs r) = gridO B' zs (killR B n r) := by
 induction n generalizing B r with
 | zero => rfl
 | succ n ih =>
  simp only [killR]
  rw [killN_grid (by omega), ih (by omega)]

def HasN (ob : List (Nat × OB)) (B n : Nat) : Prop := ∀ i, i < n -> (lookO ob (i + B)).isSome = true

theorem hasN_cons {k B n : Nat} {o : OB} {r : List (Nat × OB)} (h : k < B) : HasN ((k, o) :: r) B n = HasN r B n := by
 apply propext
 simp only [HasN, lookO]
 constructor <;> intro g i hi
 ·
  have := g i hi
  rwa [if_neg (by omega)] at this
 ·
  rw [if_neg (by omega)]
  exact g i hi

theorem hasN_grid {B n : Nat} {r : List (Nat × OB)} {zs : List (List Int)} (h : n <= zs.length) : HasN (gridO B zs r) B n = True := eq_true (fun i hi => by rw [lookO_row (by omega)]; rfl)

theorem newN_gridN {ob r : List (Nat × OB)} {B : Nat} {zs : List (List Int)} (h : HasN ob B zs.length) : newN ob (gridO B zs r) = newN ob r := newN_grid h

theorem all_grid {f : Nat × OB -> Bool} {B : Nat} {zs : List (List Int)} {r : List (Nat × OB)} (h : ∀ k z, f (k, .ds (List.map D.int z)) = true) : (gridO B zs r).all f = r.all f := by
 induction zs generalizing B with
 | nil => rfl
 | cons z zs ih =>
  simp only [gridO, List.all_cons, h, Bool.true_and]
  exact ih

theorem mapD_dmap {ob : List (Nat × OB)} {n : Nat} : ∀ cs : List D, mapD (toD ob n) (cs.map AV.d) = some cs
 | [] => rfl
 | c :: cs => by
  have : toD ob n (.d c) = some c := by cases n <;> rfl
  simp only [List.map_cons, mapD, this, mapD_dmap cs, Option.map_some]

def setG (zs : List (List Int)) (x y : Nat) (v : Int) : List (List Int) := zs.set y ((zs.getD y []).set x v)

@[simp] theorem setG_len (zs : List (List Int)) (x y : Nat) (v : Int) : (setG zs x y v).length = zs.length := by simp [setG]

theorem lens_setG (zs : List (List Int)) (x y : Nat) (v : Int) : lens (setG zs x y v) = lens zs := by
 apply List.ext_getElem (by simp)
 intro i h1 h2
 simp only [lens, List.getElem_map, setG, List.getElem_set]
 split
 ·
  rename_i e
  subst e
  have : y < zs.length := by simpa using h2
  simp [List.getD_eq_getElem?_getD, this]
 · rfl

theorem ress_unit {P : Program} {σ : St} {ob ob' : List (Nat × OB)} (hl : lensO ob ob') (hs : SubO σ.ob ob') : ResS P [] σ ob ob' (.tu []) := by
 refine ⟨by simp, hl, [], rfl, hs, ?_⟩
 simp only [resAVs, joinR, swsA]
 exact ⟨trivial, trivial⟩

theorem mapD_app {ob : List (Nat × OB)} {n : Nat} {b : List AV} {bs : List D} (hb : mapD (toD ob n) b = some bs) : ∀ as : List D, mapD (toD ob n) (as.map AV.d ++ b) = some (as ++ bs)
 | [] => hb
 | c :: as => by
  have : toD ob n (.d c) = some c := by cases n <;> rfl
  simp only [List.map_cons, List.cons_append, mapD, this, mapD_app hb as, Option.map_some]

theorem mapD_fxy {ob : List (Nat × OB)} {n : Nat} {a b : D} {fs cs : List D} : mapD (toD ob n) (fs.map AV.d ++ [.d a, .d b] ++ cs.map AV.d) = some (fs ++ [a, b] ++ cs) := by
 have h : mapD (toD ob n) ([a, b].map AV.d ++ cs.map AV.d) = some ([a, b] ++ cs) := mapD_app (mapD_dmap cs) [a, b]
 have := mapD_app h fs
 simpa [List.append_assoc] using this

theorem gridC_plains (B : Nat) (ls : List Nat) : AV.plains (gridC B ls) := by
 induction ls generalizing B with
 | nil => simp only [gridC, AV.plains]
 | cons n r ih =>
  simp only [gridC, AV.plains, AV.plain]
  exact ⟨trivial, ih _⟩

theorem lensO_nil : ∀ ob' : List (Nat × OB), lensO [] ob'
 | [] => by simp only [lensO]
 | (s, o) :: r => by
  simp only [lensO, lookO]
  exact ⟨trivial, lensO_nil r⟩

theorem call_fc {P : Program} {σ : St} {K : St -> Prop} {dst : Option Nat} {g g2 : FuncId} {first cap : List AV} {fs cs : List D} {ob' : List (Nat × OB)} {res : AV} (hc : FnS P g [] [.fc g2 (fs.map AV.d) (cs.map AV.d)] ob' res) (hf : mapD (toD σ.ob 4) first = some fs) (hcap : mapD (toD σ.ob 4) cap = some cs)
  (hlt : ltAll σ.n (newN [] ob') = true) (hap : apartO σ.ob ob' res = true) (hpo : plainOs ob') (hpr : res.plain) (hk : K (σ.after [] ob' dst res)) : CallOk P false σ dst (.fc g [] []) [.fc g2 first cap] K := by
 refine call_b (σ := σ) hc ?_ (by simp only [SubO]) hlt hap hpo hpr hk
 simp only [List.nil_append, List.append_nil, ArgsS]
 exact ⟨_, _, rfl, .inr (.inr ⟨rfl, g2, first, cap, fs, cs, rfl, rfl, hf, hcap⟩), rfl⟩

mutual
def AV.lo (B : Nat) : AV -> Prop
 | .bp s _ => s < B
 | .bs s _ _ _ => s < B
 | .ag cs => AV.loL B cs
 | .tu cs => AV.loL B cs
 | .fc _ a b => AV.loL B a /\ AV.loL B b
 | .d _ => True
 | .fn _ _ => True
 | .rf s _ => s < B
 | .un => True
def AV.loL (B : Nat) : List AV -> Prop
 | [] => True
 | x :: r => x.lo B /\ AV.loL B r
end

mutual
theorem AV.lo_refs {B t : Nat} (ht : B <= t) : ∀ {x : AV}, x.lo B -> x.refs t = false
 | .bp s _, h => by
  simp only [AV.lo] at h
  simp only [AV.refs, beq_eq_false_iff_ne]
  omega
 | .bs s _ _ _, h => by
  simp only [AV.lo] at h
  simp only [AV.refs, beq_eq_false_iff_ne]
  omega
 | .ag cs, h => by
  simp only [AV.lo] at h
  simp only [AV.refs]
  exact AV.loL_refs ht h
 | .tu cs, h => by
  simp only [AV.lo] at h
  simp only [AV.refs]
  exact AV.loL_refs ht h
 | .fc _ a b, h => by
  simp only [AV.lo] at h
  simp only [AV.refs, AV.loL_refs ht h.1, AV.loL_refs ht h.2, Bool.or_self]
 | .d _, _ => rfl
 | .fn _ _, _ => rfl
 | .rf s _, h => by
  simp only [AV.lo] at h
  simp only [AV.refs, beq_eq_false_iff_ne]
  omega
 | .un, _ => rfl
theorem AV.loL_refs {B t : Nat} (ht : B <= t) : ∀ {xs : List AV}, AV.loL B xs -> AV.refsL t xs = false
 | [], _ => rfl
 | x :: r, h => by
  simp only [AV.loL] at h
  simp only [AV.refsL, AV.lo_refs ht h.1, AV.loL_refs ht h.2, Bool.or_self]
end

theorem loL_dmap (B : Nat) (cs : List D) : AV.loL B (cs.map AV.d) = True := by
 apply eq_true
 induction cs with
 | nil => simp only [List.map_nil, AV.loL]
 | cons c cs ih =>
  simp only [List.map_cons, AV.loL, AV.lo]
  exact ⟨trivial, ih⟩

theorem loL_gridC {B B' : Nat} {ls : List Nat} (h : B' + ls.length <= B) : AV.loL B (gridC B' ls) = True := by
 apply eq_true
 induction ls generalizing B' with
 | nil => simp only [gridC, AV.loL]
 | cons n r ih =>
  simp only [List.length_cons] at h
  simp only [gridC, AV.loL, AV.lo]
  exact ⟨by omega, ih (by omega)⟩

def loS (B : Nat) : List (Nat × AV) -> Prop
 | [] => True
 | (_, x) :: r => x.lo B /\ loS B r

def loO (B : Nat) : List (Nat × OB) -> Prop
 | [] => True
 | (s, o) :: r => s < B /\ AV.loL B (obCells o) /\ loO B r

theorem loO_grid {B B' : Nat} {zs : List (List Int)} {r : List (Nat × OB)} (h : B' + zs.length <= B) : loO B (gridO B' zs r) = loO B r := by
 induction zs generalizing B' with
 | nil => rfl
 | cons z zs ih =>
  simp only [List.length_cons] at h
  simp only [gridO, loO, obCells, loL_dmap, true_and]
  rw [ih (by omega)]
  exact propext ⟨fun q => q.2, fun q => ⟨by omega, q⟩⟩

theorem killS_lo {B t : Nat} (ht : B <= t) : ∀ {sl : List (Nat × AV)}, loS B sl -> killS t sl = sl
 | [], _ => rfl
 | (k, x) :: r, h => by
  simp only [loS] at h
  simp only [killS, AV.lo_refs ht h.1, killS_lo ht h.2]
  rfl

theorem killO_lo {B t : Nat} (ht : B <= t) : ∀ {ob : List (Nat × OB)}, loO B ob -> killO t ob = ob
 | [], _ => rfl
 | (k, o) :: r, h => by
  simp only [loO] at h
  simp only [killO, killO_lo ht h.2.2]
  rw [if_neg (by omega)]
  have : o.refs t = false := by
   cases o with
   | av cs => exact AV.loL_refs ht h.2.1
   | ds cs => rfl
   | mp _ => rfl
   | it t' _ _ =>
    have := h.2.1
    simp only [obCells, AV.loL, AV.lo] at this
    simp only [OB.refs, beq_eq_false_iff_ne]
    omega
   | dead => rfl
  rw [this]
  rfl

theorem killSs_gridN {B n : Nat} {r : List Nat} {sl : List (Nat × AV)} (h : loS B sl) : killSs (gridN B n ++ r) sl = killSs r sl := by
 have key : ∀ n B', B <= B' -> killSs (gridN B' n ++ r) sl = killSs r sl := fun n => by
  induction n with
  | zero => intro B' _; rfl
  | succ n ih =>
   intro B' hB
   simp only [gridN, List.cons_append, killSs, killS_lo hB h]
   exact ih (B' + 1) (by omega)
 exact key n B (Nat.le_refl _)

theorem killOs_gridN {B n : Nat} {r : List Nat} {ob : List (Nat × OB)} (h : loO B ob) : killOs (gridN B n ++ r) ob = killOs r ob := by
 have key : ∀ n B', B <= B' -> killOs (gridN B' n ++ r) ob = killOs r ob := fun n => by
  induction n with
  | zero => intro B' _; rfl
  | succ n ih =>
   intro B' hB
   simp only [gridN, List.cons_append, killOs, killO_lo hB h]
   exact ih (B' + 1) (by omega)
 exact key n B (Nat.le_refl _)

theorem killSs_gridN0 {B n : Nat} {sl : List (Nat × AV)} (h : loS B sl) : killSs (gridN B n) sl = sl := by
 have := killSs_gridN (n := n) (r := []) h
 rwa [List.append_nil] at this

theorem killOs_gridN0 {B n : Nat} {ob : List (Nat × OB)} (h : loO B ob) : killOs (gridN B n) ob = ob := by
 have := killOs_gridN (n := n) (r := []) h
 rwa [List.append_nil] at this

theorem ltAll_grid0 {n B k : Nat} (h : 1000000000 <= B) : ltAll n (gridN B k) = true := by
 have := ltAll_grid (n := n) (k := k) (r := []) h
 rw [List.append_nil] at this
 rw [this]
 rfl

theorem loS_nil {B : Nat} : loS B [] = True := eq_true trivial

theorem loS_cons {B k : Nat} {x : AV} {r : List (Nat × AV)} : loS B ((k, x) :: r) = (x.lo B /\ loS B r) := Eq.trans rfl rfl

theorem loL_nil {B : Nat} : AV.loL B [] = True := eq_true trivial

theorem loL_cons {B : Nat} {x : AV} {r : List AV} : AV.loL B (x :: r) = (x.lo B /\ AV.loL B r) := by simp only [AV.loL]

theorem lo_bp {B s o : Nat} : (AV.bp s o).lo B = (s < B) := by simp only [AV.lo]

theorem lo_bs {B s o n k : Nat} : (AV.bs s o n k).lo B = (s < B) := by simp only [AV.lo]

theorem lo_ag {B : Nat} {cs : List AV} : (AV.ag cs).lo B = AV.loL B cs := by simp only [AV.lo]

theorem lo_tu {B : Nat} {cs : List AV} : (AV.tu cs).lo B = AV.loL B cs := by simp only [AV.lo]

theorem lo_fc {B : Nat} {g : FuncId} {a b : List AV} : (AV.fc g a b).lo B = (AV.loL B a /\ AV.loL B b) := by simp only [AV.lo]

theorem lo_d {B : Nat} {x : D} : (AV.d x).lo B = True := by simp only [AV.lo]

theorem lo_un {B : Nat} : AV.un.lo B = True := by simp only [AV.lo]

theorem loO_nil {B : Nat} : loO B [] = True := eq_true trivial

theorem loO_ds {B s : Nat} {cs : List D} {r : List (Nat × OB)} : loO B ((s, .ds cs) :: r) = (s < B /\ loO B r) := by
 simp only [loO, obCells, loL_dmap, true_and]

theorem loO_av {B s : Nat} {cs : List AV} {r : List (Nat × OB)} : loO B ((s, .av cs) :: r) = (s < B /\ AV.loL B cs /\ loO B r) := by
 simp only [loO, obCells]

theorem loO_dead {B s : Nat} {r : List (Nat × OB)} : loO B ((s, .dead) :: r) = (s < B /\ loO B r) := by
 simp only [loO, obCells, AV.loL, true_and]

theorem res_gridB {P : Program} {σ : St} {t u s B n : Nat} {zs : List (List Int)} {b : Bool} {res : D} (ht : look σ.sl t = .bs s 0 n 1) (hu : look σ.sl u = .d (.bool b)) (h1 : lookO σ.ob s = some (.av (gridC B (lens zs)))) (h2 : HasG σ.ob B zs) (hn : n = zs.length) (hs : s < B) (hd : .tu [.ls 1 n (rowsD zs), .bool b] = res) : ResOk P [.tmp t, .tmp u] σ res := by
 obtain ⟨p, ss, e1, e2, e3⟩ := own_grid (m := 17) h1 h2 hn hs
 have q : own σ.ob 19 (.d (.bool b)) = some (True, .bool b, []) := rfl
 have e9 : ownL (own σ.ob 19) [.bs s 0 n 1, .d (.bool b)] = some (p /\ True /\ True, [.ls 1 n (rowsD zs), .bool b], ss ++ ([] ++ [])) := by
  simp only [ownL, e1, q]
 refine res_two (q := p /\ True /\ True) (ss := ss ++ ([] ++ [])) (d := .tu [.ls 1 n (rowsD zs), .bool b]) ?_ ⟨e2, trivial, trivial⟩ (by simpa using e3) hd
 rw [ht, hu]
 show own σ.ob (19 + 1) (.tu [.bs s 0 n 1, .d (.bool b)]) = _
 simp only [own, e9]

theorem allD_grid {B s o n k : Nat} {ls : List Nat} {r : List AV} : allD (gridC B ls ++ .bs s o n k :: r) = none := by
 cases ls with
 | nil => rfl
 | cons m q => rfl

theorem plainOs_gridE {B : Nat} {zs : List (List Int)} {r : List (Nat × OB)} : plainOs (gridO B zs r) = plainOs r := by
 have hpl : ∀ l : List Int, plains (l.map D.int) := fun l => by
  induction l with
  | nil => exact trivial
  | cons x l ih => exact ⟨trivial, ih⟩
 induction zs generalizing B with
 | nil => rfl
 | cons z zs ih =>
  simp only [gridO, plainOs, OB.plain]
  rw [ih]
  exact propext ⟨fun q => q.2, fun q => ⟨hpl z, q⟩⟩

theorem hasG_step1 {B i : Nat} {zs : List (List Int)} {z : List Int} {r : List (Nat × OB)} (h : zs.length = i) : HasG ((i + B, .ds (z.map D.int)) :: gridO B zs r) B (zs ++ [z]) := by
 subst h
 rw [hasG_snoc, hasG_next (Nat.le_refl _), hasG_self]
 refine ⟨trivial, ?_⟩
 simp only [lookO, if_true]

theorem mapD_cons {f : AV -> Option D} {x : AV} {d : D} {xs : List AV} {ds : List D} (h1 : f x = some d) (h2 : mapD f xs = some ds) : mapD f (x :: xs) = some (d :: ds) := by
 simp only [mapD, h1, h2, Option.map_some]

theorem mapD_nil {f : AV -> Option D} : mapD f [] = some [] := rfl

theorem toD_d {ob : List (Nat × OB)} {n : Nat} {x : D} : toD ob n (.d x) = some x := by cases n <;> rfl

theorem apartO_lo {B : Nat} {zs : List (List Int)} {r ob' : List (Nat × OB)} {res : AV} (h : loO B ob') (hr : res.lo B) : apartO (gridO B zs r) ob' res = apartO r ob' res := by
 have key : ∀ (zs : List (List Int)) (B' : Nat), B <= B' -> apartO (gridO B' zs r) ob' res = apartO r ob' res := fun zs => by
  induction zs with
  | nil => intro B' _; rfl
  | cons z zs ih =>
   intro B' hB
   have h1 : ob'.all (fun p => !AV.refsL B' (obCells p.2)) = true := by
    clear ih
    induction ob' with
    | nil => rfl
    | cons p q ihq =>
     obtain ⟨s, o⟩ := p
     simp only [loO] at h
     simp only [List.all_cons, AV.loL_refs hB h.2.1, ihq h.2.2]
     rfl
   simp only [gridO, apartO, h1, AV.lo_refs hB hr]
   exact ih (B' + 1) (by omega)
 exact key zs B (Nat.le_refl _)

theorem apartO_hi {s B B' : Nat} {ls : List Nat} {zs zs' : List (List Int)} {r : List (Nat × OB)} {res : AV} (h : B + zs.length <= B') (hr : res.lo B) : apartO (gridO B zs r) ((s, .av (gridC B' ls)) :: gridO B' zs' []) res = apartO r ((s, .av (gridC B' ls)) :: gridO B' zs' []) res := by
 have key : ∀ (zs : List (List Int)) (C : Nat), B <= C -> C + zs.length <= B' -> apartO (gridO C zs r) ((s, .av (gridC B' ls)) :: gridO B' zs' []) res = apartO r ((s, .av (gridC B' ls)) :: gridO B' zs' []) res := fun zs => by
  induction zs with
  | nil => intro C _ _; rfl
  | cons z zs ih =>
   intro C hC hl
   simp only [List.length_cons] at hl
   have h1 : ((s, OB.av (gridC B' ls)) :: gridO B' zs' []).all (fun p => !AV.refsL C (obCells p.2)) = true := by
    rw [List.all_cons, all_grid (fun k z => by simp only [obCells, refs_dmap]; rfl)]
    simp only [obCells, gridC_refs (show C < B' by omega)]
    rfl
   simp only [gridO, apartO, h1, AV.lo_refs hC hr]
   exact ih (C + 1) (by omega) (by omega)
 exact key zs B (Nat.le_refl _) h

theorem toD_rows {ob : List (Nat × OB)} {s n m : Nat} {zs : List (List Int)} (h1 : lookO ob s = some (.ds (rowsD zs))) (hn : n = zs.length) : toD ob (m + 1) (.bs s 0 n 1) = some (.ls 1 n (rowsD zs)) := by
 subst hn
 simp only [toD, h1, List.drop_zero, Nat.mul_one]
 rw [List.take_of_length_le (by simp)]

theorem toD_reg {ob : List (Nat × OB)} {s n m : Nat} {cs : List D} (h1 : lookO ob s = some (.ds cs)) : toD ob (m + 2) (.ag [.bs s 0 n 1]) = some (.ag [.ls 1 n ((cs.drop 0).take (n * 1))]) := by
 simp only [toD, mapD, h1, Option.map_some]

end Go.Proofs.Ytjbifidphckjoaa
