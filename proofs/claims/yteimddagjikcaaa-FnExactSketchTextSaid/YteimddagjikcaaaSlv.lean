/- Pointers to the tinctures behind the field. -/
import Derived.Test.YteimddagjikcaaaSlu
import Derived.Test.YteimddagjikcaaaFldD
import Derived.WalkKit
import Derived.WalkSpells
import Derived.KernelRfl
namespace Go.Proofs.Yteimddagjikcaaa
open Go.RowKit
set_option linter.unusedVariables false
set_option linter.unusedSimpArgs false

def skO (x : ArmsV) (sd : D) : OB := .av [.d (.int x.fd), .d (.int x.fl), .d (.int x.ff), .d (.int x.fs), .d (.int x.o), .d (.int x.l), .d (.int x.t), .d (.int x.c1), .d (.int x.k1), .d (.int x.a1), .d (.int x.t1), .d (.int x.c2), .d (.int x.k2), .d (.int x.a2), .d (.int x.t2), .d sd]

attribute [local go_sem] ArmsV.d ArmsV.cs SlV.cs slL skD skO

def plL (x : ArmsV) : List Nat := (if x.o = 0 then [] else [6]) ++ (if noGroup x.c1 x.k1 x.a1 x.t1 = true then [] else [10]) ++ (if noGroup x.c2 x.k2 x.a2 x.t2 = true then [] else [14])

def plO (s : Nat) : List Nat → OB
  | [] => .ds []
  | l => .av (l.map (AV.bp s))

set_option maxRecDepth 100000 in
set_option maxHeartbeats 4000000 in
theorem places_hi (x : ArmsV) (sd : D) : FnS Try.prog 111 [(5000, skO x sd)] [.bp 5000 0] [(5000, skO x sd), (5001, plO 5000 (plL x))] (.bs 5001 0 (plL x).length 1) := by
  unfold plL
  by_cases h0 : x.o = 0
  all_goals
    cases e1 : noGroup x.c1 x.k1 x.a1 x.t1
  all_goals
    cases e2 : noGroup x.c2 x.k2 x.a2 x.t2
  all_goals
    have n1 := e1
    have n2 := e2
    simp only [noGroup] at n1 n2
    simp only [h0, if_true, if_false, Bool.false_eq_true, List.nil_append, List.cons_append, List.append_nil, plO, List.map_cons, List.map_nil, List.length_cons, List.length_nil]
    refine fns_go Try.func111 rfl rfl Try.ntmps111 Try.results111 (by simp only [slotsA, Nat.reduceAdd]; rfl) (by simp) rfl ?_
    repeat' (first | (with_reducible first | refine aw_seq fun K hK => ?_ | refine aw_region (by kernel_rfl) ?_ | refine aw_condk ?_ | refine aw_block ?_) | ((with_reducible refine evg ?_); simp only [go_sem, ↓reduceIte, Nat.reduceEqDiff, Nat.reduceBEq, Nat.reduceAdd, Nat.reduceMul, Nat.reduceSub, Nat.reduceLT, Nat.reduceLeDiff]) | (simp (disch := omega) only [wr, drop_at, str_at, int_at, Int.reduceSub, Int.reduceAdd, Int.reduceToNat, Int.toNat_zero, Bool.and_true, n1, n2, wr]) | ((with_reducible refine ev_guard ?_); (with_reducible first | refine guard_t ?_ ?_ rfl | refine guard_f ?_ ?_ rfl) <;> (intro h; (try simp only [h]); (try simp only [nrm] at h) <;> (try ((with_reducible exfalso); omega)))) | ((with_reducible refine ck_split (fun h => ?_) (fun h => ?_)) <;> (try simp only [nrm] at h) <;> (try ((with_reducible exfalso); omega))) | ((with_reducible refine And.intro ?_ ?_); (first | omega | focus (simp; done) | focus (simp; omega) | focus ((repeat' (with_reducible refine And.intro ?_ ?_)) <;> first | omega | rfl | (simp only [go_sem, refsL_app, refs_dmap] <;> fail) | (simp [refsL_app, refs_dmap, AV.refsL, AV.refs] <;> omega)))) | ((with_reducible first | apply hK | (clear hK K; first | apply hK | (clear hK K; first | apply hK | (clear hK K; apply hK)))); clear hK K) | fail)
  all_goals first
    | exact absurd (by assumption) h0
    | exact absurd trivial (by assumption)
    | (refine ressF_step [(41, 5001)] (by simp) (by simp [lensO, lookO, obCells]) rfl ⟨rfl, rfl, trivial⟩ ?_; (focus (simp [resStep, look, swsA, joinR, AV.sw, swp])))
    | (refine ressF_step [(28, 5001)] (by simp) (by simp [lensO, lookO, obCells]) rfl ⟨rfl, rfl, trivial⟩ ?_; (focus (simp [resStep, look, swsA, joinR, AV.sw, swp])))
    | (refine ressF_step [(15, 5001)] (by simp) (by simp [lensO, lookO, obCells]) rfl ⟨rfl, rfl, trivial⟩ ?_; (focus (simp [resStep, look, swsA, joinR, AV.sw, swp])))
    | (refine ressF_step [(4, 5001)] (by simp) (by simp [lensO, lookO, obCells]) rfl ⟨rfl, rfl, trivial⟩ ?_; (focus (simp [resStep, look, swsA, joinR, AV.sw, swp])))

def plV (x : ArmsV) (o : Nat) : Int := if o = 6 then x.t else if o = 10 then x.t1 else x.t2

theorem plL_in {x : ArmsV} {o : Nat} (h : o ∈ plL x) : o = 6 ∨ o = 10 ∨ o = 14 := by
  unfold plL at h
  simp only [List.mem_append] at h
  rcases h with (h | h) | h
  all_goals
    split at h
    · simp at h
    · simp at h
      omega

end Go.Proofs.Yteimddagjikcaaa
