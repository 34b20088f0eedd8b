/- Words of tinctures, lines and divisions. -/
/- Lists of numbers: copying, comparing, counting, marking. -/
/- In which orders the reference's insertion may be drawn. -/
/- The text of marks; no program. -/
/- strings.Join: the library's contract, over data. -/
import Derived.Test.YtdeobicgildamaaGreatDoorFacts
import Derived.WalkKit
import Derived.WalkSpells
import Derived.KernelRfl
import Derived.Test.YtdeobicgildamaaGreatDoorGlob
import Derived.Test.YtdeobicgildamaaGreatDoorFlowE
import Derived.Lib.Join
import Derived.Shelf.Strings.OnBuilder
namespace Go.Proofs.YtdeobicgildamaaGreatDoor
open Go.RowKit
set_option linter.unusedVariables false
set_option linter.unusedSimpArgs false

def tincWord (n : Int) : ByteArray :=
  match n with
  | 1 => ⟨#[103, 111, 108, 100]⟩
  | 2 => ⟨#[115, 105, 108, 118, 101, 114]⟩
  | 3 => ⟨#[114, 101, 100]⟩
  | 4 => ⟨#[98, 108, 117, 101]⟩
  | 5 => ⟨#[98, 108, 97, 99, 107]⟩
  | 6 => ⟨#[103, 114, 101, 101, 110]⟩
  | 7 => ⟨#[112, 117, 114, 112, 108, 101]⟩
  | 8 => ⟨#[101, 114, 109, 105, 110, 101]⟩
  | 9 => ⟨#[118, 97, 105, 114]⟩
  | _ => ⟨#[]⟩

set_option maxRecDepth 100000 in
set_option maxHeartbeats 4000000 in
theorem l1In_fn (n lo hi : Int) : FnD Tryz.prog 44 [.int n, .int lo, .int hi] (.bool (inR n lo hi)) := by
  refine fn_go Tryz.func44 rfl rfl Tryz.ntmps44 Tryz.results44 (by simp only [slotsOf, argAV, List.map_cons, List.map_nil, Nat.reduceAdd]; rfl) (by simp) ?_
  repeat' (first | (with_reducible first | refine aw_seq fun K hK => ?_ | refine aw_region (by kernel_rfl) ?_ | refine aw_condk ?_ | refine aw_block ?_) | ((with_reducible refine evg ?_); simp only [go_sem, ↓reduceIte, Nat.reduceEqDiff, Nat.reduceBEq, Nat.reduceAdd, Nat.reduceMul, Nat.reduceSub, Nat.reduceLT, Nat.reduceLeDiff]) | ((with_reducible refine ev_guard ?_); (with_reducible first | refine guard_t ?_ ?_ rfl | refine guard_f ?_ ?_ rfl) <;> (intro h; (try simp only [h]); (try simp only [nrm] at h))) | ((with_reducible refine ck_split (fun h => ?_) (fun h => ?_)) <;> (try simp only [nrm] at h)) | ((with_reducible refine And.intro ?_ ?_); (first | omega | focus (simp; done) | focus (simp; omega) | focus ((repeat' (with_reducible refine And.intro ?_ ?_)) <;> first | omega | rfl | (simp only [go_sem, refsL_app, refs_dmap] <;> fail) | (simp [refsL_app, refs_dmap, AV.refsL, AV.refs] <;> omega)))) | ((with_reducible first | apply hK | (clear hK K; first | apply hK | (clear hK K; first | apply hK | (clear hK K; apply hK)))); clear hK K) | (simp (disch := omega) only [wr, drop_at, str_at, int_at, Int.reduceSub, Int.reduceAdd, Int.reduceToNat, Int.toNat_zero]) | fail)
  all_goals (first | refine res_tmp rfl (by simp [D.plain, plains]) (by simp) ?_ | refine res_at rfl (by simp [D.plain, plains]) (by simp) ?_ | refine res_two rfl (by simp [D.plain, plains]) (by simp) ?_ | refine res_three rfl (by simp [D.plain, plains]) (by simp) ?_ | skip)
  all_goals simp [inR, *]

set_option maxRecDepth 100000 in
set_option maxHeartbeats 4000000 in
theorem inside_fn (n lo hi : Int) : FnD Tryz.prog 19 [.int n, .int lo, .int hi] (.bool (inR n lo hi)) := by
  refine fn_go Tryz.func19 rfl rfl Tryz.ntmps19 Tryz.results19 (by simp only [slotsOf, argAV, List.map_cons, List.map_nil, Nat.reduceAdd]; rfl) (by simp) ?_
  repeat' (first | (with_reducible first | refine aw_seq fun K hK => ?_ | refine aw_region (by kernel_rfl) ?_ | refine aw_condk ?_ | refine aw_block ?_) | ((with_reducible refine evg ?_); simp only [go_sem, ↓reduceIte, Nat.reduceEqDiff, Nat.reduceBEq, Nat.reduceAdd, Nat.reduceMul, Nat.reduceSub, Nat.reduceLT, Nat.reduceLeDiff]) | ((with_reducible refine ev_guard ?_); (with_reducible first | refine guard_t ?_ ?_ rfl | refine guard_f ?_ ?_ rfl) <;> (intro h; (try simp only [h]); (try simp only [nrm] at h))) | ((with_reducible refine ck_split (fun h => ?_) (fun h => ?_)) <;> (try simp only [nrm] at h)) | ((with_reducible refine And.intro ?_ ?_); (first | omega | focus (simp; done) | focus (simp; omega) | focus ((repeat' (with_reducible refine And.intro ?_ ?_)) <;> first | omega | rfl | (simp only [go_sem, refsL_app, refs_dmap] <;> fail) | (simp [refsL_app, refs_dmap, AV.refsL, AV.refs] <;> omega)))) | ((with_reducible first | apply hK | (clear hK K; first | apply hK | (clear hK K; first | apply hK | (clear hK K; apply hK)))); clear hK K) | (simp (disch := omega) only [wr, drop_at, str_at, int_at, Int.reduceSub, Int.reduceAdd, Int.reduceToNat, Int.toNat_zero]) | fail)
  all_goals (first | refine res_tmp rfl (by simp [D.plain, plains]) (by simp) ?_ | refine res_at rfl (by simp [D.plain, plains]) (by simp) ?_ | refine res_two rfl (by simp [D.plain, plains]) (by simp) ?_ | refine res_three rfl (by simp [D.plain, plains]) (by simp) ?_ | skip)
  all_goals simp [inR, *]

def strs (l : List ByteArray) : D := .ls 1 l.length (l.map D.str)

def tincWords : List ByteArray := [⟨#[103, 111, 108, 100]⟩, ⟨#[115, 105, 108, 118, 101, 114]⟩, ⟨#[114, 101, 100]⟩, ⟨#[98, 108, 117, 101]⟩, ⟨#[98, 108, 97, 99, 107]⟩, ⟨#[103, 114, 101, 101, 110]⟩, ⟨#[112, 117, 114, 112, 108, 101]⟩, ⟨#[101, 114, 109, 105, 110, 101]⟩, ⟨#[118, 97, 105, 114]⟩]

attribute [local go_sem] strs tincWords

end Go.Proofs.YtdeobicgildamaaGreatDoor

namespace Go.Proofs.YtdeobicgildamaaGreatDoor
open Go.RowKit
set_option linter.unusedVariables false
set_option linter.unusedSimpArgs false

def intC (l : List Int) : List D := l.map D.int

def intL (l : List Int) : D := .ls 1 l.length (l.map D.int)

attribute [local go_sem] intL

theorem map_set {α β : Type} (f : α → β) (l : List α) (i : Nat) (x : α) : (l.map f).set i (f x) = (l.set i x).map f := by
  rw [List.map_set]

theorem ints_plain : ∀ l : List Int, plains (l.map D.int)
  | [] => trivial
  | _ :: l => ⟨trivial, ints_plain l⟩

theorem ints_plain_take (n : Nat) (l : List Int) : plains ((l.map D.int).take n) := by
  rw [← List.map_take]
  exact ints_plain _

theorem ints_all (l : List Int) : (l.map D.int).take (l.length * 1) = l.map D.int := by
  rw [Nat.mul_one]
  exact List.take_of_length_le (by simp)

theorem ints_raw (l : List Int) : D.ls 1 l.length (((l.map D.int).drop 0).take (l.length * 1)) = intL l := by
  rw [List.drop_zero, ints_all]
  rfl

theorem ints_all1 (l : List Int) : (l.map D.int).take l.length = l.map D.int := List.take_of_length_le (by simp)

attribute [local simp] ints_plain ints_all ints_all1

def intM (l : List Int) (i : Nat) : List Int := l.take i ++ List.replicate (l.length - i) 0

def nums (k : Int) (n : Nat) : List Int := tab (fun i => k + i) n

@[simp] theorem nums_len (k : Int) (n : Nat) : (nums k n).length = n := tab_len _ _

theorem sw_self (a b : Nat) : swp a b a = b := by simp [swp]

end Go.Proofs.YtdeobicgildamaaGreatDoor

namespace Go.Proofs.YtdeobicgildamaaGreatDoor
open Go.RowKit
set_option linter.unusedVariables false
set_option linter.unusedSimpArgs false

set_option maxRecDepth 100000 in
theorem pl_Fam5P_90_8 (l : List Oper) (h : l = opsOf Tryz.f90 8) : planB l (.pure 0 (.pure 1 (.pure 2 (.pure 3 (.pure 4 (.pure 5 (.pure 6 (.pure 7 (.pure 8 (.pure 9 (.pure 10 (.pure 11 PT.fin)))))))))))) [] = true := by
  subst h
  kernel_rfl

set_option maxRecDepth 100000 in
theorem pl_Fam5P_90_10U (l : List Oper) (h : l = opsOf Tryz.f90 10) : planUB l (.still 1 (.still 2 (.still 3 (.still 9 (.still 10 (.still 11 (.calc 5 (.two true 0 (.two false 4 (.one true 6 (.one true 7 (.one false 8 (.one false 12 (.still 13 PU.fin))))) true 6 (.two false 4 (.one true 7 (.one false 8 (.one false 12 (.still 13 PU.fin)))) true 7 (.one false 4 (.one false 8 (.one false 12 (.still 13 PU.fin)))))) true 6 (.two true 0 (.two false 4 (.one true 7 (.one false 8 (.one false 12 (.still 13 PU.fin)))) true 7 (.one false 4 (.one false 8 (.one false 12 (.still 13 PU.fin))))) true 7 (.one true 0 (.one false 4 (.one false 8 (.one false 12 (.still 13 PU.fin)))))))))))))) [4, 8, 12] = true := by
  subst h
  kernel_rfl

set_option maxRecDepth 100000 in
theorem pl_Fam5P_90_11U (l : List Oper) (h : l = opsOf Tryz.f90 11) : planUB l (.still 1 (.still 2 (.still 3 (.still 9 (.still 10 (.still 11 (.calc 5 (.two true 0 (.two false 4 (.one true 6 (.one true 7 (.one false 8 (.one false 12 (.still 13 PU.fin))))) true 6 (.two false 4 (.one true 7 (.one false 8 (.one false 12 (.still 13 PU.fin)))) true 7 (.one false 4 (.one false 8 (.one false 12 (.still 13 PU.fin)))))) true 6 (.two true 0 (.two false 4 (.one true 7 (.one false 8 (.one false 12 (.still 13 PU.fin)))) true 7 (.one false 4 (.one false 8 (.one false 12 (.still 13 PU.fin))))) true 7 (.one true 0 (.one false 4 (.one false 8 (.one false 12 (.still 13 PU.fin)))))))))))))) [4, 8, 12] = true := by
  subst h
  kernel_rfl



end Go.Proofs.YtdeobicgildamaaGreatDoor

namespace Go.Proofs.YtdeobicgildamaaGreatDoor
open Go.RowKit
set_option linter.unusedVariables false
set_option linter.unusedSimpArgs false

def mkWord (n : Int) : ByteArray :=
  match n with
  | 1 => ⟨#[108, 97, 98, 101, 108]⟩
  | 2 => ⟨#[99, 114, 101, 115, 99, 101, 110, 116]⟩
  | 3 => ⟨#[115, 116, 97, 114]⟩
  | 4 => ⟨#[98, 105, 114, 100]⟩
  | 5 => ⟨#[114, 105, 110, 103]⟩
  | 6 => ⟨#[102, 108, 111, 119, 101, 114]⟩
  | 7 => ⟨#[119, 104, 101, 101, 108]⟩
  | _ => ⟨#[]⟩

def aSp : ByteArray := ⟨#[97, 32]⟩

def onB : ByteArray := ⟨#[32, 111, 110, 32]⟩

def noM : ByteArray := ⟨#[110, 111, 32, 109, 97, 114, 107]⟩

def wA (m : Int) : ByteArray := aSp ++ mkWord m

theorem mkWord_size (n : Int) : (mkWord n).size ≤ 8 := by
  unfold mkWord
  split <;> decide

def okMarks (l : List Int) : Bool := l.all (fun m => inR m 1 7) && decide (l.length ≤ 6)

def mtT (r : List Int) : Nat → ByteArray
  | 0 => ⟨#[]⟩
  | k + 1 => if k + 1 < r.length then (mtT r k ++ aSp ++ mkWord (r.getD k 0)) ++ onB else mtT r k ++ aSp ++ mkWord (r.getD k 0)

theorem mtT_size (r : List Int) : ∀ k, (mtT r k).size ≤ 14 * k
  | 0 => Nat.le_refl 0
  | k + 1 => by
    have h1 := mtT_size r k
    have h2 := mkWord_size (r.getD k 0)
    have h3 : aSp.size = 2 := rfl
    have h4 : onB.size = 4 := rfl
    rw [mtT]
    split
    · simp only [ByteArray.size_append]
      omega
    · simp only [ByteArray.size_append]
      omega

def marksB (l : List Int) : ByteArray := if l = [] then noM else mtT l.reverse l.length

def wL (m : Int) : List UInt8 := (wA m).data.toList

theorem join_cons (sep : List UInt8) (x : List UInt8) : ∀ (r : List (List UInt8)), Lib.join (x :: r) sep ++ sep = x ++ sep ++ (if r = [] then [] else Lib.join r sep ++ sep)
  | [] => by simp [Lib.join]
  | y :: r => by simp [Lib.join, List.intercalate]

theorem join_flat (sep : List UInt8) : ∀ (r : List (List UInt8)), r ≠ [] → Lib.join r sep ++ sep = r.flatMap (fun x => x ++ sep)
  | [], h => absurd rfl h
  | [x], _ => by simp [Lib.join]
  | x :: y :: r, _ => by
    rw [join_cons, if_neg (by simp), join_flat sep (y :: r) (by simp)]
    rfl

theorem mtT_list (r : List Int) : ∀ k, k < r.length → (mtT r k).data.toList = (r.take k).flatMap fun m => wL m ++ onB.data.toList
  | 0, _ => rfl
  | k + 1, h => by
    have ih := mtT_list r k (by omega)
    rw [mtT, if_pos h, take_next 0 (by omega), List.flatMap_append, ba_app, ba_app, ba_app, ih]
    simp [wL, wA, ba_app]

theorem mtT_join {r : List Int} (h : r ≠ []) : mtT r r.length = ⟨(Lib.join ((r.map wA).map (·.data.toList)) onB.data.toList).toArray⟩ := by
  refine ba_ext ?_
  simp only
  have h1 : (mtT r r.length).data.toList ++ onB.data.toList = (r.map wL).flatMap (fun x => x ++ onB.data.toList) := by
    obtain ⟨n, hn⟩ : ∃ n, r.length = n + 1 := ⟨r.length - 1, by have := List.length_pos_iff.2 h; omega⟩
    have ht : r.take n ++ [r.getD n 0] = r := by
      rw [← take_next 0 (by omega), List.take_of_length_le (by omega)]
    rw [hn, mtT, if_neg (by omega), ba_app, ba_app, mtT_list r n (by omega)]
    conv => rhs; rw [← ht]
    rw [List.map_append, List.flatMap_append, List.flatMap_map]
    simp [wL, wA, ba_app]
  have h2 := join_flat onB.data.toList ((r.map wA).map (·.data.toList)) (by simpa using h)
  have e : (r.map wA).map (·.data.toList) = r.map wL := by
    rw [List.map_map]
    rfl
  rw [e] at h2 ⊢
  rw [← h1] at h2
  exact (List.append_cancel_right h2).symm

end Go.Proofs.YtdeobicgildamaaGreatDoor

namespace Go.Proofs.YtdeobicgildamaaGreatDoor
open Go.RowKit
set_option linter.unusedVariables false
set_option linter.unusedSimpArgs false

theorem rds_vals {w : World} {o : Bool} : ∀ {xs ys : List Value} {bs : List Nat}, RDs w o (xs.map D.v) ys bs → ys = xs
  | [], ys, bs, h => by
    simp only [List.map_nil, RDs] at h
    exact h.1
  | x :: xs, ys, bs, h => by
    simp only [List.map_cons, RDs, RD] at h
    obtain ⟨y, ys', b1, b2, rfl, _, ⟨h1, _⟩, h2⟩ := h
    rw [h1, rds_vals h2]

theorem cell_at {w : World} {b : Nat} {c : Array Value} {T : TypeId} {fz : Nat × Nat} (hb : w.heap[b]? = some (.cells c T fz)) (o : Nat) : w.cell? ⟨b, o, none⟩ = c[o]? := by
  simp only [World.cell?, hb, Option.isSome_none, Bool.false_eq_true, if_false]

theorem joinOk : FnOk Tryz.prog 21 := ⟨_, Tryz.func21, by kernel_rfl, by kernel_rfl⟩

theorem join_fn (xs : List ByteArray) (sep : ByteArray) (hN : xs.length ≤ 1000) (hl : (Lib.join (xs.map (·.data.toList)) sep.data.toList).length ≤ 140737488355328) : FnD Tryz.prog 21 [strs xs, .str sep] (.str ⟨(Lib.join (xs.map (·.data.toList)) sep.data.toList).toArray⟩) := by
  refine ⟨joinOk, fun w vs hv => ?_⟩
  obtain ⟨hv, _⟩ := hv
  simp only [List.map_cons, List.map_nil, RCs, RC] at hv
  obtain ⟨v1, _, rfl, ⟨bs1, h1, h1b⟩, v2, _, rfl, ⟨bs2, h2, _⟩, rfl⟩ := hv
  simp only [strs, RD] at h1 h2
  obtain ⟨rfl, _⟩ := h2
  rcases h1 with ⟨a, c, rfl, _, hn, _⟩ | ⟨b, off, cap, ys, bs', rfl, rfl, _, hcap, ⟨hones, c, T, fz, hb, hcz, _⟩, hrd⟩
  · have hx : xs = [] := List.eq_nil_of_length_eq_zero hn
    subst hx
    refine (Tryz.strings_Join_none a c sep w).mono fun e w' hh => ?_
    obtain ⟨rfl, rfl⟩ := hh
    exact ⟨_, [], rfl, Below.refl _ _, by simp [RD, Lib.join, List.intercalate], List.nodup_nil, by simp⟩
  · have hys : ys = xs.map Value.string := rds_vals (xs := xs.map Value.string) (by rw [List.map_map]; exact hrd)
    subst hys
    have hlt : b < w.heap.size := h1b b (by simp)
    refine (Tryz.strings_Join b off cap xs sep w (fun j x hj => ?_) hlt (by omega) hcap hl).mono fun e w' hh => ?_
    · rw [cell_at hb, hcz j (by simpa using (List.getElem?_eq_some_iff.1 hj).1)]
      simp [hj]
    · obtain ⟨rfl, hB⟩ := hh
      exact ⟨_, [], rfl, hB, by simp [RD], List.nodup_nil, by simp⟩

end Go.Proofs.YtdeobicgildamaaGreatDoor
