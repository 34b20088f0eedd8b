/- Lists of arms; shields. -/
import Derived.Test.YteimddagjikcaaaArmsText
import Derived.WalkKit
import Derived.WalkSpells
import Derived.KernelRfl
namespace Go.Proofs.Yteimddagjikcaaa
open Go.RowKit
set_option linter.unusedVariables false
set_option linter.unusedSimpArgs false

attribute [local go_sem] ArmsV.d

def ArmsV.cs (x : ArmsV) : List D := [.int x.fd, .int x.fl, .int x.ff, .int x.fs, .int x.o, .int x.l, .int x.t, .int x.c1, .int x.k1, .int x.a1, .int x.t1, .int x.c2, .int x.k2, .int x.a2, .int x.t2]

attribute [local go_sem] ArmsV.cs

def ArmsV.zero : ArmsV := ⟨0, 0, 0, 0, 0, 0, 0, 0, 0, 0, 0, 0, 0, 0, 0⟩

def armsC (l : List ArmsV) : List D := l.flatMap ArmsV.cs

@[simp] theorem armsC_len (l : List ArmsV) : (armsC l).length = l.length * 15 := by
  induction l with
  | nil => rfl
  | cons x l ih =>
    simp only [armsC, List.flatMap_cons, List.length_append] at ih ⊢
    rw [ih]
    simp only [ArmsV.cs, List.length_cons, List.length_nil]
    omega

def armsL (l : List ArmsV) : D := .ls 15 l.length (armsC l)

attribute [local go_sem] armsL

theorem armsC_app (l m : List ArmsV) : armsC (l ++ m) = armsC l ++ armsC m := by simp [armsC]

theorem armsC_take (l : List ArmsV) (i : Nat) : (armsC l).take (i * 15) = armsC (l.take i) := by
  by_cases h : i ≤ l.length
  · have e : armsC l = armsC (l.take i) ++ armsC (l.drop i) := by rw [← armsC_app, List.take_append_drop]
    have hl : (armsC (l.take i)).length = i * 15 := by rw [armsC_len, List.length_take]; congr 1; omega
    rw [e, ← hl, List.take_left']
    rfl
  · rw [List.take_of_length_le (by rw [armsC_len]; omega), List.take_of_length_le (by omega)]

def cntOf (m : Int) : Int := if m = 1 then 1 else if m = 2 then 2 else if m = 3 then 4 else 0

def okShield (m : Int) (l : List ArmsV) : Bool := inR m 1 3 && (l.length : Int) == cntOf m && l.all okArms

def hArms (p : ArmsV → Bool) : List D → D
  | [.ag [.v (.int .i64 a0), .v (.int .i64 a1), .v (.int .i64 a2), .v (.int .i64 a3), .v (.int .i64 a4), .v (.int .i64 a5), .v (.int .i64 a6), .v (.int .i64 a7), .v (.int .i64 a8), .v (.int .i64 a9), .v (.int .i64 b0), .v (.int .i64 b1), .v (.int .i64 b2), .v (.int .i64 b3), .v (.int .i64 b4)]] => .bool (p ⟨a0, a1, a2, a3, a4, a5, a6, a7, a8, a9, b0, b1, b2, b3, b4⟩)
  | _ => .bool false

def isArms (ds : List D) : Prop := ∃ x : ArmsV, ds = [x.d]

theorem call_pred {σ : St} {q : Bool} {dst : Option Nat} {K : St → Prop} {g g2 : FuncId} {x : AV} {y r : D} {dom : List D → Prop} {h : List D → D} (hc : Fn Try.prog g [.d y, .fn dom h] r) (hx : toD σ.ob 4 x = some y) (hok : FnOk Try.prog g2) (hf : ∀ ds, dom ds → FnD Try.prog g2 ds (h ds)) (hk : K (σ.adopt dst r)) :
    CallOk Try.prog q σ dst (.fc g [] []) [x, .fc g2 [] []] K := by
  refine call_cv hc ?_ hk
  simp only [List.nil_append, List.append_nil, ArgsAre]
  refine ⟨_, _, rfl, ?_, _, _, rfl, ?_, rfl⟩
  · unfold ArgIs
    cases x <;> exact hx
  · unfold ArgIs
    exact ⟨hok, [], [], rfl, rfl, fun ds hd => by simpa using hf ds hd⟩

def idxA (l : List ArmsV) (p : ArmsV → Bool) : Int := if l.all (fun x => !p x) then -1 else (l.findIdx p : Nat)

def partR (m : Int) (l : List ArmsV) (r b : Bool) : D := if okShield m l then .tu [.int ((if r && m != 1 then 1 else 0) + (if b && m == 3 then 2 else 0)), .bool true] else .tu [.int 0, .bool false]

end Go.Proofs.Yteimddagjikcaaa
