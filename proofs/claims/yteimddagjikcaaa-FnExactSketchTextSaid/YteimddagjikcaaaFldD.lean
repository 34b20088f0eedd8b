/- Draws of fields, tinctures and lines. -/
import Derived.Test.YteimddagjikcaaaCur
import Derived.WalkKit
import Derived.WalkSpells
import Derived.KernelRfl
namespace Go.Proofs.Yteimddagjikcaaa
open Go.RowKit
set_option linter.unusedVariables false
set_option linter.unusedSimpArgs false

attribute [local go_sem] curO codL

attribute [local simp] refs_dmap curO codL

def tcV (bs : List Int) (c : CurV) : Int := 1 + pickV bs 9 c

def at5 : List Int := [0, 10, -1, 9, 1]

def atV (bs : List Int) (c : CurV) : Int := if oneV bs 16 c = true then amV bs at5 5 (pickC bs 16 c) else tcV bs (pickC bs 16 c)

def atC (bs : List Int) (c : CurV) : CurV := if oneV bs 16 c = true then pickC bs 5 (pickC bs 16 c) else pickC bs 9 (pickC bs 16 c)

def ln7 : List Int := [0, 1, 2, 3, 4, -1, 5]

def lnV (bs : List Int) (c : CurV) : Int := amV bs ln7 (5 + pickV bs 24 c / 11).toNat (pickC bs 24 c)

def lnC (bs : List Int) (c : CurV) : CurV := pickC bs ((5 + pickV bs 24 c / 11).toNat : Nat) (pickC bs 24 c)

theorem ressF_step {P : Program} {σ : St} {rs : List ResultVar} {ob ob' : List (Nat × OB)} {res : AV} (ps : List (Nat × Nat)) (hlen : rs.length ≤ 4) (hl : lensO ob ob') (ho : offSw ob ps = true) (hs : SubO (swsO ps σ.ob) ob') (h : resStep P σ rs (fun xs => swsA ps (joinR xs) = res)) : ResS P rs σ ob ob' res := by
  obtain ⟨p, xs, h1, h2, h3⟩ := resStep_sound h
  exact ⟨hlen, hl, ps, ho, hs, by rw [h1]; exact ⟨h2, h3⟩⟩

structure FdS where
  c : CurV
  d : Int
  l : Int
  f : Int
  s : Int

def FdS.a (z : FdS) : AV := .d (.ag [.int z.d, .int z.l, .int z.f, .int z.s])

def fd6 : List Int := [0, 0, 1, 2, 3, 4]

def fdS (bs : List Int) (c : CurV) : FdS :=
  if oneV bs 2 (pickC bs 9 c) = true then ⟨pickC bs 2 (pickC bs 9 c), 0, 0, tcV bs c, 0⟩
  else ⟨pickC bs 8 (pickC bs 6 (pickC bs 7 (pickC bs 2 (pickC bs 9 c)))), 1 + pickV bs 7 (pickC bs 2 (pickC bs 9 c)), amV bs fd6 6 (pickC bs 7 (pickC bs 2 (pickC bs 9 c))), tcV bs c, 1 + (tcV bs c + pickV bs 8 (pickC bs 6 (pickC bs 7 (pickC bs 2 (pickC bs 9 c))))).tmod 9⟩

attribute [local go_sem] FdS.a

def an5 : List Int := [-1, 8, 0, 7, 1]

def an4 : List Int := [-1, 5, 1, 4]

def an3 : List Int := [0, 10, 9]

def anK (bs : List Int) (z : FdS) (k : Int) (c : CurV) : FdS :=
  if k = 0 then ⟨pickC bs 5 c, amV bs an5 5 c, z.l, z.f, z.s⟩ else if k = 1 then ⟨pickC bs 4 c, z.d, amV bs an4 4 c, z.f, z.s⟩
  else if k = 2 then ⟨pickC bs 3 c, z.d, z.l, amV bs an3 3 c, z.s⟩ else if k = 3 then ⟨pickC bs 4 c, z.d, z.l, z.f, amV bs [0, 10, z.f, 9] 4 c⟩ else ⟨c, z.d, z.l, z.f, z.s⟩

def anS (bs : List Int) (c : CurV) : FdS := anK bs (fdS bs c) (pickV bs 24 (fdS bs c).c) (pickC bs 24 (fdS bs c).c)

def dvB (bs : List Int) (z : FdS) : Bool := decide (z.d = 0) && !(oneV bs 8 z.c)

def dvK (bs : List Int) (z : FdS) (c : CurV) : FdS :=
  ⟨pickC bs 5 (pickC bs 4 (pickC bs 5 (pickC bs 7 c))), 1 + pickV bs 7 c, pickV bs 5 (pickC bs 7 c), 1 + pickV bs 4 (pickC bs 5 (pickC bs 7 c)), 5 + pickV bs 5 (pickC bs 4 (pickC bs 5 (pickC bs 7 c)))⟩

def dvS (bs : List Int) (c : CurV) : FdS :=
  if (anS bs c).d = 0 then (if oneV bs 8 (anS bs c).c = true then ⟨pickC bs 8 (anS bs c).c, (anS bs c).d, (anS bs c).l, (anS bs c).f, (anS bs c).s⟩ else dvK bs (anS bs c) (pickC bs 8 (anS bs c).c)) else anS bs c

end Go.Proofs.Yteimddagjikcaaa
