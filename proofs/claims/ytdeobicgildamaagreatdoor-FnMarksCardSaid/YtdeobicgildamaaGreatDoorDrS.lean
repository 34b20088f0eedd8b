/- Draws of a clan, a person, a year. -/
import Derived.Test.YtdeobicgildamaaGreatDoorDrC2
import Derived.WalkKit
import Derived.WalkSpells
import Derived.KernelRfl
namespace Go.Proofs.YtdeobicgildamaaGreatDoor
open Go.RowKit
set_option linter.unusedVariables false
set_option linter.unusedSimpArgs false

attribute [local go_sem] PerV.d PerV.cs perL famD curO codL perO

attribute [local simp] refs_dmap perC_all perC_plains ints_plain ints_all ints_all1 ints_plain_take curO codL perO

attribute [local go_sem] zero_cur

theorem clan_at (s t : Nat) (bs : List Int) (c : CurV) (hb : okCod bs) (h0 : okCur 40000 c) (hs : s < 5000) (ht : t < 5000) (hst : s ≠ t) : FnS Tryz.prog 28 [(s, curO bs c)] [.bp s 0] [(s, curO bs (claZ bs c).c), (t, .ds (perC (claZ bs c).l))] (.ag [.bs t 0 (claZ bs c).l.length 5]) := by
  have h := ((clan_fn bs c hb h0).sw 5000 s).sw 5001 t
  simpa only [curO, swO, AV.swL, AV.sw, OB.sw, sw_self, swp_1 hs, swp_2 hs hst] using h

theorem year_at (s : Nat) (bs : List Int) (c : CurV) (hb : okCod bs) (h0 : okCur 100000 c) (hs : s < 5000) : FnS Tryz.prog 30 [(s, curO bs c)] [.bp s 0] [(s, curO bs (y19C bs c))] (.d (.int (y19V bs c))) := by
  have h := (year_hi bs c hb h0).sw 5000 s
  simpa only [curO, swO, AV.swL, AV.sw, OB.sw, sw_self] using h

def sF (bs : List Int) : List PerV := (claZ bs cur0).l

def sB (bs : List Int) : Bool := oneV bs 2 (claZ bs cur0).c && decide (0 < (sF bs).length)

def sC (bs : List Int) : CurV := if sB bs = true then pickC bs 2 (claZ bs cur0).c else p18C bs (sF bs) (pickC bs 2 (claZ bs cur0).c)

def sP (bs : List Int) : Int := if sB bs = true then ((sF bs).getD 0 PerV.zero).id else p18V bs (sF bs) (pickC bs 2 (claZ bs cur0).c)

def sY (bs : List Int) : Int := y19V bs (sC bs)

theorem sF_len {bs : List Int} (hb : okCod bs) : (sF bs).length ≤ 17 := (claZ_ok hb (cur0_ok 0)).2

end Go.Proofs.YtdeobicgildamaaGreatDoor
