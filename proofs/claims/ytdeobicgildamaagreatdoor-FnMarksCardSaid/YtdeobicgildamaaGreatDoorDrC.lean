/- Ascending lists; who is a descendant. -/
/- Draws of a family and of persons. -/
/- A drawn clan: plain facts. -/
import Derived.Test.YtdeobicgildamaaGreatDoorLin
import Derived.Test.YtdeobicgildamaaGreatDoorFam12
import Derived.Test.YtdeobicgildamaaGreatDoorPCode
import Derived.WalkKit
import Derived.WalkSpells
import Derived.KernelRfl
import Derived.Test.YtdeobicgildamaaGreatDoorDrG2
import Derived.Test.YtdeobicgildamaaGreatDoorDrP
import Derived.Test.YtdeobicgildamaaGreatDoorDrG
namespace Go.Proofs.YtdeobicgildamaaGreatDoor
open Go.RowKit
set_option linter.unusedVariables false
set_option linter.unusedSimpArgs false

def srtI (zs : List Int) : List Int := zs.mergeSort fun x y => decide (x ≤ y)

def idsF (l : List PerV) (q : Int → Bool) : List Int := (l.map PerV.id).filter q

def above (l : List PerV) (a x : Int) : Prop := ∃ m : Nat, pth (parI l) x (m + 1) a

def clos (l : List PerV) (out S : List Int) : Prop := ∀ y ∈ out, y ∉ S → ∀ c ∈ kidI l y, c ∈ out

end Go.Proofs.YtdeobicgildamaaGreatDoor

namespace Go.Proofs.YtdeobicgildamaaGreatDoor
open Go.RowKit
set_option linter.unusedVariables false
set_option linter.unusedSimpArgs false

attribute [local go_sem] PerV.d PerV.cs perL famD curO codL perO

attribute [local simp] refs_dmap perC_all perC_plains ints_plain ints_all ints_all1 ints_plain_take curO codL perO

theorem zero_cur : zeroV Tryz.prog 44 = [Value.slice none 0 0, Value.int IntKind.i64 0, Value.int IntKind.u64 0] := by kernel_rfl

attribute [local go_sem] zero_cur

theorem swp_1 {s : Nat} (hs : s < 5000) : swp 5000 s 5001 = 5001 := by
  have : 5001 ≠ s := by omega
  simp [swp, this]

theorem swp_2 {s t : Nat} (hs : s < 5000) (hst : s ≠ t) : swp 5001 t s = s := by
  have h1 : s ≠ 5001 := by omega
  simp [swp, h1, hst]

theorem person_at (s t : Nat) (bs : List Int) (l : List PerV) (c : CurV) (hb : okCod bs) (h0 : okCur 100000 c) (hl : l.length ≤ 1000) (hs : s < 5000) (ht : t < 5000) (hst : s ≠ t) : FnS Tryz.prog 29 [(s, curO bs c), (t, .ds (perC l))] [.bp s 0, .ag [.bs t 0 l.length 5]] [(s, curO bs (p18C bs l c)), (t, .ds (perC l))] (.d (.int (p18V bs l c))) := by
  have h := ((person_hi bs l c hb h0 hl).sw 5000 s).sw 5001 t
  simpa only [curO, swO, AV.swL, AV.sw, OB.sw, sw_self, swp_1 hs, swp_2 hs hst] using h

def cur0 : CurV := ⟨0, 0⟩

theorem cur0_ok (n : Nat) : okCur n cur0 := ⟨Int.le_refl _, Int.natCast_nonneg _⟩

def dF (bs : List Int) : List PerV := (anyZ bs cur0).l

def dP (bs : List Int) : Int := p18V bs (dF bs) (anyZ bs cur0).c

def hTab : List Int := [1500, 1520, 1540, 1560, 1580, 1600, 1700, 0, 3000]

def dHC (bs : List Int) : CurV := p18C bs (dF bs) (anyZ bs cur0).c

def dHN (bs : List Int) : Nat := 7 + ((pickV bs 24 (dHC bs)).toNat / 11)

def dY (bs : List Int) : Int := amV bs hTab (dHN bs) (pickC bs 24 (dHC bs))

end Go.Proofs.YtdeobicgildamaaGreatDoor

namespace Go.Proofs.YtdeobicgildamaaGreatDoor
open Go.RowKit
set_option linter.unusedVariables false
set_option linter.unusedSimpArgs false

def y19V (bs : List Int) (c : CurV) : Int := if oneV bs 16 c = true then amV bs [0, 3000, 1, 2999, -1] 5 (pickC bs 16 c) else 1500 + 5 * pickV bs 20 (pickC bs 16 c)

def y19C (bs : List Int) (c : CurV) : CurV := if oneV bs 16 c = true then pickC bs 5 (pickC bs 16 c) else pickC bs 20 (pickC bs 16 c)

def claA (bs : List Int) (s : FamS) : FamS :=
  let c1 := pickC bs 12 s.c
  let born := 1525 + pickV bs 12 s.c
  if oneV bs 3 c1 = true then ⟨pickC bs 3 (pickC bs 3 c1), s.l ++ [⟨s.l.length + 1, born, born + amV bs [1, 40, 60] 3 (pickC bs 3 c1), 1, 2⟩], 0⟩
  else ⟨pickC bs 3 c1, s.l ++ [⟨s.l.length + 1, born, 0, 1, 2⟩], 0⟩

def claN (bs : List Int) : Nat → FamS → FamS
  | 0, s => s
  | n + 1, s => claN bs n (claA bs s)

def claB (bs : List Int) (k : Int) (s : FamS) : FamS := ⟨pickC bs 10 s.c, s.l ++ [⟨s.l.length + 1, 1552 + pickV bs 10 s.c, 0, 3, k⟩], 0⟩

def claM (bs : List Int) (k : Int) : Nat → FamS → FamS
  | 0, s => s
  | n + 1, s => if s.l.length < 16 then claM bs k n (claB bs k s) else s

def cla1 (bs : List Int) (c : CurV) : FamS :=
  let c2 := pickC bs 3 c
  let c3 := pickC bs 2 c2
  claN bs (1 + pickV bs 9 c3).toNat ⟨pickC bs 9 c3, [⟨1, 1500, amV bs [0, 1560, 1580] 3 c, 0, 0⟩, ⟨2, 1505, amV bs [0, 1570] 2 c2, 0, 0⟩], 0⟩

def cla2 (bs : List Int) (s : FamS) : FamS := claM bs (s.l.length + 1) (pickV bs 4 s.c).toNat ⟨pickC bs 4 s.c, s.l ++ [⟨s.l.length + 1, 1530, 0, 0, 0⟩], 0⟩

def claZ (bs : List Int) (c : CurV) : FamS := if oneV bs 3 c = true then anyZ bs (pickC bs 3 c) else cla2 bs (cla1 bs (pickC bs 3 c))

theorem claA_ok {bs : List Int} (s : FamS) (m : Nat) (h : okCur m s.c) : okCur (m + 6) (claA bs s).c ∧ (claA bs s).l.length = s.l.length + 1 := by
  have h1 := okCur_pick (bs := bs) (n := 3) (okCur_pick (bs := bs) (n := 12) h)
  unfold claA
  simp only
  split
  · exact ⟨okCur_pick h1, by simp⟩
  · exact ⟨okCur_mono h1 (by omega), by simp⟩

theorem claN_ok {bs : List Int} : ∀ (n : Nat) (s : FamS) (m : Nat), okCur m s.c → okCur (m + 6 * n) (claN bs n s).c ∧ (claN bs n s).l.length = s.l.length + n
  | 0, s, m, h => ⟨h, rfl⟩
  | n + 1, s, m, h => by
    obtain ⟨h1, h2⟩ := claA_ok (bs := bs) s m h
    obtain ⟨k1, k2⟩ := claN_ok n (claA bs s) (m + 6) h1
    exact ⟨okCur_mono k1 (by omega), by rw [claN, k2, h2]; omega⟩

theorem claM_ok {bs : List Int} {k : Int} : ∀ (n : Nat) (s : FamS) (m : Nat), okCur m s.c → s.l.length ≤ 16 → okCur (m + 2 * n) (claM bs k n s).c ∧ (claM bs k n s).l.length ≤ 16
  | 0, s, m, h, h2 => ⟨h, h2⟩
  | n + 1, s, m, h, h2 => by
    rw [claM]
    split
    · obtain ⟨k1, k2⟩ := claM_ok (k := k) n (claB bs k s) (m + 2) (okCur_pick h) (by simp only [claB, List.length_append, List.length_singleton]; omega)
      exact ⟨okCur_mono k1 (by omega), k2⟩
    · exact ⟨okCur_mono h (by omega), h2⟩

theorem cla1_ok {bs : List Int} (hb : okCod bs) {c : CurV} {m : Nat} (h : okCur m c) : okCur (m + 100) (cla1 bs c).c ∧ (cla1 bs c).l.length ≤ 11 := by
  have h2 := okCur_pick (bs := bs) (n := 3) h
  have h3 := okCur_pick (bs := bs) (n := 2) h2
  have h4 := okCur_pick (bs := bs) (n := 9) h3
  have p1 := pickV_le hb (n := 9) h3.1
  have p2 := p1.2 (by decide)
  obtain ⟨k1, k2⟩ := claN_ok (bs := bs) (1 + pickV bs 9 (pickC bs 2 (pickC bs 3 c))).toNat ⟨pickC bs 9 (pickC bs 2 (pickC bs 3 c)), [⟨1, 1500, amV bs [0, 1560, 1580] 3 c, 0, 0⟩, ⟨2, 1505, amV bs [0, 1570] 2 (pickC bs 3 c), 0, 0⟩], 0⟩ _ h4
  refine ⟨okCur_mono k1 (by omega), ?_⟩
  unfold cla1
  simp only
  rw [k2]
  simp only [List.length_cons, List.length_nil]
  omega

theorem claZ_ok {bs : List Int} (hb : okCod bs) {c : CurV} {m : Nat} (h : okCur m c) : okCur (m + 500) (claZ bs c).c ∧ (claZ bs c).l.length ≤ 17 := by
  have h2 := okCur_pick (bs := bs) (n := 3) h
  unfold claZ
  split
  · obtain ⟨a, b⟩ := anyZ_ok hb h2
    exact ⟨okCur_mono a (by omega), b⟩
  · obtain ⟨a, b⟩ := cla1_ok hb h2
    have p1 := pickV_le hb (n := 4) a.1
    have p2 := p1.2 (by decide)
    obtain ⟨k1, k2⟩ := claM_ok (k := (cla1 bs (pickC bs 3 c)).l.length + 1) (pickV bs 4 (cla1 bs (pickC bs 3 c)).c).toNat ⟨pickC bs 4 (cla1 bs (pickC bs 3 c)).c, (cla1 bs (pickC bs 3 c)).l ++ [⟨(cla1 bs (pickC bs 3 c)).l.length + 1, 1530, 0, 0, 0⟩], 0⟩ _ (okCur_pick a) (by simp only [List.length_append, List.length_singleton]; omega)
    exact ⟨okCur_mono k1 (by omega), by unfold cla2; omega⟩

end Go.Proofs.YtdeobicgildamaaGreatDoor
