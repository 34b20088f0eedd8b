/- Sorting a list of numbers in place: the library's contract, over an own object. -/
/- Draws of a family and of persons. -/
/- A drawn clan: plain facts. -/
/- The marks along a line. -/
import Derived.Test.YtdeobicgildamaaBrg
import Derived.Test.YtdeobicgildamaaAsc
import Derived.WalkKit
import Derived.WalkSpells
import Derived.KernelRfl
import Derived.Sort.Grow
import Derived.Test.YtdeobicgildamaaGlob
import Derived.Test.YtdeobicgildamaaDrG2
import Derived.Test.YtdeobicgildamaaDrP
import Derived.Test.YtdeobicgildamaaDrG
import Derived.Test.YtdeobicgildamaaFam13
namespace Go.Proofs.Ytdeobicgildamaa
open Go.RowKit Go.Sort
set_option linter.unusedVariables false
set_option linter.unusedSimpArgs false

theorem vD_int (zs : List Int) : (zs.map (Value.int .i64)).map D.v = zs.map D.int := by
  rw [List.map_map]
  rfl

theorem holds_id {zs : List Int} {w : World} {b off : Nat} (h : Holds id w b off (zs.map (Value.int .i64)).toArray) : Holds (Value.int .i64) w b off zs.toArray := fun j hj => by
  have h1 := h j (by simpa using hj)
  simp only [List.size_toArray] at hj
  simpa [hj] using h1

theorem putCells_id (off : Nat) (zs : List Int) (c : Array Value) : putCells (Value.int .i64) off zs.toArray c = putCells id off (zs.map (Value.int .i64)).toArray c := by
  unfold putCells
  apply Array.ext
  · simp
  · intro i h1 h2
    simp only [Array.getElem_mapIdx, List.size_toArray, List.length_map, id_eq]
    split
    · rename_i h
      have hlt : i - off < zs.length := by omega
      simp [hlt]
    · rfl

theorem putRow_id (w : World) (b off : Nat) (zs : List Int) : putRow (Value.int .i64) w b off zs.toArray = putRow id w b off (zs.map (Value.int .i64)).toArray := by
  unfold putRow
  congr 1
  funext c
  exact putCells_id off zs c

theorem sortOk : FnOk Try.prog 46 := ⟨_, Try.func46, by kernel_rfl, by kernel_rfl⟩

theorem sort_some (zs : List Int) (hne : zs ≠ []) (hl : zs.length ≤ 1048576) : FnS Try.prog 46 [(5000, .ds (zs.map D.int))] [.bs 5000 0 zs.length 1] [(5000, .ds ((srtI zs).map D.int))] (.tu []) := by
  have h := fnS_put sortOk (zs.map (Value.int .i64)) ((srtI zs).map (Value.int .i64)) (by simpa using hne) (fun x hx => by
    obtain ⟨n, _, rfl⟩ := List.mem_map.1 hx
    rfl) (by simp [srtI_len]) zs.length 1 (List.length_pos_iff.2 hne) [] [] (fun w0 w ob ν ys hy => by simpa only [VRs] using hy) (fun w b off cap hlt hH hcap => by
      have := Try.slices_Sort_int b off cap zs w (holds_id hH) hlt (by omega)
      refine Calls.mono this fun e w' hh => ?_
      obtain ⟨he, n, os, hw⟩ := hh
      refine ⟨he, n, os, ?_⟩
      rw [hw, putRow_id]
      rfl)
  simpa only [vD_int] using h

theorem sort_none : FnS Try.prog 46 [(5000, .ds [])] [.bs 5000 0 0 1] [(5000, .ds [])] (.tu []) := by
  refine ⟨sortOk, fun w ν Dt vs hDt hm hv => ?_⟩
  simp only [VRs] at hv
  obtain ⟨y, ys, rfl, hy, rfl⟩ := hv
  have hy2 : ∃ p cap, y = .slice p 0 cap := by
    simp only [VR] at hy
    obtain ⟨_, hy⟩ := hy (by simp [lookO])
    rcases hy with ⟨_, h1, _⟩ | ⟨b, base, cap, a, c, T, _, h1, _⟩
    · exact ⟨_, _, h1⟩
    · exact ⟨_, _, h1⟩
  obtain ⟨p, cap, rfl⟩ := hy2
  refine (Try.slices_Sort_int_none p cap w).mono fun e w' hh => ?_
  obtain ⟨rfl, rfl⟩ := hh
  exact ⟨_, ν, rfl, Keep.refl _ _, Rows.refl _, hm, by simp only [VR, VRs]; exact ⟨[], rfl, rfl⟩, fun s o o' h1 h2 => by rw [h1] at h2; cases h2; exact ⟨rfl, rfl⟩⟩

theorem sort_hi (zs : List Int) (hl : zs.length ≤ 1048576) : FnS Try.prog 46 [(5000, .ds (zs.map D.int))] [.bs 5000 0 zs.length 1] [(5000, .ds ((srtI zs).map D.int))] (.tu []) := by
  by_cases h : zs = []
  · subst h
    have e : srtI [] = [] := by simp [srtI]
    rw [e]
    exact sort_none
  · exact sort_some zs h hl

theorem sort_s (s : Nat) (zs : List Int) (hl : zs.length ≤ 1048576) : FnS Try.prog 46 [(s, .ds (zs.map D.int))] [.bs s 0 zs.length 1] [(s, .ds ((srtI zs).map D.int))] (.tu []) := by
  have h := (sort_hi zs hl).sw 5000 s
  simpa only [swO, AV.swL, AV.sw, OB.sw, swp, if_true] using h

end Go.Proofs.Ytdeobicgildamaa

namespace Go.Proofs.Ytdeobicgildamaa
open Go.RowKit
set_option linter.unusedVariables false
set_option linter.unusedSimpArgs false

attribute [local go_sem] PerV.d PerV.cs perL famD curO codL perO

attribute [local simp] refs_dmap perC_all perC_plains ints_plain ints_all ints_all1 ints_plain_take curO codL perO

theorem zero_cur : zeroV Try.prog 71 = [Value.slice none 0 0, Value.int IntKind.i64 0, Value.int IntKind.u64 0] := by kernel_rfl

attribute [local go_sem] zero_cur

theorem swp_1 {s : Nat} (hs : s < 5000) : swp 5000 s 5001 = 5001 := by
  have : 5001 ≠ s := by omega
  simp [swp, this]

theorem swp_2 {s t : Nat} (hs : s < 5000) (hst : s ≠ t) : swp 5001 t s = s := by
  have h1 : s ≠ 5001 := by omega
  simp [swp, h1, hst]

theorem person_at (s t : Nat) (bs : List Int) (l : List PerV) (c : CurV) (hb : okCod bs) (h0 : okCur 100000 c) (hl : l.length ≤ 1000) (hs : s < 5000) (ht : t < 5000) (hst : s ≠ t) : FnS Try.prog 54 [(s, curO bs c), (t, .ds (perC l))] [.bp s 0, .ag [.bs t 0 l.length 5]] [(s, curO bs (p18C bs l c)), (t, .ds (perC l))] (.d (.int (p18V bs l c))) := by
  have h := ((person_hi bs l c hb h0 hl).sw 5000 s).sw 5001 t
  simpa only [curO, swO, AV.swL, AV.sw, OB.sw, sw_self, swp_1 hs, swp_2 hs hst] using h

def cur0 : CurV := ⟨0, 0⟩

theorem cur0_ok (n : Nat) : okCur n cur0 := ⟨Int.le_refl _, Int.natCast_nonneg _⟩

def dF (bs : List Int) : List PerV := (anyZ bs cur0).l

def dP (bs : List Int) : Int := p18V bs (dF bs) (anyZ bs cur0).c

def hTab : List Int := [1500, 1520, 1540, 1560, 1580, 1600, 1700, 0, 3000]

def dHC (bs : List Int) : CurV := p18C bs (dF bs) (anyZ bs cur0).c

def dHN (bs : List Int) : Nat := 7 + ((pickV bs 24 (dHC bs)).toNat / 11)

def dY (bs : List Int) : Int := amV bs hTab (dHN bs) (pickC bs 24 (dHC bs))

end Go.Proofs.Ytdeobicgildamaa

namespace Go.Proofs.Ytdeobicgildamaa
open Go.RowKit
set_option linter.unusedVariables false
set_option linter.unusedSimpArgs false

def y19V (bs : List Int) (c : CurV) : Int := if oneV bs 16 c = true then amV bs [0, 3000, 1, 2999, -1] 5 (pickC bs 16 c) else 1500 + 5 * pickV bs 20 (pickC bs 16 c)

def y19C (bs : List Int) (c : CurV) : CurV := if oneV bs 16 c = true then pickC bs 5 (pickC bs 16 c) else pickC bs 20 (pickC bs 16 c)

def claA (bs : List Int) (s : FamS) : FamS :=
  let c1 := pickC bs 12 s.c
  let born := 1525 + pickV bs 12 s.c
  if oneV bs 3 c1 = true then ⟨pickC bs 3 (pickC bs 3 c1), s.l ++ [⟨s.l.length + 1, born, born + amV bs [1, 40, 60] 3 (pickC bs 3 c1), 1, 2⟩], 0⟩
  else ⟨pickC bs 3 c1, s.l ++ [⟨s.l.length + 1, born, 0, 1, 2⟩], 0⟩

def claN (bs : List Int) : Nat → FamS → FamS
  | 0, s => s
  | n + 1, s => claN bs n (claA bs s)

def claB (bs : List Int) (k : Int) (s : FamS) : FamS := ⟨pickC bs 10 s.c, s.l ++ [⟨s.l.length + 1, 1552 + pickV bs 10 s.c, 0, 3, k⟩], 0⟩

def claM (bs : List Int) (k : Int) : Nat → FamS → FamS
  | 0, s => s
  | n + 1, s => if s.l.length < 16 then claM bs k n (claB bs k s) else s

def cla1 (bs : List Int) (c : CurV) : FamS :=
  let c2 := pickC bs 3 c
  let c3 := pickC bs 2 c2
  claN bs (1 + pickV bs 9 c3).toNat ⟨pickC bs 9 c3, [⟨1, 1500, amV bs [0, 1560, 1580] 3 c, 0, 0⟩, ⟨2, 1505, amV bs [0, 1570] 2 c2, 0, 0⟩], 0⟩

def cla2 (bs : List Int) (s : FamS) : FamS := claM bs (s.l.length + 1) (pickV bs 4 s.c).toNat ⟨pickC bs 4 s.c, s.l ++ [⟨s.l.length + 1, 1530, 0, 0, 0⟩], 0⟩

def claZ (bs : List Int) (c : CurV) : FamS := if oneV bs 3 c = true then anyZ bs (pickC bs 3 c) else cla2 bs (cla1 bs (pickC bs 3 c))

theorem claA_ok {bs : List Int} (s : FamS) (m : Nat) (h : okCur m s.c) : okCur (m + 6) (claA bs s).c ∧ (claA bs s).l.length = s.l.length + 1 := by
  have h1 := okCur_pick (bs := bs) (n := 3) (okCur_pick (bs := bs) (n := 12) h)
  unfold claA
  simp only
  split
  · exact ⟨okCur_pick h1, by simp⟩
  · exact ⟨okCur_mono h1 (by omega), by simp⟩

theorem claN_ok {bs : List Int} : ∀ (n : Nat) (s : FamS) (m : Nat), okCur m s.c → okCur (m + 6 * n) (claN bs n s).c ∧ (claN bs n s).l.length = s.l.length + n
  | 0, s, m, h => ⟨h, rfl⟩
  | n + 1, s, m, h => by
    obtain ⟨h1, h2⟩ := claA_ok (bs := bs) s m h
    obtain ⟨k1, k2⟩ := claN_ok n (claA bs s) (m + 6) h1
    exact ⟨okCur_mono k1 (by omega), by rw [claN, k2, h2]; omega⟩

theorem claM_ok {bs : List Int} {k : Int} : ∀ (n : Nat) (s : FamS) (m : Nat), okCur m s.c → s.l.length ≤ 16 → okCur (m + 2 * n) (claM bs k n s).c ∧ (claM bs k n s).l.length ≤ 16
  | 0, s, m, h, h2 => ⟨h, h2⟩
  | n + 1, s, m, h, h2 => by
    rw [claM]
    split
    · obtain ⟨k1, k2⟩ := claM_ok (k := k) n (claB bs k s) (m + 2) (okCur_pick h) (by simp only [claB, List.length_append, List.length_singleton]; omega)
      exact ⟨okCur_mono k1 (by omega), k2⟩
    · exact ⟨okCur_mono h (by omega), h2⟩

theorem cla1_ok {bs : List Int} (hb : okCod bs) {c : CurV} {m : Nat} (h : okCur m c) : okCur (m + 100) (cla1 bs c).c ∧ (cla1 bs c).l.length ≤ 11 := by
  have h2 := okCur_pick (bs := bs) (n := 3) h
  have h3 := okCur_pick (bs := bs) (n := 2) h2
  have h4 := okCur_pick (bs := bs) (n := 9) h3
  have p1 := pickV_le hb (n := 9) h3.1
  have p2 := p1.2 (by decide)
  obtain ⟨k1, k2⟩ := claN_ok (bs := bs) (1 + pickV bs 9 (pickC bs 2 (pickC bs 3 c))).toNat ⟨pickC bs 9 (pickC bs 2 (pickC bs 3 c)), [⟨1, 1500, amV bs [0, 1560, 1580] 3 c, 0, 0⟩, ⟨2, 1505, amV bs [0, 1570] 2 (pickC bs 3 c), 0, 0⟩], 0⟩ _ h4
  refine ⟨okCur_mono k1 (by omega), ?_⟩
  unfold cla1
  simp only
  rw [k2]
  simp only [List.length_cons, List.length_nil]
  omega

theorem claZ_ok {bs : List Int} (hb : okCod bs) {c : CurV} {m : Nat} (h : okCur m c) : okCur (m + 500) (claZ bs c).c ∧ (claZ bs c).l.length ≤ 17 := by
  have h2 := okCur_pick (bs := bs) (n := 3) h
  unfold claZ
  split
  · obtain ⟨a, b⟩ := anyZ_ok hb h2
    exact ⟨okCur_mono a (by omega), b⟩
  · obtain ⟨a, b⟩ := cla1_ok hb h2
    have p1 := pickV_le hb (n := 4) a.1
    have p2 := p1.2 (by decide)
    obtain ⟨k1, k2⟩ := claM_ok (k := (cla1 bs (pickC bs 3 c)).l.length + 1) (pickV bs 4 (cla1 bs (pickC bs 3 c)).c).toNat ⟨pickC bs 4 (cla1 bs (pickC bs 3 c)).c, (cla1 bs (pickC bs 3 c)).l ++ [⟨(cla1 bs (pickC bs 3 c)).l.length + 1, 1530, 0, 0, 0⟩], 0⟩ _ (okCur_pick a) (by simp only [List.length_append, List.length_singleton]; omega)
    exact ⟨okCur_mono k1 (by omega), by unfold cla2; omega⟩

end Go.Proofs.Ytdeobicgildamaa

namespace Go.Proofs.Ytdeobicgildamaa
open Go.RowKit
set_option linter.unusedVariables false
set_option linter.unusedSimpArgs false

def mkO (l : List PerV) (y id : Int) : Option Int :=
  if (perOf l id).one = 0 then some 0
  else if 7 < 1 + ((cntB l id : Nat) : Int) then none
  else if 1 < 1 + ((cntB l id : Nat) : Int) then some (1 + ((cntB l id : Nat) : Int))
  else some (if aliveB l id y then 1 else 0)

theorem markD_mk (big : Int) (l : List PerV) (id y : Int) : markD big l id y = match mkO l y id with | none => .tu [.int big, .bool false] | some m => .tu [.int m, .bool true] := by
  unfold markD mkO
  repeat' split
  all_goals first | rfl | (rename_i h; cases h; rfl) | (rename_i h; cases h)

theorem markD_no {big : Int} {l : List PerV} {id y : Int} (h : mkO l y id = none) : markD big l id y = .tu [.int big, .bool false] := by rw [markD_mk, h]

theorem markD_yes {big m : Int} {l : List PerV} {id y : Int} (h : mkO l y id = some m) : markD big l id y = .tu [.int m, .bool true] := by rw [markD_mk, h]

theorem mkO_bnd {l : List PerV} {y id m : Int} (h : mkO l y id = some m) : 0 ≤ m ∧ m ≤ 7 := by
  unfold mkO at h
  repeat' split at h
  all_goals first | (cases h; done) | (cases h; omega) | (cases h; split <;> omega)

def stM (l : List PerV) (y : Int) (acc : Option (List Int)) (id : Int) : Option (List Int) :=
  match acc, mkO l y id with
  | some out, some m => some (if m = 0 then out else out ++ [m])
  | _, _ => none

def mksF (l : List PerV) (y : Int) (zs : List Int) : Option (List Int) := zs.foldl (stM l y) (some [])

theorem stM_none (l : List PerV) (y : Int) : ∀ zs : List Int, zs.foldl (stM l y) none = none
  | [] => rfl
  | _ :: zs => stM_none l y zs

theorem mksF_next {l : List PerV} {y : Int} {zs : List Int} {i : Nat} (h : i < zs.length) : mksF l y (zs.take (i + 1)) = stM l y (mksF l y (zs.take i)) (zs.getD i 0) := by
  rw [mksF, take_next 0 h, List.foldl_append]
  rfl

theorem mksF_no {l : List PerV} {y : Int} {zs : List Int} {i : Nat} (h : mksF l y (zs.take i) = none) : mksF l y zs = none := by
  have e : zs = zs.take i ++ zs.drop i := (List.take_append_drop i zs).symm
  unfold mksF at h ⊢
  rw [e, List.foldl_append, h]
  exact stM_none l y _

theorem mksF_len {l : List PerV} {y : Int} {zs out : List Int} (h : mksF l y zs = some out) : out.length ≤ zs.length := by
  have key : ∀ (zs a : List Int), ∀ out, zs.foldl (stM l y) (some a) = some out → out.length ≤ a.length + zs.length := by
    intro zs
    induction zs with
    | nil =>
      intro a out h
      cases h
      simp
    | cons z zs ih =>
      intro a out h
      rw [List.foldl_cons] at h
      cases hm : mkO l y z with
      | none =>
        rw [show stM l y (some a) z = none by simp only [stM, hm], stM_none] at h
        cases h
      | some m =>
        rw [show stM l y (some a) z = some (if m = 0 then a else a ++ [m]) by simp only [stM, hm]] at h
        have := ih _ _ h
        split at this
        · simp only [List.length_cons]; omega
        · simp only [List.length_append, List.length_cons, List.length_nil] at this ⊢; omega
  have := key zs [] out h
  simpa using this

def mksT (l : List PerV) (y : Int) (zs : List Int) : Option (List Int) := match mksF l y zs with
  | none => none
  | some out => if out.length ≤ 6 then some out else none

theorem mksT_none {l : List PerV} {y : Int} {zs : List Int} (h : mksF l y zs = none) : mksT l y zs = none := by rw [mksT, h]

theorem mksT_some {l : List PerV} {y : Int} {zs out : List Int} (h : mksF l y zs = some out) (h6 : out.length ≤ 6) : mksT l y zs = some out := by
  rw [mksT, h]
  simp only
  rw [if_pos h6]

theorem mksT_long {l : List PerV} {y : Int} {zs out : List Int} (h : mksF l y zs = some out) (h6 : ¬ out.length ≤ 6) : mksT l y zs = none := by
  rw [mksT, h]
  simp only
  rw [if_neg h6]

theorem mksT_len {l : List PerV} {y : Int} {zs out : List Int} (h : mksT l y zs = some out) : out.length ≤ 6 := by
  unfold mksT at h
  split at h
  · cases h
  · split at h
    · cases h
      assumption
    · cases h

def mksV (l : List PerV) (a to y : Int) : Option (List Int) := if toL l a to = [] then none else mksT l y ((toL l a to).drop 1)

def mksW (l : List PerV) (a to y : Int) : Option (List Int) := if (askF l a && askF l to && inR y 1 2999) = true then mksV l a to y else none

def mksD : Option (List Int) → D
  | none => .tu [intL [], .bool false]
  | some out => .tu [intL out, .bool true]

def mksN : Option (List Int) → D
  | none => .tu [.v (.slice none 0 0), .bool false]
  | some out => .tu [intL out, .bool true]

theorem mksV_len {l : List PerV} {a to y : Int} {out : List Int} (h : mksV l a to y = some out) : out.length ≤ 6 := by
  unfold mksV at h
  split at h
  · cases h
  · exact mksT_len h

end Go.Proofs.Ytdeobicgildamaa
