/- A drawn family. -/
import Derived.Test.YthjafngffkhffaaCur
import Derived.Test.YthjafngffkhffaaFam2
import Derived.WalkKit
import Derived.WalkSpells
import Derived.KernelRfl
namespace Go.Proofs.Ythjafngffkhffaa
open Go.RowKit
set_option linter.unusedVariables false
set_option linter.unusedSimpArgs false

attribute [local go_sem] PerV.d PerV.cs perL famD curO codL

attribute [local simp] refs_dmap perC_all perC_plains ints_plain ints_all ints_all1 ints_plain_take curO codL

def w15 (b : Int) : Int := IntKind.i64.wrap (b + 15)

def mayW (l : List PerV) (id : Int) (p : PerV) : Bool := mayG (parX w15) l id p

structure TryS where
  c : CurV
  p : PerV

def tryF (bs : List Int) (l : List PerV) (s : TryS) : TryS :=
  if 1 < l.length ∧ s.p.one = 0 then
    if (l.getD (pickV bs l.length s.c).toNat PerV.zero).id ≠ (l.getD (pickV bs l.length (pickC bs l.length s.c)).toNat PerV.zero).id ∧ mayW l (l.getD (pickV bs l.length s.c).toNat PerV.zero).id s.p = true ∧ mayW l (l.getD (pickV bs l.length (pickC bs l.length s.c)).toNat PerV.zero).id s.p = true then
      ⟨pickC bs l.length (pickC bs l.length s.c), { s.p with one := (l.getD (pickV bs l.length s.c).toNat PerV.zero).id, two := (l.getD (pickV bs l.length (pickC bs l.length s.c)).toNat PerV.zero).id }⟩
    else ⟨pickC bs l.length (pickC bs l.length s.c), s.p⟩
  else s

def tryN (bs : List Int) (l : List PerV) : Nat → TryS → TryS
  | 0, s => s
  | n + 1, s => tryN bs l n (tryF bs l s)

theorem tryN_id {bs : List Int} {l : List PerV} {s : TryS} (h : ¬ (1 < l.length ∧ s.p.one = 0)) : ∀ n, tryN bs l n s = s
  | 0 => rfl
  | n + 1 => by
    rw [tryN, tryF, if_neg h]
    exact tryN_id h n

theorem tryF_ok {bs : List Int} {l : List PerV} {s : TryS} {m : Nat} (h : okCur m s.c) : okCur (m + 4) (tryF bs l s).c ∧ (tryF bs l s).p.born = s.p.born ∧ (tryF bs l s).p.id = s.p.id := by
  unfold tryF
  split
  · split
    · exact ⟨okCur_pick (okCur_pick h), rfl, rfl⟩
    · exact ⟨okCur_pick (okCur_pick h), rfl, rfl⟩
  · exact ⟨okCur_mono h (by omega), rfl, rfl⟩

theorem tryN_ok {bs : List Int} {l : List PerV} : ∀ (n : Nat) {s : TryS} {m : Nat}, okCur m s.c → okCur (m + 4 * n) (tryN bs l n s).c ∧ (tryN bs l n s).p.born = s.p.born ∧ (tryN bs l n s).p.id = s.p.id
  | 0, s, m, h => ⟨h, rfl, rfl⟩
  | n + 1, s, m, h => by
    obtain ⟨h1, h2, h3⟩ := tryF_ok (bs := bs) (l := l) h
    obtain ⟨k1, k2, k3⟩ := tryN_ok n (bs := bs) (l := l) h1
    exact ⟨okCur_mono k1 (by omega), k2.trans h2, k3.trans h3⟩

structure FamS where
  c : CurV
  l : List PerV
  id : Int

def famA (bs : List Int) (s : FamS) : TryS :=
  let c1 := pickC bs 3 s.c
  let c2 := pickC bs 20 c1
  let c3 := pickC bs 2 c2
  let born := 1500 + 8 * s.l.length + pickV bs 20 c1
  if oneV bs 2 c2 = true then ⟨pickC bs 5 c3, ⟨s.id + 1 + pickV bs 3 s.c, born, born + amV bs [0, 20, 40, 60, 80] 5 c3, 0, 0⟩⟩
  else ⟨c3, ⟨s.id + 1 + pickV bs 3 s.c, born, 0, 0, 0⟩⟩

def famF (bs : List Int) (s : FamS) : FamS := ⟨(tryN bs s.l 3 (famA bs s)).c, s.l ++ [(tryN bs s.l 3 (famA bs s)).p], s.id + 1 + pickV bs 3 s.c⟩

def famN (bs : List Int) : Nat → FamS → FamS
  | 0, s => s
  | n + 1, s => famN bs n (famF bs s)

theorem famA_ok {bs : List Int} (hb : okCod bs) {s : FamS} {m : Nat} (h : okCur m s.c) : okCur (m + 8) (famA bs s).c ∧ 1500 ≤ (famA bs s).p.born ∧ (famA bs s).p.born ≤ 1520 + 8 * s.l.length ∧ s.id + 1 ≤ (famA bs s).p.id ∧ (famA bs s).p.id ≤ s.id + 4 := by
  have h1 := pickV_le hb (n := 3) h.1
  have h2 := pickV_le hb (n := 20) (c := pickC bs 3 s.c) (okCur_pick h).1
  have k1 := okCur_pick (bs := bs) (n := 2) (okCur_pick (bs := bs) (n := 20) (okCur_pick (bs := bs) (n := 3) h))
  have h3 := h1.2 (by decide)
  have h4 := h2.2 (by decide)
  unfold famA
  simp only
  split
  · exact ⟨okCur_pick k1, by simp only; omega, by simp only; omega, by simp only; omega, by simp only; omega⟩
  · exact ⟨okCur_mono k1 (by omega), by simp only; omega, by simp only; omega, by simp only; omega, by simp only; omega⟩

theorem famN_len {bs : List Int} : ∀ (n : Nat) (s : FamS), (famN bs n s).l.length = s.l.length + n
  | 0, s => rfl
  | n + 1, s => by
    rw [famN, famN_len n, famF]
    simp only [List.length_append, List.length_singleton]
    omega

theorem famN_cur {bs : List Int} (hb : okCod bs) : ∀ (n : Nat) (s : FamS) (m : Nat), okCur m s.c → okCur (m + 20 * n) (famN bs n s).c
  | 0, s, m, h => h
  | n + 1, s, m, h => by
    have h1 := (tryN_ok 3 (bs := bs) (l := s.l) (famA_ok hb h).1).1
    have := famN_cur hb n (famF bs s) (m + 20) (by rw [famF]; exact okCur_mono h1 (by omega))
    exact okCur_mono this (by omega)

def famZ (bs : List Int) (c : CurV) : FamS := famN bs (pickV bs 12 c).toNat ⟨pickC bs 12 c, [], 0⟩

end Go.Proofs.Ythjafngffkhffaa
