/- A drawn family that may be invalid: plain facts. -/
import Derived.Test.YtdeobicgildamaaGreatDoorPCode
import Derived.WalkKit
import Derived.WalkSpells
import Derived.KernelRfl
namespace Go.Proofs.YtdeobicgildamaaGreatDoor
open Go.RowKit
set_option linter.unusedVariables false
set_option linter.unusedSimpArgs false

def smallP (l : List PerV) (m : Int) : Prop := ∀ p ∈ l, 1 ≤ p.id ∧ p.id ≤ m ∧ 1500 ≤ p.born ∧ p.born ≤ 2000

theorem famN_small {bs : List Int} (hb : okCod bs) : ∀ (n : Nat) (s : FamS) (m : Nat), okCur m s.c → s.l.length + n ≤ 12 → 0 ≤ s.id → s.id + 4 * n ≤ 48 → smallP s.l 48 → smallP (famN bs n s).l 48
  | 0, s, m, h, _, _, _, k => k
  | n + 1, s, m, h, h1, h2, h3, k => by
    have a := famA_ok hb h
    have t := tryN_ok 3 (bs := bs) (l := s.l) a.1
    have p1 := pickV_le hb (n := 3) h.1
    have p2 := p1.2 (by decide)
    refine famN_small hb n (famF bs s) (m + 20) (okCur_mono t.1 (by omega)) ?_ ?_ ?_ ?_
    · simp only [famF, List.length_append, List.length_singleton]
      omega
    · simp only [famF]
      omega
    · simp only [famF]
      omega
    · intro p hp
      simp only [famF, List.mem_append, List.mem_singleton] at hp
      rcases hp with hp | rfl
      · exact k p hp
      · rw [t.2.1, t.2.2]
        obtain ⟨_, a2, a3, a4, a5⟩ := a
        exact ⟨by omega, by omega, by omega, by omega⟩

theorem famZ_ok {bs : List Int} (hb : okCod bs) {c : CurV} {m : Nat} (h : okCur m c) : okCur (m + 300) (famZ bs c).c ∧ (famZ bs c).l.length ≤ 11 ∧ smallP (famZ bs c).l 48 := by
  have p1 := pickV_le hb (n := 12) h.1
  have p2 := p1.2 (by decide)
  have k := okCur_pick (bs := bs) (n := 12) h
  obtain ⟨n, hn⟩ := Int.eq_ofNat_of_zero_le p1.1
  unfold famZ
  rw [hn, Int.toNat_natCast]
  refine ⟨okCur_mono (famN_cur hb n _ (m + 2) k) (by omega), ?_, ?_⟩
  · rw [famN_len]
    simp only [List.length_nil]
    omega
  · exact famN_small hb n _ (m + 2) k (by simp only [List.length_nil]; omega) (by simp) (by simp only; omega) (by intro p hp; exact absurd hp (by simp))

def manyN (bs : List Int) : Nat → FamS → FamS
  | 0, s => s
  | k + 1, s => if (s.l.length : Int) < 16 + pickV bs 2 s.c then manyN bs k ⟨pickC bs 2 s.c, s.l ++ [⟨s.id, 1700, 0, 0, 0⟩], s.id + 1⟩ else ⟨pickC bs 2 s.c, s.l, s.id⟩

theorem manyN_ok {bs : List Int} (hb : okCod bs) : ∀ (k : Nat) (s : FamS) (m : Nat), okCur m s.c → okCur (m + 2 * k) (manyN bs k s).c ∧ s.l.length ≤ (manyN bs k s).l.length ∧ (s.l.length ≤ 17 → (manyN bs k s).l.length ≤ 17) ∧ (∀ i, i < s.l.length → (manyN bs k s).l.getD i PerV.zero = s.l.getD i PerV.zero)
  | 0, s, m, h => ⟨h, Nat.le_refl _, fun h => h, fun _ _ => rfl⟩
  | k + 1, s, m, h => by
    have p1 := pickV_le hb (n := 2) h.1
    have p2 := p1.2 (by decide)
    have q := okCur_pick (bs := bs) (n := 2) h
    rw [manyN]
    split
    · rename_i hlt
      obtain ⟨a, b, c, d⟩ := manyN_ok hb k ⟨pickC bs 2 s.c, s.l ++ [⟨s.id, 1700, 0, 0, 0⟩], s.id + 1⟩ (m + 2) q
      simp only [List.length_append, List.length_singleton] at b c d
      refine ⟨okCur_mono a (by omega), by omega, fun _ => c (by omega), fun i hi => ?_⟩
      rw [d i (by omega), List.getD_eq_getElem?_getD, List.getD_eq_getElem?_getD, List.getElem?_append_left hi]
    · exact ⟨okCur_mono q (by omega), Nat.le_refl _, fun h => h, fun _ _ => rfl⟩

def anyM (bs : List Int) (z : FamS) (c2 : CurV) : FamS := manyN bs (18 - z.l.length) ⟨c2, z.l, (z.l.getD (z.l.length - 1) PerV.zero).id + 1⟩

def anyCh (bs : List Int) (z : FamS) (k : Nat) (n : Int) (c2 : CurV) : FamS :=
  let p := z.l.getD k PerV.zero
  if n = 0 then ⟨pickC bs 4 c2, z.l.set k { p with one := amV bs [0, p.id, 1, 999] 4 c2 }, 0⟩
  else if n = 1 then ⟨pickC bs 3 c2, z.l.set k { p with born := amV bs [0, 3000, 1480] 3 c2 }, 0⟩
  else if n = 2 then ⟨c2, z.l.set k { p with died := p.born - 1 }, 0⟩
  else if n = 3 then ⟨pickC bs 3 c2, z.l.set k { p with id := amV bs [0, 1000, 1] 3 c2 }, 0⟩
  else if n = 4 then ⟨(anyM bs z c2).c, (anyM bs z c2).l.set k p, 0⟩
  else ⟨c2, z.l.set k p, 0⟩

def anyZ (bs : List Int) (c : CurV) : FamS :=
  if (famZ bs c).l.length = 0 then famZ bs c
  else anyCh bs (famZ bs c) (pickV bs (famZ bs c).l.length (famZ bs c).c).toNat (pickV bs 30 (pickC bs (famZ bs c).l.length (famZ bs c).c)) (pickC bs 30 (pickC bs (famZ bs c).l.length (famZ bs c).c))

theorem anyZ_ok {bs : List Int} (hb : okCod bs) {c : CurV} {m : Nat} (h : okCur m c) : okCur (m + 400) (anyZ bs c).c ∧ (anyZ bs c).l.length ≤ 17 := by
  obtain ⟨h1, h2, _⟩ := famZ_ok hb h
  have q1 := okCur_pick (bs := bs) (n := (famZ bs c).l.length) h1
  have q2 := okCur_pick (bs := bs) (n := 30) q1
  unfold anyZ
  split
  · exact ⟨okCur_mono h1 (by omega), by omega⟩
  · unfold anyCh
    simp only
    split
    · exact ⟨okCur_mono (okCur_pick q2) (by omega), by simp only [List.length_set]; omega⟩
    · split
      · exact ⟨okCur_mono (okCur_pick q2) (by omega), by simp only [List.length_set]; omega⟩
      · split
        · exact ⟨okCur_mono q2 (by omega), by simp only [List.length_set]; omega⟩
        · split
          · exact ⟨okCur_mono (okCur_pick q2) (by omega), by simp only [List.length_set]; omega⟩
          · split
            · obtain ⟨a, _, b, _⟩ := manyN_ok hb (18 - (famZ bs c).l.length) ⟨_, (famZ bs c).l, ((famZ bs c).l.getD ((famZ bs c).l.length - 1) PerV.zero).id + 1⟩ _ q2
              exact ⟨okCur_mono a (by omega), by simp only [List.length_set]; exact b (by simp only; omega)⟩
            · exact ⟨okCur_mono q2 (by omega), by simp only [List.length_set]; omega⟩

end Go.Proofs.YtdeobicgildamaaGreatDoor
