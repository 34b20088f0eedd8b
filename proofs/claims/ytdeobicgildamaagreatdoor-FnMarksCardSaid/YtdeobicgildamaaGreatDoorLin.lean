/- Lines from an ancestor to a descendant: the nearest child with the smallest number, step by step, is the first line of all. -/
import Derived.Test.YtdeobicgildamaaGreatDoorBfs2
import Derived.WalkKit
import Derived.WalkSpells
import Derived.KernelRfl
namespace Go.Proofs.YtdeobicgildamaaGreatDoor
open Go.RowKit
set_option linter.unusedVariables false
set_option linter.unusedSimpArgs false

def nxtSt (U : List (Int × Int)) (d : Int) (next c : Int) : Int := if lkI c U = some (d - 1) ∧ (next = 0 ∨ c < next) then c else next

def nxtF (U : List (Int × Int)) (d : Int) (cs : List Int) : Int := cs.foldl (nxtSt U d) 0

theorem nxtF_next {U : List (Int × Int)} {d : Int} {cs : List Int} {i : Nat} (h : i < cs.length) : nxtF U d (cs.take (i + 1)) = nxtSt U d (nxtF U d (cs.take i)) (cs.getD i 0) := by
  rw [nxtF, take_next 0 h, List.foldl_append]
  rfl

theorem nxtF_snoc {U : List (Int × Int)} {d : Int} {cs : List Int} {c : Int} : nxtF U d (cs ++ [c]) = nxtSt U d (nxtF U d cs) c := by
  rw [nxtF, List.foldl_append]
  rfl

theorem nxtF_is {U : List (Int × Int)} {d : Int} (n : Nat) : ∀ (cs : List Int), cs.length = n → (∀ c ∈ cs, 0 < c) → (nxtF U d cs = 0 ∧ ∀ c ∈ cs, lkI c U ≠ some (d - 1)) ∨ (nxtF U d cs ∈ cs ∧ lkI (nxtF U d cs) U = some (d - 1) ∧ ∀ c ∈ cs, lkI c U = some (d - 1) → nxtF U d cs ≤ c) := by
  induction n with
  | zero =>
    intro cs h _
    obtain rfl := List.length_eq_zero_iff.1 h
    exact .inl ⟨rfl, by simp⟩
  | succ n ih =>
    intro cs h hp
    obtain ⟨r, c, rfl⟩ : ∃ r c, cs = r ++ [c] := ⟨cs.take n, cs.getD n 0, by rw [← take_next 0 (by omega), List.take_of_length_le (by omega)]⟩
    have hc : 0 < c := hp c (by simp)
    have := ih r (by simpa using h) (fun a ha => hp a (by simp [ha]))
    rw [nxtF_snoc]
    generalize nxtF U d r = z at *
    unfold nxtSt
    by_cases hk : lkI c U = some (d - 1)
    · rcases this with ⟨h1, h2⟩ | ⟨h1, h2, h3⟩
      · rw [if_pos ⟨hk, .inl h1⟩]
        refine .inr ⟨by simp, hk, fun a ha e => ?_⟩
        rcases List.mem_append.1 ha with ha | ha
        · exact absurd e (h2 a ha)
        · rw [List.mem_singleton.1 ha]
          exact Int.le_refl _
      · by_cases hl : c < z
        · rw [if_pos ⟨hk, .inr hl⟩]
          refine .inr ⟨by simp, hk, fun a ha e => ?_⟩
          rcases List.mem_append.1 ha with ha | ha
          · have := h3 a ha e
            omega
          · rw [List.mem_singleton.1 ha]
            exact Int.le_refl _
        · have hz : 0 < z := hp z (by simp [h1])
          rw [if_neg (by omega)]
          refine .inr ⟨by simp [h1], h2, fun a ha e => ?_⟩
          rcases List.mem_append.1 ha with ha | ha
          · exact h3 a ha e
          · rw [List.mem_singleton.1 ha]
            omega
    · rw [if_neg (fun h => hk h.1)]
      rcases this with ⟨h1, h2⟩ | ⟨h1, h2, h3⟩
      · refine .inl ⟨h1, fun a ha => ?_⟩
        rcases List.mem_append.1 ha with ha | ha
        · exact h2 a ha
        · rw [List.mem_singleton.1 ha]
          exact hk
      · refine .inr ⟨by simp [h1], h2, fun a ha e => ?_⟩
        rcases List.mem_append.1 ha with ha | ha
        · exact h3 a ha e
        · rw [List.mem_singleton.1 ha] at e
          exact absurd e hk

def lineF (U : List (Int × Int)) (l : List PerV) : Nat → Int → List Int
  | 0, a => [a]
  | n + 1, a => a :: lineF U l n (nxtF U ((n + 1 : Nat) : Int) (kidI l a))

theorem lineF_len (U : List (Int × Int)) (l : List PerV) : ∀ (n : Nat) (a : Int), (lineF U l n a).length = n + 1
  | 0, _ => rfl
  | n + 1, a => by rw [lineF, List.length_cons, lineF_len U l n]

theorem lineF_head (U : List (Int × Int)) (l : List PerV) (n : Nat) (a : Int) : ∃ r, lineF U l n a = a :: r := by
  cases n
  · exact ⟨_, rfl⟩
  · exact ⟨_, rfl⟩

def fstF (g : PerV → List Int) : List PerV → List Int
  | [] => []
  | p :: r => if (g p).length = 0 then fstF g r else g p

theorem fstF_app (g : PerV → List Int) : ∀ (a b : List PerV), fstF g (a ++ b) = if (fstF g a).length = 0 then fstF g b else fstF g a
  | [], b => by simp [fstF]
  | p :: a, b => by
    rw [List.cons_append, fstF, fstF]
    split
    · exact fstF_app g a b
    · rfl

theorem fstF_none {g : PerV → List Int} : ∀ {a : List PerV}, (∀ p ∈ a, g p = []) → fstF g a = []
  | [], _ => rfl
  | p :: a, h => by
    rw [fstF, h p (by simp)]
    exact fstF_none (a := a) (fun q hq => h q (by simp [hq]))

theorem fstF_some {g : PerV → List Int} : ∀ {a : List PerV}, fstF g a ≠ [] → ∃ p ∈ a, g p ≠ []
  | [], h => absurd rfl h
  | p :: a, h => by
    rw [fstF] at h
    split at h
    · obtain ⟨q, h1, h2⟩ := fstF_some (a := a) h
      exact ⟨q, by simp [h1], h2⟩
    · exact ⟨p, by simp, h⟩

theorem fstF_at {g : PerV → List Int} {a : List PerV} {i : Nat} (hi : i < a.length) (h0 : ∀ j, j < i → g (a.getD j PerV.zero) = []) (h1 : (g (a.getD i PerV.zero)).length ≠ 0) : fstF g a = g (a.getD i PerV.zero) := by
  have e : a = a.take i ++ a.drop i := (List.take_append_drop i a).symm
  have e2 : fstF g (a.take i) = [] := fstF_none (fun p hp => by
    rw [List.mem_take_iff_getElem] at hp
    obtain ⟨j, hj, rfl⟩ := hp
    have := h0 j (by omega)
    rwa [getD_eq _ (by omega)] at this)
  have e3 : fstF g (a.take i ++ a.drop i) = g (a.getD i PerV.zero) := by
    rw [fstF_app, e2, if_pos (List.length_nil), drop_next PerV.zero hi, fstF, if_neg h1]
  rwa [← e] at e3

def linS (l : List PerV) (to : Int) : Nat → List Int → Int → List Int
  | 0, pre, a => if a = to then pre ++ [a] else []
  | n + 1, pre, a => fstF (fun p => if chil p a then linS l to n (pre ++ [a]) p.id else []) l

theorem chil_iff {p : PerV} {a : Int} : chil p a = true ↔ p.one = a ∨ p.two = a := by simp [chil]

theorem per_pos {l : List PerV} (h : okFam l = true) {a : Int} (ha : 0 ≤ findP l a) : 1 ≤ a ∧ a ≤ 999 := by
  have h1 := okFam_mem h (perOf_in ha)
  have h2 := perOf_id ha
  simp only [okPer, Bool.and_eq_true, inR_iff] at h1
  omega

theorem chil_par {l : List PerV} (h : okFam l = true) {p : PerV} (hp : p ∈ l) {a : Int} (ha : 1 ≤ a) : chil p a = true ↔ a ∈ parI l p.id := by
  obtain ⟨h1, h2⟩ := perOf_mem h hp
  have h3 := two_zero h h2
  rw [chil_iff, parI, h1]
  rw [h1] at h3
  split
  · rename_i h0
    have := h3 h0
    simp only [List.not_mem_nil, iff_false, not_or]
    omega
  · simp only [List.mem_cons, List.not_mem_nil, or_false]
    constructor
    · rintro (e | e)
      · exact .inl e.symm
      · exact .inr e.symm
    · rintro (e | e)
      · exact .inl e.symm
      · exact .inr e.symm

theorem kidI_par {l : List PerV} (h : okFam l = true) {a c : Int} (ha : 1 ≤ a) : c ∈ kidI l a ↔ 0 ≤ findP l c ∧ a ∈ parI l c := by
  rw [kidI, List.mem_map]
  constructor
  · rintro ⟨p, hp, rfl⟩
    obtain ⟨h1, h2⟩ := kids_mem.1 hp
    exact ⟨(perOf_mem h h1).2, (chil_par h h1 ha).1 h2⟩
  · rintro ⟨h1, h2⟩
    refine ⟨perOf l c, kids_mem.2 ⟨perOf_in h1, (chil_par h (perOf_in h1) ha).2 ?_⟩, perOf_id h1⟩
    rw [perOf_id h1]
    exact h2

theorem linS_pth {l : List PerV} (h : okFam l = true) (to : Int) : ∀ (n : Nat) (pre : List Int) (a : Int), 0 ≤ findP l a → linS l to n pre a ≠ [] → pth (parI l) to n a
  | 0, pre, a, _, hn => by
    rw [linS] at hn
    split at hn
    · assumption
    · exact absurd rfl hn
  | n + 1, pre, a, ha, hn => by
    rw [linS] at hn
    obtain ⟨p, hp, h1⟩ := fstF_some hn
    split at h1
    · rename_i hc
      exact ⟨p.id, linS_pth h to n _ _ (perOf_mem h hp).2 h1, (chil_par h hp (per_pos h ha).1).1 hc⟩
    · exact absurd rfl h1

theorem bfs_least {l : List PerV} {to a : Int} (h : okFam l = true) (ht : 0 ≤ findP l to) {v : Int} (hv : lkI a (bfsI l to) = some v) : ∃ n : Nat, v = n ∧ pth (parI l) to n a ∧ ∀ m, pth (parI l) to m a → n ≤ m := by
  have J := bfsI_J h ht
  obtain ⟨i, hi, e⟩ := idx_of_lk hv
  obtain ⟨n, n1, n2⟩ := J.a i hi
  rw [e] at n1 n2
  refine ⟨n, n1, n2, fun m hm => ?_⟩
  obtain ⟨u, u1, u2⟩ := J.done m a hm
  rw [hv] at u1
  cases u1
  simp only at n1
  omega

theorem bfs_in {l : List PerV} {to a : Int} (h : okFam l = true) (ht : 0 ≤ findP l to) {v : Int} (hv : lkI a (bfsI l to) = some v) : 0 ≤ findP l a :=
  (bfsI_ok h ht).1.2 a (List.mem_map.2 ⟨_, lkI_some hv, rfl⟩)

theorem bfs_near {l : List PerV} {to a : Int} (h : okFam l = true) (ht : 0 ≤ findP l to) {n : Nat} (hv : lkI a (bfsI l to) = some ((n + 1 : Nat) : Int)) {x : Int} (h1 : pth (parI l) to n x) (h2 : a ∈ parI l x) : lkI x (bfsI l to) = some (n : Int) := by
  obtain ⟨u, u1, u2⟩ := (bfsI_J h ht).done n x h1
  obtain ⟨m, m1, m2, _⟩ := bfs_least h ht u1
  obtain ⟨k, k1, _, k3⟩ := bfs_least h ht hv
  have := k3 (m + 1) ⟨x, m2, h2⟩
  rw [u1]
  congr 1
  omega

theorem nxtF_near {l : List PerV} {to a : Int} (h : okFam l = true) (ht : 0 ≤ findP l to) {n : Nat} (hv : lkI a (bfsI l to) = some ((n + 1 : Nat) : Int)) : nxtF (bfsI l to) ((n + 1 : Nat) : Int) (kidI l a) ∈ kidI l a ∧ lkI (nxtF (bfsI l to) ((n + 1 : Nat) : Int) (kidI l a)) (bfsI l to) = some (n : Int) ∧ ∀ c ∈ kidI l a, lkI c (bfsI l to) = some (n : Int) → nxtF (bfsI l to) ((n + 1 : Nat) : Int) (kidI l a) ≤ c := by
  have ha := bfs_in h ht hv
  have hpos := (per_pos h ha).1
  have e : ((n + 1 : Nat) : Int) - 1 = (n : Int) := by omega
  rcases nxtF_is (U := bfsI l to) (d := ((n + 1 : Nat) : Int)) _ (kidI l a) rfl (fun c hc => (per_pos h ((kidI_par h hpos).1 hc).1).1) with ⟨_, h2⟩ | h2
  · exfalso
    obtain ⟨m, m1, m2, _⟩ := bfs_least h ht hv
    obtain rfl : m = n + 1 := by omega
    obtain ⟨x, x1, x2⟩ := m2
    have hx := bfs_near h ht hv x1 x2
    exact h2 x ((kidI_par h hpos).2 ⟨bfs_in h ht hx, x2⟩) (by rw [e]; exact hx)
  · rw [e] at h2
    exact h2

theorem linS_line {l : List PerV} {to : Int} (h : okFam l = true) (ht : 0 ≤ findP l to) : ∀ (n : Nat) (pre : List Int) (a : Int), lkI a (bfsI l to) = some (n : Int) → linS l to n pre a = pre ++ lineF (bfsI l to) l n a
  | 0, pre, a, hv => by
    obtain ⟨m, m1, m2, _⟩ := bfs_least h ht hv
    obtain rfl : m = 0 := by omega
    have m3 : a = to := m2
    rw [linS, if_pos m3, lineF]
  | n + 1, pre, a, hv => by
    have ha := bfs_in h ht hv
    have hpos := (per_pos h ha).1
    obtain ⟨h1, h2, h3⟩ := nxtF_near h ht hv
    rw [linS, lineF]
    obtain ⟨c, hc⟩ : ∃ c, nxtF (bfsI l to) ((n + 1 : Nat) : Int) (kidI l a) = c := ⟨_, rfl⟩
    rw [hc] at h1 h2 h3 ⊢
    have hcin := bfs_in h ht h2
    obtain ⟨q1, q2, q3⟩ := findP_lt (l := l) (id := c) (by omega)
    have hpc : l.getD (findP l c).toNat PerV.zero = perOf l c := rfl
    have hch : chil (perOf l c) a = true := (chil_par h (perOf_in hcin) hpos).2 (by rw [perOf_id hcin]; exact ((kidI_par h hpos).1 h1).2)
    have ih := linS_line h ht n (pre ++ [a]) c h2
    rw [fstF_at (i := (findP l c).toNat) q1 ?_ ?_]
    · rw [hpc, if_pos hch, perOf_id hcin, ih, List.append_assoc]
      rfl
    · intro j hj
      by_cases hcj : chil (l.getD j PerV.zero) a = true
      · rw [if_pos hcj]
        by_cases hne : linS l to n (pre ++ [a]) (l.getD j PerV.zero).id = []
        · exact hne
        · exfalso
          have hjm : l.getD j PerV.zero ∈ l := getD_mem _ (by omega)
          have hp := linS_pth h to n _ _ (perOf_mem h hjm).2 hne
          have hin := (chil_par h hjm hpos).1 hcj
          have := h3 _ ((kidI_par h hpos).2 ⟨(perOf_mem h hjm).2, hin⟩) (bfs_near h ht hv hp hin)
          have := okFam_lt h hj q1
          rw [q2] at this
          omega
      · rw [if_neg hcj]
    · rw [hpc, if_pos hch, perOf_id hcin, ih]
      simp only [List.length_append, lineF_len, List.length_cons]
      omega

theorem lineF_in {l : List PerV} {to : Int} (h : okFam l = true) (ht : 0 ≤ findP l to) : ∀ (n : Nat) (a : Int), lkI a (bfsI l to) = some (n : Int) → ∀ c ∈ lineF (bfsI l to) l n a, 0 ≤ findP l c
  | 0, a, hv, c, hc => by
    rw [lineF, List.mem_singleton] at hc
    rw [hc]
    exact bfs_in h ht hv
  | n + 1, a, hv, c, hc => by
    rw [lineF] at hc
    rcases List.mem_cons.1 hc with rfl | hc
    · exact bfs_in h ht hv
    · exact lineF_in h ht n _ (nxtF_near h ht hv).2.1 c hc

def stair (L : List (Int × Int)) : Prop := ∀ i, i < L.length → (L.getD i (0, 0)).2 ≤ i

theorem stair_fold {w : Int} : ∀ (cs : List Int) (L : List (Int × Int)), stair L → w ≤ L.length → stair (cs.foldl (stB w) L)
  | [], _, h, _ => h
  | c :: cs, L, h, hw => by
    rw [List.foldl_cons]
    unfold stB
    split
    · exact stair_fold cs L h hw
    · refine stair_fold cs _ (fun i hi => ?_) (by rw [List.length_append]; simp; omega)
      by_cases e : i < L.length
      · rw [getD_app1 e]
        exact h i e
      · have := getD_app2 (show L.length ≤ i by omega) hi
        rw [List.mem_singleton.1 this]
        simp only
        omega

theorem stair_bfs {nx : Int → List Int} : ∀ (n : Nat) (L : List (Int × Int)) (j : Nat), stair L → stair (bfsF nx n L j)
  | 0, _, _, h => h
  | n + 1, L, j, h => by
    rw [bfsF]
    split
    · rename_i hj
      refine stair_bfs n _ _ (stair_fold _ _ h ?_)
      have := h j hj
      omega
    · exact h

theorem bfsI_lt {l : List PerV} {to a v : Int} (h : okFam l = true) (ht : 0 ≤ findP l to) (hv : lkI a (bfsI l to) = some v) : v < l.length := by
  have h1 : stair (bfsI l to) := stair_bfs _ _ _ (fun i hi => by
    simp only [List.length_singleton] at hi
    obtain rfl : i = 0 := by omega
    exact Int.le_refl _)
  obtain ⟨i, hi, e⟩ := idx_of_lk hv
  have h2 := h1 i hi
  rw [e] at h2
  have h3 := okB_len (bfsI_ok h ht)
  simp only at h2
  omega

def toL (l : List PerV) (a to : Int) : List Int :=
  match lkI a (bfsI l to) with
  | none => []
  | some n => lineF (bfsI l to) l n.toNat a

def toS (l : List PerV) (a to : Int) : Nat → List Int
  | 0 => []
  | k + 1 => if (toS l a to k).length = 0 then linS l to k [] a else toS l a to k

theorem toS_none {l : List PerV} {a to : Int} (k : Nat) (h : ∀ n, n < k → linS l to n [] a = []) : toS l a to k = [] := by
  induction k with
  | zero => rfl
  | succ k ih =>
    rw [toS, ih (fun n hn => h n (by omega)), if_pos (List.length_nil)]
    exact h k (by omega)

theorem toS_is {l : List PerV} {a to : Int} (h : okFam l = true) (ha : 0 ≤ findP l a) (ht : 0 ≤ findP l to) : toS l a to l.length = toL l a to := by
  unfold toL
  cases hv : lkI a (bfsI l to) with
  | none =>
    refine toS_none _ (fun n _ => ?_)
    by_cases hn : linS l to n [] a = []
    · exact hn
    · obtain ⟨u, u1, _⟩ := (bfsI_J h ht).done n a (linS_pth h to n _ _ ha hn)
      rw [hv] at u1
      cases u1
  | some v =>
    obtain ⟨n, rfl, n2, n3⟩ := bfs_least h ht hv
    have hlt := bfsI_lt h ht hv
    simp only [Int.toNat_natCast]
    have hz : toS l a to n = [] := toS_none n (fun m hm => by
      by_cases hn : linS l to m [] a = []
      · exact hn
      · have := n3 m (linS_pth h to m _ _ ha hn)
        omega)
    have h1 : toS l a to (n + 1) = lineF (bfsI l to) l n a := by
      rw [toS, hz, if_pos (List.length_nil), linS_line h ht n [] a hv]
      rfl
    have h2 : ∀ k, toS l a to (n + 1 + k) = lineF (bfsI l to) l n a := fun k => by
      induction k with
      | zero => exact h1
      | succ k ih =>
        rw [show n + 1 + (k + 1) = (n + 1 + k) + 1 from by omega, toS, ih, if_neg (by rw [lineF_len]; omega)]
    have := h2 (l.length - (n + 1))
    rwa [show n + 1 + (l.length - (n + 1)) = l.length from by omega] at this

theorem toL_in {l : List PerV} {a to : Int} (h : okFam l = true) (ht : 0 ≤ findP l to) : ∀ c ∈ toL l a to, 0 ≤ findP l c := by
  unfold toL
  cases hv : lkI a (bfsI l to) with
  | none => simp
  | some v =>
    obtain ⟨n, rfl, _, _⟩ := bfs_least h ht hv
    simp only [Int.toNat_natCast]
    exact lineF_in h ht n a hv

theorem toL_len {l : List PerV} {a to : Int} (h : okFam l = true) (ht : 0 ≤ findP l to) : (toL l a to).length ≤ l.length := by
  unfold toL
  cases hv : lkI a (bfsI l to) with
  | none => simp
  | some v =>
    obtain ⟨n, rfl, _, _⟩ := bfs_least h ht hv
    have := bfsI_lt h ht hv
    simp only [Int.toNat_natCast, lineF_len]
    omega

end Go.Proofs.YtdeobicgildamaaGreatDoor
