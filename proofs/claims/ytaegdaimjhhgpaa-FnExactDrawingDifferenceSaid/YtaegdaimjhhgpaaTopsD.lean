/- Arms are drawn: what the painted rows hold. -/
import Derived.Test.YtaegdaimjhhgpaaTops
import Derived.Test.YtaegdaimjhhgpaaPlace3
import Derived.WalkKit
import Derived.WalkSpells
import Derived.KernelRfl
namespace Go.Proofs.Ytaegdaimjhhgpaa
open Go.RowKit
set_option linter.unusedVariables false
set_option linter.unusedSimpArgs false

theorem rowG_at {p : Nat → Nat → Bool} {v : Int} {bx y : Nat} {zs : List (List Int)} (hz : ok20 zs) (hy : y < 24) {a b : Nat} : ∀ n, bx + n ≤ 20 → ((rowG p v bx y zs n).getD b []).getD a 0 = if (b = y ∧ bx ≤ a ∧ a < bx + n) ∧ p a b = true then v else (zs.getD b []).getD a 0
  | 0, _ => by
    rw [if_neg (fun q => by omega)]
    rfl
  | n + 1, h => by
    have ih := rowG_at (v := v) (p := p) (bx := bx) hz hy (a := a) (b := b) n (by omega)
    rw [rowG, putP]
    by_cases e : bx + n = a ∧ y = b
    · obtain ⟨rfl, rfl⟩ := e
      split
      · rename_i g
        rw [setG_get (rowG_ok hz n) (show bx + n < 20 by omega) hy, if_pos ⟨rfl, rfl⟩, if_pos ⟨by omega, g⟩]
      · rename_i g
        rw [ih, if_neg (fun q => by omega), if_neg (fun q => g q.2)]
    · have q : (b = y ∧ bx ≤ a ∧ a < bx + n) ↔ (b = y ∧ bx ≤ a ∧ a < bx + (n + 1)) := by omega
      split
      · rw [setG_get (rowG_ok hz n) (show bx + n < 20 by omega) hy, if_neg e, ih]
        simp only [q]
      · rw [ih]
        simp only [q]

theorem boxG_at {p : Nat → Nat → Bool} {v : Int} {bx by' s : Nat} {zs : List (List Int)} (hz : ok20 zs) (hs : bx + s ≤ 20) {a b : Nat} : ∀ n, by' + n ≤ 24 → ((boxG p v bx by' s zs n).getD b []).getD a 0 = if ((bx ≤ a ∧ a < bx + s) ∧ by' ≤ b ∧ b < by' + n) ∧ p a b = true then v else (zs.getD b []).getD a 0
  | 0, _ => by
    rw [if_neg (fun q => by omega)]
    rfl
  | n + 1, h => by
    rw [boxG, rowG_at (boxG_ok hz n) (by omega) s hs, boxG_at hz hs n (by omega)]
    cases p a b
    · simp only [Bool.false_eq_true, and_false, if_false]
    · simp only [and_true]
      split <;> split <;> first | rfl | omega | (split <;> first | rfl | omega)

def colG (p : Nat → Nat → Bool) (v : Int) (x by' : Nat) (zs : List (List Int)) : Nat → List (List Int)
  | 0 => zs
  | n + 1 => putP (p x (by' + n)) (colG p v x by' zs n) x (by' + n) v

def colsG (p : Nat → Nat → Bool) (v : Int) (bx by' s : Nat) (zs : List (List Int)) : Nat → List (List Int)
  | 0 => zs
  | n + 1 => colG p v (bx + n) by' (colsG p v bx by' s zs n) s

theorem colG_len (p : Nat → Nat → Bool) (v : Int) (x by' : Nat) (zs : List (List Int)) : ∀ n, (colG p v x by' zs n).length = zs.length
  | 0 => rfl
  | n + 1 => by rw [colG, putP_len, colG_len p v x by' zs n]

theorem colG_ok {p : Nat → Nat → Bool} {v : Int} {x by' : Nat} {zs : List (List Int)} (h : ok20 zs) : ∀ n, ok20 (colG p v x by' zs n)
  | 0 => h
  | n + 1 => putP_ok (colG_ok h n)

theorem colsG_len (p : Nat → Nat → Bool) (v : Int) (bx by' s : Nat) (zs : List (List Int)) : ∀ n, (colsG p v bx by' s zs n).length = zs.length
  | 0 => rfl
  | n + 1 => by rw [colsG, colG_len, colsG_len p v bx by' s zs n]

theorem colsG_ok {p : Nat → Nat → Bool} {v : Int} {bx by' s : Nat} {zs : List (List Int)} (h : ok20 zs) : ∀ n, ok20 (colsG p v bx by' s zs n)
  | 0 => h
  | n + 1 => colG_ok (colsG_ok h n) s

theorem colG_at {p : Nat → Nat → Bool} {v : Int} {x by' : Nat} {zs : List (List Int)} (hz : ok20 zs) (hx : x < 20) {a b : Nat} : ∀ n, by' + n ≤ 24 → ((colG p v x by' zs n).getD b []).getD a 0 = if (a = x ∧ by' ≤ b ∧ b < by' + n) ∧ p a b = true then v else (zs.getD b []).getD a 0
  | 0, _ => by
    rw [if_neg (fun q => by omega)]
    rfl
  | n + 1, h => by
    have ih := colG_at (v := v) (p := p) (by' := by') hz hx (a := a) (b := b) n (by omega)
    rw [colG, putP]
    by_cases e : x = a ∧ by' + n = b
    · obtain ⟨rfl, rfl⟩ := e
      split
      · rename_i g
        rw [setG_get (colG_ok hz n) hx (show by' + n < 24 by omega), if_pos ⟨rfl, rfl⟩, if_pos ⟨by omega, g⟩]
      · rename_i g
        rw [ih, if_neg (fun q => by omega), if_neg (fun q => g q.2)]
    · have q : (a = x ∧ by' ≤ b ∧ b < by' + n) ↔ (a = x ∧ by' ≤ b ∧ b < by' + (n + 1)) := by omega
      split
      · rw [setG_get (colG_ok hz n) hx (show by' + n < 24 by omega), if_neg e, ih]
        simp only [q]
      · rw [ih]
        simp only [q]

theorem colsG_at {p : Nat → Nat → Bool} {v : Int} {bx by' s : Nat} {zs : List (List Int)} (hz : ok20 zs) (hs : by' + s ≤ 24) {a b : Nat} : ∀ n, bx + n ≤ 20 → ((colsG p v bx by' s zs n).getD b []).getD a 0 = if ((bx ≤ a ∧ a < bx + n) ∧ by' ≤ b ∧ b < by' + s) ∧ p a b = true then v else (zs.getD b []).getD a 0
  | 0, _ => by
    rw [if_neg (fun q => by omega)]
    rfl
  | n + 1, h => by
    rw [colsG, colG_at (colsG_ok hz n) (by omega) s hs, colsG_at hz hs n (by omega)]
    cases p a b
    · simp only [Bool.false_eq_true, and_false, if_false]
    · simp only [and_true]
      split <;> split <;> first | rfl | omega | (split <;> first | rfl | omega)

theorem cols_box {p : Nat → Nat → Bool} {v : Int} {bx by' s : Nat} {zs : List (List Int)} (hz : ok20 zs) (hx : bx + s ≤ 20) (hy : by' + s ≤ 24) : colsG p v bx by' s zs s = boxG p v bx by' s zs s := ext20 (colsG_ok hz s) (boxG_ok hz s) fun a b _ _ => by
  rw [colsG_at hz hy s hx, boxG_at hz hx s hy]

def gA (x : ArmsV) : GrpV := ⟨x.c1, x.k1, x.a1, x.t1⟩

def gB (x : ArmsV) : GrpV := ⟨x.c2, x.k2, x.a2, x.t2⟩

theorem gA_c (x : ArmsV) : (gA x).c = x.c1 := rfl

theorem gA_k (x : ArmsV) : (gA x).k = x.k1 := rfl

theorem gA_a (x : ArmsV) : (gA x).a = x.a1 := rfl

theorem gA_t (x : ArmsV) : (gA x).t = x.t1 := rfl

theorem gB_c (x : ArmsV) : (gB x).c = x.c2 := rfl

theorem gB_k (x : ArmsV) : (gB x).k = x.k2 := rfl

theorem gB_a (x : ArmsV) : (gB x).a = x.a2 := rfl

theorem gB_t (x : ArmsV) : (gB x).t = x.t2 := rfl

def putBs (g : GrpV) (v : Int) (bs : List BoxV) (zs : List (List Int)) : List (List Int) := bs.foldl (fun z b => boxG (shpP g b.x.toNat b.y.toNat b.s.toNat) v b.x.toNat b.y.toNat b.s.toNat z b.s.toNat) zs

theorem putBs_ok {g : GrpV} {v : Int} : ∀ {bs : List BoxV} {zs : List (List Int)}, ok20 zs → ok20 (putBs g v bs zs)
  | [], _, h => h
  | b :: bs, zs, h => by
    unfold putBs
    rw [List.foldl_cons]
    exact putBs_ok (bs := bs) (boxG_ok h _)

theorem putBs_len (g : GrpV) (v : Int) : ∀ (bs : List BoxV) (zs : List (List Int)), (putBs g v bs zs).length = zs.length
  | [], _ => rfl
  | b :: bs, zs => by
    unfold putBs
    rw [List.foldl_cons]
    exact (putBs_len g v bs _).trans (boxG_len _ _ _ _ _ _ _)

theorem putBs_next {g : GrpV} {v : Int} {bs : List BoxV} {i : Nat} {zs : List (List Int)} {bx by' s : Nat} (hi : i < bs.length) (hb : bs.getD i ⟨0, 0, 0⟩ = ⟨bx, by', s⟩) : putBs g v (bs.take (i + 1)) zs = boxG (shpP g bx by' s) v bx by' s (putBs g v (bs.take i) zs) s := by
  rw [take_next ⟨0, 0, 0⟩ hi, hb]
  unfold putBs
  rw [List.foldl_append]
  simp only [List.foldl_cons, List.foldl_nil, Int.toNat_natCast]

def c2 (x : ArmsV) : Int := if x.o = 0 then 1 else 2

def c3 (x : ArmsV) : Int := if noGroup x.c1 x.k1 x.a1 x.t1 then c2 x else c2 x + 1

def c4 (x : ArmsV) : Int := if noGroup x.c2 x.k2 x.a2 x.t2 then c3 x else c3 x + 1

def L2 (x : ArmsV) : List (List Int) := if x.o = 0 then picZ (fun _ _ => 1) else picN (fun _ _ => 2) (cellsN (sideZ x false) 480) (picZ (fun _ _ => 1)) (cellsN (sideZ x false) 480).length

def T2 (x : ArmsV) : List (List Int) := if x.o = 0 then picZ (tinctZ x.fd x.fl.toNat x.ff x.fs) else picN (fun _ _ => x.t) (cellsN (sideZ x false) 480) (picZ (tinctZ x.fd x.fl.toNat x.ff x.fs)) (cellsN (sideZ x false) 480).length

def L3 (x : ArmsV) : List (List Int) := putBs (gA x) (c3 x) (onL x) (L2 x)

def T3 (x : ArmsV) : List (List Int) := putBs (gA x) x.t1 (onL x) (T2 x)

def L4 (x : ArmsV) : List (List Int) := putBs (gB x) (c4 x) (arL x) (L3 x)

def T4 (x : ArmsV) : List (List Int) := putBs (gB x) x.t2 (arL x) (T3 x)

theorem L2_ok (x : ArmsV) : ok20 (L2 x) := by
  unfold L2
  split
  · exact picZ_ok _
  · exact picN_ok (picZ_ok _) _

theorem T2_ok (x : ArmsV) : ok20 (T2 x) := by
  unfold T2
  split
  · exact picZ_ok _
  · exact picN_ok (picZ_ok _) _

theorem fill_in {zs : List Int} {s most : Nat} (hs : 1 ≤ s) : ∀ k, ∀ c ∈ (fillN zs s most k).2, c % 20 + s ≤ 20 ∧ c / 20 + s ≤ 24
  | 0, c, hc => by simp [fillN] at hc
  | k + 1, c, hc => by
    rw [fillN] at hc
    split at hc
    · rename_i g
      simp only [Bool.and_eq_true] at g
      rw [List.mem_append, List.mem_singleton] at hc
      rcases hc with hc | rfl
      · exact fill_in hs k c hc
      · exact whole_in hs g.2
    · exact fill_in hs k c hc

def okB (b : BoxV) : Prop := ∃ bx by' s : Nat, b = ⟨bx, by', s⟩ ∧ 1 ≤ s ∧ s ≤ 8 ∧ bx + s ≤ 20 ∧ by' + s ≤ 24

theorem largeP_in {zs : List Int} {m : Nat} : ∀ s, s ≤ 8 → ∀ b ∈ (largeP zs m s).1, okB b
  | 0, _, b, hb => by simp [largeP] at hb
  | s + 1, h, b, hb => by
    rw [largeP] at hb
    split at hb
    · simp only [fillL, List.mem_map] at hb
      obtain ⟨c, hc, rfl⟩ := hb
      have := fill_in (by omega) 480 c hc
      exact ⟨c % 20, c / 20, s + 1, rfl, by omega, by omega, this.1, this.2⟩
    · exact largeP_in s (by omega) b hb

theorem grpP_in {zs : List Int} {c k a t : Int} : ∀ b ∈ (grpP zs c k a t).1, okB b := fun b hb => by
  unfold grpP at hb
  split at hb
  · simp at hb
  · exact largeP_in 8 (Nat.le_refl _) b hb

theorem grpP_no {zs : List Int} {c k a t : Int} (h : noGroup c k a t = true) : (grpP zs c k a t).1 = [] := by
  unfold grpP
  rw [h, if_pos rfl]

def cov (g : GrpV) (bs : List BoxV) (a b : Nat) : Bool := bs.any fun q => decide (q.x.toNat ≤ a) && decide (a < q.x.toNat + q.s.toNat) && (decide (q.y.toNat ≤ b) && decide (b < q.y.toNat + q.s.toNat)) && shpP g q.x.toNat q.y.toNat q.s.toNat a b

theorem putBs_at {g : GrpV} {v : Int} {a b : Nat} : ∀ {bs : List BoxV} {zs : List (List Int)}, (∀ q ∈ bs, okB q) → ok20 zs → ((putBs g v bs zs).getD b []).getD a 0 = if cov g bs a b = true then v else (zs.getD b []).getD a 0
  | [], zs, _, _ => rfl
  | q :: bs, zs, h, hz => by
    obtain ⟨bx, by', s, rfl, h1, h2, h3, h4⟩ := h q (List.mem_cons_self ..)
    have ih := putBs_at (g := g) (v := v) (a := a) (b := b) (bs := bs) (fun r hr => h r (List.mem_cons_of_mem _ hr)) (boxG_ok (p := shpP g bx by' s) (v := v) (bx := bx) (by' := by') (s := s) hz s)
    have e : putBs g v (⟨bx, by', s⟩ :: bs) zs = putBs g v bs (boxG (shpP g bx by' s) v bx by' s zs s) := by
      unfold putBs
      rw [List.foldl_cons]
      rfl
    have ec : cov g (⟨bx, by', s⟩ :: bs) a b = ((decide (bx ≤ a) && decide (a < bx + s) && (decide (by' ≤ b) && decide (b < by' + s)) && shpP g bx by' s a b) || cov g bs a b) := rfl
    rw [e, ih, boxG_at hz h3 s h4, ec]
    cases cov g bs a b with
    | true => simp
    | false => simp

theorem ordP_at {h : Nat → Nat → Int} {x : ArmsV} {zs : List (List Int)} (hz : ok20 zs) {a b : Nat} (ha : a < 20) (hb : b < 24) : ((picN h (cellsN (sideZ x false) 480) zs (cellsN (sideZ x false) 480).length).getD b []).getD a 0 = if inSh (a : Nat) (b : Nat) = true ∧ ordZ x.o x.l.toNat a b = true then h a b else (zs.getD b []).getD a 0 := by
  rw [picN_at hz (fun c hc => (cellsN_mem hc).1) ha hb _ (Nat.le_refl _), List.take_length]
  have : (20 * b + a ∈ cellsN (sideZ x false) 480) ↔ inSh (a : Nat) (b : Nat) = true ∧ ordZ x.o x.l.toNat a b = true := by
    simp only [cellsN, List.mem_filter, List.mem_range]
    rw [show (20 * b + a) % 20 = a by omega, show (20 * b + a) / 20 = b by omega, sideZ, regZ_has ha hb]
    simp only [sideP, ordP, Int.toNat_natCast, Bool.and_eq_true, Bool.bne_false]
    constructor
    · exact fun q => q.2
    · exact fun q => ⟨by omega, q⟩
  simp only [this]

def lay2 (x : ArmsV) (a b : Nat) : Int := if x.o ≠ 0 ∧ ordZ x.o x.l.toNat a b = true then 2 else 1

def kindZ (x : ArmsV) (a b : Nat) : Int := if cov (gB x) (arL x) a b = true then 4 else if cov (gA x) (onL x) a b = true then 3 else if inSh (a : Nat) (b : Nat) = true then lay2 x a b else 0

def rankZ (x : ArmsV) (k : Int) : Int := if k = 4 then c4 x else if k = 3 then c3 x else k

def tintZ (x : ArmsV) (a b : Nat) (k : Int) : Int := if k = 4 then x.t2 else if k = 3 then x.t1 else if k = 2 then x.t else if k = 1 then tinctZ x.fd x.fl.toNat x.ff x.fs a b else 0

theorem lay2_in (x : ArmsV) (a b : Nat) : lay2 x a b = 1 ∨ lay2 x a b = 2 := by
  unfold lay2
  split
  · exact .inr rfl
  · exact .inl rfl

theorem onL_in (x : ArmsV) : ∀ b ∈ onL x, okB b := grpP_in

theorem arL_in (x : ArmsV) : ∀ b ∈ arL x, okB b := grpP_in

theorem L4_at (x : ArmsV) {a b : Nat} (ha : a < 20) (hb : b < 24) : ((L4 x).getD b []).getD a 0 = rankZ x (kindZ x a b) := by
  rw [L4, putBs_at (zs := L3 x) (arL_in x) (putBs_ok (L2_ok x)), L3, putBs_at (onL_in x) (L2_ok x), kindZ]
  by_cases h1 : cov (gB x) (arL x) a b = true
  · rw [if_pos h1, if_pos h1, rankZ, if_pos rfl]
  · rw [if_neg h1, if_neg h1]
    by_cases h2 : cov (gA x) (onL x) a b = true
    · rw [if_pos h2, if_pos h2, rankZ, if_neg (by decide), if_pos rfl]
    · rw [if_neg h2, if_neg h2, L2]
      by_cases h3 : x.o = 0
      · rw [if_pos h3, picZ_at ha hb, lay2]
        simp only [h3, ne_eq, not_true, false_and, if_false]
        by_cases h4 : inSh (a : Nat) (b : Nat) = true
        · first | rw [if_pos h4, if_pos h4] | rw [if_pos h4]
          rfl
        · first | rw [if_neg h4, if_neg h4] | rw [if_neg h4]
          rfl
      · rw [if_neg h3, ordP_at (picZ_ok _) ha hb, picZ_at ha hb, lay2]
        by_cases h4 : inSh (a : Nat) (b : Nat) = true
        · simp only [h4, true_and, if_true, ne_eq, h3, not_false_eq_true]
          by_cases h5 : ordZ x.o x.l.toNat a b = true
          · first | rw [if_pos h5, if_pos h5] | rw [if_pos h5]
            rfl
          · first | rw [if_neg h5, if_neg h5] | rw [if_neg h5]
            rfl
        · rw [if_neg (fun q => h4 q.1), if_neg h4, if_neg h4]
          rfl

theorem T4_at (x : ArmsV) {a b : Nat} (ha : a < 20) (hb : b < 24) : ((T4 x).getD b []).getD a 0 = tintZ x a b (kindZ x a b) := by
  rw [T4, putBs_at (zs := T3 x) (arL_in x) (putBs_ok (T2_ok x)), T3, putBs_at (onL_in x) (T2_ok x), kindZ]
  by_cases h1 : cov (gB x) (arL x) a b = true
  · rw [if_pos h1, if_pos h1, tintZ, if_pos rfl]
  · rw [if_neg h1, if_neg h1]
    by_cases h2 : cov (gA x) (onL x) a b = true
    · rw [if_pos h2, if_pos h2, tintZ, if_neg (by decide), if_pos rfl]
    · rw [if_neg h2, if_neg h2, T2]
      by_cases h3 : x.o = 0
      · rw [if_pos h3, picZ_at ha hb, lay2]
        simp only [h3, ne_eq, not_true, false_and, if_false]
        by_cases h4 : inSh (a : Nat) (b : Nat) = true
        · first | rw [if_pos h4, if_pos h4] | rw [if_pos h4]
          rfl
        · first | rw [if_neg h4, if_neg h4] | rw [if_neg h4]
          rfl
      · rw [if_neg h3, ordP_at (picZ_ok _) ha hb, picZ_at ha hb, lay2]
        by_cases h4 : inSh (a : Nat) (b : Nat) = true
        · simp only [h4, true_and, if_true, ne_eq, h3, not_false_eq_true]
          by_cases h5 : ordZ x.o x.l.toNat a b = true
          · first | rw [if_pos h5, if_pos h5] | rw [if_pos h5]
            rfl
          · first | rw [if_neg h5, if_neg h5] | rw [if_neg h5]
            rfl
        · rw [if_neg (fun q => h4 q.1), if_neg h4, if_neg h4]
          rfl

def S2 (x : ArmsV) : List (List Int) := picZ (lay2 x)

def S3 (x : ArmsV) : List (List Int) := putBs (gA x) 3 (onL x) (S2 x)

def S4 (x : ArmsV) : List (List Int) := putBs (gB x) 4 (arL x) (S3 x)

theorem S4_ok (x : ArmsV) : ok20 (S4 x) := putBs_ok (putBs_ok (picZ_ok _))

theorem L4_ok (x : ArmsV) : ok20 (L4 x) := putBs_ok (putBs_ok (L2_ok x))

theorem T4_ok (x : ArmsV) : ok20 (T4 x) := putBs_ok (putBs_ok (T2_ok x))

theorem S4_at (x : ArmsV) {a b : Nat} (ha : a < 20) (hb : b < 24) : ((S4 x).getD b []).getD a 0 = kindZ x a b := by
  rw [S4, putBs_at (zs := S3 x) (arL_in x) (putBs_ok (picZ_ok _)), S3, putBs_at (zs := S2 x) (onL_in x) (picZ_ok _), kindZ, S2, picZ_at ha hb]

def drawN (x : ArmsV) (k : Nat) : List (List Int) := tab (fun b => tab (fun a => if 20 * b + a < k then tintZ x a b (kindZ x a b) else kindZ x a b) 20) 24

theorem drawN_ok (x : ArmsV) (k : Nat) : ok20 (drawN x k) := ⟨tab_len _ _, fun y hy => by rw [drawN, tab_at [] hy, tab_len]⟩

@[simp] theorem drawN_len (x : ArmsV) (k : Nat) : (drawN x k).length = 24 := tab_len _ _

theorem drawN_at (x : ArmsV) (k : Nat) {a b : Nat} (ha : a < 20) (hb : b < 24) : ((drawN x k).getD b []).getD a 0 = if 20 * b + a < k then tintZ x a b (kindZ x a b) else kindZ x a b := by
  rw [drawN, tab_at [] hb, tab_at 0 ha]

theorem drawN_zero (x : ArmsV) : drawN x 0 = S4 x := ext20 (drawN_ok x 0) (S4_ok x) fun a b ha hb => by
  rw [drawN_at x 0 ha hb, S4_at x ha hb, if_neg (by omega)]

theorem drawN_all (x : ArmsV) : drawN x 480 = T4 x := ext20 (drawN_ok x 480) (T4_ok x) fun a b ha hb => by
  rw [drawN_at x 480 ha hb, T4_at x ha hb, if_pos (by omega)]

theorem drawN_set (x : ArmsV) {a b : Nat} (ha : a < 20) (hb : b < 24) : setG (drawN x (20 * b + a)) a b (tintZ x a b (kindZ x a b)) = drawN x (20 * b + (a + 1)) := ext20 (ok20_set (drawN_ok x _)) (drawN_ok x _) fun c d hc hd => by
  rw [setG_get (drawN_ok x _) ha hb, drawN_at x _ hc hd, drawN_at x _ hc hd]
  by_cases e : a = c ∧ b = d
  · obtain ⟨rfl, rfl⟩ := e
    rw [if_pos ⟨rfl, rfl⟩, if_pos (by omega)]
  · rw [if_neg e]
    have : (20 * d + c < 20 * b + a) ↔ (20 * d + c < 20 * b + (a + 1)) := by omega
    simp only [this]

theorem drawN_same (x : ArmsV) {a b : Nat} (ha : a < 20) (hb : b < 24) (h : kindZ x a b = 0) : drawN x (20 * b + a) = drawN x (20 * b + (a + 1)) := by
  rw [← drawN_set x ha hb]
  refine ext20 (drawN_ok x _) (ok20_set (drawN_ok x _)) fun c d hc hd => ?_
  rw [setG_get (drawN_ok x _) ha hb]
  by_cases e : a = c ∧ b = d
  · obtain ⟨rfl, rfl⟩ := e
    rw [if_pos ⟨rfl, rfl⟩, drawN_at x _ ha hb, if_neg (by omega), h]
    rfl
  · rw [if_neg e]

theorem kindZ_in (x : ArmsV) (a b : Nat) : kindZ x a b = 0 ∨ kindZ x a b = 1 ∨ kindZ x a b = 2 ∨ kindZ x a b = 3 ∨ kindZ x a b = 4 := by
  unfold kindZ
  split
  · omega
  · split
    · omega
    · split
      · have := lay2_in x a b
        omega
      · omega

end Go.Proofs.Ytaegdaimjhhgpaa
