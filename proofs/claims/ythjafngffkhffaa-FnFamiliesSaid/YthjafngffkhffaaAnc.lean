/- The reference's ancestors: put into an ascending list one after another. -/
import Derived.Test.YthjafngffkhffaaAsc
import Derived.Test.YthjafngffkhffaaOkL
import Derived.WalkKit
import Derived.WalkSpells
import Derived.KernelRfl
namespace Go.Proofs.Ythjafngffkhffaa
open Go.RowKit
set_option linter.unusedVariables false
set_option linter.unusedSimpArgs false

attribute [local go_sem] PerV.d PerV.cs perL famD intL

attribute [local simp] refs_dmap perC_all perC_plains ints_plain ints_all ints_all1 ints_plain_take

def posA (zs : List Int) (v : Int) : Nat := (zs.takeWhile fun z => decide (z < v)).length

def putA (zs : List Int) (v : Int) : List Int := if posA zs v < zs.length ∧ zs.getD (posA zs v) 0 = v then zs else zs.take (posA zs v) ++ [v] ++ zs.drop (posA zs v)

theorem posA_le (zs : List Int) (v : Int) : posA zs v ≤ zs.length := (List.takeWhile_prefix (l := zs) fun z => decide (z < v)).length_le

theorem posA_at {zs : List Int} {v : Int} {k : Nat} (hk : k ≤ zs.length) (h : ∀ j, j < k → zs.getD j 0 < v) (h2 : k = zs.length ∨ ¬ zs.getD k 0 < v) : posA zs v = k := by
  have e : zs = zs.take k ++ zs.drop k := (List.take_append_drop k zs).symm
  have h3 : ∀ a ∈ zs.take k, decide (a < v) = true := fun a ha => by
    rw [List.mem_take_iff_getElem] at ha
    obtain ⟨j, hj, rfl⟩ := ha
    have := h j (by omega)
    rw [getD_eq _ (by omega)] at this
    exact decide_eq_true this
  have h4 : zs.takeWhile (fun z => decide (z < v)) = zs.take k ++ (zs.drop k).takeWhile (fun z => decide (z < v)) := by
    conv => lhs; rw [e]
    rw [List.takeWhile_append_of_pos h3]
  have h5 : (zs.drop k).takeWhile (fun z => decide (z < v)) = [] := by
    rcases h2 with h2 | h2
    · rw [List.drop_of_length_le (by omega)]
      rfl
    · by_cases hl : k < zs.length
      · rw [drop_next 0 hl, List.takeWhile_cons_of_neg (by rw [decide_eq_false h2]; simp)]
      · rw [List.drop_of_length_le (by omega)]
        rfl
  rw [posA, h4, h5, List.append_nil, List.length_take]
  omega

theorem posA_spec (zs : List Int) (v : Int) : (∀ j, j < posA zs v → zs.getD j 0 < v) ∧ (posA zs v = zs.length ∨ ¬ zs.getD (posA zs v) 0 < v) := by
  have key : ∀ zs : List Int, (∀ j, j < posA zs v → zs.getD j 0 < v) ∧ (posA zs v = zs.length ∨ ¬ zs.getD (posA zs v) 0 < v) := by
    intro zs
    induction zs with
    | nil => exact ⟨fun j hj => by simp [posA] at hj, .inl rfl⟩
    | cons z zs ih =>
      by_cases hz : z < v
      · have hp : posA (z :: zs) v = posA zs v + 1 := by
          simp only [posA]
          rw [List.takeWhile_cons_of_pos (by simpa using hz)]
          rfl
        rw [hp]
        refine ⟨fun j hj => ?_, ?_⟩
        · cases j with
          | zero => exact hz
          | succ j => exact ih.1 j (by omega)
        · rcases ih.2 with h | h
          · exact .inl (by simp [h])
          · exact .inr h
      · have hp : posA (z :: zs) v = 0 := by
          simp only [posA]
          rw [List.takeWhile_cons_of_neg (by simpa using hz)]
          rfl
        rw [hp]
        exact ⟨fun j hj => by omega, .inr hz⟩
  exact key zs

theorem putA_is {zs : List Int} (h : zs.Pairwise (· < ·)) (v : Int) : (putA zs v).Pairwise (· < ·) ∧ ∀ x, x ∈ putA zs v ↔ x = v ∨ x ∈ zs := by
  have hle := posA_le zs v
  obtain ⟨h1, h2⟩ := posA_spec zs v
  have hget : ∀ i j, i < j → j < zs.length → zs.getD i 0 < zs.getD j 0 := fun i j hij hj => by
    have := List.pairwise_iff_getElem.1 h i j (by omega) hj hij
    rwa [← getD_eq 0 (by omega), ← getD_eq 0 hj] at this
  unfold putA
  split
  · rename_i hc
    refine ⟨h, fun x => ⟨.inr, fun hx => ?_⟩⟩
    rcases hx with rfl | hx
    · have hm := getD_mem (0 : Int) hc.1
      rw [hc.2] at hm
      exact hm
    · exact hx
  · rename_i hc
    generalize posA zs v = k at *
    have hlt : ∀ x ∈ zs.take k, x < v := fun x hx => by
      rw [List.mem_take_iff_getElem] at hx
      obtain ⟨j, hj, rfl⟩ := hx
      have := h1 j (by omega)
      rwa [getD_eq _ (by omega)] at this
    have hgt : ∀ x ∈ zs.drop k, v < x := fun x hx => by
      obtain ⟨j, hj, rfl⟩ := List.mem_iff_getElem.1 hx
      rw [List.length_drop] at hj
      rw [List.getElem_drop]
      have hk : k < zs.length := by omega
      have hkv : v < zs.getD k 0 := by
        rcases h2 with h2 | h2
        · omega
        · have : zs.getD k 0 ≠ v := fun e => hc ⟨hk, e⟩
          omega
      by_cases hj0 : j = 0
      · subst hj0
        rw [getD_eq _ hk] at hkv
        exact hkv
      · have := hget k (k + j) (by omega) (by omega)
        rw [getD_eq 0 (show k + j < zs.length by omega)] at this
        omega
    refine ⟨?_, fun x => ?_⟩
    · rw [List.append_assoc, List.pairwise_append]
      refine ⟨h.take, ?_, fun a ha b hb => ?_⟩
      · rw [List.singleton_append, List.pairwise_cons]
        exact ⟨hgt, h.drop⟩
      · rw [List.singleton_append] at hb
        rcases List.mem_cons.1 hb with rfl | hb
        · exact hlt a ha
        · have := hlt a ha
          have := hgt b hb
          omega
    · have e : x ∈ zs ↔ x ∈ zs.take k ∨ x ∈ zs.drop k := by rw [← List.mem_append, List.take_append_drop]
      rw [e]
      simp only [List.mem_append, List.mem_singleton]
      constructor
      · rintro ((h | h) | h)
        · exact .inr (.inl h)
        · exact .inl h
        · exact .inr (.inr h)
      · rintro (h | h | h)
        · exact .inl (.inr h)
        · exact .inl (.inl h)
        · exact .inr h

def ancF (l : List PerV) : Nat → Int → List Int → List Int
  | 0, _, zs => zs
  | n + 1, id, zs => if (perOf l id).one = 0 then zs else ancF l n (perOf l id).two (putA (ancF l n (perOf l id).one (putA zs (perOf l id).one)) (perOf l id).two)

def ascL (l : List PerV) (zs : List Int) : Prop := zs.Pairwise (· < ·) ∧ ∀ a ∈ zs, 0 ≤ findP l a

theorem ascL_len {l : List PerV} (h : okFam l = true) {zs : List Int} (hz : ascL l zs) : zs.length ≤ 16 := by
  have hn : zs.Nodup := hz.1.imp fun {a b} h e => by omega
  exact Nat.le_trans (okL_len ⟨hn, hz.2⟩) (okFam_len h)

theorem ascL_put {l : List PerV} {zs : List Int} (hz : ascL l zs) {v : Int} (hv : 0 ≤ findP l v) : ascL l (putA zs v) := by
  obtain ⟨h1, h2⟩ := putA_is hz.1 v
  refine ⟨h1, fun a ha => ?_⟩
  rcases (h2 a).1 ha with rfl | ha
  · exact hv
  · exact hz.2 a ha

theorem ancF_asc {l : List PerV} (h : okFam l = true) : ∀ (n : Nat) (id : Int) (zs : List Int), 0 ≤ findP l id → ascL l zs → ascL l (ancF l n id zs)
  | 0, _, _, _, hz => hz
  | n + 1, id, zs, hid, hz => by
    rw [ancF]
    split
    · exact hz
    · rename_i h0
      have hp := parents_in h hid h0
      exact ancF_asc h n _ _ hp.2.1 (ascL_put (ancF_asc h n _ _ hp.1 (ascL_put hz hp.1)) hp.2.1)

theorem ancF_mem {l : List PerV} (h : okFam l = true) : ∀ (n : Nat) (id : Int) (zs : List Int), upG l n id → ascL l zs → ∀ x, x ∈ ancF l n id zs ↔ x ∈ zs ∨ above l x id
  | 0, id, _, hg, _, _ => absurd hg (upG_zero h id)
  | n + 1, id, zs, hg, hz, x => by
    obtain ⟨hid, q2⟩ := upG_next h n id hg
    rw [ancF]
    by_cases h0 : (perOf l id).one = 0
    · rw [if_pos h0]
      refine ⟨.inl, fun hx => ?_⟩
      rcases hx with hx | ⟨m, hm⟩
      · exact hx
      · exfalso
        obtain ⟨y, y1, _⟩ := (pth_front' m id x).1 hm
        rw [parI, if_pos h0] at y1
        cases y1
    · rw [if_neg h0]
      have hp := parents_in h hid h0
      have hpar : parI l id = [(perOf l id).one, (perOf l id).two] := by rw [parI, if_neg h0]
      rw [hpar] at q2
      have a1 := ascL_put hz hp.1
      have a2 := ancF_asc h n _ _ hp.1 a1
      have a3 := ascL_put a2 hp.2.1
      rw [ancF_mem h n _ _ (q2 _ (by simp)) a3 x, (putA_is a2.1 _).2, ancF_mem h n _ _ (q2 _ (by simp)) a1 x, (putA_is hz.1 _).2]
      have key : above l x id ↔ (x = (perOf l id).one ∨ above l x (perOf l id).one) ∨ (x = (perOf l id).two ∨ above l x (perOf l id).two) := by
        constructor
        · rintro ⟨m, hm⟩
          obtain ⟨y, y1, y2⟩ := (pth_front' m id x).1 hm
          rw [hpar] at y1
          simp only [List.mem_cons, List.not_mem_nil, or_false] at y1
          rcases y1 with rfl | rfl
          · cases m with
            | zero => exact .inl (.inl y2)
            | succ m => exact .inl (.inr ⟨m, y2⟩)
          · cases m with
            | zero => exact .inr (.inl y2)
            | succ m => exact .inr (.inr ⟨m, y2⟩)
        · have hh : ∀ y ∈ parI l id, x = y ∨ above l x y → above l x id := fun y hy hx => by
            rcases hx with rfl | ⟨m, hm⟩
            · exact ⟨0, (pth_front' 0 id x).2 ⟨x, hy, rfl⟩⟩
            · exact ⟨m + 1, (pth_front' (m + 1) id x).2 ⟨y, hy, hm⟩⟩
          rw [hpar] at hh
          rintro (hx | hx)
          · exact hh _ (by simp) hx
          · exact hh _ (by simp) hx
      rw [key]
      constructor
      · rintro ((rfl | ((rfl | hx) | hx)) | hx)
        · exact .inr (.inr (.inl rfl))
        · exact .inr (.inl (.inl rfl))
        · exact .inl hx
        · exact .inr (.inl (.inr hx))
        · exact .inr (.inr (.inr hx))
      · rintro (hx | (rfl | hx) | (rfl | hx))
        · exact .inl (.inr (.inl (.inr hx)))
        · exact .inl (.inr (.inl (.inl rfl)))
        · exact .inl (.inr (.inr hx))
        · exact .inl (.inl rfl)
        · exact .inr hx

end Go.Proofs.Ythjafngffkhffaa
