/- Ascending lists; who is a descendant. -/
import Derived.Test.YtdeobicgildamaaLin
import Derived.Test.YtdeobicgildamaaFam16
import Derived.WalkKit
import Derived.WalkSpells
import Derived.KernelRfl
namespace Go.Proofs.Ytdeobicgildamaa
open Go.RowKit
set_option linter.unusedVariables false
set_option linter.unusedSimpArgs false

theorem asc_ext : ∀ (a b : List Int), a.Pairwise (· < ·) → b.Pairwise (· < ·) → (∀ x, x ∈ a ↔ x ∈ b) → a = b
  | [], [], _, _, _ => rfl
  | [], y :: b, _, _, h => by have := (h y).2 (by simp); cases this
  | x :: a, [], _, _, h => by have := (h x).1 (by simp); cases this
  | x :: a, y :: b, ha, hb, h => by
    rw [List.pairwise_cons] at ha hb
    have hxy : x = y := by
      have h1 := (h x).1 (by simp)
      have h2 := (h y).2 (by simp)
      rcases List.mem_cons.1 h1 with h1 | h1
      · exact h1
      · rcases List.mem_cons.1 h2 with h2 | h2
        · exact h2.symm
        · have := ha.1 _ h2
          have := hb.1 _ h1
          omega
    subst hxy
    refine congrArg _ (asc_ext a b ha.2 hb.2 fun z => ?_)
    have hz := h z
    simp only [List.mem_cons] at hz
    constructor
    · intro hm
      rcases hz.1 (.inr hm) with e | e
      · subst e
        have := ha.1 _ hm
        omega
      · exact e
    · intro hm
      rcases hz.2 (.inr hm) with e | e
      · subst e
        have := hb.1 _ hm
        omega
      · exact e

def srtI (zs : List Int) : List Int := zs.mergeSort fun x y => decide (x ≤ y)

theorem srtI_perm (zs : List Int) : (srtI zs).Perm zs := List.mergeSort_perm zs _

theorem srtI_mem {zs : List Int} {x : Int} : x ∈ srtI zs ↔ x ∈ zs := (srtI_perm zs).mem_iff

theorem srtI_len (zs : List Int) : (srtI zs).length = zs.length := (srtI_perm zs).length_eq

theorem srtI_asc {zs : List Int} (h : zs.Nodup) : (srtI zs).Pairwise (· < ·) := by
  have h1 : (srtI zs).Pairwise fun x y => (fun x y : Int => decide (x ≤ y)) x y = true := List.pairwise_mergeSort (fun a b c h1 h2 => by simp at *; omega) (fun a b => by simp; omega) zs
  have h2 : (srtI zs).Nodup := (srtI_perm zs).nodup_iff.2 h
  refine (List.Pairwise.and h1 h2).imp fun {a b} hab => ?_
  obtain ⟨h3, h4⟩ := hab
  simp only [decide_eq_true_eq] at h3
  omega

theorem ids_asc {l : List PerV} (h : okFam l = true) : (l.map PerV.id).Pairwise (· < ·) := by
  rw [List.pairwise_map, List.pairwise_iff_getElem]
  intro i j hi hj hij
  have := okFam_lt h hij hj
  rwa [getD_eq _ hi, getD_eq _ hj] at this

def idsF (l : List PerV) (q : Int → Bool) : List Int := (l.map PerV.id).filter q

theorem idsF_asc {l : List PerV} (h : okFam l = true) (q : Int → Bool) : (idsF l q).Pairwise (· < ·) := (ids_asc h).filter q

theorem ids_in {l : List PerV} (h : okFam l = true) {x : Int} : x ∈ l.map PerV.id ↔ 0 ≤ findP l x := by
  rw [List.mem_map]
  constructor
  · rintro ⟨p, hp, rfl⟩
    exact (perOf_mem h hp).2
  · intro hx
    exact ⟨perOf l x, perOf_in hx, perOf_id hx⟩

theorem idsF_mem {l : List PerV} (h : okFam l = true) {q : Int → Bool} {x : Int} : x ∈ idsF l q ↔ 0 ≤ findP l x ∧ q x = true := by
  rw [idsF, List.mem_filter, ids_in h]

theorem srt_idsF {l : List PerV} (h : okFam l = true) {zs : List Int} {q : Int → Bool} (hn : zs.Nodup) (hm : ∀ x, x ∈ zs ↔ 0 ≤ findP l x ∧ q x = true) : srtI zs = idsF l q :=
  asc_ext _ _ (srtI_asc hn) (idsF_asc h q) fun x => by rw [srtI_mem, hm, idsF_mem h]

def above (l : List PerV) (a x : Int) : Prop := ∃ m : Nat, pth (parI l) x (m + 1) a

theorem above_kid {l : List PerV} (h : okFam l = true) {a c : Int} (ha : 0 ≤ findP l a) (hc : c ∈ kidI l a) : above l a c := ⟨0, c, rfl, ((kidI_par h (per_pos h ha).1).1 hc).2⟩

theorem above_next {l : List PerV} (h : okFam l = true) {a c x : Int} (ha : 0 ≤ findP l a) (hc : c ∈ kidI l a) (hx : above l c x) : above l a x := by
  obtain ⟨m, hm⟩ := hx
  exact ⟨m + 1, c, hm, ((kidI_par h (per_pos h ha).1).1 hc).2⟩

theorem hrF_sound {l : List PerV} (h : okFam l = true) : ∀ (n : Nat) (id : Int) (out : List Int), 0 ≤ findP l id → ∀ x ∈ hrF l n id out, x ∈ out ∨ above l id x
  | 0, _, _, _, x, hx => .inl hx
  | n + 1, id, out, hid, x, hx => by
    rw [hrF] at hx
    have key : ∀ (cs out : List Int), (∀ c ∈ cs, c ∈ kidI l id) → x ∈ cs.foldl (hrStep (hrF l n)) out → x ∈ out ∨ above l id x := by
      intro cs
      induction cs with
      | nil => exact fun out _ hx => .inl hx
      | cons c cs ih =>
        intro out hc hx
        have hck := hc c (by simp)
        rw [List.foldl_cons] at hx
        rcases ih _ (fun d hd => hc d (by simp [hd])) hx with h1 | h1
        · unfold hrStep at h1
          split at h1
          · exact .inl h1
          · rcases hrF_sound h n c _ (kidI_in h hck) x h1 with h2 | h2
            · rcases List.mem_append.1 h2 with h2 | h2
              · exact .inl h2
              · rw [List.mem_singleton.1 h2]
                exact .inr (above_kid h hid hck)
            · exact .inr (above_next h hid hck h2)
        · exact .inr h1
    exact key _ _ (fun c hc => hc) hx

def clos (l : List PerV) (out S : List Int) : Prop := ∀ y ∈ out, y ∉ S → ∀ c ∈ kidI l y, c ∈ out

theorem hrF_clos {l : List PerV} (h : okFam l = true) : ∀ (n : Nat) (id : Int) (out S : List Int), dnG l n id → clos l out S → clos l (hrF l n id out) S ∧ (∀ c ∈ kidI l id, c ∈ hrF l n id out) ∧ ∀ x ∈ out, x ∈ hrF l n id out
  | 0, id, _, _, hg, _ => absurd hg (dnG_zero h id)
  | n + 1, id, out, S, hg, hc => by
    obtain ⟨hid, q2⟩ := dnG_next h n id hg
    rw [hrF]
    have key : ∀ (cs out : List Int), (∀ c ∈ cs, dnG l n c) → clos l out S → clos l (cs.foldl (hrStep (hrF l n)) out) S ∧ (∀ c ∈ cs, c ∈ cs.foldl (hrStep (hrF l n)) out) ∧ ∀ x ∈ out, x ∈ cs.foldl (hrStep (hrF l n)) out := by
      intro cs
      induction cs with
      | nil => exact fun out _ hc => ⟨hc, by simp, fun x hx => hx⟩
      | cons c cs ih =>
        intro out hd hc
        rw [List.foldl_cons]
        have h1 : clos l (hrStep (hrF l n) out c) S ∧ c ∈ hrStep (hrF l n) out c ∧ ∀ x ∈ out, x ∈ hrStep (hrF l n) out c := by
          unfold hrStep
          cases hh : out.contains c
          · rw [if_neg (by simp)]
            obtain ⟨k1, k2, k3⟩ := hrF_clos h n c (out ++ [c]) (c :: S) (hd c (by simp)) (fun y hy hyS d hdk => by
              rcases List.mem_append.1 hy with hy | hy
              · exact List.mem_append_left _ (hc y hy (fun hm => hyS (by simp [hm])) d hdk)
              · rw [List.mem_singleton.1 hy] at hyS
                exact absurd (by simp) hyS)
            refine ⟨fun y hy hyS d hdk => ?_, k3 c (by simp), fun x hx => k3 x (by simp [hx])⟩
            by_cases e : y = c
            · subst e
              exact k2 d hdk
            · exact k1 y hy (by simp [e, hyS]) d hdk
          · rw [if_pos rfl]
            exact ⟨hc, List.contains_iff_mem.1 hh, fun x hx => hx⟩
        obtain ⟨g1, g2, g3⟩ := h1
        obtain ⟨k1, k2, k3⟩ := ih _ (fun d hd' => hd d (by simp [hd'])) g1
        refine ⟨k1, fun d hd' => ?_, fun x hx => k3 x (g3 x hx)⟩
        rcases List.mem_cons.1 hd' with rfl | hd'
        · exact k3 _ g2
        · exact k2 d hd'
    exact key _ _ q2 hc

theorem hrL_mem {l : List PerV} (h : okFam l = true) {id : Int} (hid : 0 ≤ findP l id) {x : Int} : x ∈ hrL l id ↔ 0 ≤ findP l x ∧ above l id x := by
  constructor
  · intro hx
    refine ⟨(hrL_ok h hid).2 x hx, ?_⟩
    rcases hrF_sound h 3000 id [] hid x hx with h1 | h1
    · cases h1
    · exact h1
  · rintro ⟨hx, m, hm⟩
    obtain ⟨k1, k2, _⟩ := hrF_clos h 3000 id [] [] (dn3000 h hid) (fun y hy => by cases hy)
    have key : ∀ (m : Nat) (a : Int), (∀ c ∈ kidI l a, c ∈ hrF l 3000 id []) → 0 ≤ findP l a → pth (parI l) x (m + 1) a → x ∈ hrF l 3000 id [] := by
      intro m
      induction m with
      | zero =>
        rintro a h1 ha ⟨y, rfl, h2⟩
        exact h1 y ((kidI_par h (per_pos h ha).1).2 ⟨hx, h2⟩)
      | succ m ih =>
        rintro a h1 ha ⟨y, h3, h2⟩
        have hyin : 0 ≤ findP l y := by
          by_cases hy : 0 ≤ findP l y
          · exact hy
          · exfalso
            obtain ⟨z, z1, z2⟩ := h3
            have hz : ∀ (k : Nat) (z : Int), pth (parI l) x k z → 0 ≤ findP l z := fun k => by
              induction k with
              | zero => rintro z rfl; exact hx
              | succ k ihk => rintro z ⟨u, u1, u2⟩; exact parI_in h (ihk u u1) u2
            exact hy (parI_in h (hz _ _ z1) z2)
        have hyk := h1 y ((kidI_par h (per_pos h ha).1).2 ⟨hyin, h2⟩)
        exact ih y (fun c hc => k1 y hyk (by simp) c hc) hyin h3
    exact key m id k2 hid hm

theorem pth_in {l : List PerV} (h : okFam l = true) {x : Int} (hx : 0 ≤ findP l x) : ∀ (k : Nat) (z : Int), pth (parI l) x k z → 0 ≤ findP l z ∧ (perOf l z).born + 15 * (k : Int) ≤ (perOf l x).born
  | 0, z, e => by
    rw [pth] at e
    subst e
    exact ⟨hx, by omega⟩
  | k + 1, z, ⟨u, u1, u2⟩ => by
    obtain ⟨h1, h2⟩ := pth_in h hx k u u1
    unfold parI at u2
    split at u2
    · cases u2
    · rename_i h0
      have := parents_in h h1 h0
      simp only [List.mem_cons, List.not_mem_nil, or_false] at u2
      rcases u2 with rfl | rfl
      · exact ⟨this.1, by omega⟩
      · exact ⟨this.2.1, by omega⟩

theorem toL_ne {l : List PerV} (h : okFam l = true) {a x : Int} (hx : 0 ≤ findP l x) : toL l a x ≠ [] ↔ ∃ m : Nat, pth (parI l) x m a := by
  unfold toL
  cases hv : lkI a (bfsI l x) with
  | none =>
    simp only [ne_eq, not_true_eq_false, false_iff, not_exists]
    intro m hm
    obtain ⟨u, u1, _⟩ := (bfsI_J h hx).done m a hm
    rw [hv] at u1
    cases u1
  | some v =>
    obtain ⟨n, rfl, n2, _⟩ := bfs_least h hx hv
    refine ⟨fun _ => ⟨n, n2⟩, fun _ e => ?_⟩
    have := congrArg List.length e
    simp only [lineF_len, List.length_nil] at this
    omega

theorem above_line {l : List PerV} (h : okFam l = true) {a x : Int} (hx : 0 ≤ findP l x) : above l a x ↔ toL l a x ≠ [] ∧ x ≠ a := by
  rw [toL_ne h hx]
  constructor
  · rintro ⟨m, hm⟩
    refine ⟨⟨m + 1, hm⟩, fun e => ?_⟩
    subst e
    have := (pth_in h hx _ _ hm).2
    omega
  · rintro ⟨⟨m, hm⟩, hne⟩
    cases m with
    | zero => exact absurd hm.symm hne
    | succ m => exact ⟨m, hm⟩

end Go.Proofs.Ytdeobicgildamaa
