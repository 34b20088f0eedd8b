/- Sorting persons by their numbers in place: the library's contract, over an own object. -/
import Derived.Test.YthjafngffkhffaaBrg
import Derived.Test.YthjafngffkhffaaAdd
import Derived.WalkKit
import Derived.WalkSpells
import Derived.KernelRfl
import Derived.Sort.Grow
import Derived.Shelf.SlSortCmp.NoneTotal
import Derived.Test.YthjafngffkhffaaShelfP
namespace Go.Proofs.Ythjafngffkhffaa
open Go.RowKit Go.Sort
set_option linter.unusedVariables false
set_option linter.unusedSimpArgs false

def PerV.vs (b : PerV) : List Value := [.int .i64 b.id, .int .i64 b.born, .int .i64 b.died, .int .i64 b.one, .int .i64 b.two]

theorem perC_vs (l : List PerV) : (l.flatMap PerV.vs).map D.v = perC l := by
  induction l with
  | nil => rfl
  | cons x l ih =>
    simp only [perC, recC, List.flatMap_cons, List.map_append] at ih ⊢
    rw [ih]
    rfl

theorem flat_len {α : Type} {enc : α → List Value} {k : Nat} (hk : ∀ x, (enc x).length = k) (l : List α) : (l.flatMap enc).length = l.length * k := by
  induction l with
  | nil => simp
  | cons x l ih =>
    rw [List.flatMap_cons, List.length_append, ih, hk, List.length_cons, Nat.succ_mul]
    omega

theorem flat_get {α : Type} [Inhabited α] {enc : α → List Value} {k : Nat} (h0 : 0 < k) (hk : ∀ x, (enc x).length = k) : ∀ (l : List α) (t : Nat), t < l.length * k → (l.flatMap enc)[t]? = (enc (l[t / k]!))[t % k]?
  | [], t, h => by simp at h
  | x :: l, t, h => by
    rw [List.flatMap_cons]
    by_cases h1 : t < k
    · rw [List.getElem?_append_left (by rw [hk]; exact h1), Nat.div_eq_of_lt h1, Nat.mod_eq_of_lt h1]
      rfl
    · obtain ⟨u, rfl⟩ : ∃ u, t = u + k := ⟨t - k, by omega⟩
      rw [List.length_cons, Nat.succ_mul] at h
      rw [List.getElem?_append_right (by rw [hk]; omega), hk, Nat.add_sub_cancel, flat_get h0 hk l u (by omega), Nat.add_div_right _ h0, Nat.add_mod_right]
      rfl

theorem flatK_list {α : Type} [Inhabited α] {enc : α → List Value} {k : Nat} (h0 : 0 < k) (hk : ∀ x, (enc x).length = k) (l : List α) : flatK enc k l.toArray = (l.flatMap enc).toArray := by
  refine ext_get! (by simp [flat_len hk]) fun t ht => ?_
  have ht' : t < l.length * k := by simpa using ht
  rw [get_flatK _ _ _ _ (by simpa using ht')]
  have h1 := flat_get h0 hk l t ht'
  have h2 : t % k < (enc (l[t / k]!)).length := by
    rw [hk]
    exact Nat.mod_lt _ h0
  rw [List.getElem?_eq_getElem h2, List.getElem?_eq_getElem (by rw [flat_len hk]; exact ht')] at h1
  have h3 : (l.toArray)[t / k]! = l[t / k]! := by simp
  rw [h3, getElem!_pos (enc (l[t / k]!)) (t % k) h2, getElem!_pos (l.flatMap enc).toArray t (by simpa [flat_len hk] using ht')]
  simpa using (Option.some.inj h1).symm

def idCmp (a b : PerV) : Int := if a.id < b.id then -1 else 1

theorem addCmp_c (x y : PerV) (W : World) : Calls Try.prog 82 #[.agg x.vs.toArray, .agg y.vs.toArray] W fun e w' => e = .returned (.int .i64 (idCmp x y)) ∧ ∃ q os', w' = grow (W.drewN q) os' := by
  unfold idCmp PerV.vs
  by_cases h : x.id < y.id
  · rw [if_pos h]
    go_enter Try.func82, Try.ntmps82
    go_wp2
    go_ret
    exact ⟨rfl, 0, _, by rw [alloc_eq_grow, alloc_eq_grow, grow_grow]; rfl⟩
  · rw [if_neg h]
    go_enter Try.func82, Try.ntmps82
    go_wp2
    go_ret
    exact ⟨rfl, 0, _, by rw [alloc_eq_grow, alloc_eq_grow, grow_grow]; rfl⟩

theorem sortPOk : FnOk Try.prog 81 := ⟨_, Try.func81, by kernel_rfl, by kernel_rfl⟩

theorem sub_cmp {L : List PerV} : (ltOf fun x y : {x // x ∈ L} => idCmp x.1 y.1) = fun x y => decide (x.1.id < y.1.id) := by
  funext x y
  show decide ((if x.1.id < y.1.id then (-1 : Int) else 1) < 0) = decide (x.1.id < y.1.id)
  by_cases h : x.1.id < y.1.id
  · rw [if_pos h, decide_eq_true h]
    rfl
  · rw [if_neg h, decide_eq_false h]
    rfl

theorem sub_swo (L : List PerV) : SWO (ltOf fun x y : {x // x ∈ L} => idCmp x.1 y.1) := by
  rw [sub_cmp]
  exact ⟨fun x => by simp, fun x y z h1 h2 => by simp at *; omega, fun x y z h1 h2 => by simp at *; omega⟩

theorem sortP_hi (l : List PerV) (p : PerV) (ha : l.Pairwise (fun x y => x.id < y.id)) (hp : ∀ q ∈ l, q.id ≠ p.id) (hl : l.length ≤ 1048576) : FnS Try.prog 81 [(5000, .ds (perC (l ++ [p])))] [.bs 5000 0 (l.length + 1) 5, .fc 82 [] []] [(5000, .ds (perC (insI l p)))] (.tu []) := by
  have hne : (l ++ [p]).flatMap PerV.vs ≠ [] := by
    intro e
    have := congrArg List.length e
    rw [flat_len (k := 5) (fun _ => rfl)] at this
    simp at this
  have hlen : ((insI l p).flatMap PerV.vs).length = ((l ++ [p]).flatMap PerV.vs).length := by
    rw [flat_len (k := 5) (fun _ => rfl), flat_len (k := 5) (fun _ => rfl), insI_len]
    simp
  have h1 : Ones ((insI l p).flatMap PerV.vs) := by
    intro x hx
    rw [List.mem_flatMap] at hx
    obtain ⟨b, _, hb⟩ := hx
    simp only [PerV.vs, List.mem_cons, List.not_mem_nil, or_false] at hb
    rcases hb with rfl | rfl | rfl | rfl | rfl <;> rfl
  have hinj : ∀ x ∈ l ++ [p], ∀ y ∈ l ++ [p], ¬ x.id < y.id → ¬ y.id < x.id → x = y := by
    intro x hx y hy h2 h3
    have e : x.id = y.id := by omega
    rw [List.mem_append, List.mem_singleton] at hx hy
    rcases hx with hx | rfl
    · rcases hy with hy | rfl
      · obtain ⟨i, hi, rfl⟩ := List.getElem_of_mem hx
        obtain ⟨j, hj, rfl⟩ := List.getElem_of_mem hy
        rw [List.pairwise_iff_getElem] at ha
        rcases Nat.lt_trichotomy i j with q | q | q
        · have := ha i j hi hj q
          omega
        · subst q
          rfl
        · have := ha j i hj hi q
          omega
      · exact absurd e (hp x hx)
    · rcases hy with hy | rfl
      · exact absurd e.symm (hp y hy)
      · rfl
  have h := fnS_put sortPOk ((l ++ [p]).flatMap PerV.vs) ((insI l p).flatMap PerV.vs) hne h1 hlen (l.length + 1) 5 (by omega) [.func (.func 82) #[] #[]] [.fc 82 [] []] (fun w0 w ob ν ys hy => by
      simp only [VRs, VR] at hy
      obtain ⟨y, ys', rfl, ⟨xs, zs, rfl, rfl, rfl⟩, rfl⟩ := hy
      rfl) (fun w b off cap hlt hH hcap => by
    letI : Inhabited {x // x ∈ l ++ [p]} := ⟨⟨p, by simp⟩⟩
    have eg : ∀ args w, (callFunc 82 args).run Try.prog w = .ok (.enter 82 args) w := enters_of Try.func82 (by kernel_rfl) rfl
    have hfl : (l ++ [p]).attach.flatMap (fun x : {x // x ∈ l ++ [p]} => x.1.vs) = (l ++ [p]).flatMap PerV.vs := by
      rw [← List.flatMap_map (fun x : {x // x ∈ l ++ [p]} => x.1) PerV.vs, List.attach_map_subtype_val]
    have hHK : HoldsK (fun x : {x // x ∈ l ++ [p]} => x.1.vs) 5 w b off (l ++ [p]).attach.toArray := by
      unfold HoldsK
      rw [flatK_list (enc := fun x : {x // x ∈ l ++ [p]} => x.1.vs) (k := 5) (by decide) (fun _ => rfl), hfl]
      exact hH
    have hsz : (l ++ [p]).attach.toArray.size = l.length + 1 := by simp
    have hcon := AnyQ.slices_SortFunc_total Try.laysSortP 5 Try.isAgg52 Try.sizeOf52 (fun x : {x // x ∈ l ++ [p]} => x.1.vs) (fun _ => rfl) (fun x v hv => by
      simp only [PerV.vs, List.mem_cons, List.not_mem_nil, or_false] at hv
      rcases hv with rfl | rfl | rfl | rfl | rfl <;> rfl) (fun x y => idCmp x.1 y.1) (sub_swo _) 82 #[] b off cap (l ++ [p]).attach.toArray w eg (fun m os dk _ x y => addCmp_c x.1 y.1 _) hHK hlt (by rw [hsz]; omega) (fun x y h2 h3 => by
      rw [sub_cmp] at h2 h3
      simp only [decide_eq_false_iff_not] at h2 h3
      exact Subtype.ext (hinj x.1 x.2 y.1 y.2 h2 h3))
    rw [hsz] at hcon
    refine Calls.mono hcon fun e w' hh => ?_
    obtain ⟨he, n, os, hw⟩ := hh
    refine ⟨he, n, os, ?_⟩
    rw [hw]
    unfold sortWorldK putRowK
    rw [flatK_list (enc := fun x : {x // x ∈ l ++ [p]} => x.1.vs) (k := 5) (by decide) (fun _ => rfl)]
    rw [← List.flatMap_map (fun x : {x // x ∈ l ++ [p]} => x.1) PerV.vs]
    have hs : ((l ++ [p]).attach.mergeSort fun x y => !(ltOf fun x y : {x // x ∈ l ++ [p]} => idCmp x.1 y.1) y x).map (fun x => x.1) = insI l p := by
      refine sort_eq ha hp ?_ ?_
      · have := (List.mergeSort_perm (l ++ [p]).attach fun x y => !(ltOf fun x y : {x // x ∈ l ++ [p]} => idCmp x.1 y.1) y x).map (fun x => x.1)
        rwa [List.attach_map_subtype_val] at this
      · rw [List.pairwise_map]
        refine (List.pairwise_mergeSort (le := fun x y => !(ltOf fun x y : {x // x ∈ l ++ [p]} => idCmp x.1 y.1) y x) (fun a b c h1 h2 => ?_) (fun a b => ?_) _).imp fun {a b} hab => ?_
        · rw [sub_cmp] at *
          simp at *
          omega
        · rw [sub_cmp]
          simp
          omega
        · rw [sub_cmp] at hab
          simp at hab
          omega
    rw [hs])
  simpa only [perC_vs] using h

theorem sortP_s (s : Nat) (l : List PerV) (p : PerV) (ha : l.Pairwise (fun x y => x.id < y.id)) (hp : ∀ q ∈ l, q.id ≠ p.id) (hl : l.length ≤ 1048576) : FnS Try.prog 81 [(s, .ds (perC (l ++ [p])))] [.bs s 0 (l.length + 1) 5, .fc 82 [] []] [(s, .ds (perC (insI l p)))] (.tu []) := by
  have h := (sortP_hi l p ha hp hl).sw 5000 s
  simpa only [swO, AV.swL, AV.sw, OB.sw, swp, if_true] using h

end Go.Proofs.Ythjafngffkhffaa
