/- A region that draws its order. -/
import Derived.Test.YtdinkfmkhdnbpaaFlow24
import Derived.WalkKit
import Derived.WalkSpells
import Derived.OrdersHeld
namespace Go.Proofs.Ytdinkfmkhdnbpaa
open Go.RowKit
set_option linter.unusedVariables false
set_option linter.unusedSimpArgs false

/-- A region's operations that come up in whatever order, and then the rest. -/
def wpAnyE (P : Program) (ops : Array Oper) (Q : Exit → Act → World → Prop) (T : List Nat) (m : Nat) : Nat → Array Bool → Act → World → Prop
  | 0, listed, a, w => (∀ j ∈ Region.ready .any ops listed, j ∈ T) ∧ wpAny P .any ops Q m listed a w
  | n + 1, listed, a, w => Region.ready .any ops listed ≠ [] ∧ ∀ i ∈ Region.ready .any ops listed, wpOp P ops Q i (fun a' w' => Below w.heap.size w w' ∧ wpAnyE P ops Q T m n (listed.setIfInBounds i true) a' w') a w

/-- The operations of these numbers, one after another. -/
def RunI (P : Program) (ops : List Oper) : List (Nat × Bool) → St → (St → Prop) → Prop
  | [], σ, K => K σ
  | (i, q) :: l, σ, K => match ops[i]? with
    | some o => Step P q ops o σ (fun σ' => RunI P ops l σ' K)
    | none => False

def planT (ops : Array Oper) : List Nat → Array Bool → Bool
  | [], listed => (Region.ready .any ops listed).isEmpty
  | i :: r, listed => Region.ready .any ops listed == [i] && planT ops r (listed.setIfInBounds i true)

def boundAfter (ops : Array Oper) (i j : Nat) : Bool := match ops[j]? with
  | some o => o.after.any fun e => Region.binds .any e && e.on == i
  | none => false

def kindAt (k : Op → Bool) (ops : Array Oper) (i : Nat) : Bool := match ops[i]? with
  | some o => k o.op
  | none => false

/-- How a region's orders are gone over: a pure operation that may come first; one that comes alone; two (or three) of which each may come first. -/
inductive PT where
  | fin
  | pure (i : Nat) (t : PT)
  | one (i : Nat) (t : PT)
  | two (i : Nat) (t : PT) (j : Nat) (u : PT)

def PT.depth : PT → Nat
  | .fin => 0
  | .pure _ t => t.depth + 1
  | .one _ t => t.depth + 1
  | .two _ t _ _ => t.depth + 1

/-- A pure operation touches no memory, or only reads, and nobody that may still come up before it writes what it looks at. -/
def planE (ops : Array Oper) (T : List Nat) : PT → Array Bool → Bool
  | .fin, listed => (Region.ready .any ops listed).all T.contains && planT ops T listed
  | .pure i r, listed => kindAt pureKind ops i && (Region.ready .any ops listed).contains i && Region.free .any ops listed i && T.all (boundAfter ops i) && planE ops T r (listed.setIfInBounds i true)
  | .one i r, listed => kindAt quietKind ops i && Region.ready .any ops listed == [i] && planE ops T r (listed.setIfInBounds i true)
  | .two i r j u, listed => kindAt quietKind ops i && kindAt quietKind ops j && Region.ready .any ops listed == [i, j] && r.depth == u.depth && planE ops T r (listed.setIfInBounds i true) && planE ops T u (listed.setIfInBounds j true)

def planB (l : List Oper) (E : PT) (T : List Nat) : Bool :=
  Region.noSelect l.toArray && E.depth + T.length == l.length && planE l.toArray T E (Array.replicate l.length false)

def listT : List Nat → List (Nat × Bool)
  | [] => []
  | i :: r => (i, false) :: listT r

def RunP (P : Program) (ops : List Oper) (T : List Nat) : PT → St → (St → Prop) → Prop
  | .fin, σ, K => RunI P ops (listT T) σ K
  | .pure i t, σ, K => match ops[i]? with
    | some o => Step P true ops o σ (fun σ' => RunP P ops T t σ' K)
    | none => False
  | .one i t, σ, K => match ops[i]? with
    | some o => Step P true ops o σ (fun σ' => RunP P ops T t σ' K)
    | none => False
  | .two i t j u, σ, K => (match ops[i]? with
    | some o => Step P true ops o σ (fun σ' => RunP P ops T t σ' K)
    | none => False) ∧ (match ops[j]? with
    | some o => Step P true ops o σ (fun σ' => RunP P ops T u σ' K)
    | none => False)

section
variable {P : Program} {ops : Array Oper} {Q : Exit → Act → World → Prop} {T : List Nat} {m : Nat}

theorem wpAnyE_any : ∀ (n : Nat) (listed : Array Bool) (a : Act) (w : World), wpAnyE P ops Q T m n listed a w → wpAny P .any ops Q (n + m) listed a w
  | 0, listed, a, w, h => by rw [Nat.zero_add]; exact h.2
  | n + 1, listed, a, w, h => by
    have e : n + 1 + m = (n + m) + 1 := by omega
    rw [e]
    refine ⟨fun h0 => absurd h0 h.1, fun i hi => wpOp_mono (fun a' w' hh => wpAnyE_any n _ a' w' hh.2) (h.2 i hi)⟩

theorem wpAnyE_first {i : Nat} {oi : Oper} {v : Value} (hi : ops[i]? = some oi) (hsel : ∀ (j : Nat) (o : Oper) cs b, ops[j]? = some o → o.op ≠ .select cs b)
    (hQ : ∀ c a w, Q (.panic c) (a.put oi.dst v) w → Q (.panic c) a w) (hT : ∀ j ∈ T, ∀ oj, ops[j]? = some oj → ∃ e ∈ oj.after, Region.binds .any e = true ∧ e.on = i) :
    ∀ (n : Nat) (listed : Array Bool) (a : Act) (w : World),
      (∀ j oj, ops[j]? = some oj → j ≠ i → listed.getD j true = false → (∀ e ∈ oj.after, Region.binds .any e = true → e.on ≠ i) → oi.apart ops oj = true) →
      i ∈ Region.ready .any ops listed → YieldsIf P ops (Below w.heap.size w) oi v a →
      wpAnyE P ops Q T m n (listed.setIfInBounds i true) (a.put oi.dst v) w → wpAnyE P ops Q T m (n + 1) listed a w := by
  have hnotb : ∀ (listed : Array Bool) (j : Nat) (oj : Oper), i ∈ Region.ready .any ops listed → j ∈ Region.ready .any ops listed → ops[j]? = some oj → ∀ e ∈ oj.after, Region.binds .any e = true → e.on ≠ i := by
    intro listed j oj hr hj hoj e he hb heq
    obtain ⟨hjun, oj', hoj', hall⟩ := mem_ready.1 hj
    rw [hoj] at hoj'
    cases hoj'
    have h1 := hall e he hb
    have h0 := (mem_ready.1 hr).1
    rw [heq] at h1
    rcases Nat.lt_or_ge i listed.size with h' | h'
    · simp [h'] at h0 h1; rw [h0] at h1; cases h1
    · simp [Array.getElem?_eq_none h'] at h1
  intro n
  induction n with
  | zero =>
    intro listed a w _ hr hy H
    refine ⟨fun h => (by rw [h] at hr; cases hr), fun j hj => ?_⟩
    by_cases hji : j = i
    · subst hji; exact hy.wpOp hi (Below.refl _ _) ⟨Below.refl _ _, H⟩
    · have hjT := H.1 j (ready_mono hj hji)
      obtain ⟨hjun, oj, hoj, hall⟩ := mem_ready.1 hj
      obtain ⟨e, he, hb, heq⟩ := hT j hjT oj hoj
      exact absurd heq (hnotb listed j oj hr hj hoj e he hb)
  | succ n ih =>
    intro listed a w hfree hr hy H
    refine ⟨fun h => (by rw [h] at hr; cases hr), fun j hj => ?_⟩
    by_cases hji : j = i
    · subst hji; exact hy.wpOp hi (Below.refl _ _) ⟨Below.refl _ _, H⟩
    · have h1 := H.2 j (ready_mono hj hji)
      obtain ⟨hjun, oj, hoj, hall⟩ := mem_ready.1 hj
      have hnot := hnotb listed j oj hr hj hoj
      have h2 := wpOp_putIf hoj (hfree j oj hoj hji hjun hnot) (fun cs b => hsel i oi cs b hi) (fun cs b => hsel j oj cs b hoj) hQ hy h1
      have hfree' : ∀ k ok, ops[k]? = some ok → k ≠ i → (listed.setIfInBounds j true).getD k true = false →
          (∀ e ∈ ok.after, Region.binds .any e = true → e.on ≠ i) → oi.apart ops ok = true := fun k ok hk hki hun hno => by
        refine hfree k ok hk hki ?_ hno
        by_cases hjk : j = k
        · subst hjk
          exact hjun
        · rw [getD_set_ne true hjk] at hun; exact hun
      refine wpOp_mono (fun a' w' h3 => ?_) h2
      obtain ⟨hy', hbel, h4⟩ := h3
      refine ⟨hbel, ih (listed.setIfInBounds j true) a' w' hfree' (ready_mono hr (Ne.symm hji)) ?_ ?_⟩
      · rcases hy' with ⟨hw, hv⟩ | hy'
        · exact .inl ⟨hw, fun w'' hw'' => hv w'' (hbel.trans (hw''.mono hbel.size))⟩
        · exact .inr hy'
      · rw [Array.setIfInBounds_comm _ _ hji]
        exact h4
end

section
variable {P : Program} {w0 : Env} {l : List Oper} {K : St → Prop} {Q : Exit → Act → World → Prop}

theorem planT_sound (hK : ∀ σ ν a w, K σ → Sim P w0 σ ν a w → Q .normal a w) (n : Nat) (hd : ∀ o ∈ l, ∀ t, o.dst = some t → t < n) :
    ∀ (T : List Nat) (listed : Array Bool) (σ : St) (ν : Loc) (a : Act) (w : World), planT l.toArray T listed = true → a.tmps.size = n → Sim P w0 σ ν a w → RunI P l (listT T) σ K → wpAny P .any l.toArray Q T.length listed a w
  | [], listed, σ, ν, a, w, hp, hn, hs, hr => by
    simp only [planT, List.isEmpty_iff] at hp
    exact ⟨hp, hK σ ν a w hr hs⟩
  | i :: T, listed, σ, ν, a, w, hp, hn, hs, hr => by
    simp only [planT, Bool.and_eq_true, beq_iff_eq] at hp
    obtain ⟨hp1, hp2⟩ := hp
    simp only [listT, RunI] at hr
    split at hr
    · rename_i o ho
      refine ⟨(fun h0 => by rw [h0] at hp1; cases hp1), fun j hj => ?_⟩
      rw [hp1] at hj
      simp only [List.mem_singleton] at hj
      subst hj
      have h1 := step_sound hs (fun t ht => by rw [← hs.size, hn]; exact hd o (List.mem_of_getElem? ho) t ht) hr (Q := Q)
      unfold wpOp
      simp only [List.getElem?_toArray, ho]
      by_cases hw : Region.wanted o (yielded l.toArray a.tmps) = true
      · rw [if_pos hw] at h1 ⊢
        refine .inl (Oper.wp_mono (fun a' w' hh => ?_) h1)
        obtain ⟨hsz, _, σ', ν', h2, h3⟩ := hh
        exact planT_sound hK n hd T _ σ' ν' a' w' hp2 (hsz.trans hn) h3 h2
      · rw [if_neg hw] at h1 ⊢
        obtain ⟨σ', ν', h2, h3⟩ := h1
        exact planT_sound hK n hd T _ σ' ν' _ w hp2 (put_size.trans hn) h3 h2
    · exact hr.elim

theorem step_alone (n : Nat) (hd : ∀ o ∈ l, ∀ t, o.dst = some t → t < n) {T : List Nat} {m k i : Nat} {o : Oper} (ho : l[i]? = some o) (hk : kindAt quietKind l.toArray i = true) {listed : Array Bool} {σ : St} {ν : Loc} {a : Act} {w : World} (hn : a.tmps.size = n) (hs : Sim P w0 σ ν a w) {K2 : St → Prop} (hr : Step P true l o σ K2)
    (hnext : ∀ σ' ν' a' w', K2 σ' → a'.tmps.size = n → Sim P w0 σ' ν' a' w' → wpAnyE P l.toArray Q T m k listed a' w') : wpOp P l.toArray Q i (fun a' w' => Below w.heap.size w w' ∧ wpAnyE P l.toArray Q T m k listed a' w') a w := by
  have hk : quietKind o.op = true := by simpa [kindAt, ho] using hk
  have h1 := step_sound hs (fun t ht => by rw [← hs.size, hn]; exact hd o (List.mem_of_getElem? ho) t ht) hr (Q := Q)
  unfold wpOp
  simp only [List.getElem?_toArray, ho]
  by_cases hw : Region.wanted o (yielded l.toArray a.tmps) = true
  · rw [if_pos hw] at h1 ⊢
    refine .inl (Oper.wp_mono (fun a' w' hh => ?_) h1)
    obtain ⟨hsz, hbel, σ', ν', h2, h3⟩ := hh
    exact ⟨hbel rfl hk, hnext σ' ν' a' w' h2 (hsz.trans hn) h3⟩
  · rw [if_neg hw] at h1 ⊢
    obtain ⟨σ', ν', h2, h3⟩ := h1
    exact ⟨Below.refl _ _, hnext σ' ν' _ w h2 (put_size.trans hn) h3⟩

theorem planE_sound (hsel : Region.noSelect l.toArray = true) (hpan : ∀ c a w, ¬ Q (.panic c) a w) (hK : ∀ σ ν a w, K σ → Sim P w0 σ ν a w → Q .normal a w) (n : Nat) (hd : ∀ o ∈ l, ∀ t, o.dst = some t → t < n) (T : List Nat) :
    ∀ (E : PT) (listed : Array Bool) (σ : St) (ν : Loc) (a : Act) (w : World), planE l.toArray T E listed = true → a.tmps.size = n → Sim P w0 σ ν a w → RunP P l T E σ K → wpAnyE P l.toArray Q T T.length E.depth listed a w
  | .fin, listed, σ, ν, a, w, hp, hn, hs, hr => by
    simp only [planE, Bool.and_eq_true, List.all_eq_true] at hp
    exact ⟨fun j hj => by simpa using hp.1 j hj, planT_sound hK n hd T listed σ ν a w hp.2 hn hs (by simpa only [RunP] using hr)⟩
  | .pure i E, listed, σ, ν, a, w, hp, hn, hs, hr => by
    simp only [planE, Bool.and_eq_true] at hp
    obtain ⟨⟨⟨⟨hp1, hp2⟩, hp3⟩, hp4⟩, hp5⟩ := hp
    simp only [RunP] at hr
    split at hr
    · rename_i o ho
      have ho' : l.toArray[i]? = some o := by simpa using ho
      have hk : pureKind o.op = true := by simpa [kindAt, ho] using hp1
      obtain ⟨v, σ', h1, h2, h3⟩ := step_pure hs hk (fun t ht => by rw [← hs.size, hn]; exact hd o (List.mem_of_getElem? ho) t ht) hr
      have h4 := planE_sound hsel hpan hK n hd T E _ σ' ν _ w hp5 (put_size.trans hn) h3 h2
      refine wpAnyE_first ho' (Region.noSelect_spec hsel) (fun c a w hq => absurd hq (hpan c _ w)) (fun j hj oj hoj => ?_) E.depth listed a w (Region.free_spec ho' hp3) (by simpa using hp2) h1 h4
      have := List.all_eq_true.1 hp4 j hj
      simp only [boundAfter, hoj] at this
      obtain ⟨e, he, hb⟩ := Array.any_eq_true'.1 this
      simp only [Bool.and_eq_true, beq_iff_eq] at hb
      exact ⟨e, he, hb.1, hb.2⟩
    · exact hr.elim
  | .one i E, listed, σ, ν, a, w, hp, hn, hs, hr => by
    simp only [planE, Bool.and_eq_true, beq_iff_eq] at hp
    obtain ⟨⟨hp1, hp2⟩, hp3⟩ := hp
    simp only [RunP] at hr
    split at hr
    · rename_i o ho
      refine ⟨(fun h0 => by rw [h0] at hp2; cases hp2), fun j hj => ?_⟩
      rw [hp2] at hj
      simp only [List.mem_singleton] at hj
      subst hj
      exact step_alone n hd ho hp1 hn hs hr (fun σ' ν' a' w' h2 h3 h4 => planE_sound hsel hpan hK n hd T E _ σ' ν' a' w' hp3 h3 h4 h2)
    · exact hr.elim
  | .two i E j F, listed, σ, ν, a, w, hp, hn, hs, hr => by
    simp only [planE, Bool.and_eq_true, beq_iff_eq] at hp
    obtain ⟨⟨⟨⟨⟨hp1, hp2⟩, hp3⟩, hp4⟩, hp5⟩, hp6⟩ := hp
    simp only [RunP] at hr
    obtain ⟨hr1, hr2⟩ := hr
    refine ⟨(fun h0 => by rw [h0] at hp3; cases hp3), fun k hk => ?_⟩
    rw [hp3] at hk
    simp only [List.mem_cons, List.not_mem_nil, or_false] at hk
    rcases hk with rfl | rfl
    · split at hr1
      · rename_i o ho
        exact step_alone n hd ho hp1 hn hs hr1 (fun σ' ν' a' w' h2 h3 h4 => planE_sound hsel hpan hK n hd T E _ σ' ν' a' w' hp5 h3 h4 h2)
      · exact hr1.elim
    · split at hr2
      · rename_i o ho
        exact step_alone n hd ho hp2 hn hs hr2 (fun σ' ν' a' w' h2 h3 h4 => by rw [hp4]; exact planE_sound hsel hpan hK n hd T F _ σ' ν' a' w' hp6 h3 h4 h2)
      · exact hr2.elim
end

/-- A REGION THAT DRAWS ITS ORDER, by a plan. -/
theorem aw_draw {P : Program} (hm : P.follows .mixedOrders = true) {σ : St} {Q : Exit → St → Prop} {id : Nat} {l : List Oper} (E : PT) (T : List Nat) (hd : dstsB l σ.n = true) (hp : planB l E T = true)
    (h : RunP P l T E σ (Q .normal)) : AW P (.region id l.toArray true) Q σ := fun w0 ν a w hs => by
  simp only [planB, Bool.and_eq_true, beq_iff_eq] at hp
  obtain ⟨⟨hp1, hp2⟩, hp3⟩ := hp
  refine Code.wp_mono (Q := fun e a' w' => e = .normal ∧ ∃ σ' ν', Q .normal σ' ∧ Sim P w0 σ' ν' a' w') (fun e a' w' hh => ?_) ?_
  · obtain ⟨rfl, hh⟩ := hh
    exact hh
  · refine wp_region_any hm ?_
    have hs' : Sim P w0 σ ν a { w with drawn := w.drawn + 1 } := hs.grown (w' := { w with drawn := w.drawn + 1 }) (Below.refl w.heap.size w).drew
    have := wpAnyE_any _ _ _ _ (planE_sound (P := P) (w0 := w0) (l := l) (K := Q .normal) (Q := fun e a' w' => e = .normal ∧ ∃ σ' ν', Q .normal σ' ∧ Sim P w0 σ' ν' a' w') hp1 (fun c a w hq => by cases hq.1) (fun σ' ν' a' w' hk hs' => ⟨rfl, σ', ν', hk, hs'⟩) σ.n (dsts_spec hd) T E (Array.replicate l.length false) σ ν a _ hp3 hs.size hs' h)
    rw [hp2] at this
    simpa using this

end Go.Proofs.Ytdinkfmkhdnbpaa
