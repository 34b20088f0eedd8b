/- A region that draws its order, with operations that write: more plans. -/
import Derived.Test.YtdinkfmkhdnbpaaFlow29
import Derived.WalkKit
import Derived.WalkSpells
import Derived.OrdersHeld
namespace Go.Proofs.Ytdinkfmkhdnbpaa
open Go.RowKit
set_option linter.unusedVariables false
set_option linter.unusedSimpArgs false

/-- A region's operations in whatever order; those that are not of U turn nothing that was there. -/
def wpAnyF (P : Program) (ops : Array Oper) (Q : Exit → Act → World → Prop) (U : List Nat) : Nat → Array Bool → Act → World → Prop
  | 0, listed, a, w => Region.ready .any ops listed = [] ∧ Q .normal a w
  | n + 1, listed, a, w => Region.ready .any ops listed ≠ [] ∧ ∀ i ∈ Region.ready .any ops listed, wpOp P ops Q i (fun a' w' => (i ∉ U → Below w.heap.size w w') ∧ wpAnyF P ops Q U n (listed.setIfInBounds i true) a' w') a w

/-- It looks at no memory. -/
def stillKind : Op → Bool
  | .move _ | .assign _ | .extract _ _ => true
  | _ => false

/-- How a region's orders are gone over. -/
inductive PU where
  | fin
  | pure (i : Nat) (t : PU)
  | still (i : Nat) (t : PU)
  | one (q : Bool) (i : Nat) (t : PU)
  | two (q : Bool) (i : Nat) (t : PU) (q' : Bool) (j : Nat) (u : PU)
  | three (q : Bool) (i : Nat) (t : PU) (q' : Bool) (j : Nat) (u : PU) (q'' : Bool) (k : Nat) (v : PU)

def PU.depth : PU → Nat
  | .fin => 0
  | .pure _ t => t.depth + 1
  | .still _ t => t.depth + 1
  | .one _ _ t => t.depth + 1
  | .two _ _ t _ _ _ => t.depth + 1
  | .three _ _ t _ _ _ _ _ _ => t.depth + 1

def okU (ops : Array Oper) (U : List Nat) (q : Bool) (i : Nat) : Bool := bif q then kindAt quietKind ops i else U.contains i

def planU (ops : Array Oper) (U : List Nat) : PU → Array Bool → Bool
  | .fin, listed => (Region.ready .any ops listed).isEmpty
  | .pure i r, listed => kindAt pureKind ops i && (Region.ready .any ops listed).contains i && Region.free .any ops listed i && U.all (boundAfter ops i) && planU ops U r (listed.setIfInBounds i true)
  | .still i r, listed => kindAt stillKind ops i && (Region.ready .any ops listed).contains i && Region.free .any ops listed i && planU ops U r (listed.setIfInBounds i true)
  | .one q i r, listed => okU ops U q i && Region.ready .any ops listed == [i] && planU ops U r (listed.setIfInBounds i true)
  | .two q i r q' j u, listed => okU ops U q i && okU ops U q' j && Region.ready .any ops listed == [i, j] && r.depth == u.depth && planU ops U r (listed.setIfInBounds i true) && planU ops U u (listed.setIfInBounds j true)
  | .three q i r q' j u q'' k v, listed => okU ops U q i && okU ops U q' j && okU ops U q'' k && Region.ready .any ops listed == [i, j, k] && r.depth == u.depth && r.depth == v.depth && planU ops U r (listed.setIfInBounds i true) && planU ops U u (listed.setIfInBounds j true) && planU ops U v (listed.setIfInBounds k true)

def planUB (l : List Oper) (E : PU) (U : List Nat) : Bool :=
  Region.noSelect l.toArray && E.depth == l.length && planU l.toArray U E (Array.replicate l.length false)

def AtU (P : Program) (q : Bool) (ops : List Oper) (o : Option Oper) (σ : St) (K : St → Prop) : Prop := match o with
  | some o => Step P q ops o σ K
  | none => False

def RunU (P : Program) (ops : List Oper) : PU → St → (St → Prop) → Prop
  | .fin, σ, K => K σ
  | .pure i t, σ, K => AtU P true ops ops[i]? σ (fun σ' => RunU P ops t σ' K)
  | .still i t, σ, K => AtU P true ops ops[i]? σ (fun σ' => RunU P ops t σ' K)
  | .one q i t, σ, K => AtU P q ops ops[i]? σ (fun σ' => RunU P ops t σ' K)
  | .two q i t q' j u, σ, K => AtU P q ops ops[i]? σ (fun σ' => RunU P ops t σ' K) ∧ AtU P q' ops ops[j]? σ (fun σ' => RunU P ops u σ' K)
  | .three q i t q' j u q'' k v, σ, K => AtU P q ops ops[i]? σ (fun σ' => RunU P ops t σ' K) ∧ AtU P q' ops ops[j]? σ (fun σ' => RunU P ops u σ' K) ∧ AtU P q'' ops ops[k]? σ (fun σ' => RunU P ops v σ' K)

section
variable {P : Program} {ops : Array Oper} {Q : Exit → Act → World → Prop} {U : List Nat}

theorem wpAnyF_any : ∀ (n : Nat) (listed : Array Bool) (a : Act) (w : World), wpAnyF P ops Q U n listed a w → wpAny P .any ops Q n listed a w
  | 0, listed, a, w, h => h
  | n + 1, listed, a, w, h => ⟨fun h0 => absurd h0 h.1, fun i hi => wpOp_mono (fun a' w' hh => wpAnyF_any n _ a' w' hh.2) (h.2 i hi)⟩

theorem wpAnyF_first {i : Nat} {oi : Oper} {v : Value} (T : World → World → Prop) (hT0 : ∀ w, T w w) (hT : ∀ w w' w'', Below w.heap.size w w' → T w' w'' → T w w'') (hi : ops[i]? = some oi) (hsel : ∀ (j : Nat) (o : Oper) cs b, ops[j]? = some o → o.op ≠ .select cs b)
    (hQ : ∀ c a w, Q (.panic c) (a.put oi.dst v) w → Q (.panic c) a w) (hU : (∀ w w' w'', T w' w'' → T w w'') ∨ ∀ j ∈ U, ∀ oj, ops[j]? = some oj → ∃ e ∈ oj.after, Region.binds .any e = true ∧ e.on = i) :
    ∀ (n : Nat) (listed : Array Bool) (a : Act) (w : World),
      (∀ j oj, ops[j]? = some oj → j ≠ i → listed.getD j true = false → (∀ e ∈ oj.after, Region.binds .any e = true → e.on ≠ i) → oi.apart ops oj = true) →
      i ∈ Region.ready .any ops listed → YieldsIf P ops (T w) oi v a → Below w.heap.size w w →
      wpAnyF P ops Q U n (listed.setIfInBounds i true) (a.put oi.dst v) w → wpAnyF P ops Q U (n + 1) listed a w := by
  have hnotb : ∀ (listed : Array Bool) (j : Nat) (oj : Oper), i ∈ Region.ready .any ops listed → j ∈ Region.ready .any ops listed → ops[j]? = some oj → ∀ e ∈ oj.after, Region.binds .any e = true → e.on ≠ i := by
    intro listed j oj hr hj hoj e he hb heq
    obtain ⟨hjun, oj', hoj', hall⟩ := mem_ready.1 hj
    rw [hoj] at hoj'
    cases hoj'
    have h1 := hall e he hb
    have h0 := (mem_ready.1 hr).1
    rw [heq] at h1
    rcases Nat.lt_or_ge i listed.size with h' | h'
    · simp [h'] at h0 h1; rw [h0] at h1; cases h1
    · simp [Array.getElem?_eq_none h'] at h1
  intro n
  induction n with
  | zero =>
    intro listed a w _ hr hy hb0 H
    refine ⟨fun h => (by rw [h] at hr; cases hr), fun j hj => ?_⟩
    by_cases hji : j = i
    · subst hji; exact hy.wpOp hi (hT0 w) ⟨fun _ => hb0, H⟩
    · have := ready_mono hj hji
      rw [H.1] at this
      cases this
  | succ n ih =>
    intro listed a w hfree hr hy hb0 H
    refine ⟨fun h => (by rw [h] at hr; cases hr), fun j hj => ?_⟩
    by_cases hji : j = i
    · subst hji; exact hy.wpOp hi (hT0 w) ⟨fun _ => hb0, H⟩
    · have h1 := H.2 j (ready_mono hj hji)
      obtain ⟨hjun, oj, hoj, hall⟩ := mem_ready.1 hj
      have hnot := hnotb listed j oj hr hj hoj
      have h2 := wpOp_putIf hoj (hfree j oj hoj hji hjun hnot) (fun cs b => hsel i oi cs b hi) (fun cs b => hsel j oj cs b hoj) hQ hy h1
      have hfree' : ∀ k ok, ops[k]? = some ok → k ≠ i → (listed.setIfInBounds j true).getD k true = false →
          (∀ e ∈ ok.after, Region.binds .any e = true → e.on ≠ i) → oi.apart ops ok = true := fun k ok hk hki hun hno => by
        refine hfree k ok hk hki ?_ hno
        by_cases hjk : j = k
        · subst hjk
          exact hjun
        · rw [getD_set_ne true hjk] at hun; exact hun
      have hjU : (∀ w w' w'', T w' w'' → T w w'') ∨ j ∉ U := by
        rcases hU with h | h
        · exact .inl h
        · refine .inr (fun hjU => ?_)
          obtain ⟨e, he, hb, heq⟩ := h j hjU oj hoj
          exact hnot e he hb heq
      refine wpOp_mono (fun a' w' h3 => ?_) h2
      obtain ⟨hy', hbel, h4⟩ := h3
      refine ⟨hbel, ih (listed.setIfInBounds j true) a' w' hfree' (ready_mono hr (Ne.symm hji)) ?_ (Below.refl _ _) ?_⟩
      · rcases hy' with ⟨hw, hv⟩ | hy'
        · refine .inl ⟨hw, fun w'' hw'' => hv w'' ?_⟩
          rcases hjU with h | h
          · exact h w w' w'' hw''
          · exact hT w w' w'' (hbel h) hw''
        · exact .inr hy'
      · rw [Array.setIfInBounds_comm _ _ hji]
        exact h4
end

section
variable {P : Program} {w0 : Env} {l : List Oper} {K : St → Prop} {Q : Exit → Act → World → Prop}

theorem still_any {ρ : Operand → Value} {o : Oper} {v : Value} {w : World} (hk : stillKind o.op = true) (h : (execOp ρ o).run P w = .ok (.value v) w) (w' : World) : (execOp ρ o).run P w' = .ok (.value v) w' := by
  obtain ⟨dst, op, ty, pos, after, guard⟩ := o
  cases op with
  | move x => simpa [execOp] using h
  | assign x => simpa [execOp] using h
  | extract x i =>
    simp only [execOp, Instr.extract] at h ⊢
    cases hx : ρ x with
    | tuple vs =>
      rw [hx] at h
      simp only at h ⊢
      cases hi : vs[i]? with
      | none => rw [hi] at h; simp at h
      | some y => rw [hi] at h; simpa using h
    | _ => rw [hx] at h; simp at h
  | _ => simp [stillKind] at hk

theorem stepU (n : Nat) (hd : ∀ o ∈ l, ∀ t, o.dst = some t → t < n) {U : List Nat} {k i : Nat} {q : Bool} (hk : okU l.toArray U q i = true) {listed : Array Bool} {σ : St} {ν : Loc} {a : Act} {w : World} (hn : a.tmps.size = n) (hs : Sim P w0 σ ν a w) {K2 : St → Prop} (hr : AtU P q l l[i]? σ K2)
    (hnext : ∀ σ' ν' a' w', K2 σ' → a'.tmps.size = n → Sim P w0 σ' ν' a' w' → wpAnyF P l.toArray Q U k listed a' w') : wpOp P l.toArray Q i (fun a' w' => (i ∉ U → Below w.heap.size w w') ∧ wpAnyF P l.toArray Q U k listed a' w') a w := by
  cases ho : l[i]? with
  | none => rw [ho] at hr; exact hr.elim
  | some o =>
    rw [ho] at hr
    simp only [AtU] at hr
    have h1 := step_sound hs (fun t ht => by rw [← hs.size, hn]; exact hd o (List.mem_of_getElem? ho) t ht) hr (Q := Q)
    unfold wpOp
    simp only [List.getElem?_toArray, ho]
    by_cases hw : Region.wanted o (yielded l.toArray a.tmps) = true
    · rw [if_pos hw] at h1 ⊢
      refine .inl (Oper.wp_mono (fun a' w' hh => ?_) h1)
      obtain ⟨hsz, hbel, σ', ν', h2, h3⟩ := hh
      refine ⟨fun hU => ?_, hnext σ' ν' a' w' h2 (hsz.trans hn) h3⟩
      cases q with
      | true =>
        refine hbel rfl ?_
        simpa [okU, kindAt, ho] using hk
      | false =>
        simp only [okU, cond_false, List.contains_iff_mem] at hk
        exact absurd hk hU
    · rw [if_neg hw] at h1 ⊢
      obtain ⟨σ', ν', h2, h3⟩ := h1
      exact ⟨fun _ => Below.refl _ _, hnext σ' ν' _ w h2 (put_size.trans hn) h3⟩

theorem planU_sound (hsel : Region.noSelect l.toArray = true) (hpan : ∀ c a w, ¬ Q (.panic c) a w) (hK : ∀ σ ν a w, K σ → Sim P w0 σ ν a w → Q .normal a w) (n : Nat) (hd : ∀ o ∈ l, ∀ t, o.dst = some t → t < n) (U : List Nat) :
    ∀ (E : PU) (listed : Array Bool) (σ : St) (ν : Loc) (a : Act) (w : World), planU l.toArray U E listed = true → a.tmps.size = n → Sim P w0 σ ν a w → RunU P l E σ K → wpAnyF P l.toArray Q U E.depth listed a w
  | .fin, listed, σ, ν, a, w, hp, hn, hs, hr => by
    simp only [planU, List.isEmpty_iff] at hp
    exact ⟨hp, hK σ ν a w (by simpa only [RunU] using hr) hs⟩
  | .pure i E, listed, σ, ν, a, w, hp, hn, hs, hr => by
    simp only [planU, Bool.and_eq_true] at hp
    obtain ⟨⟨⟨⟨hp1, hp2⟩, hp3⟩, hp4⟩, hp5⟩ := hp
    simp only [RunU, AtU] at hr
    split at hr
    · rename_i o ho
      have ho' : l.toArray[i]? = some o := by simpa using ho
      have hk : pureKind o.op = true := by simpa [kindAt, ho] using hp1
      obtain ⟨v, σ', h1, h2, h3⟩ := step_pure hs hk (fun t ht => by rw [← hs.size, hn]; exact hd o (List.mem_of_getElem? ho) t ht) hr
      have h4 := planU_sound hsel hpan hK n hd U E _ σ' ν _ w hp5 (put_size.trans hn) h3 h2
      refine wpAnyF_first (fun w w' => Below w.heap.size w w') (fun w => Below.refl _ _) (fun w w' w'' hb ht => hb.trans (ht.mono hb.size)) ho' (Region.noSelect_spec hsel) (fun c a w hq => absurd hq (hpan c _ w)) (.inr (fun j hj oj hoj => ?_)) E.depth listed a w (Region.free_spec ho' hp3) (by simpa using hp2) h1 (Below.refl _ _) h4
      have := List.all_eq_true.1 hp4 j hj
      simp only [boundAfter, hoj] at this
      obtain ⟨e, he, hb⟩ := Array.any_eq_true'.1 this
      simp only [Bool.and_eq_true, beq_iff_eq] at hb
      exact ⟨e, he, hb.1, hb.2⟩
    · exact hr.elim
  | .still i E, listed, σ, ν, a, w, hp, hn, hs, hr => by
    simp only [planU, Bool.and_eq_true] at hp
    obtain ⟨⟨⟨hp1, hp2⟩, hp3⟩, hp5⟩ := hp
    simp only [RunU, AtU] at hr
    split at hr
    · rename_i o ho
      have ho' : l.toArray[i]? = some o := by simpa using ho
      have hk0 : stillKind o.op = true := by simpa [kindAt, ho] using hp1
      have hk : pureKind o.op = true := by
        cases hop : o.op <;> rw [hop] at hk0 <;> first | rfl | simp [stillKind] at hk0
      obtain ⟨v, σ', h1, h2, h3⟩ := step_pure hs hk (fun t ht => by rw [← hs.size, hn]; exact hd o (List.mem_of_getElem? ho) t ht) hr
      have h4 := planU_sound hsel hpan hK n hd U E _ σ' ν _ w hp5 (put_size.trans hn) h3 h2
      have h1' : YieldsIf P l.toArray (fun _ => True) o v a := by
        rcases h1 with ⟨hw, hv⟩ | h1
        · exact .inl ⟨hw, fun w' _ => still_any hk0 (hv w (Below.refl _ _)) w'⟩
        · exact .inr h1
      exact wpAnyF_first (fun _ _ => True) (fun w => trivial) (fun w w' w'' hb ht => trivial) ho' (Region.noSelect_spec hsel) (fun c a w hq => absurd hq (hpan c _ w)) (.inl (fun _ _ _ _ => trivial)) E.depth listed a w (Region.free_spec ho' hp3) (by simpa using hp2) h1' (Below.refl _ _) h4
    · exact hr.elim
  | .one q i E, listed, σ, ν, a, w, hp, hn, hs, hr => by
    simp only [planU, Bool.and_eq_true, beq_iff_eq] at hp
    obtain ⟨⟨hp1, hp2⟩, hp3⟩ := hp
    simp only [RunU] at hr
    refine ⟨(fun h0 => by rw [h0] at hp2; cases hp2), fun j hj => ?_⟩
    rw [hp2] at hj
    simp only [List.mem_singleton] at hj
    subst hj
    exact stepU n hd hp1 hn hs hr (fun σ' ν' a' w' h2 h3 h4 => planU_sound hsel hpan hK n hd U E _ σ' ν' a' w' hp3 h3 h4 h2)
  | .two q i E q' j F, listed, σ, ν, a, w, hp, hn, hs, hr => by
    simp only [planU, Bool.and_eq_true, beq_iff_eq] at hp
    obtain ⟨⟨⟨⟨⟨hp1, hp2⟩, hp3⟩, hp4⟩, hp5⟩, hp6⟩ := hp
    simp only [RunU] at hr
    obtain ⟨hr1, hr2⟩ := hr
    refine ⟨(fun h0 => by rw [h0] at hp3; cases hp3), fun k hk => ?_⟩
    rw [hp3] at hk
    simp only [List.mem_cons, List.not_mem_nil, or_false] at hk
    rcases hk with rfl | rfl
    · exact stepU n hd hp1 hn hs hr1 (fun σ' ν' a' w' h2 h3 h4 => planU_sound hsel hpan hK n hd U E _ σ' ν' a' w' hp5 h3 h4 h2)
    · exact stepU n hd hp2 hn hs hr2 (fun σ' ν' a' w' h2 h3 h4 => by rw [hp4]; exact planU_sound hsel hpan hK n hd U F _ σ' ν' a' w' hp6 h3 h4 h2)
  | .three q i E q' j F q'' k G, listed, σ, ν, a, w, hp, hn, hs, hr => by
    simp only [planU, Bool.and_eq_true, beq_iff_eq] at hp
    obtain ⟨⟨⟨⟨⟨⟨⟨⟨hp1, hp2⟩, hp3⟩, hp4⟩, hp5⟩, hp6⟩, hp7⟩, hp8⟩, hp9⟩ := hp
    simp only [RunU] at hr
    obtain ⟨hr1, hr2, hr3⟩ := hr
    refine ⟨(fun h0 => by rw [h0] at hp4; cases hp4), fun m hm => ?_⟩
    rw [hp4] at hm
    simp only [List.mem_cons, List.not_mem_nil, or_false] at hm
    rcases hm with rfl | rfl | rfl
    · exact stepU n hd hp1 hn hs hr1 (fun σ' ν' a' w' h2 h3 h4 => planU_sound hsel hpan hK n hd U E _ σ' ν' a' w' hp7 h3 h4 h2)
    · exact stepU n hd hp2 hn hs hr2 (fun σ' ν' a' w' h2 h3 h4 => by rw [hp5]; exact planU_sound hsel hpan hK n hd U F _ σ' ν' a' w' hp8 h3 h4 h2)
    · exact stepU n hd hp3 hn hs hr3 (fun σ' ν' a' w' h2 h3 h4 => by rw [hp6]; exact planU_sound hsel hpan hK n hd U G _ σ' ν' a' w' hp9 h3 h4 h2)
end

/-- A REGION THAT DRAWS ITS ORDER, by a plan. -/
theorem aw_drawU {P : Program} (hm : P.follows .mixedOrders = true) {σ : St} {Q : Exit → St → Prop} {id : Nat} {l : List Oper} (E : PU) (U : List Nat) (hd : dstsB l σ.n = true) (hp : planUB l E U = true)
    (h : RunU P l E σ (Q .normal)) : AW P (.region id l.toArray true) Q σ := fun w0 ν a w hs => by
  simp only [planUB, Bool.and_eq_true, beq_iff_eq] at hp
  obtain ⟨⟨hp1, hp2⟩, hp3⟩ := hp
  refine Code.wp_mono (Q := fun e a' w' => e = .normal ∧ ∃ σ' ν', Q .normal σ' ∧ Sim P w0 σ' ν' a' w') (fun e a' w' hh => ?_) ?_
  · obtain ⟨rfl, hh⟩ := hh
    exact hh
  · refine wp_region_any hm ?_
    have hs' : Sim P w0 σ ν a { w with drawn := w.drawn + 1 } := hs.grown (w' := { w with drawn := w.drawn + 1 }) (Below.refl w.heap.size w).drew
    have := wpAnyF_any _ _ _ _ (planU_sound (P := P) (w0 := w0) (l := l) (K := Q .normal) (Q := fun e a' w' => e = .normal ∧ ∃ σ' ν', Q .normal σ' ∧ Sim P w0 σ' ν' a' w') hp1 (fun c a w hq => by cases hq.1) (fun σ' ν' a' w' hk hs' => ⟨rfl, σ', ν', hk, hs'⟩) σ.n (dsts_spec hd) U E (Array.replicate l.length false) σ ν a _ hp3 hs.size hs' h)
    rw [hp2] at this
    simpa using this

section
variable {P : Program} {σ : St} {K : St → Prop} {ops : List Oper}

/-- The rest of a plan, not looked into yet. -/
def RunUK (P : Program) (ops : List Oper) (t : PU) (K : St → Prop) (σ : St) : Prop := RunU P ops t σ K

def RunAtU (P : Program) (q : Bool) (ops : List Oper) (o : Option Oper) (t : PU) (σ : St) (K : St → Prop) : Prop := match o with
  | some o => Run P q ops [o] σ (RunUK P ops t K)
  | none => False

theorem ru_at {q : Bool} {t : PU} (x : Option Oper) : AtU P q ops x σ (fun σ' => RunU P ops t σ' K) = RunAtU P q ops x t σ K := by
  cases x with
  | none => rfl
  | some o =>
    simp only [RunAtU, AtU, run_cons]
    rfl

theorem ruk {t : PU} : RunUK P ops t K σ = RunU P ops t σ K := rfl

theorem ru_fin : RunU P ops .fin σ K = K σ := rfl

theorem ru_pure {i : Nat} {t : PU} : RunU P ops (.pure i t) σ K = RunAtU P true ops ops[i]? t σ K := by
  rw [RunU]; exact ru_at _

theorem ru_still {i : Nat} {t : PU} : RunU P ops (.still i t) σ K = RunAtU P true ops ops[i]? t σ K := by
  rw [RunU]; exact ru_at _

theorem ru_one {q : Bool} {i : Nat} {t : PU} : RunU P ops (.one q i t) σ K = RunAtU P q ops ops[i]? t σ K := by
  rw [RunU]; exact ru_at _

theorem ru_two {q q' : Bool} {i j : Nat} {t u : PU} (h1 : RunAtU P q ops ops[i]? t σ K) (h2 : RunAtU P q' ops ops[j]? u σ K) : RunU P ops (.two q i t q' j u) σ K := by
  rw [RunU]
  exact ⟨(ru_at _).mpr h1, (ru_at _).mpr h2⟩

theorem ru_three {q q' q'' : Bool} {i j k : Nat} {t u v : PU} (h1 : RunAtU P q ops ops[i]? t σ K) (h2 : RunAtU P q' ops ops[j]? u σ K) (h3 : RunAtU P q'' ops ops[k]? v σ K) : RunU P ops (.three q i t q' j u q'' k v) σ K := by
  rw [RunU]
  exact ⟨(ru_at _).mpr h1, (ru_at _).mpr h2, (ru_at _).mpr h3⟩

theorem rau_some {q : Bool} {o : Oper} {t : PU} : RunAtU P q ops (some o) t σ K = Run P q ops [o] σ (RunUK P ops t K) := rfl

theorem ev_ru {t : PU} (h : RunU P ops t σ K) : RunU P ops t σ K := h

theorem ev_rau {q : Bool} {o : Option Oper} {t : PU} (h : RunAtU P q ops o t σ K) : RunAtU P q ops o t σ K := h
end

section
variable {P : Program} {σ : St} {K : St → Prop}

theorem opOk_ex {q : Bool} {o : Oper} (h : opOk P q o σ K) : ∃ σ', K σ' := by
  have hstep : (match stepOp P σ o.dst o.op with | some (p, σ') => p ∧ K σ' | none => False) → ∃ σ', K σ' := fun hs => by
    split at hs
    · exact ⟨_, hs.2⟩
    · exact hs.elim
  unfold opOk at h
  split at h
  · unfold CallOk at h
    split at h
    · rcases h with ⟨cvs, r, _, _, h⟩ | ⟨_, ob, cas, ob', res, β, _, _, _, _, _, _, h⟩ | ⟨ds, r, res, os, _, _, _, _, _, h⟩ <;> exact ⟨_, h⟩
    · obtain ⟨ds, _, _, h⟩ := h
      exact ⟨_, h⟩
    · exact h.elim
  · exact hstep h

/-- A region's run comes to an end that K lets. -/
theorem run_ex {q : Bool} {ops : List Oper} : ∀ {l : List Oper} {σ : St}, Run P q ops l σ K → ∃ σ', K σ'
  | [], σ, h => ⟨σ, h⟩
  | o :: l, σ, h => by
    rw [Run] at h
    split at h
    · obtain ⟨σ', h'⟩ := opOk_ex h
      exact run_ex h'
    · split at h
      · split at h
        · obtain ⟨σ', h'⟩ := opOk_ex h
          exact run_ex h'
        · exact run_ex h
      · exact run_ex h
      · exact h.elim

/-- A REGION THAT DRAWS ITS ORDER: it is run in the order of the text; every other order comes to a view that knows no less. -/
theorem aw_drawJ {P : Program} (hm : P.follows .mixedOrders = true) {σ : St} {Q : Exit → St → Prop} {id : Nat} {l : List Oper} (E : PU) (U : List Nat) (hd : dstsB l σ.n = true) (hp : planUB l E U = true)
    (h : ∀ KJ : St → Prop, (∀ σ', (∀ K : St → Prop, (∀ σ'', Less σ'' σ' → K σ'') → RunU P l E σ K) → Q .normal σ' → KJ σ') → Run P false l l σ KJ) : AW P (.region id l.toArray true) Q σ := by
  obtain ⟨τ, h1, h2⟩ := run_ex (h (fun σ' => (∀ K : St → Prop, (∀ σ'', Less σ'' σ' → K σ'') → RunU P l E σ K) ∧ Q .normal σ') (fun σ' a b => ⟨a, b⟩))
  intro w0 ν a w hs
  refine Code.wp_mono (fun e a' w' hh => ?_) (aw_drawU hm (Q := fun e σ' => e = .normal ∧ Less σ' τ) E U hd hp (h1 _ (fun σ'' hl => ⟨rfl, hl⟩)) w0 ν a w hs)
  obtain ⟨σ', ν', ⟨rfl, hl⟩, hs'⟩ := hh
  exact ⟨τ, ν', h2, hs'.less hl⟩

theorem ev_less {τ : St} (h : Less σ τ) : Less σ τ := h

theorem ev_kx {Q : Exit → St → Prop} (h : Kx K Q .normal σ) : Kx K Q .normal σ := h

theorem ev_inb {Q : Exit → St → Prop} {id : Nat} (h : inB id Q .normal σ) : inB id Q .normal σ := h
end

end Go.Proofs.Ytdinkfmkhdnbpaa
