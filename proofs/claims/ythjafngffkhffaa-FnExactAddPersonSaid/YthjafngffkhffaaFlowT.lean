/- Regions that draw their order, gone over set by set: one view for every set of operations that may have been drawn; every further operation leads from such a view into one that knows no less than the next set's. -/
import Derived.Test.YthjafngffkhffaaFlowS
import Derived.WalkKit
import Derived.WalkSpells
namespace Go.Proofs.Ythjafngffkhffaa
open Go.RowKit
set_option linter.unusedVariables false
set_option linter.unusedSimpArgs false

abbrev DE := Nat × Nat × Nat

def StepD (P : Program) (l : List Oper) (f c : Nat) (τ : St) (K : St → Prop) : Prop := match f with
  | 0 => AtU P false l l[c]? τ K
  | 1 => AtU P true l l[c]? τ K
  | _ => calcB l[c]? τ = true ∧ AtU P true l l[c]? τ K

def StepT (P : Program) (l : List Oper) (T : List St) (e : DE) (K : St → Prop) : Prop := match T[e.2.1]? with
  | some τ => StepD P l e.1 e.2.2 τ K
  | none => False

def EdgesT (P : Program) (l : List Oper) (T : List St) (τ : St) : List DE → Prop
  | [] => True
  | e :: r => (∀ K : St → Prop, (∀ σ'', Less σ'' τ → K σ'') → StepT P l T e K) ∧ EdgesT P l T τ r

def RunT (P : Program) (l : List Oper) : List St → List (DE × List DE) → (St → Prop) → Prop
  | T, [], K => match T with
    | τ :: _ => K τ
    | [] => False
  | T, (e, es) :: R, K => ∀ KJ : St → Prop, (∀ σ', Less σ' σ'.clean → EdgesT P l T σ'.clean es → RunT P l (σ'.clean :: T) R K → KJ σ') → StepT P l T e KJ

def detOp : Op → Bool
  | .call { callee := .value _, args := _, argTypes := _ } => false
  | .next _ _ => false
  | _ => true

def detAt (l : List Oper) (c : Nat) : Bool := match l[c]? with
  | some o => detOp o.op
  | none => false

structure DN where
  f : Nat
  done : List Nat
  next : List (Nat × Nat)

def markD (n : Nat) (L : List Nat) : Array Bool := L.foldl (fun a i => a.setIfInBounds i true) (Array.replicate n false)

def edgeOk (l : List Oper) (R : List (DE × List DE)) (G : List DN) (N : DN) (k : Nat) (iu : Nat × Nat) : Bool :=
  (match G[iu.2]? with
    | some M => markD l.length M.done == (markD l.length N.done).setIfInBounds iu.1 true && M.done.length == N.done.length + 1
    | none => false) && decide (k < iu.2) &&
  (match R[iu.2 - 1]? with
    | some (e, es) => (e == (N.f, iu.2 - 1 - k, iu.1) && detAt l iu.1) || es.contains (N.f, iu.2 - 1 - k, iu.1)
    | none => false)

def pickOk (l : List Oper) (N : DN) : Bool := match N.f with
  | 0 => Region.ready .any l.toArray (markD l.length N.done) == N.next.map Prod.fst
  | 1 => match N.next with
    | [(i, _)] => kindAt stillKind l.toArray i && (Region.ready .any l.toArray (markD l.length N.done)).contains i && Region.free .any l.toArray (markD l.length N.done) i
    | _ => false
  | 2 => match N.next with
    | [(i, _)] => kindAt calcKind l.toArray i && (Region.ready .any l.toArray (markD l.length N.done)).contains i && Region.free .any l.toArray (markD l.length N.done) i
    | _ => false
  | _ => false

def nodeOk (l : List Oper) (R : List (DE × List DE)) (G : List DN) (k : Nat) : Bool := match G[k]? with
  | some N => N.next.all (edgeOk l R G N k) && (N.next.isEmpty == (N.done.length == l.length)) && (!N.next.isEmpty || k == R.length) && pickOk l N
  | none => false

def planTB (l : List Oper) (R : List (DE × List DE)) (G : List DN) : Bool :=
  Region.noSelect l.toArray && (G.length == R.length + 1) && (match G with
    | N :: _ => N.done.isEmpty
    | [] => false) && (List.range G.length).all (nodeOk l R G)

section
variable {P : Program} {q : Bool} {l : List Oper} {σ : St} {K : St → Prop}

theorem opOk_det {o : Oper} (hd : detOp o.op = true) (h : opOk P q o σ K) : ∃ σ', K σ' ∧ ∀ K' : St → Prop, K' σ' → opOk P q o σ K' := by
  unfold opOk at h ⊢
  split at h
  · rename_i hop
    rw [hop] at hd
    simp [detOp] at hd
  · rename_i hop
    rw [hop] at hd
    simp [detOp] at hd
  · split at h
    · rename_i p σ' hs
      exact ⟨σ', h.2, fun K' hK => ⟨h.1, hK⟩⟩
    · exact h.elim

theorem opOk_ex' {o : Oper} (h : opOk P q o σ K) : ∃ σ', K σ' ∧ (detOp o.op = true → ∀ K' : St → Prop, K' σ' → opOk P q o σ K') := by
  cases hd : detOp o.op with
  | true =>
    obtain ⟨σ', h1, h2⟩ := opOk_det hd h
    exact ⟨σ', h1, fun _ => h2⟩
  | false =>
    obtain ⟨σ', h1⟩ := opOk_ex h
    exact ⟨σ', h1, fun e => by cases e⟩

theorem step_ex {o : Oper} (h : Step P q l o σ K) : ∃ σ', K σ' ∧ (detOp o.op = true → ∀ K' : St → Prop, K' σ' → Step P q l o σ K') := by
  unfold Step at h ⊢
  split at h
  · exact opOk_ex' h
  · split at h
    · split at h
      · rename_i hc
        obtain ⟨σ', h1, h2⟩ := opOk_ex' h
        refine ⟨σ', h1, fun hd K' hK => ?_⟩
        rw [if_pos hc]
        exact h2 hd K' hK
      · rename_i hc
        refine ⟨_, h, fun _ K' hK => ?_⟩
        rw [if_neg hc]
        exact hK
    · exact ⟨_, h, fun _ K' hK => hK⟩
    · exact h.elim

theorem atU_ex {c : Nat} (h : AtU P q l l[c]? σ K) : ∃ σ', K σ' ∧ (detAt l c = true → ∀ K' : St → Prop, K' σ' → AtU P q l l[c]? σ K') := by
  unfold detAt
  cases ho : l[c]? with
  | none =>
    rw [ho] at h
    exact h.elim
  | some o =>
    rw [ho] at h
    obtain ⟨σ', h1, h2⟩ := step_ex h
    exact ⟨σ', h1, h2⟩

theorem stepD_ex {f c : Nat} (h : StepD P l f c σ K) : ∃ σ', K σ' ∧ (detAt l c = true → ∀ K' : St → Prop, K' σ' → StepD P l f c σ K') := by
  unfold StepD at h ⊢
  split at h
  · exact atU_ex h
  · exact atU_ex h
  · obtain ⟨h0, h⟩ := h
    obtain ⟨σ', h1, h2⟩ := atU_ex h
    exact ⟨σ', h1, fun hd K' hK => ⟨h0, h2 hd K' hK⟩⟩

theorem stepT_ex {T : List St} {e : DE} (h : StepT P l T e K) : ∃ σ', K σ' ∧ (detAt l e.2.2 = true → ∀ K' : St → Prop, K' σ' → StepT P l T e K') := by
  unfold StepT at h ⊢
  split at h
  · rename_i τ hτ
    obtain ⟨σ', h1, h2⟩ := stepD_ex h
    exact ⟨σ', h1, h2⟩
  · exact h.elim

theorem edgesT_all {T : List St} {τ : St} : ∀ {es : List DE}, EdgesT P l T τ es → ∀ e ∈ es, StepT P l T e (fun σ'' => Less σ'' τ)
  | [], _, e, he => by cases he
  | e' :: r, h, e, he => by
    rcases List.mem_cons.1 he with rfl | he
    · exact h.1 _ fun σ'' hl => hl
    · exact edgesT_all h.2 e he

theorem runT_states : ∀ (R : List (DE × List DE)) (T : List St), RunT P l T R K → ∃ F : List St, F.length = R.length + T.length ∧ F.drop R.length = T ∧
    (∀ r e es, R[r]? = some (e, es) → ∃ τ, F[R.length - 1 - r]? = some τ ∧ (detAt l e.2.2 = true → StepT P l (F.drop (R.length - r)) e (fun σ'' => Less σ'' τ)) ∧ ∀ e' ∈ es, StepT P l (F.drop (R.length - r)) e' (fun σ'' => Less σ'' τ)) ∧
    ∃ τ, F[0]? = some τ ∧ K τ
  | [], T, h => by
    refine ⟨T, by simp, by simp, fun r e es hr => by simp at hr, ?_⟩
    cases T with
    | nil => exact h.elim
    | cons τ T => exact ⟨τ, rfl, h⟩
  | (e, es) :: R, T, h => by
    have h1 : StepT P l T e (fun σ' => Less σ' σ'.clean ∧ EdgesT P l T σ'.clean es ∧ RunT P l (σ'.clean :: T) R K) := h _ fun σ' a b c => ⟨a, b, c⟩
    obtain ⟨σ', ⟨k1, k2, k3⟩, k4⟩ := stepT_ex h1
    obtain ⟨F, f1, f2, f3, f4⟩ := runT_states R (σ'.clean :: T) k3
    have f5 : F.drop (R.length + 1) = T := by
      rw [← List.drop_drop, f2]
      rfl
    refine ⟨F, by simp only [List.length_cons] at f1 ⊢; omega, f5, fun r e' es' hr => ?_, f4⟩
    cases r with
    | zero =>
      simp only [List.getElem?_cons_zero, Option.some.injEq, Prod.mk.injEq] at hr
      obtain ⟨rfl, rfl⟩ := hr
      refine ⟨σ'.clean, ?_, fun hd => ?_, fun e' he' => ?_⟩
      · have h0 : F[R.length]? = (F.drop R.length)[0]? := by rw [List.getElem?_drop, Nat.add_zero]
        simp only [List.length_cons, Nat.add_sub_cancel, Nat.sub_zero]
        rw [h0, f2]
        rfl
      · simp only [List.length_cons, Nat.sub_zero]
        rw [f5]
        exact k4 hd _ k1
      · simp only [List.length_cons, Nat.sub_zero]
        rw [f5]
        exact edgesT_all k2 e' he'
    | succ r =>
      simp only [List.getElem?_cons_succ] at hr
      obtain ⟨τ, g1, g2⟩ := f3 r e' es' hr
      have e1 : (R.length + 1) - 1 - (r + 1) = R.length - 1 - r := by omega
      have e2 : (R.length + 1) - (r + 1) = R.length - r := by omega
      simp only [List.length_cons]
      rw [e1, e2]
      exact ⟨τ, g1, g2⟩

variable {w0 : Env} {Q : Exit → Act → World → Prop}

theorem drawT_sound (hsel : Region.noSelect l.toArray = true) (hpan : ∀ c a w, ¬ Q (.panic c) a w) (hK : ∀ σ ν a w, K σ → Sim P w0 σ ν a w → Q .normal a w) (n : Nat) (hd : ∀ o ∈ l, ∀ t, o.dst = some t → t < n) {R : List (DE × List DE)} {G : List DN} {F : List St}
    (hn : ∀ k, k < G.length → nodeOk l R G k = true)
    (hF : ∀ r e es, R[r]? = some (e, es) → ∃ τ, F[R.length - 1 - r]? = some τ ∧ (detAt l e.2.2 = true → StepT P l (F.drop (R.length - r)) e (fun σ'' => Less σ'' τ)) ∧ ∀ e' ∈ es, StepT P l (F.drop (R.length - r)) e' (fun σ'' => Less σ'' τ))
    (hE : ∃ τ, F[0]? = some τ ∧ K τ) :
    ∀ (d k : Nat) (N : DN) (τ : St) (ν : Loc) (a : Act) (w : World), G[k]? = some N → F[R.length - k]? = some τ → d + N.done.length = l.length → a.tmps.size = n → Sim P w0 τ ν a w → wpAnyF P l.toArray Q (List.range l.length) d (markD l.length N.done) a w := by
  have hedge : ∀ (k : Nat) (N : DN) (τ : St) (i u : Nat), F[R.length - k]? = some τ → edgeOk l R G N k (i, u) = true → ∃ M τ', G[u]? = some M ∧ F[R.length - u]? = some τ' ∧ markD l.length M.done = (markD l.length N.done).setIfInBounds i true ∧ M.done.length = N.done.length + 1 ∧ StepD P l N.f i τ (fun σ'' => Less σ'' τ') := by
    intro k N τ i u hτ h
    simp only [edgeOk, Bool.and_eq_true, decide_eq_true_eq] at h
    obtain ⟨⟨h1, h2⟩, h3⟩ := h
    cases hM : G[u]? with
    | none => rw [hM] at h1; simp at h1
    | some M =>
      rw [hM] at h1
      simp only [Bool.and_eq_true, beq_iff_eq] at h1
      cases hR : R[u - 1]? with
      | none => rw [hR] at h3; simp at h3
      | some x =>
        obtain ⟨e, es⟩ := x
        rw [hR] at h3
        simp only [Bool.or_eq_true, Bool.and_eq_true, beq_iff_eq, List.contains_iff_mem] at h3
        obtain ⟨τ', g1, g2, g3⟩ := hF _ _ _ hR
        have hlt : u - 1 < R.length := (List.getElem?_eq_some_iff.1 hR).1
        have e1 : R.length - 1 - (u - 1) = R.length - u := by omega
        rw [e1] at g1
        have hs : StepT P l (F.drop (R.length - (u - 1))) (N.f, u - 1 - k, i) (fun σ'' => Less σ'' τ') := by
          rcases h3 with ⟨h3, h4⟩ | h3
          · subst h3
            exact g2 h4
          · exact g3 _ h3
        refine ⟨M, τ', rfl, g1, h1.1, h1.2, ?_⟩
        unfold StepT at hs
        have e2 : (F.drop (R.length - (u - 1)))[u - 1 - k]? = F[R.length - k]? := by
          rw [List.getElem?_drop]
          congr 1
          omega
        simp only [e2, hτ] at hs
        exact hs
  intro d
  induction d with
  | zero =>
    intro k N τ ν a w hk hτ hdn hsz hs
    have hkl : k < G.length := (List.getElem?_eq_some_iff.1 hk).1
    have hh := hn k hkl
    unfold nodeOk at hh
    rw [hk] at hh
    simp only [Bool.and_eq_true, beq_iff_eq, Bool.or_eq_true, Bool.not_eq_true'] at hh
    obtain ⟨⟨⟨h1, h2⟩, h3⟩, h4⟩ := hh
    have hdl : N.done.length = l.length := by omega
    have hne : N.next.isEmpty = true := by rw [h2, hdl]; simp
    rw [hne] at h3
    have hkR : k = R.length := by
      rcases h3 with h3 | h3
      · cases h3
      · exact h3
    have hnil : N.next = [] := List.isEmpty_iff.1 hne
    unfold pickOk at h4
    rw [hnil] at h4
    split at h4
    · simp only [List.map_nil, beq_iff_eq] at h4
      refine ⟨h4, ?_⟩
      obtain ⟨τ', e1, e2⟩ := hE
      rw [hkR, Nat.sub_self, e1] at hτ
      cases hτ
      exact hK _ ν a w e2 hs
    · simp at h4
    · simp at h4
    · simp at h4
  | succ d ih =>
    intro k N τ ν a w hk hτ hdn hsz hs
    have hkl : k < G.length := (List.getElem?_eq_some_iff.1 hk).1
    have hh := hn k hkl
    unfold nodeOk at hh
    rw [hk] at hh
    simp only [Bool.and_eq_true, beq_iff_eq] at hh
    obtain ⟨⟨⟨h1, h2⟩, h3⟩, h4⟩ := hh
    have hne : N.next.isEmpty = false := by
      rw [h2]
      simp
      omega
    have hall := List.all_eq_true.1 h1
    unfold pickOk at h4
    split at h4
    · rename_i hf
      rw [beq_iff_eq] at h4
      refine ⟨fun h0 => ?_, fun i hi => ?_⟩
      · rw [h0] at h4
        have : N.next = [] := by
          cases hN : N.next with
          | nil => rfl
          | cons x r => rw [hN] at h4; cases h4
        rw [this] at hne
        cases hne
      · have hmem := hi
        rw [h4, List.mem_map] at hmem
        obtain ⟨⟨i', u⟩, hm, rfl⟩ := hmem
        obtain ⟨M, τ', m1, m2, m3, m4, m5⟩ := hedge k N τ i' u hτ (hall _ hm)
        rw [hf] at m5
        simp only [StepD] at m5
        have hil : i' < l.length := by
          obtain ⟨_, o, ho, _⟩ := mem_ready.1 hi
          have := (Array.getElem?_eq_some_iff.1 ho).1
          simpa using this
        refine stepU n hd (q := false) (k := d) (by simpa [okU] using hil) hsz hs m5 (fun σ' ν' a' w' h6 h7 h8 => ?_)
        have := ih u M τ' ν' a' w' m1 m2 (by omega) h7 (h8.less h6)
        rw [m3] at this
        exact this
    · rename_i hf
      split at h4
      · rename_i i u hN
        simp only [Bool.and_eq_true] at h4
        obtain ⟨⟨p1, p2⟩, p3⟩ := h4
        obtain ⟨M, τ', m1, m2, m3, m4, m5⟩ := hedge k N τ i u hτ (hall _ (by rw [hN]; simp))
        rw [hf] at m5
        simp only [StepD] at m5
        unfold AtU at m5
        split at m5
        · rename_i o ho
          have ho' : l.toArray[i]? = some o := by simpa using ho
          have hk0 : stillKind o.op = true := by simpa [kindAt, ho] using p1
          have hk1 : pureKind o.op = true := by
            cases hop : o.op <;> rw [hop] at hk0 <;> first | rfl | simp [stillKind] at hk0
          obtain ⟨v, σ', q1, q2, q3⟩ := step_pure hs hk1 (fun t ht => by rw [← hs.size, hsz]; exact hd o (List.mem_of_getElem? ho) t ht) m5
          have h5 := ih u M τ' ν (a.put o.dst v) w m1 m2 (by omega) (put_size.trans hsz) (q3.less q2)
          rw [m3] at h5
          have h1' : YieldsIf P l.toArray (fun _ => True) o v a := by
            rcases q1 with ⟨hw, hv⟩ | q1
            · exact .inl ⟨hw, fun w' _ => still_any hk0 (hv w (Below.refl _ _)) w'⟩
            · exact .inr q1
          exact wpAnyF_first (fun _ _ => True) (fun w => trivial) (fun w w' w'' hb ht => trivial) ho' (Region.noSelect_spec hsel) (fun c a w hq => absurd hq (hpan c _ w)) (.inl (fun _ _ _ _ => trivial)) d _ a w (Region.free_spec ho' p3) (by simpa using p2) h1' (Below.refl _ _) h5
        · exact m5.elim
      · cases h4
    · rename_i hf
      split at h4
      · rename_i i u hN
        simp only [Bool.and_eq_true] at h4
        obtain ⟨⟨p1, p2⟩, p3⟩ := h4
        obtain ⟨M, τ', m1, m2, m3, m4, m5⟩ := hedge k N τ i u hτ (hall _ (by rw [hN]; simp))
        rw [hf] at m5
        simp only [StepD] at m5
        obtain ⟨hcb, m5⟩ := m5
        unfold AtU at m5
        split at m5
        · rename_i o ho
          have ho' : l.toArray[i]? = some o := by simpa using ho
          have hk0 : calcKind o.op = true := by simpa [kindAt, ho] using p1
          rw [ho] at hcb
          have hk1 : pureKind o.op = true := by
            cases hop : o.op <;> rw [hop] at hk0 <;> first | rfl | simp [calcKind] at hk0
          have hany : ∀ w v, (execOp a.eval o).run P w = .ok (.value v) w → ∀ w', (execOp a.eval o).run P w' = .ok (.value v) w' := by
            cases hop : o.op with
            | binOp op t x y u =>
              simp only [calcB, hop, Bool.and_eq_true] at hcb
              obtain ⟨k1, a1, hx⟩ := intAV_ev hs hcb.1
              obtain ⟨k2, a2, hy⟩ := intAV_ev hs hcb.2
              exact fun w v h w' => still_calc hop hx hy h w'
            | fieldAddr t x f =>
              simp only [calcB, hop] at hcb
              obtain ⟨fs, fd, g1, g2, g3⟩ := step_field hop hcb m5
              exact fun w v h w' => still_calcF hop g1 g2 g3 h w'
            | _ => rw [hop] at hk0; simp [calcKind] at hk0
          obtain ⟨v, σ', q1, q2, q3⟩ := step_pure hs hk1 (fun t ht => by rw [← hs.size, hsz]; exact hd o (List.mem_of_getElem? ho) t ht) m5
          have h5 := ih u M τ' ν (a.put o.dst v) w m1 m2 (by omega) (put_size.trans hsz) (q3.less q2)
          rw [m3] at h5
          have h1' : YieldsIf P l.toArray (fun _ => True) o v a := by
            rcases q1 with ⟨hw, hv⟩ | q1
            · exact .inl ⟨hw, fun w' _ => hany w v (hv w (Below.refl _ _)) w'⟩
            · exact .inr q1
          exact wpAnyF_first (fun _ _ => True) (fun w => trivial) (fun w w' w'' hb ht => trivial) ho' (Region.noSelect_spec hsel) (fun c a w hq => absurd hq (hpan c _ w)) (.inl (fun _ _ _ _ => trivial)) d _ a w (Region.free_spec ho' p3) (by simpa using p2) h1' (Below.refl _ _) h5
        · exact m5.elim
      · cases h4
    · cases h4

end

theorem aw_drawT {P : Program} (hm : P.follows .mixedOrders = true) {σ : St} {Q : Exit → St → Prop} {id : Nat} {l : List Oper} (R : List (DE × List DE)) (G : List DN) (hd : dstsB l σ.n = true) (hp : planTB l R G = true)
    (h : RunT P l [σ] R (Q .normal)) : AW P (.region id l.toArray true) Q σ := fun w0 ν a w hs => by
  simp only [planTB, Bool.and_eq_true, beq_iff_eq] at hp
  obtain ⟨⟨⟨hp1, hp2⟩, hp3⟩, hp4⟩ := hp
  obtain ⟨F, f1, f2, f3, f4⟩ := runT_states R [σ] h
  cases G with
  | nil => cases hp3
  | cons N G =>
    simp only at hp3
    have hN : N.done = [] := List.isEmpty_iff.1 hp3
    refine Code.wp_mono (Q := fun e a' w' => e = .normal ∧ ∃ σ' ν', Q .normal σ' ∧ Sim P w0 σ' ν' a' w') (fun e a' w' hh => ?_) ?_
    · obtain ⟨rfl, hh⟩ := hh
      exact hh
    · refine wp_region_any hm ?_
      have hs' : Sim P w0 σ ν a { w with drawn := w.drawn + 1 } := hs.grown (w' := { w with drawn := w.drawn + 1 }) (Below.refl w.heap.size w).drew
      have h0 : F[R.length - 0]? = some σ := by
        have e : F[R.length]? = (F.drop R.length)[0]? := by rw [List.getElem?_drop, Nat.add_zero]
        rw [Nat.sub_zero, e, f2]
        rfl
      have := wpAnyF_any _ _ _ _ (drawT_sound (P := P) (w0 := w0) (l := l) (K := Q .normal) (Q := fun e a' w' => e = .normal ∧ ∃ σ' ν', Q .normal σ' ∧ Sim P w0 σ' ν' a' w') hp1 (fun c a w hq => by cases hq.1) (fun σ' ν' a' w' hk hs' => ⟨rfl, σ', ν', hk, hs'⟩) σ.n (dsts_spec hd) (fun k hk => List.all_eq_true.1 hp4 k (List.mem_range.2 hk)) f3 f4 l.length 0 N σ ν a _ rfl h0 (by rw [hN]; simp) hs'.size hs')
      rw [hN] at this
      simpa [markD] using this

section
variable {P : Program} {l : List Oper} {T : List St} {τ σ' : St} {o : Oper} {p c : Nat} {es : List DE} {R : List (DE × List DE)} {K : St → Prop}

theorem ev_rt {R : List (DE × List DE)} (h : RunT P l T R K) : RunT P l T R K := h

theorem ev_et (h : EdgesT P l T τ es) : EdgesT P l T τ es := h

theorem run_one {q : Bool} (hc : l[c]? = some o) (h : Run P q l [o] τ K) : AtU P q l l[c]? τ K := by
  rw [hc]
  rw [run_cons] at h
  exact h

theorem rt_end (h : K τ) : RunT P l (τ :: T) [] K := h

theorem rt_0 (hT : T[p]? = some τ) (hc : l[c]? = some o) (h : ∀ KJ : St → Prop, (∀ σ', Less σ' σ'.clean → EdgesT P l T σ'.clean es → RunT P l (σ'.clean :: T) R K → KJ σ') → Run P false l [o] τ KJ) : RunT P l T (((0, p, c), es) :: R) K := fun KJ hJ => by
  unfold StepT
  simp only [hT]
  exact run_one hc (h KJ hJ)

theorem rt_1 (hT : T[p]? = some τ) (hc : l[c]? = some o) (h : ∀ KJ : St → Prop, (∀ σ', Less σ' σ'.clean → EdgesT P l T σ'.clean es → RunT P l (σ'.clean :: T) R K → KJ σ') → Run P true l [o] τ KJ) : RunT P l T (((1, p, c), es) :: R) K := fun KJ hJ => by
  unfold StepT
  simp only [hT]
  exact run_one hc (h KJ hJ)

theorem rt_2 (hT : T[p]? = some τ) (hc : l[c]? = some o) (hb : calcB (some o) τ = true) (h : ∀ KJ : St → Prop, (∀ σ', Less σ' σ'.clean → EdgesT P l T σ'.clean es → RunT P l (σ'.clean :: T) R K → KJ σ') → Run P true l [o] τ KJ) : RunT P l T (((2, p, c), es) :: R) K := fun KJ hJ => by
  unfold StepT
  simp only [hT]
  refine ⟨?_, run_one hc (h KJ hJ)⟩
  rw [hc]
  exact hb

theorem et_nil : EdgesT P l T τ [] := trivial

theorem et_0 {υ : St} (hT : T[p]? = some υ) (hc : l[c]? = some o) (h : ∀ K : St → Prop, (∀ σ'', Less σ'' τ → K σ'') → Run P false l [o] υ K) (hr : EdgesT P l T τ es) : EdgesT P l T τ ((0, p, c) :: es) := ⟨fun K hK => by
  unfold StepT
  simp only [hT]
  exact run_one hc (h K hK), hr⟩

theorem et_1 {υ : St} (hT : T[p]? = some υ) (hc : l[c]? = some o) (h : ∀ K : St → Prop, (∀ σ'', Less σ'' τ → K σ'') → Run P true l [o] υ K) (hr : EdgesT P l T τ es) : EdgesT P l T τ ((1, p, c) :: es) := ⟨fun K hK => by
  unfold StepT
  simp only [hT]
  exact run_one hc (h K hK), hr⟩

theorem et_2 {υ : St} (hT : T[p]? = some υ) (hc : l[c]? = some o) (hb : calcB (some o) υ = true) (h : ∀ K : St → Prop, (∀ σ'', Less σ'' τ → K σ'') → Run P true l [o] υ K) (hr : EdgesT P l T τ es) : EdgesT P l T τ ((2, p, c) :: es) := ⟨fun K hK => by
  unfold StepT
  simp only [hT]
  refine ⟨?_, run_one hc (h K hK)⟩
  rw [hc]
  exact hb, hr⟩

end

end Go.Proofs.Ythjafngffkhffaa
