/- Regions that draw their order, gone over with fewer orders: a pure operation comes either now, or behind the next operation that is not pure. -/
import Derived.Test.YtjbifidphckjoaaFlowE
import Derived.WalkKit
import Derived.WalkSpells
namespace Go.Proofs.Ytjbifidphckjoaa
open Go.RowKit
set_option linter.unusedVariables false
set_option linter.unusedSimpArgs false

def wpAnyV (P : Program) (ops : Array Oper) (Q : Exit -> Act -> World -> Prop) (V : List Nat) : Nat -> List Nat -> Array Bool -> Act -> World -> Prop
 | 0, _, listed, a, w => Region.ready .any ops listed = [] /\ Q .normal a w
 | n + 1, B, listed, a, w => Region.ready .any ops listed ≠ [] /\ ∀ i ∈ Region.ready .any ops listed, i ∉ B →
   (i ∈ V -> ∃ o v, ops[i]? = some o /\ YieldsIf P ops (Below w.heap.size w) o v a /\ wpAnyV P ops Q V n B (listed.setIfInBounds i true) (a.put o.dst v) w) ∧
   (i ∉ V -> wpOp P ops Q i (fun a' w' => wpAnyV P ops Q V n [] (listed.setIfInBounds i true) a' w') a w)

section
variable {P : Program} {ops : Array Oper} {Q : Exit -> Act -> World -> Prop} {V : List Nat}

theorem wpAnyV_any : ∀ (n : Nat) (listed : Array Bool) (a : Act) (w : World), wpAnyV P ops Q V n [] listed a w -> wpAny P .any ops Q n listed a w
 | 0, listed, a, w, h => h
 | n + 1, listed, a, w, h => ⟨fun h0 => absurd h0 h.1, fun i hi => by
  obtain ⟨h1, h2⟩ := h.2 i hi (by simp)
  by_cases hV : i ∈ V
  ·
   obtain ⟨o, v, ho, hy, hr⟩ := h1 hV
   exact hy.wpOp ho (Below.refl _ _) (wpAnyV_any n _ _ _ hr)
  · exact wpOp_mono (fun a' w' hh => wpAnyV_any n _ a' w' hh) (h2 hV)⟩

theorem yields_one {S : World -> Prop} {o : Oper} {v v' : Value} {a : Act} {w : World} (hS : S w) (h : YieldsIf P ops S o v a) (h' : YieldsIf P ops S o v' a) : v = v' := by
 rcases h with ⟨h1, h2⟩ | ⟨h1, h2⟩
 ·
  rcases h' with ⟨_, h4⟩ | ⟨h3, _⟩
  ·
   have e1 := h2 w hS
   have e2 := h4 w hS
   rw [e1] at e2
   cases e2
   rfl
  · rw [h1] at h3; cases h3
 ·
  rcases h' with ⟨h3, _⟩ | ⟨_, h4⟩
  · rw [h1] at h3; cases h3
  · rw [h2, h4]

theorem notb {i : Nat} {listed : Array Bool} {j : Nat} {oj : Oper} (hr : i ∈ Region.ready .any ops listed) (hj : j ∈ Region.ready .any ops listed) (hoj : ops[j]? = some oj) : ∀ e ∈ oj.after, Region.binds .any e = true -> e.on ≠ i := by
 intro e he hb heq
 obtain ⟨hjun, oj', hoj', hall⟩ := mem_ready.1 hj
 rw [hoj] at hoj'
 cases hoj'
 have h1 := hall e he hb
 have h0 := (mem_ready.1 hr).1
 rw [heq] at h1
 rcases Nat.lt_or_ge i listed.size with h' | h'
 · simp [h'] at h0 h1; rw [h0] at h1; cases h1
 · simp [Array.getElem?_eq_none h'] at h1

def FreeAt (ops : Array Oper) (i : Nat) (oi : Oper) (listed : Array Bool) : Prop := ∀ j oj, ops[j]? = some oj -> j ≠ i -> listed.getD j true = false -> (∀ e ∈ oj.after, Region.binds .any e = true -> e.on ≠ i) -> oi.apart ops oj = true

theorem FreeAt.next {i j : Nat} {oi oj : Oper} {listed : Array Bool} (h : FreeAt ops i oi listed) (hjun : listed.getD j true = false) : FreeAt ops i oi (listed.setIfInBounds j true) := fun k ok hk hki hun hno => by
 refine h k ok hk hki ?_ hno
 by_cases hjk : j = k
 ·
  subst hjk
  exact hjun
 · rw [getD_set_ne true hjk] at hun; exact hun

theorem swap_pure {i j : Nat} {oi oj : Oper} {v : Value} {a : Act} {w : World} {listed : Array Bool} (hi : ops[i]? = some oi) (hoj : ops[j]? = some oj) (hji : j ≠ i) (hfree : FreeAt ops i oi listed) (hr : i ∈ Region.ready .any ops listed) (hj : j ∈ Region.ready .any ops listed)
  (hsel : ∀ (j : Nat) (o : Oper) cs b, ops[j]? = some o -> o.op ≠ .select cs b) {S S' : World -> Prop} (hy : YieldsIf P ops S oi v a) :
  (∀ vj, YieldsIf P ops S' oj vj (a.put oi.dst v) -> YieldsIf P ops S' oj vj a) /\ (∀ u, YieldsIf P ops S oi v (a.put oj.dst u)) /\ (∀ u, (a.put oi.dst v).put oj.dst u = (a.put oj.dst u).put oi.dst v) := by
 obtain ⟨hjun, _, _, _⟩ := mem_ready.1 hj
 obtain ⟨h1, h2, h3⟩ := Oper.apart_spec (hfree j oj hoj hji hjun (notb hr hj hoj))
 refine ⟨fun vj hv => ?_, fun u => hy.of_same (execOp_put oi (fun cs b => hsel i oi cs b hi) a oj.dst u h3) (wanted_put oi a oj.dst u h3), fun u => Act.put_comm a v u h2⟩
 exact hv.of_same (execOp_put oj (fun cs b => hsel j oj cs b hoj) a oi.dst v h1).symm (wanted_put oj a oi.dst v h1).symm

theorem wpAnyV_first {i : Nat} {oi : Oper} {v : Value} (hV : i ∈ V) (hi : ops[i]? = some oi) (hsel : ∀ (j : Nat) (o : Oper) cs b, ops[j]? = some o -> o.op ≠ .select cs b)
  (hQ : ∀ c a w, Q (.panic c) (a.put oi.dst v) w -> Q (.panic c) a w) :
  ∀ (n : Nat) (B : List Nat) (listed : Array Bool) (a : Act) (w : World), FreeAt ops i oi listed -> i ∈ Region.ready .any ops listed -> YieldsIf P ops (fun _ => True) oi v a →
   wpAnyV P ops Q V n B (listed.setIfInBounds i true) (a.put oi.dst v) w -> wpAnyV P ops Q V (n + 1) B listed a w := by
 intro n
 induction n with
 | zero =>
  intro B listed a w _ hr hy H
  refine ⟨fun h => (by rw [h] at hr; cases hr), fun j hj hjB => ?_⟩
  by_cases hji : j = i
  ·
   subst hji
   refine ⟨fun _ => ⟨oi, v, hi, ?_, H⟩, fun h => absurd hV h⟩
   rcases hy with ⟨h1, h2⟩ | h1
   · exact .inl ⟨h1, fun w _ => h2 w trivial⟩
   · exact .inr h1
  ·
   have := ready_mono hj hji
   rw [H.1] at this
   cases this
 | succ n ih =>
  intro B listed a w hfree hr hy H
  refine ⟨fun h => (by rw [h] at hr; cases hr), fun j hj hjB => ?_⟩
  by_cases hji : j = i
  ·
   subst hji
   refine ⟨fun _ => ⟨oi, v, hi, ?_, H⟩, fun h => absurd hV h⟩
   rcases hy with ⟨h1, h2⟩ | h1
   · exact .inl ⟨h1, fun w _ => h2 w trivial⟩
   · exact .inr h1
  ·
   obtain ⟨g1, g2⟩ := H.2 j (ready_mono hj hji) hjB
   obtain ⟨hjun, oj, hoj, hall⟩ := mem_ready.1 hj
   have hfree' : FreeAt ops i oi (listed.setIfInBounds j true) := hfree.next (oj := oj) hjun
   refine ⟨fun hjV => ?_, fun hjV => ?_⟩
   ·
    obtain ⟨oj', vj, hoj', hyj, g3⟩ := g1 hjV
    rw [hoj] at hoj'
    cases hoj'
    obtain ⟨k1, k2, k3⟩ := swap_pure (S' := Below w.heap.size w) (w := w) hi hoj hji hfree hr hj hsel hy
    refine ⟨oj, vj, hoj, k1 vj hyj, ih B _ _ w hfree' (ready_mono hr (Ne.symm hji)) (k2 vj) ?_⟩
    rw [Array.setIfInBounds_comm _ _ hji, ← k3]
    exact g3
   ·
    have h2 := wpOp_putIf hoj (hfree j oj hoj hji hjun (notb hr hj hoj)) (fun cs b => hsel i oi cs b hi) (fun cs b => hsel j oj cs b hoj) hQ hy (g2 hjV)
    refine wpOp_mono (fun a' w' h3 => ?_) h2
    obtain ⟨hy', h4⟩ := h3
    refine ih [] _ a' w' hfree' (ready_mono hr (Ne.symm hji)) hy' ?_
    rw [Array.setIfInBounds_comm _ _ hji]
    exact h4

theorem wpAnyV_split {i : Nat} {oi : Oper} {v : Value} (hV : i ∈ V) (hi : ops[i]? = some oi) (hsel : ∀ (j : Nat) (o : Oper) cs b, ops[j]? = some o -> o.op ≠ .select cs b) :
  ∀ (n : Nat) (B : List Nat) (listed : Array Bool) (a : Act) (w : World), FreeAt ops i oi listed -> i ∈ Region.ready .any ops listed -> YieldsIf P ops (Below w.heap.size w) oi v a →
   wpAnyV P ops Q V n B (listed.setIfInBounds i true) (a.put oi.dst v) w -> wpAnyV P ops Q V (n + 1) (i :: B) listed a w -> wpAnyV P ops Q V (n + 1) B listed a w := by
 intro n
 induction n with
 | zero =>
  intro B listed a w _ hr hy H1 H2
  refine ⟨H2.1, fun j hj hjB => ?_⟩
  by_cases hji : j = i
  ·
   subst hji
   exact ⟨fun _ => ⟨oi, v, hi, hy, H1⟩, fun h => absurd hV h⟩
  ·
   have := ready_mono hj hji
   rw [H1.1] at this
   cases this
 | succ n ih =>
  intro B listed a w hfree hr hy H1 H2
  refine ⟨H2.1, fun j hj hjB => ?_⟩
  by_cases hji : j = i
  ·
   subst hji
   exact ⟨fun _ => ⟨oi, v, hi, hy, H1⟩, fun h => absurd hV h⟩
  ·
   obtain ⟨f1, f2⟩ := H2.2 j hj (by simp only [List.mem_cons, not_or]; exact ⟨hji, hjB⟩)
   obtain ⟨hjun, oj, hoj, hall⟩ := mem_ready.1 hj
   have hfree' : FreeAt ops i oi (listed.setIfInBounds j true) := hfree.next (oj := oj) hjun
   refine ⟨fun hjV => ?_, f2⟩
   obtain ⟨g1, _⟩ := H1.2 j (ready_mono hj hji) hjB
   obtain ⟨oj', vj', hoj', hyj', g3⟩ := g1 hjV
   rw [hoj] at hoj'
   cases hoj'
   obtain ⟨oj', vj, hoj', hyj, f3⟩ := f1 hjV
   rw [hoj] at hoj'
   cases hoj'
   obtain ⟨k1, k2, k3⟩ := swap_pure (S' := Below w.heap.size w) (w := w) hi hoj hji hfree hr hj hsel hy
   have e : vj = vj' := yields_one (Below.refl _ _) hyj (k1 vj' hyj')
   subst e
   refine ⟨oj, vj, hoj, hyj, ih B _ _ w hfree' (ready_mono hr (Ne.symm hji)) (k2 vj) ?_ f3⟩
   rw [Array.setIfInBounds_comm _ _ hji, ← k3]
   exact g3

end

inductive PV where
 | fin
 | dead (n : Nat)
 | still (i : Nat) (t : PV)
 | calc (i : Nat) (t : PV)
 | split (i : Nat) (t u : PV)
 | one (i : Nat) (t : PV)
 | two (i : Nat) (t : PV) (j : Nat) (u : PV)

def PV.depth : PV -> Nat
 | .fin => 0
 | .dead n => n + 1
 | .still _ t => t.depth + 1
 | .calc _ t => t.depth + 1
 | .split _ t _ => t.depth + 1
 | .one _ t => t.depth + 1
 | .two _ t _ _ => t.depth + 1

def planV (ops : Array Oper) (V : List Nat) : PV -> List Nat -> Array Bool -> Bool
 | .fin, _, listed => (Region.ready .any ops listed).isEmpty
 | .dead _, B, listed => !(Region.ready .any ops listed).isEmpty && (Region.ready .any ops listed).all (fun i => B.contains i)
 | .still i r, B, listed => V.contains i && kindAt stillKind ops i && (Region.ready .any ops listed).contains i && Region.free .any ops listed i && planV ops V r B (listed.setIfInBounds i true)
 | .calc i r, B, listed => V.contains i && kindAt calcKind ops i && (Region.ready .any ops listed).contains i && Region.free .any ops listed i && planV ops V r B (listed.setIfInBounds i true)
 | .split i r u, B, listed => V.contains i && kindAt pureKind ops i && (Region.ready .any ops listed).contains i && Region.free .any ops listed i && r.depth + 1 == u.depth && planV ops V r B (listed.setIfInBounds i true) && planV ops V u (i :: B) listed
 | .one i r, B, listed => !V.contains i && (Region.ready .any ops listed).filter (fun j => !B.contains j) == [i] && planV ops V r [] (listed.setIfInBounds i true)
 | .two i r j u, B, listed => !V.contains i && !V.contains j && (Region.ready .any ops listed).filter (fun j => !B.contains j) == [i, j] && r.depth == u.depth && planV ops V r [] (listed.setIfInBounds i true) && planV ops V u [] (listed.setIfInBounds j true)

def planVB (l : List Oper) (E : PV) (V : List Nat) : Bool :=
 Region.noSelect l.toArray && E.depth == l.length && planV l.toArray V E [] (Array.replicate l.length false)

def RunV (P : Program) (ops : List Oper) : PV -> St -> (St -> Prop) -> Prop
 | .fin, σ, K => K σ
 | .dead _, _, _ => True
 | .still i t, σ, K => AtU P true ops ops[i]? σ (fun σ' => RunV P ops t σ' K)
 | .calc i t, σ, K => calcB ops[i]? σ = true /\ AtU P true ops ops[i]? σ (fun σ' => RunV P ops t σ' K)
 | .split i t u, σ, K => AtU P true ops ops[i]? σ (fun σ' => RunV P ops t σ' K) /\ RunV P ops u σ K
 | .one i t, σ, K => AtU P false ops ops[i]? σ (fun σ' => RunV P ops t σ' K)
 | .two i t j u, σ, K => AtU P false ops ops[i]? σ (fun σ' => RunV P ops t σ' K) /\ AtU P false ops ops[j]? σ (fun σ' => RunV P ops u σ' K)

section
variable {P : Program} {w0 : Env} {l : List Oper} {K : St -> Prop} {Q : Exit -> Act -> World -> Prop}

theorem stepV (n : Nat) (hd : ∀ o ∈ l, ∀ t, o.dst = some t -> t < n) {V B : List Nat} {k i : Nat} {listed : Array Bool} {σ : St} {ν : Loc} {a : Act} {w : World} (hn : a.tmps.size = n) (hs : Sim P w0 σ ν a w) {K2 : St -> Prop} (hr : AtU P false l l[i]? σ K2)
  (hnext : ∀ σ' ν' a' w', K2 σ' -> a'.tmps.size = n -> Sim P w0 σ' ν' a' w' -> wpAnyV P l.toArray Q V k B listed a' w') : wpOp P l.toArray Q i (fun a' w' => wpAnyV P l.toArray Q V k B listed a' w') a w := by
 cases ho : l[i]? with
 | none => rw [ho] at hr; exact hr.elim
 | some o =>
  rw [ho] at hr
  simp only [AtU] at hr
  have h1 := step_sound hs (fun t ht => by rw [← hs.size, hn]; exact hd o (List.mem_of_getElem? ho) t ht) hr (Q := Q)
  unfold wpOp
  simp only [List.getElem?_toArray, ho]
  by_cases hw : Region.wanted o (yielded l.toArray a.tmps) = true
  ·
   rw [if_pos hw] at h1 ⊢
   refine .inl (Oper.wp_mono (fun a' w' hh => ?_) h1)
   obtain ⟨hsz, hbel, σ', ν', h2, h3⟩ := hh
   exact hnext σ' ν' a' w' h2 (hsz.trans hn) h3
  ·
   rw [if_neg hw] at h1 ⊢
   obtain ⟨σ', ν', h2, h3⟩ := h1
   exact hnext σ' ν' _ w h2 (put_size.trans hn) h3

theorem planV_sound (hsel : Region.noSelect l.toArray = true) (hpan : ∀ c a w, ¬ Q (.panic c) a w) (hK : ∀ σ ν a w, K σ -> Sim P w0 σ ν a w -> Q .normal a w) (n : Nat) (hd : ∀ o ∈ l, ∀ t, o.dst = some t -> t < n) (V : List Nat) :
  ∀ (E : PV) (B : List Nat) (listed : Array Bool) (σ : St) (ν : Loc) (a : Act) (w : World), planV l.toArray V E B listed = true -> a.tmps.size = n -> Sim P w0 σ ν a w -> RunV P l E σ K -> wpAnyV P l.toArray Q V E.depth B listed a w
 | .fin, B, listed, σ, ν, a, w, hp, hn, hs, hr => by
  simp only [planV, List.isEmpty_iff] at hp
  exact ⟨hp, hK σ ν a w (by simpa only [RunV] using hr) hs⟩
 | .dead m, B, listed, σ, ν, a, w, hp, hn, hs, hr => by
  simp only [planV, Bool.and_eq_true, Bool.not_eq_true', List.all_eq_true, List.contains_iff_mem] at hp
  refine ⟨fun h => (by rw [h] at hp; simp at hp), fun i hi hB => absurd (hp.2 i hi) hB⟩
 | .still i E, B, listed, σ, ν, a, w, hp, hn, hs, hr => by
  simp only [planV, Bool.and_eq_true] at hp
  obtain ⟨⟨⟨⟨hp0, hp1⟩, hp2⟩, hp3⟩, hp5⟩ := hp
  simp only [RunV, AtU] at hr
  split at hr
  ·
   rename_i o ho
   have ho' : l.toArray[i]? = some o := by simpa using ho
   have hk0 : stillKind o.op = true := by simpa [kindAt, ho] using hp1
   have hk : pureKind o.op = true := by
    cases hop : o.op <;> rw [hop] at hk0 <;> first | rfl | simp [stillKind] at hk0
   obtain ⟨v, σ', h1, h2, h3⟩ := step_pure hs hk (fun t ht => by rw [← hs.size, hn]; exact hd o (List.mem_of_getElem? ho) t ht) hr
   have h4 := planV_sound hsel hpan hK n hd V E B _ σ' ν _ w hp5 (put_size.trans hn) h3 h2
   have h1' : YieldsIf P l.toArray (fun _ => True) o v a := by
    rcases h1 with ⟨hw, hv⟩ | h1
    · exact .inl ⟨hw, fun w' _ => still_any hk0 (hv w (Below.refl _ _)) w'⟩
    · exact .inr h1
   exact wpAnyV_first (by simpa using hp0) ho' (Region.noSelect_spec hsel) (fun c a w hq => absurd hq (hpan c _ w)) E.depth B listed a w (Region.free_spec ho' hp3) (by simpa using hp2) h1' h4
  · exact hr.elim
 | .calc i E, B, listed, σ, ν, a, w, hp, hn, hs, hr => by
  simp only [planV, Bool.and_eq_true] at hp
  obtain ⟨⟨⟨⟨hp0, hp1⟩, hp2⟩, hp3⟩, hp5⟩ := hp
  simp only [RunV, AtU] at hr
  obtain ⟨hcb, hr⟩ := hr
  split at hr
  ·
   rename_i o ho
   have ho' : l.toArray[i]? = some o := by simpa using ho
   have hk0 : calcKind o.op = true := by simpa [kindAt, ho] using hp1
   rw [ho] at hcb
   have hk : pureKind o.op = true := by
    cases hop : o.op <;> rw [hop] at hk0 <;> first | rfl | simp [calcKind] at hk0
   have hany : ∀ w v, (execOp a.eval o).run P w = .ok (.value v) w -> ∀ w', (execOp a.eval o).run P w' = .ok (.value v) w' := by
    cases hop : o.op with
    | binOp op t x y u =>
     simp only [calcB, hop, Bool.and_eq_true] at hcb
     obtain ⟨k1, a1, hx⟩ := intAV_ev hs hcb.1
     obtain ⟨k2, a2, hy⟩ := intAV_ev hs hcb.2
     exact fun w v h w' => still_calc hop hx hy h w'
    | fieldAddr t x f =>
     simp only [calcB, hop] at hcb
     obtain ⟨fs, fd, g1, g2, g3⟩ := step_field hop hcb hr
     exact fun w v h w' => still_calcF hop g1 g2 g3 h w'
    | _ => rw [hop] at hk0; simp [calcKind] at hk0
   obtain ⟨v, σ', h1, h2, h3⟩ := step_pure hs hk (fun t ht => by rw [← hs.size, hn]; exact hd o (List.mem_of_getElem? ho) t ht) hr
   have h4 := planV_sound hsel hpan hK n hd V E B _ σ' ν _ w hp5 (put_size.trans hn) h3 h2
   have h1' : YieldsIf P l.toArray (fun _ => True) o v a := by
    rcases h1 with ⟨hw, hv⟩ | h1
    · exact .inl ⟨hw, fun w' _ => hany w v (hv w (Below.refl _ _)) w'⟩
    · exact .inr h1
   exact wpAnyV_first (by simpa using hp0) ho' (Region.noSelect_spec hsel) (fun c a w hq => absurd hq (hpan c _ w)) E.depth B listed a w (Region.free_spec ho' hp3) (by simpa using hp2) h1' h4
  · exact hr.elim
 | .split i E F, B, listed, σ, ν, a, w, hp, hn, hs, hr => by
  simp only [planV, Bool.and_eq_true, beq_iff_eq] at hp
  obtain ⟨⟨⟨⟨⟨⟨hp0, hp1⟩, hp2⟩, hp3⟩, hp4⟩, hp5⟩, hp6⟩ := hp
  simp only [RunV, AtU] at hr
  obtain ⟨hr, hr2⟩ := hr
  have h5 := planV_sound hsel hpan hK n hd V F (i :: B) listed σ ν a w hp6 hn hs hr2
  rw [← hp4] at h5
  split at hr
  ·
   rename_i o ho
   have ho' : l.toArray[i]? = some o := by simpa using ho
   have hk : pureKind o.op = true := by simpa [kindAt, ho] using hp1
   obtain ⟨v, σ', h1, h2, h3⟩ := step_pure hs hk (fun t ht => by rw [← hs.size, hn]; exact hd o (List.mem_of_getElem? ho) t ht) hr
   have h4 := planV_sound hsel hpan hK n hd V E B _ σ' ν _ w hp5 (put_size.trans hn) h3 h2
   exact wpAnyV_split (by simpa using hp0) ho' (Region.noSelect_spec hsel) E.depth B listed a w (Region.free_spec ho' hp3) (by simpa using hp2) h1 h4 h5
  · exact hr.elim
 | .one i E, B, listed, σ, ν, a, w, hp, hn, hs, hr => by
  simp only [planV, Bool.and_eq_true, beq_iff_eq, Bool.not_eq_true', List.contains_eq_mem, decide_eq_false_iff_not] at hp
  obtain ⟨⟨hp1, hp2⟩, hp3⟩ := hp
  simp only [RunV] at hr
  refine ⟨(fun h0 => by rw [h0] at hp2; simp at hp2), fun j hj hjB => ?_⟩
  have hm : j ∈ (Region.ready .any l.toArray listed).filter (fun j => !decide (j ∈ B)) := List.mem_filter.2 ⟨hj, by simpa using hjB⟩
  rw [hp2, List.mem_singleton] at hm
  subst hm
  exact ⟨fun h => absurd h hp1, fun _ => stepV n hd hn hs hr (fun σ' ν' a' w' h2 h3 h4 => planV_sound hsel hpan hK n hd V E [] _ σ' ν' a' w' hp3 h3 h4 h2)⟩
 | .two i E j F, B, listed, σ, ν, a, w, hp, hn, hs, hr => by
  simp only [planV, Bool.and_eq_true, beq_iff_eq, Bool.not_eq_true', List.contains_eq_mem, decide_eq_false_iff_not] at hp
  obtain ⟨⟨⟨⟨⟨hp1, hp1'⟩, hp2⟩, hp4⟩, hp3⟩, hp5⟩ := hp
  simp only [RunV] at hr
  obtain ⟨hr1, hr2⟩ := hr
  refine ⟨(fun h0 => by rw [h0] at hp2; simp at hp2), fun k hk hkB => ?_⟩
  have hm : k ∈ (Region.ready .any l.toArray listed).filter (fun j => !decide (j ∈ B)) := List.mem_filter.2 ⟨hk, by simpa using hkB⟩
  rw [hp2] at hm
  simp only [List.mem_cons, List.not_mem_nil, or_false] at hm
  rcases hm with rfl | rfl
  · exact ⟨fun h => absurd h hp1, fun _ => stepV n hd hn hs hr1 (fun σ' ν' a' w' h2 h3 h4 => planV_sound hsel hpan hK n hd V E [] _ σ' ν' a' w' hp3 h3 h4 h2)⟩
  · exact ⟨fun h => absurd h hp1', fun _ => stepV n hd hn hs hr2 (fun σ' ν' a' w' h2 h3 h4 => by rw [hp4]; exact planV_sound hsel hpan hK n hd V F [] _ σ' ν' a' w' hp5 h3 h4 h2)⟩

end

theorem aw_drawV {P : Program} (hm : P.follows .mixedOrders = true) {σ : St} {Q : Exit -> St -> Prop} {id : Nat} {l : List Oper} (E : PV) (V : List Nat) (hd : dstsB l σ.n = true) (hp : planVB l E V = true)
  (h : RunV P l E σ (Q .normal)) : AW P (.region id l.toArray true) Q σ := fun w0 ν a w hs => by
 simp only [planVB, Bool.and_eq_true, beq_iff_eq] at hp
 obtain ⟨⟨hp1, hp2⟩, hp3⟩ := hp
 refine Code.wp_mono (Q := fun e a' w' => e = .normal /\ ∃ σ' ν', Q .normal σ' /\ Sim P w0 σ' ν' a' w') (fun e a' w' hh => ?_) ?_
 ·
  obtain ⟨rfl, hh⟩ := hh
  exact hh
 ·
  refine wp_region_any hm ?_
  have hs' : Sim P w0 σ ν a { w with drawn := w.drawn + 1 } := hs.grown (w' := { w with drawn := w.drawn + 1 }) (Below.refl w.heap.size w).drew
  have := wpAnyV_any _ _ _ _ (planV_sound (P := P) (w0 := w0) (l := l) (K := Q .normal) (Q := fun e a' w' => e = .normal /\ ∃ σ' ν', Q .normal σ' /\ Sim P w0 σ' ν' a' w') hp1 (fun c a w hq => by cases hq.1) (fun σ' ν' a' w' hk hs' => ⟨rfl, σ', ν', hk, hs'⟩) σ.n (dsts_spec hd) V E [] _ σ ν a _ hp3 hs'.size hs' h)
  rw [hp2] at this
  simpa using this

theorem aw_drawW {P : Program} (hm : P.follows .mixedOrders = true) {σ : St} {Q : Exit -> St -> Prop} {id : Nat} {l : List Oper} (E : PV) (V : List Nat) (hd : dstsB l σ.n = true) (hp : planVB l E V = true)
  (h : ∀ KJ : St -> Prop, (∀ σ', (∀ K : St -> Prop, (∀ σ'', Less σ'' σ'.clean -> K σ'') -> RunV P l E σ K) -> Q .normal σ'.clean -> KJ σ') -> Run P false l l σ KJ) : AW P (.region id l.toArray true) Q σ := by
 obtain ⟨τ, h1, h2⟩ := run_ex (h (fun σ' => (∀ K : St -> Prop, (∀ σ'', Less σ'' σ'.clean -> K σ'') -> RunV P l E σ K) /\ Q .normal σ'.clean) (fun σ' a b => ⟨a, b⟩))
 intro w0 ν a w hs
 refine Code.wp_mono (fun e a' w' hh => ?_) (aw_drawV hm (Q := fun e σ' => e = .normal /\ Less σ' τ.clean) E V hd hp (h1 _ (fun σ'' hl => ⟨rfl, hl⟩)) w0 ν a w hs)
 obtain ⟨σ', ν', ⟨rfl, hl⟩, hs'⟩ := hh
 exact ⟨τ.clean, ν', h2, hs'.less hl⟩

section
variable {P : Program} {σ : St} {K : St -> Prop} {ops : List Oper}

def RunVK (P : Program) (ops : List Oper) (t : PV) (K : St -> Prop) (σ : St) : Prop := RunV P ops t σ K

def RunAtV (P : Program) (q : Bool) (ops : List Oper) (o : Option Oper) (t : PV) (σ : St) (K : St -> Prop) : Prop := match o with
 | some o => Run P q ops [o] σ (RunVK P ops t K)
 | none => False

theorem rv_at {q : Bool} {t : PV} (x : Option Oper) : AtU P q ops x σ (fun σ' => RunV P ops t σ' K) = RunAtV P q ops x t σ K := by
 cases x with
 | none => rfl
 | some o =>
  simp only [RunAtV, AtU, run_cons]
  rfl

theorem rvk {t : PV} : RunVK P ops t K σ = RunV P ops t σ K := Eq.trans rfl rfl

theorem rv_fin : RunV P ops .fin σ K = K σ := Eq.trans rfl rfl

theorem rv_dead {n : Nat} : RunV P ops (.dead n) σ K = True := Eq.trans rfl rfl

theorem rv_calc {i : Nat} {t : PV} : RunV P ops (.calc i t) σ K = (calcB ops[i]? σ = true /\ RunAtV P true ops ops[i]? t σ K) := by
 rw [RunV]; exact congrArg _ (rv_at _)

theorem rv_still {i : Nat} {t : PV} : RunV P ops (.still i t) σ K = RunAtV P true ops ops[i]? t σ K := by
 rw [RunV]; exact rv_at _

theorem rv_one {i : Nat} {t : PV} : RunV P ops (.one i t) σ K = RunAtV P false ops ops[i]? t σ K := by
 rw [RunV]; exact rv_at _

theorem rv_split {i : Nat} {t u : PV} (h1 : RunAtV P true ops ops[i]? t σ K) (h2 : RunV P ops u σ K) : RunV P ops (.split i t u) σ K := by
 rw [RunV]
 exact ⟨(rv_at _).mpr h1, h2⟩

theorem rv_two {i j : Nat} {t u : PV} (h1 : RunAtV P false ops ops[i]? t σ K) (h2 : RunAtV P false ops ops[j]? u σ K) : RunV P ops (.two i t j u) σ K := by
 rw [RunV]
 exact ⟨(rv_at _).mpr h1, (rv_at _).mpr h2⟩

theorem rav_some {q : Bool} {o : Oper} {t : PV} : RunAtV P q ops (some o) t σ K = Run P q ops [o] σ (RunVK P ops t K) := Eq.trans rfl rfl

instance {t : PV} : Evg (RunV P ops t σ K) (RunV P ops t σ K) := ⟨id⟩

instance {q : Bool} {o : Option Oper} {t : PV} : Evg (RunAtV P q ops o t σ K) (RunAtV P q ops o t σ K) := ⟨id⟩

end

end Go.Proofs.Ytjbifidphckjoaa
