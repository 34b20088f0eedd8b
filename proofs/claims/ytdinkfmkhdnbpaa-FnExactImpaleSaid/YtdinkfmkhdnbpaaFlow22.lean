/- One operation of a region, and a region in the order of the text. -/
import Derived.Test.YtdinkfmkhdnbpaaFlow21b
import Derived.WalkKit
import Derived.WalkSpells
import Derived.OrdersHeld
namespace Go.Proofs.Ytdinkfmkhdnbpaa
open Go.RowKit
set_option linter.unusedVariables false
set_option linter.unusedSimpArgs false

def pureKind : Op → Bool
  | .move _ | .assign _ | .pick _ _ _ | .load _ _ | .fieldAddr _ _ _ | .indexAddr _ _ _ | .index _ _ _ | .field _ _ _ | .extract _ _ | .binOp _ _ _ _ _ | .unOp _ _ _ | .convert _ _ _ | .slice _ _ _ _ _ | .makeFunc _ _ _ | .nilCheck _ | .build _ _ => true
  | .call ⟨.builtin .len, _, _⟩ | .call ⟨.builtin .min, _, _⟩ | .call ⟨.builtin .max, _, _⟩ => true
  | _ => false

/-- It turns nothing that was there. -/
def quietKind : Op → Bool
  | .call ⟨.value _, _, _⟩ => true
  | op => pureKind op || growKind op

/-- One operation of a region. -/
def Step (P : Program) (q : Bool) (ops : List Oper) (o : Oper) (σ : St) (K : St → Prop) : Prop :=
  match o.guard with
  | none => opOk P q o σ K
  | some (j, want) => match guardOf ops σ j with
    | .d (.v (.bool c)) => if c = want then opOk P q o σ K else K (σ.puto o.dst (.d (.v undef)))
    | .d (.v (.tuple _)) => K (σ.puto o.dst (.d (.v undef)))
    | _ => False

section
variable {P : Program} {w0 : Env} {w w' : World} {σ : St} {ν : Loc} {a : Act} {q : Bool} {ops : List Oper}

theorem run_cons {o : Oper} {l : List Oper} {K : St → Prop} : Run P q ops (o :: l) σ K = Step P q ops o σ (fun σ' => Run P q ops l σ' K) := by
  unfold Step
  rw [Run]
  rfl

theorem act_not_pure {dst : Option Nat} {op : Op} {x : Prop × St} (h : actOp P σ dst op = some x) : pureKind op = false := by
  cases op with
  | call c =>
    obtain ⟨callee, args, ts⟩ := c
    cases callee with
    | builtin b => cases b <;> first | rfl | simp [actOp] at h
    | value f => simp [actOp] at h
    | invoke r n => rfl
  | _ => first | rfl | simp [actOp] at h

theorem pure_not_act {dst : Option Nat} {op : Op} (h : pureKind op = true) : actOp P σ dst op = none := by
  cases hx : actOp P σ dst op with
  | none => rfl
  | some x =>
    have := act_not_pure hx
    rw [h] at this
    cases this

theorem act_quiet {dst : Option Nat} {op : Op} {x : Prop × St} (h : actOp P σ dst op = some x) (hq : quietKind op = true) : growKind op = true := by
  have hp := act_not_pure h
  cases op with
  | call c =>
    obtain ⟨callee, args, ts⟩ := c
    cases callee with
    | value f => simp [actOp] at h
    | _ => simpa [quietKind, hp] using hq
  | _ => simpa [quietKind, hp] using hq

def asB : Value → Option Bool
  | .bool c => some c
  | _ => none

theorem guard_sound (h : Sim P w0 σ ν a w) {j : Nat} {x : Value} (hg : guardOf ops σ j = .d (.v x)) : yielded ops.toArray a.tmps j = asB x ∨ (∃ vs, x = .tuple vs ∧ yielded ops.toArray a.tmps j = none) := by
  unfold guardOf at hg
  split at hg
  · rename_i oj hoj
    split at hg
    · rename_i t ht
      have hs := h.slots t
      rw [hg] at hs
      have hv := hs.val
      unfold yielded
      have : (ops.toArray[j]?).bind (·.dst) = some t := by simp [hoj, ht]
      rw [this]
      simp only [Option.bind_some]
      by_cases hlt : t < a.tmps.size
      · left
        have e : a.tmps[t]? = some x := by
          rw [Array.getElem?_eq_getElem hlt]
          rw [← hv]
          simp [Array.getD, hlt]
        rw [e]
        cases x <;> rfl
      · have e : a.tmps[t]? = none := Array.getElem?_eq_none (Nat.le_of_not_lt hlt)
        rw [e]
        right
        have : x = undef := by
          rw [← hv]
          simp [Array.getD, hlt]
        exact ⟨_, this, rfl⟩
    · cases hg
  · cases hg

theorem put_size {dst : Option Nat} {v : Value} : (a.put dst v).tmps.size = a.tmps.size := by
  cases dst <;> simp [Act.put]

/-- ONE OPERATION DOES WHAT THE VIEW SAYS. -/
theorem op_sound (h : Sim P w0 σ ν a w) {o : Oper} (hd : ∀ t, o.dst = some t → t < σ.n) {K : St → Prop} (hs : opOk P q o σ K) {Q : Exit → Act → World → Prop} :
    o.wp P a w (fun a' w' => a'.tmps.size = a.tmps.size ∧ (q = true → quietKind o.op = true → Below w.heap.size w w') ∧ ∃ σ' ν', K σ' ∧ Sim P w0 σ' ν' a' w') Q := by
  have hstep : (match stepOp P σ o.dst o.op with | some (p, σ') => p ∧ K σ' | none => False) → o.wp P a w (fun a' w' => a'.tmps.size = a.tmps.size ∧ (q = true → quietKind o.op = true → Below w.heap.size w w') ∧ ∃ σ' ν', K σ' ∧ Sim P w0 σ' ν' a' w') Q := fun hs => by
    unfold stepOp at hs
    cases hact : actOp P σ o.dst o.op with
    | some x =>
      obtain ⟨p, σ'⟩ := x
      rw [hact] at hs
      obtain ⟨hp, hK⟩ := hs
      obtain ⟨r, w', ν', h1, h2, hb⟩ := act_sound h hact hp hd
      have hq := fun e => hb (act_quiet hact e)
      unfold Oper.wp
      rw [h1]
      rcases h2 with ⟨v, rfl, h3⟩ | ⟨rfl, h3⟩
      · exact ⟨put_size, (fun _ e => hq e), σ', ν', hK, h3⟩
      · exact ⟨put_size, (fun _ e => hq e), σ', ν', hK, h3⟩
    | none =>
      rw [hact] at hs
      simp only at hs
      cases hpure : pureOp P σ o.op with
      | none => rw [hpure] at hs; exact hs.elim
      | some x =>
        obtain ⟨p, r⟩ := x
        rw [hpure] at hs
        obtain ⟨hp, hK⟩ := hs
        obtain ⟨v, h1, h2⟩ := pure_sound h hpure hp
        unfold Oper.wp
        rw [h1.here]
        exact ⟨put_size, fun _ _ => Below.refl _ _, _, ν, hK, Sim.puto h hd h2⟩
  unfold opOk at hs
  split at hs
  · rename_i f args ts hop
    obtain ⟨g, vs, h1, h2⟩ := call_sound h hop hd hs
    unfold Oper.wp
    rw [h1, Oper.upon_enter]
    refine Calls.mono h2 (fun e w'' he => ?_)
    obtain ⟨r, rfl, h3, σ', ν', h4, h5⟩ := he
    exact ⟨put_size, fun e _ => h3 e, σ', ν', h4, h5⟩
  · exact hstep hs

theorem step_sound (h : Sim P w0 σ ν a w) {o : Oper} (hd : ∀ t, o.dst = some t → t < σ.n) {K : St → Prop} (hs : Step P q ops o σ K) {Q : Exit → Act → World → Prop} :
    if Region.wanted o (yielded ops.toArray a.tmps) then o.wp P a w (fun a' w' => a'.tmps.size = a.tmps.size ∧ (q = true → quietKind o.op = true → Below w.heap.size w w') ∧ ∃ σ' ν', K σ' ∧ Sim P w0 σ' ν' a' w') Q
    else ∃ σ' ν', K σ' ∧ Sim P w0 σ' ν' (a.put o.dst undef) w := by
  have hskip : K (σ.puto o.dst (.d (.v undef))) → ∃ σ' ν', K σ' ∧ Sim P w0 σ' ν' (a.put o.dst undef) w := fun hK => ⟨_, ν, hK, Sim.puto h hd (VR.mk _)⟩
  unfold Step at hs
  split at hs
  · rename_i hg
    rw [if_pos (by simp [Region.wanted, hg])]
    exact op_sound h hd hs
  · rename_i j want hg
    split at hs
    · rename_i c hgo
      have hy := guard_sound h hgo
      have hy : yielded ops.toArray a.tmps j = some c := by
        rcases hy with hy | ⟨vs, hy, _⟩
        · exact hy
        · cases hy
      split at hs
      · rename_i hc
        subst hc
        rw [if_pos (by simp [Region.wanted, hg, hy])]
        exact op_sound h hd hs
      · rename_i hc
        rw [if_neg (by simp [Region.wanted, hg, hy, hc])]
        exact hskip hs
    · rename_i vs hgo
      have hy : yielded ops.toArray a.tmps j = none := by
        rcases guard_sound h hgo with hy | ⟨_, _, hy⟩
        · exact hy
        · exact hy
      rw [if_neg (by simp [Region.wanted, hg, hy])]
      exact hskip hs
    · exact hs.elim

/-- An operation that touches no memory, or only reads: what it yields, it yields in whatever later world. -/
theorem step_pure (h : Sim P w0 σ ν a w) {o : Oper} (hk : pureKind o.op = true) (hd : ∀ t, o.dst = some t → t < σ.n) {K : St → Prop} (hs : Step P q ops o σ K) :
    ∃ v σ', YieldsIf P ops.toArray (Below w.heap.size w) o v a ∧ K σ' ∧ Sim P w0 σ' ν (a.put o.dst v) w := by
  have hskip : K (σ.puto o.dst (.d (.v undef))) → Region.wanted o (yielded ops.toArray a.tmps) = false → ∃ v σ', YieldsIf P ops.toArray (Below w.heap.size w) o v a ∧ K σ' ∧ Sim P w0 σ' ν (a.put o.dst v) w := fun hK hw =>
    ⟨undef, _, .inr ⟨hw, rfl⟩, hK, Sim.puto h hd (VR.mk _)⟩
  have hgo : opOk P q o σ K → Region.wanted o (yielded ops.toArray a.tmps) = true → ∃ v σ', YieldsIf P ops.toArray (Below w.heap.size w) o v a ∧ K σ' ∧ Sim P w0 σ' ν (a.put o.dst v) w := fun hs hw => by
    have hs2 : (match stepOp P σ o.dst o.op with | some (p, σ') => p ∧ K σ' | none => False) := by
      unfold opOk at hs
      split at hs
      · rename_i f args ts hop
        rw [hop] at hk
        simp [pureKind] at hk
      · exact hs
    unfold stepOp at hs2
    rw [pure_not_act hk] at hs2
    simp only at hs2
    cases hpure : pureOp P σ o.op with
    | none => rw [hpure] at hs2; exact hs2.elim
    | some x =>
      obtain ⟨p, r⟩ := x
      rw [hpure] at hs2
      obtain ⟨hp, hK⟩ := hs2
      obtain ⟨v, h1, h2⟩ := pure_sound h hpure hp
      exact ⟨v, _, .inl ⟨hw, fun w' hw' => h1 w' hw'⟩, hK, Sim.puto h hd h2⟩
  unfold Step at hs
  split at hs
  · rename_i hg
    exact hgo hs (by simp [Region.wanted, hg])
  · rename_i j want hg
    split at hs
    · rename_i c hgo2
      have hy := guard_sound h hgo2
      have hy : yielded ops.toArray a.tmps j = some c := by
        rcases hy with hy | ⟨vs, hy, _⟩
        · exact hy
        · cases hy
      split at hs
      · rename_i hc
        subst hc
        exact hgo hs (by simp [Region.wanted, hg, hy])
      · rename_i hc
        exact hskip hs (by simp [Region.wanted, hg, hy, hc])
    · rename_i vs hgo2
      have hy : yielded ops.toArray a.tmps j = none := by
        rcases guard_sound h hgo2 with hy | ⟨_, _, hy⟩
        · exact hy
        · exact hy
      exact hskip hs (by simp [Region.wanted, hg, hy])
    · exact hs.elim

/-- A REGION IN THE ORDER OF THE TEXT. -/
theorem run_sound {Q : Exit → Act → World → Prop} {K : St → Prop} (hK : ∀ σ ν a w, K σ → Sim P w0 σ ν a w → Q .normal a w) (n : Nat) :
    ∀ (l : List Oper) (σ : St) (ν : Loc) (a : Act) (w : World), (∀ o ∈ l, ∀ t, o.dst = some t → t < n) → a.tmps.size = n → Sim P w0 σ ν a w → Run P q ops l σ K → wpList P ops.toArray Q l a w
  | [], σ, ν, a, w, _, _, h, hr => hK σ ν a w hr h
  | o :: l, σ, ν, a, w, hd, hn, h, hr => by
    rw [run_cons] at hr
    have hs := step_sound h (fun t ht => by rw [← h.size, hn]; exact hd o (by simp) t ht) hr (Q := Q)
    unfold wpList
    by_cases hw : Region.wanted o (yielded ops.toArray a.tmps) = true
    · rw [if_pos hw] at hs ⊢
      refine .inl (Oper.wp_mono (fun a' w' hh => ?_) hs)
      obtain ⟨hsz, _, σ', ν', h1, h2⟩ := hh
      exact run_sound hK n l σ' ν' a' w' (fun o ho => hd o (by simp [ho])) (hsz.trans hn) h2 h1
    · rw [if_neg hw] at hs ⊢
      obtain ⟨σ', ν', h1, h2⟩ := hs
      exact run_sound hK n l σ' ν' _ w (fun o ho => hd o (by simp [ho])) (by rw [← hn]; cases o.dst <;> simp [Act.put]) h2 h1
end

end Go.Proofs.Ytdinkfmkhdnbpaa
