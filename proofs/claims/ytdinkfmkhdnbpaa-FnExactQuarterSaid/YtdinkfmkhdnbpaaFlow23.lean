/- The rules of code, seen through the view. -/
import Derived.Test.YtdinkfmkhdnbpaaFlow22
import Derived.WalkKit
import Derived.WalkSpells
import Derived.OrdersHeld
import Derived.LoopN
namespace Go.Proofs.Ytdinkfmkhdnbpaa
open Go.RowKit
set_option linter.unusedVariables false
set_option linter.unusedSimpArgs false

/-- Every slot that is written is one of the frame's. -/
def dstsB (l : List Oper) (n : Nat) : Bool := l.all fun o => match o.dst with | some t => decide (t < n) | none => true

def Kx (K : St → Prop) (Q : Exit → St → Prop) : Exit → St → Prop
  | .normal, σ => K σ
  | e, σ => Q e σ

def inB (id : Nat) (Q : Exit → St → Prop) : Exit → St → Prop
  | .exit id', σ => if id' = id then Q .normal σ else Q (.exit id') σ
  | e, σ => Q e σ

/-- The second view knows no more than the first. -/
def Less (σ τ : St) : Prop := σ.n = τ.n ∧ SubS σ.sl τ.sl ∧ SubO σ.ob τ.ob

section
variable {P : Program} {w0 : Env} {w w' : World} {σ : St} {ν : Loc} {a : Act} {Q : Exit → St → Prop}

theorem dsts_spec {l : List Oper} {n : Nat} (h : dstsB l n = true) : ∀ o ∈ l, ∀ t, o.dst = some t → t < n := fun o ho t ht => by
  have := List.all_eq_true.1 h o ho
  rw [ht] at this
  simpa using this

theorem Sim.less (h : Sim P w0 σ ν a w) {τ : St} (hl : Less σ τ) : Sim P w0 τ ν a w := by
  obtain ⟨h1, h2, h3⟩ := hl
  have ho := subO_look h3
  have hav : ∀ b, AvoidB σ.ob ν b → AvoidB τ.ob ν b := fun b hb s o hs => hb s o (ho s o hs)
  have hlat : Later σ.ob ν w τ.ob ν w := ⟨Nat.le_refl _, fun b _ hb => ⟨hav b hb, rfl⟩, fun b c T hb => ⟨c, T, hb, rfl⟩⟩
  have hfit : ∀ s, Fits σ.ob ν τ.ob ν s := fun s hs => by
    obtain ⟨o, hso⟩ := Option.isSome_iff_exists.1 hs
    have := ho s o hso
    exact ⟨by rw [this]; rfl, rfl, fun o1 o2 e1 e2 => by rw [ho s o2 e2] at e1; cases e1; rfl⟩
  refine ⟨⟨fun s o hs => ?_, fun s s' o o' x x' hne e1 e2 => h.inj s s' o o' x x' hne (ho s o e1) (ho s' o' e2)⟩, h.below, h.rows, h.lt, h.fresh, h1 ▸ h.le, h.stab, h.defers, h.size.trans h1, fun t => ?_⟩
  rotate_left 1
  · rcases subS_look h2 t with e | e
    · rw [e]; simp only [VR]
    · rw [e]; exact VR.later hlat (h.slots t) (fun s _ => hfit s)
  · rcases h.objs s o (ho s o hs) with e | ⟨b, base, c, T, xs, e1, e2, e3, e4, e5, e6⟩
    · exact .inl e
    · exact .inr ⟨b, base, c, T, xs, e1, e2, e3, e4, e5, VRs.later hlat e6 (fun s _ => hfit s)⟩

theorem aw_less {c : Code} {τ : St} (hl : Less σ τ) (h : AW P c Q τ) : AW P c Q σ := fun w0 ν a w hs => h w0 ν a w (hs.less hl)

theorem aw_mono {c : Code} {Q' : Exit → St → Prop} (hq : ∀ e σ, Q e σ → Q' e σ) (h : AW P c Q σ) : AW P c Q' σ := fun w0 ν a w hs =>
  Code.wp_mono (fun e _ _ ⟨σ', ν', q, s⟩ => ⟨σ', ν', hq e σ' q, s⟩) (h w0 ν a w hs)

theorem aw_skip (h : Q .normal σ) : AW P .skip Q σ := fun _ ν _ _ hs => wp_skip ⟨σ, ν, h, hs⟩

theorem aw_ret (h : Q .ret σ) : AW P .ret Q σ := fun _ ν _ _ hs => wp_ret ⟨σ, ν, h, hs⟩

theorem aw_exit {id : Nat} (h : Q (.exit id) σ) : AW P (.exit id) Q σ := fun _ ν _ _ hs => wp_exit ⟨σ, ν, h, hs⟩

theorem aw_seq {x y : Code} (h : ∀ K : St → Prop, (∀ σ', AW P y Q σ' → K σ') → AW P x (Kx K Q) σ) : AW P (.seq x y) Q σ := fun w0 ν a w hs => by
  refine wp_seq (Code.wp_mono (fun e a' w' hh => ?_) (h (AW P y Q) (fun _ h => h) w0 ν a w hs))
  obtain ⟨σ', ν', q, s⟩ := hh
  cases e with
  | normal => exact q w0 ν' a' w' s
  | _ => exact ⟨σ', ν', q, s⟩

theorem aw_block {id : Nat} {c : Code} (h : AW P c (inB id Q) σ) : AW P (.block id c) Q σ := fun w0 ν a w hs => by
  refine wp_block (Code.wp_mono (fun e a' w' hh => ?_) (h w0 ν a w hs))
  obtain ⟨σ', ν', q, s⟩ := hh
  cases e with
  | exit id' =>
    simp only [Exit.inBlock]
    simp only [inB] at q
    split
    · rename_i e; rw [if_pos e] at q; exact ⟨σ', ν', q, s⟩
    · rename_i e; rw [if_neg e] at q; exact ⟨σ', ν', q, s⟩
  | _ => exact ⟨σ', ν', q, s⟩

theorem aw_cond {c : Operand} {x y : Code} {t : Bool} (hc : σ.ev c = .d (.v (.bool t))) (ht : t = true → AW P x Q σ) (hf : t = false → AW P y Q σ) : AW P (.cond c x y) Q σ := fun w0 ν a w hs => by
  have h1 := hs.ev c
  rw [hc] at h1
  exact wp_cond_split h1.val (fun e => ht e w0 ν a w hs) (fun e => hf e w0 ν a w hs)

theorem aw_region {id : Nat} {l : List Oper} (hd : dstsB l σ.n = true) (h : Run P false l l σ (Q .normal)) : AW P (.region id l.toArray false) Q σ := fun _ ν a w hs =>
  wp_region_lit (run_sound (K := Q .normal) (fun σ' ν' _ _ hk hs' => ⟨σ', ν', hk, hs'⟩) σ.n l σ ν a w (dsts_spec hd) hs.size hs h)

/-- A LOOP: a family of views, one for each state of the loop; the measure sinks. -/
theorem aw_loop {c : Code} {α : Type} (I : α → St) (ok : α → Prop) (μ : α → Nat) (i0 : α) (h0 : ok i0) (hl : Less σ (I i0))
    (hr : ∀ i, ok i → AW P c (Kx (fun σ' => ∃ j, ok j ∧ μ j < μ i ∧ Less σ' (I j)) Q) (I i)) : AW P (.loop c) Q σ := fun w0 ν a w hs => by
  have key : ∀ n i ν a w, μ i < n → ok i → Sim P w0 (I i) ν a w → Code.rounds P c (fun e a' w' => ∃ σ' ν', Q e σ' ∧ Sim P w0 σ' ν' a' w') n a w := by
    intro n
    induction n with
    | zero => intro i ν a w h; omega
    | succ n ih =>
      intro i ν a w hlt hi hs
      rw [rounds_succ]
      refine Code.wp_mono (fun e a' w' hh => ?_) (hr i hi w0 ν a w hs)
      obtain ⟨σ', ν', q, s⟩ := hh
      cases e with
      | normal =>
        obtain ⟨j, hj, hlt2, hless⟩ := q
        exact ih j ν' a' w' (by omega) hj (s.less hless)
      | _ => exact ⟨σ', ν', q, s⟩
  exact wp_loop_rounds _ (key (μ i0 + 1) i0 ν a w (by omega) h0 (hs.less hl))
end

end Go.Proofs.Ytdinkfmkhdnbpaa
