/- The last step of every law: it answers true and nothing that was there has turned. -/
import Derived.Test.YteimddagjikcaaaRows
import Derived.Test.YteimddagjikcaaaBase
import Derived.Test.YteimddagjikcaaaFlowD
import Derived.Test.YteimddagjikcaaaGlob
import Derived.Test.YteimddagjikcaaaRead
import Derived.ProofKit
namespace Go.Proofs.Yteimddagjikcaaa
section

open Go.ChangeShapes Go.WideShapes Go.ChangeAt Go.RowKit
set_option linter.unusedVariables false
set_option linter.unusedSimpArgs false

theorem ownKnob_none : ownKnob Try.prog.godebug = none := by kernel_rfl

theorem laidOut_prog : laidOutB Try.prog = true := by kernel_rfl

theorem trodAll_below {H : Type} {enc : TypeId × Value → H} {P : Program} (hl : laidOutB P = true) {W W' : World} (hb : Below W.heap.size W W') :
    ∀ (ts : List TypeId) (vs : List Value) (ds : List (DataW H)) (ps : List MemPlace), (ts.all fun t => P.readableRec t && decide (t < P.types.size)) = true →
      DataW.TrodAll enc P W 0 (fun _ => true) true ts vs ds ps → (∀ x ∈ ps, x.block < W.heap.size) →
      DataW.TrodAll enc P W' 0 (fun b => decide (b < W.heap.size)) true ts vs ds ps
  | [], [], [], ps, _, h, _ => h
  | t :: ts, v :: vs, d :: ds, ps, hr, h, hlt => by
    obtain ⟨p, q, h1, h2, rfl⟩ := h
    simp only [List.all_cons, Bool.and_eq_true, decide_eq_true_eq] at hr
    exact ⟨p, q, Below.trod hl hr.1.1 hr.1.2 h1 hb (fun x hx => hlt x (List.mem_append_left _ hx)),
      trodAll_below hl hb ts vs ds q hr.2 h2 (fun x hx => hlt x (List.mem_append_right _ hx)), rfl⟩
  | [], _ :: _, _, _, _, h, _ => h.elim
  | [], [], _ :: _, _, _, h, _ => h.elim
  | _ :: _, [], _, _, _, h, _ => h.elim
  | _ :: _, _ :: _, [], _, _, h, _ => h.elim

theorem law_post {H : Type} {enc : TypeId × Value → H} {P : Program} {f : Func} {s : ChangeSpec} {W W' : World} {args : Array Value} {ds gs : List (DataW H)} {before : List MemPlace}
    (hl : laidOutB P = true) (hv : s.vars = []) (hW : DataW.Whole enc P f.params.toList s.vars false W args.toList ds gs before)
    (hr : (f.params.toList.all fun t => P.readableRec t && decide (t < P.types.size)) = true) {tb : TypeId} (hres : f.resultTypes = #[tb]) (htb : P.underlying tb = some TypeDesc.bool)
    (hs : s.fn H ds = { results := [.lit (.bool true)], args := ds }) (hb : Below W.heap.size W W') :
    s.post enc P f false true false false W args (.bool true) W' := by
  have hlt : ∀ x ∈ before, x.block < W.heap.size := fun x hx => hW.lt x hx
  have hW' := hW
  obtain ⟨p, q, hA, hV, rfl, _, _⟩ := hW
  rw [hv] at hV
  obtain ⟨rfl, rfl⟩ := trodVars_none hV
  simp only [List.append_nil] at *
  refine ⟨ds, [], p, [], p, [], hW', ?_, ?_, ?_, World.keptBut_mono (fun p hp => ⟨hp, Or.inr (Or.inl hp)⟩) (hb.frame (· ∈ p)), fun h => by cases h⟩
  · rw [List.append_nil, hs, hres]
    exact trodAll_mk1 (shut_bool htb _)
  · rw [List.append_nil, hs]
    exact trodAll_below hl hb _ _ _ _ hr hA hlt
  · rw [List.append_nil, hs, hv]
    exact rfl

end

section

open Go.ChangeShapes Go.WideShapes Go.ChangeAt Go.RowKit
set_option linter.unusedVariables false
set_option linter.unusedSimpArgs false

theorem law_calls {P : Program} {f : FuncId} {ds : List D} (h : FnD P f ds (.bool true)) {W : World} {vs : List Value} {bs : List Nat} (hr : RDs W false ds vs bs) (hg : GlobW W) :
    Calls P f vs.toArray W fun e W' => e = .returned (.bool true) ∧ Below W.heap.size W W' := by
  refine Calls.mono (h.2 W vs ⟨rcs_data hr hr.lt, hg⟩) (fun e W' he => ?_)
  obtain ⟨r, bs', rfl, h1, h2, _⟩ := he
  simp only [RD] at h2
  exact ⟨by rw [h2.1], h1⟩

end

section

open Go.ChangeShapes Go.WideShapes Go.ChangeAt Go.RowKit
set_option linter.unusedVariables false
set_option linter.unusedSimpArgs false

def ArgSh : Sh → D → Prop
  | .st ss, x => ∃ ds, x = .ag ds ∧ HasShL ss ds
  | s, x => HasSh s [x]

def ArgShL : List Sh → List D → Prop
  | [], xs => xs = []
  | s :: ss, xs => ∃ x xs', xs = x :: xs' ∧ ArgSh s x ∧ ArgShL ss xs'

def isShs (P : Program) : List Sh → List TypeId → Bool
  | [], [] => true
  | s :: ss, t :: ts => isSh P s t && isShs P ss ts
  | _, _ => false

section
variable {H : Type} {enc : TypeId × Value → H} {P : Program} {W : World} {base : Nat} {spare : Nat → Bool} {held : Bool}

theorem reads_one {s : Sh} {v : Value} (h : Reads W s [v]) : ∃ x bs, HasSh s [x] ∧ RD W false x v bs := by
  obtain ⟨ds, bs, h1, h2, h3, h4⟩ := h
  have hl := h2.length
  match ds, hl, h1, h2 with
  | [x], _, h1, h2 =>
    simp only [RDs] at h2
    obtain ⟨y, ys, b1, b2, e1, e2, g1, g2⟩ := h2
    simp only [List.cons.injEq] at e1
    rw [e1.1]
    exact ⟨x, b1, h1, g1⟩
  | [], hl, _, _ => simp at hl
  | _ :: _ :: _, hl, _, _ => simp at hl

theorem arg_read {s : Sh} {t : TypeId} {v : Value} {d : DataW H} {p : List MemPlace} {w : World} {r : Reach} {b0 : Nat} (hs : isSh P s t = true) (hv : Value.okWide P w r b0 t v) (h : DataW.Trod enc P W base spare held t v d p) : ∃ x bs, ArgSh s x ∧ RD W false x v bs := by
  obtain ⟨fuel, h⟩ := h
  have hr := read_sound s hs h
  cases s with
  | int =>
    unfold isSh at hs
    split at hs
    · rename_i hu
      obtain ⟨n, rfl⟩ := okWide_int hu hv
      exact reads_one hr
    · cases hs
  | bool =>
    unfold isSh at hs
    split at hs
    · rename_i hu
      obtain ⟨n, rfl⟩ := okWide_bool hu hv
      exact reads_one hr
    · cases hs
  | u8 =>
    unfold isSh at hs
    split at hs
    · rename_i hu
      obtain ⟨n, rfl⟩ := okWide_int hu hv
      exact reads_one hr
    · cases hs
  | str =>
    unfold isSh at hs
    split at hs
    · rename_i hu
      obtain ⟨n, rfl⟩ := okWide_string hu hv
      exact reads_one hr
    · cases hs
  | sl e =>
    unfold isSh at hs
    split at hs
    · rename_i e2 hu
      obtain ⟨a, n, c, rfl⟩ := okWide_slice hu hv
      exact reads_one hr
    · cases hs
  | st ss =>
    unfold isSh at hs
    split at hs
    · rename_i fs hu
      obtain ⟨cs, rfl, _⟩ := okWide_struct hu hv
      obtain ⟨ds, bs, h1, h2, h3, h4⟩ := hr
      refine ⟨.ag ds, bs, ⟨ds, rfl, h1⟩, ?_⟩
      simp only [RD]
      exact ⟨cs.toList, by simp, h3, h2⟩
    · cases hs

theorem args_read {w : World} {r : Reach} {b0 : Nat} : ∀ (ss : List Sh) {ts : List TypeId} {vs : List Value} {ds : List (DataW H)} {ps : List MemPlace}, isShs P ss ts = true →
    (∀ (j : Nat) t v, ts[j]? = some t → vs[j]? = some v → Value.okWide P w r b0 t v) → DataW.TrodAll enc P W base spare held ts vs ds ps → ∃ xs bs, ArgShL ss xs ∧ RDs W false xs vs bs
  | [], [], [], [], _, _, _, _ => ⟨[], [], rfl, by simp [RDs]⟩
  | s :: ss, t :: ts, v :: vs, d :: ds, ps, hs, hv, h => by
    obtain ⟨p, q, h1, h2, rfl⟩ := h
    simp only [isShs, Bool.and_eq_true] at hs
    obtain ⟨x, b1, g1, g2⟩ := arg_read hs.1 (hv 0 t v rfl rfl) h1
    obtain ⟨xs, b2, g3, g4⟩ := args_read ss hs.2 (fun j t v e1 e2 => hv (j + 1) t v (by simpa using e1) (by simpa using e2)) h2
    refine ⟨x :: xs, b1 ++ b2, ⟨x, xs, rfl, g1, g3⟩, ?_⟩
    simp only [RDs]
    exact ⟨v, vs, b1, b2, rfl, rfl, g2, g4⟩
  | [], _ :: _, _, _, _, hs, _, _ => by simp [isShs] at hs
  | _ :: _, [], _, _, _, hs, _, _ => by simp [isShs] at hs
  | [], [], _ :: _, _, _, _, _, h => h.elim
  | [], [], [], _ :: _, _, _, _, h => h.elim
  | _ :: _, _ :: _, [], _, _, _, _, h => h.elim
  | _ :: _, _ :: _, _ :: _, [], _, _, _, h => h.elim

theorem law_sh {f : FuncId} {ss : List Sh} {ts : List TypeId} {args : Array Value} {ds : List (DataW H)} {ps : List MemPlace} {w : World} {r : Reach} {b0 : Nat} (hf : ∀ xs, ArgShL ss xs → FnD P f xs (.bool true)) (hs : isShs P ss ts = true)
    (hv : ∀ (j : Nat) t v, ts[j]? = some t → args.toList[j]? = some v → Value.okWide P w r b0 t v) (h : DataW.TrodAll enc P W base spare held ts args.toList ds ps) (hg : GlobW W) :
    Calls P f args W fun e W' => e = .returned (.bool true) ∧ Below W.heap.size W W' := by
  obtain ⟨xs, bs, h1, h2⟩ := args_read ss hs hv h
  have := law_calls (hf xs h1) h2 hg
  simpa using this

end

end

end Go.Proofs.Yteimddagjikcaaa
