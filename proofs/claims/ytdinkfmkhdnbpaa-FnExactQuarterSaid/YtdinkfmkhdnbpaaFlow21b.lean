/- Calls by contract. -/
import Derived.Test.YtdinkfmkhdnbpaaFlow21a
import Derived.WalkKit
import Derived.WalkSpells
namespace Go.Proofs.Ytdinkfmkhdnbpaa
open Go.RowKit
set_option linter.unusedVariables false
set_option linter.unusedSimpArgs false

section
variable {P : Program} {w0 : Env} {w w' : World} {σ : St} {ν : Loc} {a : Act}

theorem RF.later {y : Value} {dom : List D → Prop} {h : List D → D} (hr : RF P w0.S w0.w y dom h) (hb : Keep w0.S w0.w w) (hlt : ∀ b, w0.S b → b < w0.w.heap.size) : RF P (· < w.heap.size) w y dom h :=
  hr.sub (fun _ hw' => hb.trans (hw'.sub (fun k hk => Nat.lt_of_lt_of_le (hlt k hk) hb.size)))

theorem refs_cells {o : OB} (ho : o ≠ .dead) {s : Nat} (h : o.refs s = false) : AV.refsL s (obCells o) = false := by
  cases o with
  | ds cs => simp only [obCells]; exact refs_dmap s cs
  | av cs => simpa [obCells, OB.refs] using h
  | dead => exact absurd rfl ho

theorem plain_map : ∀ {cs : List D}, plains cs → AV.plains (cs.map AV.d)
  | [], _ => by simp [AV.plains]
  | c :: cs, h => by
    simp only [Go.Proofs.Ytdinkfmkhdnbpaa.plains] at h
    simp only [List.map_cons, AV.plains, AV.plain]
    exact ⟨h.1, plain_map h.2⟩

theorem plain_cells {o : OB} (h : o.plain) : AV.plains (obCells o) := by
  cases o with
  | ds cs => exact plain_map h
  | av cs => exact h
  | dead => simp [obCells, AV.plains]

theorem plainOs_mem {s : Nat} {o : OB} : ∀ {ob : List (Nat × OB)}, plainOs ob → (s, o) ∈ ob → o.plain
  | [], _, h => by simp at h
  | (t, x) :: r, hp, h => by
    simp only [plainOs] at hp
    rcases List.mem_cons.1 h with e | h
    · cases e; exact hp.1
    · exact plainOs_mem hp.2 h

theorem Sim.own (h : Sim P w0 σ ν a w) {s : Nat} {o : OB} (hs : lookO σ.ob s = some o) {p : Nat × Nat} (hp : ν s = some p) : (¬ w0.S p.1 ∧ w0.D p.1) ∧ p.1 < w.heap.size := by
  rcases h.objs s o hs with ⟨g, _⟩ | ⟨b, base, c, T, xs, g1, g2, g3, _⟩
  · rw [g] at hp; cases hp
  · rw [g1] at hp; cases hp
    exact ⟨g2, (Array.getElem?_eq_some_iff.1 g3).1⟩

theorem args_into (h : Sim P w0 σ ν a w) {E : Env} {ob : List (Nat × OB)} {β : Bool} (hsub : ∀ s o, lookO ob s = some o → lookO σ.ob s = some o) (hd : ∀ b, b < w.heap.size → AvoidB σ.ob ν b → w0.D b → E.D b) (hk : ∀ w', Keep E.S E.w w' → Keep w0.S w0.w w') (hβ : β = true → ∀ b, E.D b) :
    ∀ {xs cs : List AV} {ys : List Value}, ArgsS σ ob β xs cs → VRs P w0 w σ.ob ν xs ys → VRs P E w ob ν cs ys
  | [], cs, ys, ha, hv => by
    simp only [ArgsS] at ha
    subst ha
    simp only [VRs] at hv ⊢
    exact hv
  | x :: xs, cs, ys, ha, hv => by
    simp only [ArgsS] at ha
    obtain ⟨c, cs', rfl, h1, h2⟩ := ha
    simp only [VRs] at hv ⊢
    obtain ⟨y, ys', rfl, h3, h4⟩ := hv
    refine ⟨y, ys', rfl, ?_, args_into h hsub hd hk hβ h2 h4⟩
    rcases h1 with rfl | ⟨hb, d, rfl, h1⟩
    · exact VR.into hsub hd hk h3
    · obtain ⟨bs, g1, g2⟩ := toD_from h (fun s o hs => (lookO_dropO hs).2) 4 h1 h3
      simp only [VR]
      refine ⟨bs, g1, fun b hbb => ⟨(g2 b hbb).1, fun t o ht p hp e => ?_, hβ hb b⟩⟩
      rcases (g2 b hbb).2 with g | ⟨s, o', base, q1, q2⟩
      · exact g t o (hsub t o ht) p hp e
      · obtain ⟨q3, q4⟩ := lookO_dropO q1
        exact h.inj t s o o' p _ (q3 _ (lookO_mem ht)) (hsub t o ht) q4 hp q2 e

/-- The contract of a function that is handed objects, and more that is known of the world behind. -/
def FnSR (P : Program) (R : World → World → Prop) (g : FuncId) (ob : List (Nat × OB)) (args : List AV) (ob' : List (Nat × OB)) (res : AV) : Prop :=
  FnOk P g ∧ ∀ (w : World) (ν : Loc) (Dt : Nat → Prop) (vs : List Value), (∀ b, w.heap.size ≤ b → Dt b) →
    Mem P ⟨w, fun b => b < w.heap.size ∧ AvoidB ob ν b, Dt, ν, 0⟩ w ob ν → VRs P ⟨w, fun b => b < w.heap.size ∧ AvoidB ob ν b, Dt, ν, 0⟩ w ob ν args vs →
    Calls P g vs.toArray w fun e w' => R w w' ∧ ∃ r ν', e = .returned r ∧ Keep (fun b => b < w.heap.size ∧ AvoidB ob ν b) w w' ∧ Rows w w' ∧
      Mem P ⟨w, fun b => b < w.heap.size ∧ AvoidB ob ν b, Dt, ν, 0⟩ w' ob' ν' ∧ VR P ⟨w, fun b => b < w.heap.size ∧ AvoidB ob ν b, Dt, ν, 0⟩ w' ob' ν' res r ∧
      ∀ s o o', lookO ob s = some o → lookO ob' s = some o' → ν' s = ν s ∧ (obCells o').length = (obCells o).length

/-- THE FRAME RULE: what a call was not handed stays as it is. -/
theorem callsR_sound {R : World → World → Prop} (h : Sim P w0 σ ν a w) {dst : Option Nat} (hd : ∀ t, dst = some t → t < σ.n) {g : FuncId} {as cas : List AV} {K : St → Prop} {ob ob' : List (Nat × OB)} {res : AV} {β : Bool}
    (hF : FnSR P R g ob cas ob' res) (hargs : ArgsS σ ob β as cas) (hpl : β = true → plainOs ob' ∧ res.plain) (hso : SubO σ.ob ob) (hlt : ltAll σ.n (newN ob ob') = true) (hap : apartO (dropO σ.ob ob) ob' res = true) (hK : K (σ.after ob ob' dst res))
    {vs : List Value} (hv : VRs P w0 w σ.ob ν as vs) :
    FnOk P g ∧ Calls P g vs.toArray w fun e w' => ∃ r, e = .returned r ∧ R w w' ∧ ∃ σ' ν', K σ' ∧ Sim P w0 σ' ν' (a.put dst r) w' := by
  refine ⟨hF.1, ?_⟩
  let S : Nat → Prop := fun b => b < w.heap.size ∧ AvoidB ob ν b
  let Dt : Nat → Prop := fun b => β = true ∨ w.heap.size ≤ b ∨ (AvoidB (dropO σ.ob ob) ν b ∧ w0.D b)
  let E : Env := ⟨w, S, Dt, ν, 0⟩
  have hsub : ∀ s o, lookO ob s = some o → lookO σ.ob s = some o := subO_look hso
  have hS : ∀ b, w0.S b → S b := fun b hb => ⟨Nat.lt_of_lt_of_le (h.lt b hb) h.below.size, fun s o hs x hx e => (h.own (hsub s o hs) hx).1.1 (e ▸ hb)⟩
  have hk : ∀ w', Keep E.S E.w w' → Keep w0.S w0.w w' := fun w' hw' => h.below.trans (hw'.sub hS)
  have hdt : ∀ b, b < w.heap.size → AvoidB σ.ob ν b → w0.D b → E.D b := fun b _ h1 h2 => .inr (.inr ⟨fun s o hs => h1 s o (lookO_dropO hs).2, h2⟩)
  have hmem : Mem P E w ob ν := by
    refine ⟨fun s o hs => ?_, fun s s' o o' x x' hne h1 h2 => h.inj s s' o o' x x' hne (hsub s o h1) (hsub s' o' h2)⟩
    rcases h.objs s o (hsub s o hs) with g | ⟨b, base, c, T, xs, g1, g2, g3, g4, g5, g6⟩
    · exact .inl g
    · refine .inr ⟨b, base, c, T, xs, g1, ⟨fun hb => hb.2 s o hs _ g1 rfl, .inr (.inr ⟨fun t o' ht p hp e => ?_, g2.2⟩)⟩, g3, g4, g5, VRs.into hsub hdt hk g6⟩
      obtain ⟨q1, q2⟩ := lookO_dropO ht
      exact h.inj s t o o' _ p (q1 _ (lookO_mem hs)) (hsub s o hs) q2 g1 hp e.symm
  have hvs : VRs P E w ob ν cas vs := args_into h hsub hdt hk (fun e b => .inl e) hargs hv
  refine Calls.mono (hF.2 w ν Dt vs (fun b hb => .inr (.inl hb)) hmem hvs) (fun e w' he => ?_)
  obtain ⟨hR, r, ν1, rfl, hkeep, hrows, hm1, hres, hst⟩ := he
  refine ⟨r, rfl, hR, ?_⟩
  let ob2 : List (Nat × OB) := ob' ++ killOs (newN ob ob') (dropO σ.ob ob)
  let ν2 : Loc := fun s => if (lookO ob' s).isSome then ν1 s else ν s
  obtain ⟨ap1, ap2, ap3⟩ := apartO_spec hap
  have hrest : ∀ t o, lookO (killOs (newN ob ob') (dropO σ.ob ob)) t = some o → (∀ p ∈ ob, p.1 ≠ t) ∧ lookO σ.ob t = some o ∧ lookO (dropO σ.ob ob) t = some o ∧ ∀ s ∈ newN ob ob', t ≠ s ∧ o.refs s = false := fun t o ht => by
    obtain ⟨h1, h2⟩ := lookO_killOs ht
    obtain ⟨h3, h4⟩ := lookO_dropO h2
    exact ⟨h3, h4, h2, h1⟩
  have hlook : ∀ t o, lookO ob2 t = some o → (lookO ob' t = some o ∧ ν2 t = ν1 t) ∨ (lookO (killOs (newN ob ob') (dropO σ.ob ob)) t = some o ∧ ν2 t = ν t) := fun t o ht => by
    rcases lookO_app ht with h1 | ⟨h1, h2⟩
    · exact .inl ⟨h1, by simp [ν2, h1]⟩
    · refine .inr ⟨h2, ?_⟩
      have : lookO ob' t = none := by
        cases hx : lookO ob' t with
        | none => rfl
        | some o' => exact absurd rfl (h1 _ (lookO_mem hx))
      simp [ν2, this]
  have hin : ∀ t o p, lookO ob' t = some o → ν1 t = some p → ¬ S p.1 ∧ w0.D p.1 := fun t o p ht hp => by
    rcases hm1.objs t o ht with ⟨g, _⟩ | ⟨b, base, c, T, xs, g1, g2, _⟩
    · rw [g] at hp; cases hp
    · rw [g1] at hp; cases hp
      refine ⟨g2.1, ?_⟩
      show w0.D b
      by_cases hb : w.heap.size ≤ b
      · exact (h.newB hb).2
      · have hna : ¬ AvoidB ob ν b := fun ha => g2.1 ⟨by omega, ha⟩
        unfold AvoidB at hna
        simp only [Classical.not_forall, ne_eq, Classical.not_not] at hna
        obtain ⟨s, o2, hs, x, hx, hxe⟩ := hna
        have hxe : x.1 = b := hxe
        subst hxe
        exact (h.own (hsub s o2 hs) hx).1.2
  have houtS : ∀ t o p, lookO (killOs (newN ob ob') (dropO σ.ob ob)) t = some o → ν t = some p → S p.1 := fun t o p ht hp => by
    obtain ⟨q1, q2, _⟩ := hrest t o ht
    exact ⟨(h.own q2 hp).2, fun s o2 hs x hx => h.inj s t o2 o x p (q1 _ (lookO_mem hs)) (hsub s o2 hs) q2 hx hp⟩
  have hav : ∀ b, b < w.heap.size → AvoidB σ.ob ν b → AvoidB ob2 ν2 b ∧ S b := fun b hb ha => by
    have hSb : S b := ⟨hb, fun s o hs => ha s o (hsub s o hs)⟩
    refine ⟨fun t o ht p hp e => ?_, hSb⟩
    rcases hlook t o ht with ⟨h1, h2⟩ | ⟨h1, h2⟩
    · rw [h2] at hp
      exact (hin t o p h1 hp).1 (e ▸ hSb)
    · rw [h2] at hp
      exact ha t o (hrest t o h1).2.1 p hp e
  have hl : Later σ.ob ν w ob2 ν2 w' := ⟨hkeep.size, fun b hb ha => ⟨(hav b hb ha).1, hkeep.block b (hav b hb ha).2⟩, hrows⟩
  have hfit : ∀ t, t ∉ newN ob ob' → Fits σ.ob ν ob2 ν2 t := fun t ht hsome => by
    obtain ⟨o', ho'⟩ := Option.isSome_iff_exists.1 hsome
    rcases hlook t o' ho' with ⟨h1, h2⟩ | ⟨h1, h2⟩
    · cases hx : lookO ob t with
      | none => exact absurd (newN_mem (lookO_mem h1) hx) ht
      | some o =>
        obtain ⟨e1, e2⟩ := hst t o o' hx h1
        exact ⟨by rw [hsub t o hx]; rfl, h2.trans e1, fun o1 o2 g1 g2 => by
          rw [hsub t o hx] at g1; rw [ho'] at g2; cases g1; cases g2; exact e2⟩
    · have q := (hrest t o' h1).2.1
      exact ⟨by rw [q]; rfl, h2, fun o1 o2 g1 g2 => by rw [q] at g1; rw [ho'] at g2; cases g1; cases g2; rfl⟩
  have hdat : ∀ x : AV, (β = true → x.plain) → ((∀ b, b < w'.heap.size → AvoidB ob' ν1 b → E.D b → AvoidB ob2 ν2 b ∧ w0.D b) ∨ x.plain) := fun x hx => by
    cases hβ : β with
    | true => exact .inr (hx hβ)
    | false =>
      refine .inl (fun b _ ha hD => ?_)
      rcases hD with e | e | ⟨e1, e2⟩
      · rw [hβ] at e; cases e
      · refine ⟨fun t o ht p hp eb => ?_, (h.newB e).2⟩
        rcases hlook t o ht with ⟨h1, h2⟩ | ⟨h1, h2⟩
        · rw [h2] at hp; exact ha t o h1 p hp eb
        · rw [h2] at hp
          have := (houtS t o p h1 hp).1
          omega
      · refine ⟨fun t o ht p hp eb => ?_, e2⟩
        rcases hlook t o ht with ⟨h1, h2⟩ | ⟨h1, h2⟩
        · rw [h2] at hp; exact ha t o h1 p hp eb
        · rw [h2] at hp
          exact e1 t o (hrest t o h1).2.2.1 p hp eb
  have hdats : ∀ xs : List AV, (β = true → AV.plains xs) → ((∀ b, b < w'.heap.size → AvoidB ob' ν1 b → E.D b → AvoidB ob2 ν2 b ∧ w0.D b) ∨ AV.plains xs) := fun xs hx => by
    rcases hdat (.ag xs) (fun e => by simpa only [AV.plain] using hx e) with h1 | h1
    · exact .inl h1
    · exact .inr (by simpa only [AV.plain] using h1)
  have href : ∀ s o, lookO ob2 s = some o → (lookO ob' s = some o ∧ ν2 s = ν1 s) ∨ (∀ p ∈ ob', AV.refsL s (obCells p.2) = false) ∧ res.refs s = false := fun s o hs => by
    rcases hlook s o hs with h1 | ⟨h1, _⟩
    · exact .inl h1
    · exact .inr (ap3 s o (lookO_mem (hrest s o h1).2.2.1))
  have hsim : Sim P w0 { n := σ.n, sl := killSs (newN ob ob') σ.sl, ob := ob2 } ν2 a w' := by
    refine ⟨⟨fun t o ht => ?_, fun t t' o o' x x' hne g1 g2 g3 g4 => ?_⟩, hk w' hkeep, h.rows.trans hrows, h.lt, h.fresh, h.le, fun t ht => ?_, h.defers, h.size, fun t => ?_⟩
    · rcases hlook t o ht with ⟨h1, h2⟩ | ⟨h1, h2⟩
      · rcases hm1.objs t o h1 with ⟨g1, g2⟩ | ⟨b, base, c, T, xs, g1, g2, g3, g4, g5, g6⟩
        · exact .inl ⟨h2.trans g1, g2⟩
        · refine .inr ⟨b, base, c, T, xs, h2.trans g1, ⟨fun hb => g2.1 (hS b hb), (hin t o _ h1 g1).2⟩, g3, g4, g5, ?_⟩
          refine VRs.back g6 (ap1 _ (lookO_mem h1)) (hdats _ (fun e => plain_cells (plainOs_mem (hpl e).1 (lookO_mem h1)))) (fun s hs o2 ho2 => ?_)
          rcases href s o2 ho2 with e | ⟨e, _⟩
          · exact e
          · rw [e _ (lookO_mem h1)] at hs; cases hs
      · obtain ⟨q1, q2, q3, q4⟩ := hrest t o h1
        exact (h.objs t o q2).later (σ' := ⟨0, [], ob2⟩) hl h2 (fun s' hs' => hfit s' (fun e => by
          rw [refs_cells (lookO_ne q2) (q4 s' e).2] at hs'; cases hs')) (fun b base hb => hkeep.block b (houtS t o _ h1 hb))
    · rcases hlook t o g1 with ⟨h1, h2⟩ | ⟨h1, h2⟩
      · rcases hlook t' o' g2 with ⟨h3, h4⟩ | ⟨h3, h4⟩
        · exact hm1.inj t t' o o' x x' hne h1 h3 (h2 ▸ g3) (h4 ▸ g4)
        · rw [h2] at g3; rw [h4] at g4
          exact fun e => (hin t o x h1 g3).1 (e ▸ houtS t' o' x' h3 g4)
      · rcases hlook t' o' g2 with ⟨h3, h4⟩ | ⟨h3, h4⟩
        · rw [h2] at g3; rw [h4] at g4
          exact fun e => (hin t' o' x' h3 g4).1 (e ▸ houtS t o x h1 g3)
        · rw [h2] at g3; rw [h4] at g4
          exact h.inj t t' o o' x x' hne (hrest t o h1).2.1 (hrest t' o' h3).2.1 g3 g4
    · show ν2 t = w0.ν t
      have ht' : w0.n ≤ t := ht
      have hle := h.le
      have hnn : t ∉ newN ob ob' := fun e => by have := ltAll_spec hlt e; omega
      cases hx : lookO ob' t with
      | none =>
        have : ν2 t = ν t := by simp [ν2, hx]
        exact this.trans (h.stab t ht)
      | some o' =>
        have e1 : ν2 t = ν1 t := by simp [ν2, hx]
        cases hy : lookO ob t with
        | none => exact absurd (newN_mem (lookO_mem hx) hy) hnn
        | some o => exact (e1.trans (hst t o o' hy hx).1).trans (h.stab t ht)
    · rcases look_killSs (t := t) (nn := newN ob ob') (sl := σ.sl) with e | ⟨e1, e2⟩
      · show VR P w0 w' ob2 ν2 (look (killSs (newN ob ob') σ.sl) t) _
        rw [e]; simp only [VR]
      · show VR P w0 w' ob2 ν2 (look (killSs (newN ob ob') σ.sl) t) _
        rw [e1]
        exact VR.later hl (h.slots t) (fun s hs => hfit s (fun e => by rw [e2 s e] at hs; cases hs))
  have hr2 : VR P w0 w' ob2 ν2 res r := VR.back hres ap2 (hdat res (fun e => (hpl e).2)) (fun s hs o2 ho2 => by
    rcases href s o2 ho2 with e | ⟨_, e⟩
    · exact e
    · rw [e] at hs; cases hs)
  exact ⟨_, ν2, hK, hsim.puto hd hr2⟩

theorem calls_sound (h : Sim P w0 σ ν a w) {dst : Option Nat} (hd : ∀ t, dst = some t → t < σ.n) {g : FuncId} {as : List AV} {K : St → Prop} (hc : CallS P σ dst g as K) {vs : List Value} (hv : VRs P w0 w σ.ob ν as vs) :
    FnOk P g ∧ Calls P g vs.toArray w fun e w' => ∃ r, e = .returned r ∧ ∃ σ' ν', K σ' ∧ Sim P w0 σ' ν' (a.put dst r) w' := by
  obtain ⟨ob, cas, ob', res, β, hF, hargs, hpl, hso, hlt, hap, hK⟩ := hc
  have hF' : FnSR P (fun _ _ => True) g ob cas ob' res := ⟨hF.1, fun w ν Dt vs h1 h2 h3 => (hF.2 w ν Dt vs h1 h2 h3).mono (fun e w' he => ⟨trivial, he⟩)⟩
  obtain ⟨q1, q2⟩ := callsR_sound h hd hF' hargs hpl hso hlt hap hK hv
  exact ⟨q1, q2.mono (fun e w' he => by
    obtain ⟨r, e1, _, e2⟩ := he
    exact ⟨r, e1, e2⟩)⟩

/-- A function that only reads, as one that brings up objects. -/
theorem fnsr_of_fnd {g : FuncId} {ds : List D} {r : D} {res : AV} {os : List (Nat × OB)} (h : FnD P g ds r) (ho : Opn r res os) : FnSR P (fun w w' => Below w.heap.size w w') g [] (ds.map AV.d) os res := by
  refine ⟨h.1, fun w ν Dt vs hDt hm hv => ?_⟩
  have ha : RCs P w (ds.map CV.d) vs := by
    have : ∀ {ds : List D} {vs : List Value}, VRs P ⟨w, fun b => b < w.heap.size ∧ AvoidB [] ν b, Dt, ν, 0⟩ w [] ν (ds.map AV.d) vs → RCs P w (ds.map CV.d) vs := fun {ds} => by
      induction ds with
      | nil => intro vs h; simpa only [List.map_nil, VRs, RCs] using h
      | cons d ds ih =>
        intro vs h
        simp only [List.map_cons, VRs, VR] at h
        obtain ⟨y, ys, rfl, ⟨bs, h1, h2⟩, h3⟩ := h
        simp only [List.map_cons, RCs]
        exact ⟨y, ys, rfl, ⟨bs, h1, fun b hb => (h2 b hb).1⟩, ih h3⟩
    exact this hv
  refine (h.2 w vs ha).mono fun e w' hh => ?_
  obtain ⟨x, bs, he, hb, hr, hn, hlo⟩ := hh
  obtain ⟨ν', k1, k2, k3, k4⟩ := Opn.sound (P := P) (w0 := ⟨w, fun b => b < w.heap.size ∧ AvoidB [] ν b, Dt, ν, 0⟩) ho hr hn (fun b hb' => ⟨fun hs => by have := hlo b hb'; have := hs.1; omega, hDt b (hlo b hb')⟩)
  exact ⟨hb, x, ν', he, keep_below hb (fun k hk => hk.1), rows_below hb, k3, k4, fun s o o' e1 => by simp [lookO] at e1⟩

theorem argsS_data {ob : List (Nat × OB)} : ∀ {xs : List AV} {ds : List D}, mapD (toD (dropO σ.ob ob) 4) xs = some ds → ArgsS σ ob true xs (ds.map AV.d)
  | [], ds, h => by
    simp only [mapD, Option.some.injEq] at h
    subst h
    simp only [List.map_nil, ArgsS]
  | x :: xs, ds, h => by
    simp only [mapD] at h
    split at h
    · rename_i d hd
      simp only [Option.map_eq_some_iff] at h
      obtain ⟨ds', h1, rfl⟩ := h
      simp only [List.map_cons, ArgsS]
      exact ⟨_, _, rfl, .inr ⟨rfl, d, rfl, hd⟩, argsS_data h1⟩
    · cases h

/-- Data handed over reads as such. -/
theorem rcs_data : ∀ {ds : List D} {vs : List Value} {bs : List Nat}, RDs w false ds vs bs → (∀ b ∈ bs, b < w.heap.size) → RCs P w (ds.map CV.d) vs
  | [], vs, bs, h, _ => by
    simp only [RDs] at h
    simp only [List.map_nil, RCs]
    exact h.1
  | d :: ds, vs, bs, h, hb => by
    simp only [RDs] at h
    obtain ⟨x, xs', b1, b2, rfl, rfl, h1, h2⟩ := h
    simp only [List.map_cons, RCs]
    exact ⟨x, xs', rfl, ⟨b1, h1, fun b hbb => hb b (by simp [hbb])⟩, rcs_data h2 (fun b hbb => hb b (by simp [hbb]))⟩

theorem data_rcs : ∀ {ds : List D} {vs : List Value}, RCs P w (ds.map CV.d) vs → ∃ bs, RDs w false ds vs bs ∧ ∀ b ∈ bs, b < w.heap.size
  | [], vs, h => by
    simp only [List.map_nil, RCs] at h
    exact ⟨[], by simp [RDs, h], by simp⟩
  | d :: ds, vs, h => by
    simp only [List.map_cons, RCs] at h
    obtain ⟨v, vs', rfl, ⟨b1, h1, h2⟩, h3⟩ := h
    obtain ⟨b2, h4, h5⟩ := data_rcs h3
    refine ⟨b1 ++ b2, ?_, fun b hb => ?_⟩
    · simp only [RDs]
      exact ⟨v, vs', b1, b2, rfl, rfl, h1, h4⟩
    · rcases List.mem_append.1 hb with hb | hb
      · exact h2 b hb
      · exact h5 b hb

theorem arg_sound (h : Sim P w0 σ ν a w) {x : AV} {c : CV} {y : Value} (ha : ArgIs P σ x c) (hv : VR P w0 w σ.ob ν x y) : RC P w c y := by
  unfold ArgIs at ha
  split at ha
  · obtain ⟨rfl, rfl⟩ := ha
    simp only [VR] at hv
    exact hv.later h.below h.lt
  · rename_i g first cap dom hh
    obtain ⟨hok, fs, cs, h1, h2, h3⟩ := ha
    simp only [VR] at hv
    obtain ⟨xs, ys, rfl, h4, h5⟩ := hv
    obtain ⟨b1, r1⟩ := mapD_sound h 4 h1 h4
    obtain ⟨b2, r2⟩ := mapD_sound h 4 h2 h5
    refine ⟨g, xs.toArray, ys.toArray, rfl, hok, fun w' ds vs bs hb hd hr hlt => ?_⟩
    have k1 := r1.keep (fun b hbb => hb.block b (r1.lt b hbb))
    have k2 := r2.keep (fun b hbb => hb.block b (r2.lt b hbb))
    have k := (k1.append hr).append k2
    have := (h3 ds hd).2 w' (xs ++ vs ++ ys) (rcs_data k k.lt)
    simpa using this
  · rename_i d _ _
    obtain ⟨bs, hb⟩ := toD_sound h 4 ha hv
    exact ⟨bs, hb, hb.lt⟩
  · exact ha.elim

theorem args_sound (h : Sim P w0 σ ν a w) : ∀ {xs : List AV} {cs : List CV} {ys : List Value}, ArgsAre P σ xs cs → VRs P w0 w σ.ob ν xs ys → RCs P w cs ys
  | [], cs, ys, ha, hv => by
    simp only [ArgsAre] at ha
    subst ha
    simp only [VRs] at hv
    exact hv
  | x :: xs, cs, ys, ha, hv => by
    simp only [ArgsAre] at ha
    obtain ⟨c, cs', rfl, h1, h2⟩ := ha
    simp only [VRs] at hv
    obtain ⟨y, ys', rfl, h3, h4⟩ := hv
    simp only [RCs]
    exact ⟨y, ys', rfl, arg_sound h h1 h3, args_sound h h2 h4⟩

theorem exec_value {ρ : Operand → Value} {o : Oper} {f : Operand} {args : Array Operand} {ts : Array TypeId} (ho : o.op = .call ⟨.value f, args, ts⟩) {g : FuncId} {first cap : Array Value} (hf : ρ f = .func (.func g) first cap) (hg : FnOk P g) :
    (execOp ρ o).run P w = .ok (.enter g (first ++ args.map ρ ++ cap)) w := by
  obtain ⟨fn, h1, h2, h3⟩ := hg
  have h2' : fn.body ≠ none := by
    cases hb : fn.body <;> simp_all
  have h3' : fn.name ≠ "runtime.NumGoroutine" := by simpa using h3
  simp [execOp, ho, resolve, Deferred.ofValue, hf, invoke, callFunc, h1, h2', h3']

/-- A CALL, BY A CONTRACT. -/
theorem call_sound (h : Sim P w0 σ ν a w) {o : Oper} {f : Operand} {args : Array Operand} {ts : Array TypeId} (ho : o.op = .call ⟨.value f, args, ts⟩) (hd : ∀ t, o.dst = some t → t < σ.n) {q : Bool} {K : St → Prop} (hc : CallOk P q σ o.dst (σ.ev f) (args.toList.map σ.ev) K) :
    ∃ g vs, (execOp a.eval o).run P w = .ok (.enter g vs) w ∧ Calls P g vs w fun e w' => ∃ r, e = .returned r ∧ (q = true → Below w.heap.size w w') ∧ ∃ σ' ν', K σ' ∧ Sim P w0 σ' ν' (a.put o.dst r) w' := by
  have hf := h.ev f
  have hargs := VRs.evs h args.toList
  unfold CallOk at hc
  split at hc
  · rename_i g first cap hfe
    rw [hfe] at hf
    simp only [VR] at hf
    obtain ⟨xs, ys, hf, h4, h5⟩ := hf
    have e : (xs ++ args.toList.map a.eval ++ ys).toArray = xs.toArray ++ args.map a.eval ++ ys.toArray := by
      apply Array.ext'
      simp
    have hall := (h4.append hargs).append h5
    rcases hc with ⟨cvs, r, h1, h2, h3⟩ | ⟨hq, hcs⟩ | ⟨ds, r, res, os, n1, n2, n3, n4, n5, n6⟩
    · refine ⟨g, _, exec_value ho hf h2.1, ?_⟩
      have h6 := args_sound h h1 hall
      have h7 := h2.2 w _ h6
      rw [e] at h7
      refine Calls.mono h7 (fun e w'' he => ?_)
      obtain ⟨v, bs, rfl, q1, q2, q3, q4⟩ := he
      obtain ⟨ν', hh⟩ := h.adopt q1 hd q2 q3 q4
      exact ⟨v, rfl, fun _ => q1, _, ν', h3, hh⟩
    · obtain ⟨h1, h2⟩ := calls_sound h hd hcs hall
      refine ⟨g, _, exec_value ho hf h1, ?_⟩
      rw [e] at h2
      refine Calls.mono h2 (fun e w'' he => ?_)
      obtain ⟨v, rfl, σ', ν', q1, q2⟩ := he
      exact ⟨v, rfl, (fun e => by rw [hq] at e; cases e), σ', ν', q1, q2⟩
    · have hof := Opn.facts n3
      obtain ⟨h1, h2⟩ := callsR_sound h hd (fnsr_of_fnd n1 n3) (argsS_data n2) (fun _ => ⟨hof.2.2.2.1, hof.1⟩) trivial n4 n5 n6 hall
      refine ⟨g, _, exec_value ho hf h1, ?_⟩
      rw [e] at h2
      refine Calls.mono h2 (fun e w'' he => ?_)
      obtain ⟨v, rfl, hR, σ', ν', q1, q2⟩ := he
      exact ⟨v, rfl, fun _ => hR, σ', ν', q1, q2⟩
  · rename_i dom hh hfe
    obtain ⟨ds, h1, h2, h3⟩ := hc
    rw [hfe] at hf
    simp only [VR] at hf
    obtain ⟨g, first, cap, hf, hg, hcalls⟩ := hf
    refine ⟨g, _, exec_value ho hf hg, ?_⟩
    obtain ⟨bs, h4⟩ := mapD_sound h 4 h1 hargs
    have h7 := hcalls w ds _ bs h.below h2 h4 h4.lt
    have e : (args.toList.map a.eval).toArray = args.map a.eval := by
      apply Array.ext'
      simp
    rw [e] at h7
    refine Calls.mono h7 (fun e w'' he => ?_)
    obtain ⟨v, bs, rfl, q1, q2, q3, q4⟩ := he
    obtain ⟨ν', hh⟩ := h.adopt q1 hd q2 q3 q4
    exact ⟨v, rfl, fun _ => q1, _, ν', h3, hh⟩
  · exact hc.elim
end

end Go.Proofs.Ytdinkfmkhdnbpaa
