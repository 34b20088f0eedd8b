/- A contract over objects holds under other names; what a call gives back is taken over whole, each list under a name of its own. -/
import Derived.Test.YtdinkfmkhdnbpaaFlow27
import Derived.WalkKit
import Derived.WalkSpells
namespace Go.Proofs.Ytdinkfmkhdnbpaa
open Go.RowKit
set_option linter.unusedVariables false
set_option linter.unusedSimpArgs false

section
variable {P : Program} {w0 : Env} {w w' : World} {σ : St} {ν : Loc} {a : Act} {m n : Nat}

mutual
theorem AV.sw_sw : ∀ x : AV, (x.sw m n).sw m n = x
  | .bp s o => by simp only [AV.sw, swp_swp]
  | .bs s off k l => by simp only [AV.sw, swp_swp]
  | .ag cs => by simp only [AV.sw, AV.swL_swL cs]
  | .tu cs => by simp only [AV.sw, AV.swL_swL cs]
  | .fc g x y => by simp only [AV.sw, AV.swL_swL x, AV.swL_swL y]
  | .d x => by simp only [AV.sw]
  | .fn dom h => by simp only [AV.sw]
  | .un => by simp only [AV.sw]
theorem AV.swL_swL : ∀ xs : List AV, AV.swL m n (AV.swL m n xs) = xs
  | [] => by simp only [AV.swL]
  | x :: r => by simp only [AV.swL, AV.sw_sw x, AV.swL_swL r]
end

theorem OB.sw_sw (o : OB) : (o.sw m n).sw m n = o := by
  cases o <;> simp only [OB.sw, AV.swL_swL]

theorem swO_swO : ∀ ob : List (Nat × OB), swO m n (swO m n ob) = ob
  | [] => rfl
  | (s, o) :: r => by simp only [swO, swp_swp, OB.sw_sw, swO_swO r]

theorem avoid_sw_iff {ob : List (Nat × OB)} {b : Nat} : AvoidB (swO m n ob) ν b ↔ AvoidB ob (fun s => ν (swp m n s)) b := by
  constructor
  · intro h s o hs x hx
    exact h _ _ (lookO_sw_of hs) x hx
  · intro h s o hs x hx
    obtain ⟨o1, h1, _⟩ := lookO_sw hs
    exact h _ o1 h1 x (by simpa only [swp_swp] using hx)

/-- THE CONTRACT UNDER OTHER NAMES. -/
theorem FnS.sw {g : FuncId} {ob ob' : List (Nat × OB)} {args : List AV} {res : AV} (m n : Nat) (h : FnS P g ob args ob' res) : FnS P g (swO m n ob) (AV.swL m n args) (swO m n ob') (res.sw m n) := by
  refine ⟨h.1, fun w ν Dt vs hDt hm hv => ?_⟩
  have hS : (fun b => b < w.heap.size ∧ AvoidB (swO m n ob) ν b) = (fun b => b < w.heap.size ∧ AvoidB ob (fun s => ν (swp m n s)) b) := by
    funext b
    rw [avoid_sw_iff]
  have hm1 := hm.sw (m := m) (n := n)
  rw [swO_swO] at hm1
  have hv1 := VRs.sw (m := m) (n := n) hv
  rw [swO_swO, AV.swL_swL] at hv1
  rw [hS] at hm1 hv1
  have hm2 : Mem P ⟨w, fun b => b < w.heap.size ∧ AvoidB ob (fun s => ν (swp m n s)) b, Dt, fun s => ν (swp m n s), 0⟩ w ob (fun s => ν (swp m n s)) := hm1.env (fun _ h => h) (fun _ h => h) (fun _ h => h)
  have hv2 : VRs P ⟨w, fun b => b < w.heap.size ∧ AvoidB ob (fun s => ν (swp m n s)) b, Dt, fun s => ν (swp m n s), 0⟩ w ob (fun s => ν (swp m n s)) args vs := VRs.into (w0 := ⟨w, fun b => b < w.heap.size ∧ AvoidB ob (fun s => ν (swp m n s)) b, Dt, ν, 0⟩) (E := ⟨w, fun b => b < w.heap.size ∧ AvoidB ob (fun s => ν (swp m n s)) b, Dt, fun s => ν (swp m n s), 0⟩) (fun _ _ h => h) (fun b _ _ h => h) (fun _ h => h) hv1
  refine (h.2 w (fun s => ν (swp m n s)) Dt vs hDt hm2 hv2).mono fun e w' hh => ?_
  obtain ⟨r, ν', he, hk, hr, hm3, hv3, hf⟩ := hh
  rw [hS]
  refine ⟨r, fun s => ν' (swp m n s), he, hk, hr, ?_, ?_, fun s o o' e1 e2 => ?_⟩
  · exact (hm3.sw (m := m) (n := n)).env (fun _ h => h) (fun _ h => h) (fun _ h => h)
  · exact VR.into (w0 := ⟨w, fun b => b < w.heap.size ∧ AvoidB ob (fun s => ν (swp m n s)) b, Dt, fun s => ν (swp m n s), 0⟩) (E := ⟨w, fun b => b < w.heap.size ∧ AvoidB ob (fun s => ν (swp m n s)) b, Dt, ν, 0⟩) (fun _ _ h => h) (fun b _ _ h => h) (fun _ h => h) (VR.sw (m := m) (n := n) hv3)
  · obtain ⟨o1, g1, rfl⟩ := lookO_sw e1
    obtain ⟨o2, g2, rfl⟩ := lookO_sw e2
    obtain ⟨q1, q2⟩ := hf _ o1 o2 g1 g2
    refine ⟨?_, by rw [cells_sw, cells_sw, swL_length, swL_length, q2]⟩
    show ν' (swp m n s) = ν s
    rw [q1]
    show ν (swp m n (swp m n s)) = ν s
    rw [swp_swp]

/-- A call of a function that only reads; what it gives back is taken over, each list under a name of its own. -/
theorem call_new {K : St → Prop} {q : Bool} {dst : Option Nat} {g : FuncId} {first cap args : List AV} {ds : List D} {r : D} {res : AV} {os : List (Nat × OB)} (hc : FnD P g ds r) (ho : Opn r res os) (ha : mapD (toD σ.ob 4) (first ++ args ++ cap) = some ds) (hlt : ltAll σ.n (newN [] os) = true) (hap : apartO σ.ob os res = true)
    (hk : K (σ.after [] os dst res)) : CallOk P q σ dst (.fc g first cap) args K :=
  .inr (.inr ⟨ds, r, res, os, hc, ha, ho, hlt, hap, hk⟩)

/-- A call, its arguments turned to what the contract names. -/
theorem call_fn2 {K : St → Prop} {q : Bool} {dst : Option Nat} {g : FuncId} {first cap args : List AV} {ds ds' : List D} {r : D} (hc : FnD P g ds r) (ha : mapD (toD σ.ob 4) (first ++ args ++ cap) = some ds') (he : ds' = ds) (hk : K (σ.adopt dst r)) : CallOk P q σ dst (.fc g first cap) args K := by
  subst he
  exact call_fn hc ha hk

theorem opn_v {x : Value} : Opn (.v x) (.d (.v x)) [] := by simp [Opn]

theorem opn_tu {ds : List D} {as : List AV} {os : List (Nat × OB)} (h : OpnL ds as os) : Opn (.tu ds) (.tu as) os := by
  simp only [Opn]
  exact .inr ⟨as, rfl, h⟩

theorem opn_ag {ds : List D} {as : List AV} {os : List (Nat × OB)} (h : OpnL ds as os) : Opn (.ag ds) (.ag as) os := by
  simp only [Opn]
  exact .inr ⟨as, rfl, h⟩

theorem opn_ls (s : Nat) {k n : Nat} {cs : List D} (h : plains cs) : Opn (.ls k n cs) (.bs s 0 n k) [(s, .ds cs)] := by
  simp only [Opn]
  exact ⟨s, rfl, .inl ⟨h, rfl⟩⟩

theorem opn_rows (s : Nat) {k n : Nat} {cs : List D} {as : List AV} {os : List (Nat × OB)} (h : OpnL cs as os) (hd : ∀ p ∈ os, p.1 ≠ s) : Opn (.ls k n cs) (.bs s 0 n k) ((s, .av as) :: os) := by
  simp only [Opn]
  exact ⟨s, rfl, .inr ⟨as, os, rfl, h, hd⟩⟩

theorem opnL_nil : OpnL [] [] [] := by simp [OpnL]

theorem opnL_v {x : Value} {ds : List D} {as : List AV} {os : List (Nat × OB)} (h : OpnL ds as os) : OpnL (.v x :: ds) (.d (.v x) :: as) os := by
  simp only [OpnL]
  exact ⟨_, as, [], os, rfl, rfl, opn_v, h, by simp⟩

def apartN (o1 o2 : List (Nat × OB)) : Bool := o1.all fun p => o2.all fun q => p.1 != q.1

theorem opnL_cons {d : D} {a : AV} {ds : List D} {as : List AV} {o1 o2 : List (Nat × OB)} (h1 : Opn d a o1) (h2 : OpnL ds as o2) (hd : apartN o1 o2 = true) : OpnL (d :: ds) (a :: as) (o1 ++ o2) := by
  simp only [OpnL]
  refine ⟨a, as, o1, o2, rfl, rfl, h1, h2, fun p hp q hq => ?_⟩
  simp only [apartN, List.all_eq_true, bne_iff_ne] at hd
  exact hd p hp q hq

theorem ress_tmp {t : Nat} {ob ob' : List (Nat × OB)} {res : AV} (hl : lensO ob ob') (hs : SubO σ.ob ob') (hr : look σ.sl t = res) : ResS P [.tmp t] σ ob ob' res := by
  refine ⟨by simp, hl, [], rfl, hs, ?_⟩
  simp only [resAVs, resAV, joinR, swsA]
  exact ⟨⟨trivial, trivial⟩, hr⟩

/-- What comes back, one after another. -/
def resStep (P : Program) (σ : St) : List ResultVar → (List AV → Prop) → Prop
  | [], K => K []
  | .tmp t :: r, K => resStep P σ r (fun xs => K (look σ.sl t :: xs))
  | .cell t ty :: r, K => match pureOp P σ (.load ty (.tmp t)) with
    | some (p, x) => p ∧ resStep P σ r (fun xs => K (x :: xs))
    | none => False

def ResK (P : Program) (σ : St) (r : List ResultVar) (K : List AV → Prop) : Option (Prop × AV) → Prop
  | some (p, x) => p ∧ resStep P σ r (fun xs => K (x :: xs))
  | none => False

theorem rs_n {K : List AV → Prop} : resStep P σ [] K = K [] := rfl

theorem rs_t {K : List AV → Prop} {t : Nat} {r : List ResultVar} : resStep P σ (.tmp t :: r) K = resStep P σ r (fun xs => K (look σ.sl t :: xs)) := rfl

theorem rs_c {K : List AV → Prop} {t : Nat} {ty : TypeId} {r : List ResultVar} : resStep P σ (.cell t ty :: r) K = ResK P σ r K (pureOp P σ (.load ty (.tmp t))) := by
  rw [resStep]
  unfold ResK
  rfl

theorem rs_k {K : List AV → Prop} {p : Prop} {x : AV} {r : List ResultVar} : ResK P σ r K (some (p, x)) = (p ∧ resStep P σ r (fun xs => K (x :: xs))) := rfl

theorem resStep_sound : ∀ {rs : List ResultVar} {K : List AV → Prop}, resStep P σ rs K → ∃ p xs, resAVs P σ rs = some (p, xs) ∧ p ∧ K xs
  | [], K, h => ⟨True, [], rfl, trivial, h⟩
  | .tmp t :: r, K, h => by
    obtain ⟨p, xs, h1, h2, h3⟩ := resStep_sound (rs := r) h
    refine ⟨True ∧ p, _ :: xs, ?_, ⟨trivial, h2⟩, h3⟩
    simp only [resAVs, resAV, h1]
  | .cell t ty :: r, K, h => by
    rw [resStep] at h
    cases hx : pureOp P σ (.load ty (.tmp t)) with
    | none => rw [hx] at h; exact h.elim
    | some x =>
      obtain ⟨q, x⟩ := x
      rw [hx] at h
      obtain ⟨p, xs, h1, h2, h3⟩ := resStep_sound (rs := r) h.2
      refine ⟨q ∧ p, x :: xs, ?_, ⟨h.1, h2⟩, h3⟩
      simp only [resAVs, resAV, hx, h1]

theorem res_any {rs : List ResultVar} {res : D} (hl : rs.length ≤ 3) (h : resStep P σ rs (fun xs => ResAt σ (joinR xs) res)) : ResOk P rs σ res := by
  obtain ⟨p, xs, h1, h2, q, ss, h3, h4, h5⟩ := resStep_sound h
  refine ⟨hl, ?_⟩
  rw [h1]
  exact ⟨h2, q, ss, h3, h4, h5⟩

theorem jr_1 {x : AV} : joinR [x] = x := rfl

theorem jr_2 {x y : AV} : joinR [x, y] = .tu [x, y] := rfl

theorem jr_3 {x y z : AV} : joinR [x, y, z] = .tu [x, y, z] := rfl

theorem ev_res2 {t : Nat} {ty : TypeId} {u : ResultVar} {res : D} (h : resStep P σ [.cell t ty, u] (fun xs => ResAt σ (joinR xs) res)) : ResOk P [.cell t ty, u] σ res := res_any (by simp) h

theorem ev_res2b {t : Nat} {ty : TypeId} {u : Nat} {res : D} (h : resStep P σ [.tmp u, .cell t ty] (fun xs => ResAt σ (joinR xs) res)) : ResOk P [.tmp u, .cell t ty] σ res := res_any (by simp) h

theorem ev_res3 {t : Nat} {ty : TypeId} {u v : ResultVar} {res : D} (h : resStep P σ [.cell t ty, u, v] (fun xs => ResAt σ (joinR xs) res)) : ResOk P [.cell t ty, u, v] σ res := res_any (by simp) h

theorem ev_res3b {t : Nat} {ty : TypeId} {u : Nat} {v : ResultVar} {res : D} (h : resStep P σ [.tmp u, .cell t ty, v] (fun xs => ResAt σ (joinR xs) res)) : ResOk P [.tmp u, .cell t ty, v] σ res := res_any (by simp) h

/-- The first says no less than the second. -/
def leD (d e : D) : Prop := ∀ w o y bs, RD w o d y bs → RD w o e y bs

def lesD (ds es : List D) : Prop := ∀ w o ys bs, RDs w o ds ys bs → RDs w o es ys bs

theorem leD_refl (d : D) : leD d d := fun _ _ _ _ h => h

theorem lesD_refl (d : List D) : lesD d d := fun _ _ _ _ h => h

theorem lesD_nil : lesD [] [] := lesD_refl _

theorem lesD_cons {d e : D} {ds es : List D} (h : leD d e) (h' : lesD ds es) : lesD (d :: ds) (e :: es) := fun w o ys bs hr => by
  simp only [RDs] at hr ⊢
  obtain ⟨x, xs', b1, b2, e1, e2, h1, h2⟩ := hr
  exact ⟨x, xs', b1, b2, e1, e2, h w o x b1 h1, h' w o xs' b2 h2⟩

theorem leD_tu {ds es : List D} (h : lesD ds es) : leD (.tu ds) (.tu es) := fun w o y bs hr => by
  simp only [RD] at hr ⊢
  obtain ⟨xs, e1, h1⟩ := hr
  exact ⟨xs, e1, h w o xs bs h1⟩

theorem leD_ag {ds es : List D} (h : lesD ds es) : leD (.ag ds) (.ag es) := fun w o y bs hr => by
  simp only [RD] at hr ⊢
  obtain ⟨xs, e1, e2, h1⟩ := hr
  exact ⟨xs, e1, e2, h w o xs bs h1⟩

theorem leD_nil {k : Nat} : leD (.v (.slice none 0 0)) (.ls k 0 []) := fun w o y bs hr => by
  simp only [RD] at hr ⊢
  obtain ⟨rfl, rfl⟩ := hr
  exact .inl ⟨none, 0, by trivial, fun _ => ⟨by trivial, by trivial⟩, by trivial, by trivial, by trivial⟩

theorem fn_le {f : FuncId} {args : List CV} {d e : D} (h : Fn P f args d) (hl : leD d e) : Fn P f args e :=
  ⟨h.1, fun w vs ha => (h.2 w vs ha).mono (fun x w' hx => by
    obtain ⟨r, bs, e1, e2, e3, e4⟩ := hx
    exact ⟨r, bs, e1, e2, hl _ _ _ _ e3, e4⟩)⟩

theorem fnd_le {f : FuncId} {args : List D} {d e : D} (h : FnD P f args d) (hl : leD d e) : FnD P f args e := fn_le h hl
end

end Go.Proofs.Ytdinkfmkhdnbpaa
