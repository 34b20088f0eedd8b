/- Steps of a walk through the view. -/
import Derived.Test.YtdinkfmkhdnbpaaFlow25
import Derived.WalkKit
import Derived.WalkSpells
namespace Go.Proofs.Ytdinkfmkhdnbpaa
open Go.RowKit
set_option linter.unusedVariables false
set_option linter.unusedSimpArgs false

section
variable {P : Program} {q : Bool} {σ : St} {K : St → Prop} {dst : Option Nat}

theorem args_of_data : ∀ {xs : List AV} {ds : List D}, mapD (toD σ.ob 4) xs = some ds → ArgsAre P σ xs (ds.map CV.d)
  | [], ds, h => by
    simp only [mapD, Option.some.injEq] at h
    subst h
    simp [ArgsAre]
  | x :: xs, ds, h => by
    simp only [mapD] at h
    split at h
    · rename_i d hd
      simp only [Option.map_eq_some_iff] at h
      obtain ⟨ds', h1, rfl⟩ := h
      simp only [ArgsAre, List.map_cons]
      refine ⟨CV.d d, ds'.map CV.d, rfl, ?_, args_of_data h1⟩
      unfold ArgIs
      cases x <;> exact hd
    · cases h

/-- A call of a function whose contract is known. -/
theorem call_fn {g : FuncId} {first cap args : List AV} {ds : List D} {r : D} (hc : FnD P g ds r) (ha : mapD (toD σ.ob 4) (first ++ args ++ cap) = some ds) (hk : K (σ.adopt dst r)) : CallOk P q σ dst (.fc g first cap) args K :=
  .inl ⟨ds.map CV.d, r, args_of_data ha, hc, hk⟩

/-- A call whose arguments are not all data. -/
theorem call_cv {g : FuncId} {first cap args : List AV} {cvs : List CV} {r : D} (hc : Fn P g cvs r) (ha : ArgsAre P σ (first ++ args ++ cap) cvs) (hk : K (σ.adopt dst r)) : CallOk P q σ dst (.fc g first cap) args K :=
  .inl ⟨cvs, r, ha, hc, hk⟩

/-- A call of a function that was handed over. -/
theorem call_known {dom : List D → Prop} {h : List D → D} {args : List AV} {ds : List D} (ha : mapD (toD σ.ob 4) args = some ds) (hd : dom ds) (hk : K (σ.adopt dst (h ds))) : CallOk P q σ dst (.fn dom h) args K :=
  ⟨ds, ha, hd, hk⟩

theorem kx_n {Q : Exit → St → Prop} : Kx K Q .normal σ = K σ := rfl

/-- The rest of a plan, not looked into yet. -/
def RunPK (P : Program) (ops : List Oper) (T : List Nat) (t : PT) (K : St → Prop) (σ : St) : Prop := RunP P ops T t σ K

def RunAtP (P : Program) (ops : List Oper) (T : List Nat) (o : Option Oper) (t : PT) (σ : St) (K : St → Prop) : Prop := match o with
  | some o => Run P true ops [o] σ (RunPK P ops T t K)
  | none => False

theorem rpk {ops : List Oper} {T : List Nat} {t : PT} : RunPK P ops T t K σ = RunP P ops T t σ K := rfl

theorem rp_fin {ops : List Oper} {T : List Nat} : RunP P ops T .fin σ K = RunI P ops (listT T) σ K := rfl

theorem rp_at {ops : List Oper} {T : List Nat} {t : PT} (x : Option Oper) : (match x with | some o => Step P true ops o σ (fun σ' => RunP P ops T t σ' K) | none => False) = RunAtP P ops T x t σ K := by
  cases x with
  | none => rfl
  | some o =>
    simp only [RunAtP, run_cons]
    rfl

theorem rp_pure {ops : List Oper} {T : List Nat} {i : Nat} {t : PT} : RunP P ops T (.pure i t) σ K = RunAtP P ops T ops[i]? t σ K := by
  rw [RunP]; exact rp_at _

theorem rp_one {ops : List Oper} {T : List Nat} {i : Nat} {t : PT} : RunP P ops T (.one i t) σ K = RunAtP P ops T ops[i]? t σ K := by
  rw [RunP]; exact rp_at _

theorem rp_two {ops : List Oper} {T : List Nat} {i j : Nat} {t u : PT} (h1 : RunAtP P ops T ops[i]? t σ K) (h2 : RunAtP P ops T ops[j]? u σ K) : RunP P ops T (.two i t j u) σ K := by
  rw [RunP]
  exact ⟨(rp_at _).mpr h1, (rp_at _).mpr h2⟩

theorem rap_some {ops : List Oper} {T : List Nat} {o : Oper} {t : PT} : RunAtP P ops T (some o) t σ K = Run P true ops [o] σ (RunPK P ops T t K) := rfl

theorem ev_rp {ops : List Oper} {T : List Nat} {t : PT} (h : RunP P ops T t σ K) : RunP P ops T t σ K := h

theorem ev_rap {ops : List Oper} {T : List Nat} {o : Option Oper} {t : PT} (h : RunAtP P ops T o t σ K) : RunAtP P ops T o t σ K := h

/-- The rest, not looked into yet. -/
def RunIK (P : Program) (ops : List Oper) (l : List (Nat × Bool)) (K : St → Prop) (σ : St) : Prop := RunI P ops l σ K

theorem rik {ops : List Oper} {l : List (Nat × Bool)} : RunIK P ops l K σ = RunI P ops l σ K := rfl

def RunAt (P : Program) (q : Bool) (ops : List Oper) (o : Option Oper) (l : List (Nat × Bool)) (σ : St) (K : St → Prop) : Prop := match o with
  | some o => Run P q ops [o] σ (RunIK P ops l K)
  | none => False

theorem ri_nil {ops : List Oper} : RunI P ops [] σ K = K σ := rfl

theorem ri_cons {ops : List Oper} {i : Nat} {l : List (Nat × Bool)} : RunI P ops ((i, q) :: l) σ K = RunAt P q ops ops[i]? l σ K := by
  unfold RunAt
  rw [RunI]
  split
  · rename_i o ho
    rw [ho]
    simp only [run_cons]
    rfl
  · rename_i ho
    rw [ho]

theorem ra_some {ops : List Oper} {o : Oper} {l : List (Nat × Bool)} : RunAt P q ops (some o) l σ K = Run P q ops [o] σ (RunIK P ops l K) := rfl

/-- The rest of a region is looked into. -/
theorem k_run {ops l : List Oper} {σ' : St} (h : Run P q ops l σ' K) : RunK P q ops l K σ' := h

theorem kx_r {Q : Exit → St → Prop} : Kx K Q .ret σ = Q .ret σ := rfl

theorem kx_e {Q : Exit → St → Prop} {id : Nat} : Kx K Q (.exit id) σ = Q (.exit id) σ := rfl

theorem in_r {Q : Exit → St → Prop} {id : Nat} : inB id Q .ret σ = Q .ret σ := rfl

theorem in_n {Q : Exit → St → Prop} {id : Nat} : inB id Q .normal σ = Q .normal σ := rfl

theorem in_e {Q : Exit → St → Prop} {id id' : Nat} : inB id Q (.exit id') σ = if id' = id then Q .normal σ else Q (.exit id') σ := rfl

/-- A function's end. -/
def Post (P : Program) (rs : List ResultVar) (res : D) : Exit → St → Prop
  | .ret, σ => ResOk P rs σ res
  | .normal, σ => ResOk P rs σ res
  | _, _ => False

theorem po_r {rs : List ResultVar} {res : D} : Post P rs res .ret σ = ResOk P rs σ res := rfl

theorem po_n {rs : List ResultVar} {res : D} : Post P rs res .normal σ = ResOk P rs σ res := rfl

theorem fn_go {f : FuncId} {fn : Func} {c : Code} {args : List CV} {res : D} {n : Nat} {sl : List (Nat × AV)} {rs : List ResultVar} (hf : P.funcs[f]? = some fn) (hb : fn.body = some c) (hname : (fn.name == "runtime.NumGoroutine") = false)
    (hn : fn.ntmps = n) (hr : fn.results = rs.toArray) (hsl : slotsOf 0 args = sl) (hle : args.length ≤ n) (h : AW P c (Post P rs res) ⟨n, sl, []⟩) : Fn P f args res := by
  subst hn hsl
  refine fn_of_aw hf hb hname hle (aw_mono (fun e σ q => ?_) h)
  rw [hr]
  cases e <;> first | exact ⟨.inl rfl, q⟩ | exact ⟨.inr rfl, q⟩ | exact q.elim

theorem res_tmp {t : Nat} {res d : D} {q : Prop} {ss : List Nat} (ho : own σ.ob 20 (look σ.sl t) = some (q, d, ss)) (hq : q) (hn : ss.Nodup) (hd : d = res) : ResOk P [.tmp t] σ res := by
  subst hd
  exact ⟨by simp, ⟨trivial, trivial⟩, q, ss, ho, hq, hn⟩

theorem res_two {t u : Nat} {res d : D} {q : Prop} {ss : List Nat} (ho : own σ.ob 20 (.tu [look σ.sl t, look σ.sl u]) = some (q, d, ss)) (hq : q) (hn : ss.Nodup) (hd : d = res) : ResOk P [.tmp t, .tmp u] σ res := by
  subst hd
  exact ⟨by simp, ⟨trivial, trivial, trivial⟩, q, ss, ho, hq, hn⟩

theorem res_three {t u v : Nat} {res d : D} {q : Prop} {ss : List Nat} (ho : own σ.ob 20 (.tu [look σ.sl t, look σ.sl u, look σ.sl v]) = some (q, d, ss)) (hq : q) (hn : ss.Nodup) (hd : d = res) : ResOk P [.tmp t, .tmp u, .tmp v] σ res := by
  subst hd
  exact ⟨by simp, ⟨trivial, trivial, trivial, trivial⟩, q, ss, ho, hq, hn⟩

theorem res_none {res : D} (hd : D.tu [] = res) : ResOk P [] σ res := by
  subst hd
  exact ⟨by simp, trivial, True, [], rfl, trivial, List.nodup_nil⟩

theorem aw_cond_t {c : Operand} {x y : Code} {Q : Exit → St → Prop} (hc : σ.ev c = .d (.v (.bool true))) (h : AW P x Q σ) : AW P (.cond c x y) Q σ := aw_cond hc (fun _ => h) (fun e => by cases e)

theorem aw_cond_f {c : Operand} {x y : Code} {Q : Exit → St → Prop} (hc : σ.ev c = .d (.v (.bool false))) (h : AW P y Q σ) : AW P (.cond c x y) Q σ := aw_cond hc (fun e => by cases e) (fun _ => h)

theorem pick_t {a b : AV} : pickA true a b = a := by
  unfold pickA
  split <;> rfl

theorem pick_f {a b : AV} : pickA false a b = b := by
  unfold pickA
  split <;> rfl

theorem pick_b {c x y : Bool} : pickA c (.d (.v (.bool x))) (.d (.v (.bool y))) = .d (.v (.bool (bif c then x else y))) := rfl

theorem one_s {s : ByteArray} : (Value.string s).oneCell' = true := rfl

theorem one_i {k : IntKind} {n : Int} : (Value.int k n).oneCell' = true := rfl

theorem one_b {b : Bool} : (Value.bool b).oneCell' = true := rfl

theorem one_l {a : Option Addr} {n c : Nat} : (Value.slice a n c).oneCell' = true := rfl

theorem one_p {a : Option Addr} : (Value.pointer a).oneCell' = true := rfl

theorem wr {n : Int} (h1 : -9223372036854775808 ≤ n) (h2 : n ≤ 9223372036854775807) : IntKind.i64.wrap n = n := by
  rw [IntKind.wrap_i64]
  omega

def ResAt (σ : St) (x : AV) (res : D) : Prop := ∃ q ss, own σ.ob 20 x = some (q, res, ss) ∧ q ∧ ss.Nodup

def CellAt (σ : St) (res : D) : Option (Prop × AV) → Prop
  | some (p, x) => p ∧ ResAt σ x res
  | none => False

theorem rc_eq {t : Nat} {ty : TypeId} {res : D} : ResOk P [.cell t ty] σ res = CellAt σ res (pureOp P σ (.load ty (.tmp t))) := by
  unfold ResOk CellAt ResAt
  simp only [resAVs, resAV]
  cases pureOp P σ (.load ty (.tmp t)) with
  | none => simp
  | some x => simp [joinR]

theorem rc_some {p : Prop} {x : AV} {res : D} : CellAt σ res (some (p, x)) = (p ∧ ResAt σ x res) := rfl

theorem res_at {x : AV} {res d : D} {q : Prop} {ss : List Nat} (ho : own σ.ob 20 x = some (q, d, ss)) (hq : q) (hn : ss.Nodup) (hd : d = res) : ResAt σ x res := by
  subst hd
  exact ⟨q, ss, ho, hq, hn⟩

theorem ev_run {ops l : List Oper} (h : Run P q ops l σ K) : Run P q ops l σ K := h

theorem ev_next {ops l : List Oper} {o : Option (Prop × St)} (h : Next P q ops l K o) : Next P q ops l K o := h

theorem ev_ri {ops : List Oper} {l : List (Nat × Bool)} (h : RunI P ops l σ K) : RunI P ops l σ K := h

theorem ev_res {t : Nat} {ty : TypeId} {res : D} (h : ResOk P [.cell t ty] σ res) : ResOk P [.cell t ty] σ res := h

theorem guard_t {ops l : List Oper} {o : Oper} {c : Bool} (h1 : c = true → Run P q ops (o :: l) σ K) (h2 : c = false → Run P q ops l (σ.puto o.dst (.d (.v undef))) K) (ho : o.guard = none) : Guard P q ops o l σ K true (.d (.v (.bool c))) := by
  cases c
  · rw [guard_tf]; exact h2 rfl
  · rw [guard_tt ho]; exact h1 rfl

theorem guard_f {ops l : List Oper} {o : Oper} {c : Bool} (h1 : c = true → Run P q ops l (σ.puto o.dst (.d (.v undef))) K) (h2 : c = false → Run P q ops (o :: l) σ K) (ho : o.guard = none) : Guard P q ops o l σ K false (.d (.v (.bool c))) := by
  cases c
  · rw [guard_ff ho]; exact h2 rfl
  · rw [guard_ft]; exact h1 rfl

theorem guard_ud {ops l : List Oper} {o : Oper} {want : Bool} : Guard P q ops o l σ K want (.d (.v undef)) = Run P q ops l (σ.puto o.dst (.d (.v undef))) K := rfl

theorem ev_aw {c : Code} {Q : Exit → St → Prop} (h : AW P c Q σ) : AW P c Q σ := h

theorem ev_call {f : AV} {args : List AV} (h : CallOk P q σ dst f args K) : CallOk P q σ dst f args K := h

theorem ev_guard {ops l : List Oper} {o : Oper} {want : Bool} {g : AV} (h : Guard P q ops o l σ K want g) : Guard P q ops o l σ K want g := h

def CondK (P : Program) (x y : Code) (Q : Exit → St → Prop) (σ : St) : AV → Prop
  | .d (.v (.bool c)) => (c = true → AW P x Q σ) ∧ (c = false → AW P y Q σ)
  | _ => False

theorem aw_condk {c : Operand} {x y : Code} {Q : Exit → St → Prop} (h : CondK P x y Q σ (σ.ev c)) : AW P (.cond c x y) Q σ := by
  unfold CondK at h
  split at h
  · rename_i b hb
    exact aw_cond hb h.1 h.2
  · exact h.elim

theorem ck_t {x y : Code} {Q : Exit → St → Prop} : CondK P x y Q σ (.d (.v (.bool true))) = AW P x Q σ := by
  simp [CondK]

theorem ck_f {x y : Code} {Q : Exit → St → Prop} : CondK P x y Q σ (.d (.v (.bool false))) = AW P y Q σ := by
  simp [CondK]

theorem ck_split {x y : Code} {Q : Exit → St → Prop} {c : Bool} (ht : c = true → AW P x Q σ) (hf : c = false → AW P y Q σ) : CondK P x y Q σ (.d (.v (.bool c))) := ⟨ht, hf⟩

theorem ev_cond {x y : Code} {Q : Exit → St → Prop} {v : AV} (h : CondK P x y Q σ v) : CondK P x y Q σ v := h
end

end Go.Proofs.Ytdinkfmkhdnbpaa
