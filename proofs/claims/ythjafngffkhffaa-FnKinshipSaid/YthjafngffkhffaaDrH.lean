/- Draws of a family and of persons. -/
import Derived.Test.YthjafngffkhffaaDrG2
import Derived.Test.YthjafngffkhffaaDrP
import Derived.WalkKit
import Derived.WalkSpells
import Derived.KernelRfl
namespace Go.Proofs.Ythjafngffkhffaa
open Go.RowKit
set_option linter.unusedVariables false
set_option linter.unusedSimpArgs false

attribute [local go_sem] PerV.d PerV.cs perL famD curO codL perO

attribute [local simp] refs_dmap perC_all perC_plains ints_plain ints_all ints_all1 ints_plain_take curO codL perO

theorem zero_cur : zeroV Try.prog 90 = [Value.slice none 0 0, Value.int IntKind.i64 0, Value.int IntKind.u64 0] := by kernel_rfl

attribute [local go_sem] zero_cur

theorem swp_1 {s : Nat} (hs : s < 5000) : swp 5000 s 5001 = 5001 := by
  have : 5001 ≠ s := by omega
  simp [swp, this]

theorem swp_2 {s t : Nat} (hs : s < 5000) (hst : s ≠ t) : swp 5001 t s = s := by
  have h1 : s ≠ 5001 := by omega
  simp [swp, h1, hst]

theorem any_at (s t : Nat) (bs : List Int) (c : CurV) (hb : okCod bs) (h0 : okCur 50000 c) (hs : s < 5000) (ht : t < 5000) (hst : s ≠ t) : FnS Try.prog 84 [(s, curO bs c)] [.bp s 0] [(s, curO bs (anyZ bs c).c), (t, .ds (perC (anyZ bs c).l))] (.ag [.bs t 0 (anyZ bs c).l.length 5]) := by
  have h := ((any_fn bs c hb h0).sw 5000 s).sw 5001 t
  simpa only [curO, swO, AV.swL, AV.sw, OB.sw, sw_self, swp_1 hs, swp_2 hs hst] using h

theorem person_at (s t : Nat) (bs : List Int) (l : List PerV) (c : CurV) (hb : okCod bs) (h0 : okCur 100000 c) (hl : l.length ≤ 1000) (hs : s < 5000) (ht : t < 5000) (hst : s ≠ t) : FnS Try.prog 85 [(s, curO bs c), (t, .ds (perC l))] [.bp s 0, .ag [.bs t 0 l.length 5]] [(s, curO bs (p18C bs l c)), (t, .ds (perC l))] (.d (.int (p18V bs l c))) := by
  have h := ((person_hi bs l c hb h0 hl).sw 5000 s).sw 5001 t
  simpa only [curO, swO, AV.swL, AV.sw, OB.sw, sw_self, swp_1 hs, swp_2 hs hst] using h

def cur0 : CurV := ⟨0, 0⟩

theorem cur0_ok (n : Nat) : okCur n cur0 := ⟨Int.le_refl _, Int.natCast_nonneg _⟩

def dF (bs : List Int) : List PerV := (anyZ bs cur0).l

def dP (bs : List Int) : Int := p18V bs (dF bs) (anyZ bs cur0).c

theorem dF_len {bs : List Int} (hb : okCod bs) : (dF bs).length ≤ 17 := (anyZ_ok hb (cur0_ok 0)).2

set_option maxRecDepth 100000 in
theorem pl_DrH_89_3U (l : List Oper) (h : l = opsOf Try.f89 3) : planUB l (.still 1 (.two true 0 (.one true 2 (.one false 3 (.one false 4 (.still 5 PU.fin)))) true 2 (.two true 0 (.one false 3 (.one false 4 (.still 5 PU.fin))) false 3 (.one true 0 (.one false 4 (.still 5 PU.fin)))))) [3, 4] = true := by
  subst h
  kernel_rfl

set_option maxRecDepth 100000 in
set_option maxHeartbeats 4000000 in
theorem drawKids_fn (bs : List Int) (hb : okCod bs) : FnD Try.prog 89 [codL bs] (.tu [famD (dF bs), .int (dP bs)]) := by
  have e1 := any_at 8 10 bs cur0 hb (cur0_ok _) (by decide) (by decide) (by decide)
  obtain ⟨k1, k2⟩ := anyZ_ok hb (cur0_ok 0)
  have e2 := person_at 8 10 bs (anyZ bs cur0).l (anyZ bs cur0).c hb (okCur_mono k1 (by omega)) (by omega) (by decide) (by decide) (by decide)
  have hF : dF bs = (anyZ bs cur0).l := rfl
  have hP : dP bs = p18V bs (anyZ bs cur0).l (anyZ bs cur0).c := rfl
  rw [hF, hP]
  generalize p18V bs (anyZ bs cur0).l (anyZ bs cur0).c = v at *
  generalize p18C bs (anyZ bs cur0).l (anyZ bs cur0).c = c2 at *
  generalize anyZ bs cur0 = Z at *
  obtain ⟨zc, zl, zi⟩ := Z
  simp only [cur0] at *
  have hpl : (perC zl).length = zl.length * 5 := recC_len per_k zl
  refine fn_go Try.func89 rfl rfl Try.ntmps89 Try.results89 (by simp only [slotsOf, argAV, List.map_cons, List.map_nil, Nat.reduceAdd]; rfl) (by simp) ?_
  repeat' (first | (with_reducible first | refine aw_seq fun K hK => ?_ | refine aw_region (by kernel_rfl) ?_ | refine aw_condk ?_ | refine aw_block ?_) | ((with_reducible refine ev_aw ?_); first | (refine aw_drawJ (by kernel_rfl) (id := 3) _ _ (by kernel_rfl) (pl_DrH_89_3U _ (by kernel_rfl)) (fun KJ hJ => ?_))) | (with_reducible first | refine ru_four ?_ ?_ ?_ ?_ | refine ru_three ?_ ?_ ?_ | refine ru_two ?_ ?_ | refine rv_split ?_ ?_ | refine rv_two ?_ ?_ | refine rp_two ?_ ?_) | ((with_reducible refine evg ?_); simp only [go_sem, St.clean, cleanO, ↓reduceIte, Nat.reduceEqDiff, Nat.reduceBEq, Nat.reduceAdd, Nat.reduceMul, Nat.reduceSub, Nat.reduceLT, Nat.reduceLeDiff]) | (simp (disch := omega) only [wr, drop_at, str_at, int_at, Int.reduceSub, Int.reduceAdd, Int.reduceToNat, Int.toNat_zero, wr]) | ((with_reducible refine ev_call ?_); (first | (refine call_s e1 ?_ ?_ ?_ ?_ ?_; (focus rfl); (focus first | exact trivial | exact And.intro rfl trivial | exact ⟨rfl, rfl, trivial⟩ | exact ⟨rfl, rfl, rfl, trivial⟩); (focus rfl); (focus (simp [-List.map_map, apartO, dropO, killN, obCells, refs_dmap, nofnsD, AV.refs, AV.refsL, AV.nofn, AV.nofns] <;> fail))) | (refine call_s e2 ?_ ?_ ?_ ?_ ?_; (focus rfl); (focus first | exact trivial | exact And.intro rfl trivial | exact ⟨rfl, rfl, trivial⟩ | exact ⟨rfl, rfl, rfl, trivial⟩); (focus rfl); (focus (simp [-List.map_map, apartO, dropO, killN, obCells, refs_dmap, nofnsD, AV.refs, AV.refsL, AV.nofn, AV.nofns] <;> fail)))); refine k_run ?_) | ((with_reducible refine ev_guard ?_); (with_reducible first | refine guard_t ?_ ?_ rfl | refine guard_f ?_ ?_ rfl) <;> (intro h; (try simp only [h]); (try simp only [nrm] at h) <;> (try ((with_reducible exfalso); omega)))) | ((with_reducible refine ck_split (fun h => ?_) (fun h => ?_)) <;> (try simp only [nrm] at h) <;> (try ((with_reducible exfalso); omega))) | ((with_reducible refine And.intro ?_ ?_); (first | omega | focus (simp; done) | focus (simp; omega) | focus ((repeat' (with_reducible refine And.intro ?_ ?_)) <;> first | omega | rfl | (simp only [go_sem, refsL_app, refs_dmap] <;> fail) | (simp [refsL_app, refs_dmap, AV.refsL, AV.refs] <;> omega)))) | (with_reducible refine hJ _ (fun K hK => ?_) ?_ <;> clear hJ KJ) | ((with_reducible refine ev_less ?_); (refine ⟨rfl, ?_, ?_⟩ <;> simp only [go_sem, St.clean, cleanO, SubS, SubO, beq_self_eq_true, ↓reduceIte, Nat.reduceEqDiff, Nat.reduceBEq, Nat.reduceAdd, Nat.reduceMul, Nat.reduceSub, Nat.reduceLT, Nat.reduceLeDiff])) | ((with_reducible first | apply hK | (clear hK K; first | apply hK | (clear hK K; first | apply hK | (clear hK K; apply hK)))); clear hK K) | fail)
  (first | refine res_tmp rfl (by simp [D.plain, plains]) (by simp) ?_ | refine res_at rfl (by simp [D.plain, plains]) (by simp) ?_ | refine res_two rfl (by simp [D.plain, plains]) (by simp) ?_ | refine res_three rfl (by simp [D.plain, plains]) (by simp) ?_)
  show D.tu [D.ag [D.ls 5 zl.length (((perC zl).drop 0).take (zl.length * 5))], D.int v] = _
  rw [perC_raw zl]
  rfl

theorem famV_opn (s : Nat) (l : List PerV) (v : Int) : Opn (.tu [famD l, .int v]) (.tu [.ag [.bs s 0 l.length 5], .d (.int v)]) [(s, .ds (perC l))] :=
  opn_tu (opnL_cons (opn_ag (opnL_cons (opn_ls s (perC_plains l)) opnL_nil rfl)) (opnL_v opnL_nil) rfl)

def hTab : List Int := [1500, 1520, 1540, 1560, 1580, 1600, 1700, 0, 3000]

def dHC (bs : List Int) : CurV := p18C bs (dF bs) (anyZ bs cur0).c

def dHN (bs : List Int) : Nat := 7 + ((pickV bs 24 (dHC bs)).toNat / 11)

def dY (bs : List Int) : Int := amV bs hTab (dHN bs) (pickC bs 24 (dHC bs))

end Go.Proofs.Ythjafngffkhffaa
