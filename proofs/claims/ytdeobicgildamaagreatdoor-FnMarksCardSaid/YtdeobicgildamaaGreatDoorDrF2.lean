/- A drawn family: the walk. -/
import Derived.Test.YtdeobicgildamaaGreatDoorPCode
import Derived.WalkKit
import Derived.WalkSpells
import Derived.KernelRfl
namespace Go.Proofs.YtdeobicgildamaaGreatDoor
open Go.RowKit
set_option linter.unusedVariables false
set_option linter.unusedSimpArgs false

attribute [local go_sem] PerV.d PerV.cs perL famD curO codL

attribute [local simp] refs_dmap perC_all perC_plains ints_plain ints_all ints_all1 ints_plain_take curO codL

theorem ress_step {P : Program} {σ : St} {rs : List ResultVar} {ob ob' : List (Nat × OB)} {res : AV} (ps : List (Nat × Nat)) (hlen : rs.length ≤ 4) (hl : lensO ob ob') (ho : offSw ob ps = true) (hs : SubO (swsO ps σ.ob) ob') (h : resStep P σ rs (fun xs => swsA ps (joinR xs) = res)) : ResS P rs σ ob ob' res := by
  obtain ⟨p, xs, h1, h2, h3⟩ := resStep_sound h
  exact ⟨hlen, hl, ps, ho, hs, by rw [h1]; exact ⟨h2, h3⟩⟩

def perO (p : PerV) : OB := .av [.d (.int p.id), .d (.int p.born), .d (.int p.died), .d (.int p.one), .d (.int p.two)]

attribute [local go_sem] perO

attribute [local simp] perO

set_option maxRecDepth 100000 in
theorem pl_DrF2_64_7U (l : List Oper) (h : l = opsOf Tryz.f64 7) : planUB l (.pure 6 (.still 0 (.calc 1 (.three true 2 (.three true 3 (.calc 4 (.calc 5 (.two false 7 (.calc 8 (.two true 9 (.one true 10 (.one false 11 PU.fin)) true 10 (.one true 9 (.one false 11 PU.fin)))) true 10 (.one false 7 (.calc 8 (.one true 9 (.one false 11 PU.fin))))))) false 7 (.two true 3 (.calc 4 (.calc 5 (.calc 8 (.two true 9 (.one true 10 (.one false 11 PU.fin)) true 10 (.one true 9 (.one false 11 PU.fin)))))) true 10 (.one true 3 (.calc 4 (.calc 5 (.calc 8 (.one true 9 (.one false 11 PU.fin))))))) true 10 (.two true 3 (.calc 4 (.calc 5 (.one false 7 (.calc 8 (.one true 9 (.one false 11 PU.fin)))))) false 7 (.one true 3 (.calc 4 (.calc 5 (.calc 8 (.one true 9 (.one false 11 PU.fin)))))))) false 7 (.two true 2 (.two true 3 (.calc 4 (.calc 5 (.calc 8 (.two true 9 (.one true 10 (.one false 11 PU.fin)) true 10 (.one true 9 (.one false 11 PU.fin)))))) true 10 (.one true 3 (.calc 4 (.calc 5 (.calc 8 (.one true 9 (.one false 11 PU.fin))))))) true 10 (.one true 2 (.one true 3 (.calc 4 (.calc 5 (.calc 8 (.one true 9 (.one false 11 PU.fin)))))))) true 10 (.two true 2 (.two true 3 (.calc 4 (.calc 5 (.one false 7 (.calc 8 (.one true 9 (.one false 11 PU.fin)))))) false 7 (.one true 3 (.calc 4 (.calc 5 (.calc 8 (.one true 9 (.one false 11 PU.fin))))))) false 7 (.one true 2 (.one true 3 (.calc 4 (.calc 5 (.calc 8 (.one true 9 (.one false 11 PU.fin)))))))))))) [7, 11] = true := by
  subst h
  kernel_rfl

set_option maxRecDepth 100000 in
theorem pl_DrF2_64_9U (l : List Oper) (h : l = opsOf Tryz.f64 9) : planUB l (.pure 2 (.calc 0 (.two true 1 (.one true 3 (.one false 4 (.calc 5 (.calc 6 (.one false 7 PU.fin))))) true 3 (.two true 1 (.one false 4 (.calc 5 (.calc 6 (.one false 7 PU.fin)))) false 4 (.one true 1 (.calc 5 (.calc 6 (.one false 7 PU.fin)))))))) [4, 7] = true := by
  subst h
  kernel_rfl

set_option maxRecDepth 100000 in
theorem pl_DrF2_64_13V (l : List Oper) (h : l = opsOf Tryz.f64 13) : planVB l (.still 2 (.still 12 (.calc 0 (.calc 3 (.calc 10 (.calc 13 (.split 1 (.split 4 (.split 5 (.split 11 (.split 14 (.split 15 (.one 6 (.still 7 (.calc 8 (.split 9 (.one 16 (.still 17 (.still 20 (.calc 18 (.split 19 (.still 21 PV.fin) (.dead 1)))))) (.one 16 (.still 17 (.calc 18 (.split 9 (.still 20 (.split 19 (.still 21 PV.fin) (.dead 1))) (.split 19 (.dead 2) (.dead 3)))))))))) (.one 6 (.still 7 (.calc 8 (.split 9 (.split 15 (.one 16 (.still 17 (.still 20 (.calc 18 (.split 19 (.still 21 PV.fin) (.dead 1)))))) (.dead 6)) (.split 15 (.one 16 (.still 17 (.calc 18 (.split 9 (.still 20 (.split 19 (.still 21 PV.fin) (.dead 1))) (.split 19 (.dead 2) (.dead 3)))))) (.dead 7))))))) (.one 6 (.still 7 (.calc 8 (.split 9 (.split 14 (.split 15 (.one 16 (.still 17 (.still 20 (.calc 18 (.split 19 (.still 21 PV.fin) (.dead 1)))))) (.dead 6)) (.dead 7)) (.split 14 (.split 15 (.one 16 (.still 17 (.calc 18 (.split 9 (.still 20 (.split 19 (.still 21 PV.fin) (.dead 1))) (.split 19 (.dead 2) (.dead 3)))))) (.dead 7)) (.dead 8))))))) (.split 14 (.split 15 (.one 6 (.still 7 (.calc 8 (.split 9 (.split 11 (.one 16 (.still 17 (.still 20 (.calc 18 (.split 19 (.still 21 PV.fin) (.dead 1)))))) (.one 16 (.still 20 (.split 11 (.still 17 (.calc 18 (.split 19 (.still 21 PV.fin) (.dead 1)))) (.dead 4))))) (.split 11 (.one 16 (.still 17 (.calc 18 (.split 9 (.still 20 (.split 19 (.still 21 PV.fin) (.dead 1))) (.split 19 (.dead 2) (.dead 3)))))) (.one 16 (.split 9 (.still 20 (.split 11 (.still 17 (.calc 18 (.split 19 (.still 21 PV.fin) (.dead 1)))) (.dead 4))) (.split 11 (.still 17 (.calc 18 (.split 19 (.dead 2) (.dead 3)))) (.dead 6))))))))) (.one 6 (.still 7 (.calc 8 (.split 9 (.split 11 (.split 15 (.one 16 (.still 17 (.still 20 (.calc 18 (.split 19 (.still 21 PV.fin) (.dead 1)))))) (.dead 6)) (.split 15 (.one 16 (.still 20 (.split 11 (.still 17 (.calc 18 (.split 19 (.still 21 PV.fin) (.dead 1)))) (.dead 4)))) (.dead 7))) (.split 11 (.split 15 (.one 16 (.still 17 (.calc 18 (.split 9 (.still 20 (.split 19 (.still 21 PV.fin) (.dead 1))) (.split 19 (.dead 2) (.dead 3)))))) (.dead 7)) (.split 15 (.one 16 (.split 9 (.still 20 (.split 11 (.still 17 (.calc 18 (.split 19 (.still 21 PV.fin) (.dead 1)))) (.dead 4))) (.split 11 (.still 17 (.calc 18 (.split 19 (.dead 2) (.dead 3)))) (.dead 6)))) (.dead 8)))))))) (.one 6 (.still 7 (.calc 8 (.split 9 (.split 11 (.split 14 (.split 15 (.one 16 (.still 17 (.still 20 (.calc 18 (.split 19 (.still 21 PV.fin) (.dead 1)))))) (.dead 6)) (.dead 7)) (.split 14 (.split 15 (.one 16 (.still 20 (.split 11 (.still 17 (.calc 18 (.split 19 (.still 21 PV.fin) (.dead 1)))) (.dead 4)))) (.dead 7)) (.dead 8))) (.split 11 (.split 14 (.split 15 (.one 16 (.still 17 (.calc 18 (.split 9 (.still 20 (.split 19 (.still 21 PV.fin) (.dead 1))) (.split 19 (.dead 2) (.dead 3)))))) (.dead 7)) (.dead 8)) (.split 14 (.split 15 (.one 16 (.split 9 (.still 20 (.split 11 (.still 17 (.calc 18 (.split 19 (.still 21 PV.fin) (.dead 1)))) (.dead 4))) (.split 11 (.still 17 (.calc 18 (.split 19 (.dead 2) (.dead 3)))) (.dead 6)))) (.dead 8)) (.dead 9))))))))) (.split 11 (.split 14 (.split 15 (.dead 10) (.dead 11)) (.dead 12)) (.split 14 (.split 15 (.dead 11) (.dead 12)) (.dead 13)))) (.split 11 (.split 14 (.split 15 (.dead 11) (.dead 12)) (.dead 13)) (.split 14 (.split 15 (.dead 12) (.dead 13)) (.dead 14)))) (.split 4 (.split 5 (.split 11 (.split 14 (.split 15 (.one 6 (.split 1 (.still 7 (.calc 8 (.split 9 (.one 16 (.still 17 (.still 20 (.calc 18 (.split 19 (.still 21 PV.fin) (.dead 1)))))) (.one 16 (.still 17 (.calc 18 (.split 9 (.still 20 (.split 19 (.still 21 PV.fin) (.dead 1))) (.split 19 (.dead 2) (.dead 3))))))))) (.one 16 (.still 17 (.calc 18 (.split 1 (.still 7 (.calc 8 (.split 9 (.still 20 (.split 19 (.still 21 PV.fin) (.dead 1))) (.split 19 (.dead 2) (.dead 3))))) (.split 19 (.dead 5) (.dead 6)))))))) (.one 6 (.split 1 (.still 7 (.calc 8 (.split 9 (.split 15 (.one 16 (.still 17 (.still 20 (.calc 18 (.split 19 (.still 21 PV.fin) (.dead 1)))))) (.dead 6)) (.split 15 (.one 16 (.still 17 (.calc 18 (.split 9 (.still 20 (.split 19 (.still 21 PV.fin) (.dead 1))) (.split 19 (.dead 2) (.dead 3)))))) (.dead 7))))) (.split 15 (.one 16 (.still 17 (.calc 18 (.split 1 (.still 7 (.calc 8 (.split 9 (.still 20 (.split 19 (.still 21 PV.fin) (.dead 1))) (.split 19 (.dead 2) (.dead 3))))) (.split 19 (.dead 5) (.dead 6)))))) (.dead 10))))) (.one 6 (.split 1 (.still 7 (.calc 8 (.split 9 (.split 14 (.split 15 (.one 16 (.still 17 (.still 20 (.calc 18 (.split 19 (.still 21 PV.fin) (.dead 1)))))) (.dead 6)) (.dead 7)) (.split 14 (.split 15 (.one 16 (.still 17 (.calc 18 (.split 9 (.still 20 (.split 19 (.still 21 PV.fin) (.dead 1))) (.split 19 (.dead 2) (.dead 3)))))) (.dead 7)) (.dead 8))))) (.split 14 (.split 15 (.one 16 (.still 17 (.calc 18 (.split 1 (.still 7 (.calc 8 (.split 9 (.still 20 (.split 19 (.still 21 PV.fin) (.dead 1))) (.split 19 (.dead 2) (.dead 3))))) (.split 19 (.dead 5) (.dead 6)))))) (.dead 10)) (.dead 11))))) (.split 14 (.split 15 (.one 6 (.split 1 (.still 7 (.calc 8 (.split 9 (.split 11 (.one 16 (.still 17 (.still 20 (.calc 18 (.split 19 (.still 21 PV.fin) (.dead 1)))))) (.one 16 (.still 20 (.split 11 (.still 17 (.calc 18 (.split 19 (.still 21 PV.fin) (.dead 1)))) (.dead 4))))) (.split 11 (.one 16 (.still 17 (.calc 18 (.split 9 (.still 20 (.split 19 (.still 21 PV.fin) (.dead 1))) (.split 19 (.dead 2) (.dead 3)))))) (.one 16 (.split 9 (.still 20 (.split 11 (.still 17 (.calc 18 (.split 19 (.still 21 PV.fin) (.dead 1)))) (.dead 4))) (.split 11 (.still 17 (.calc 18 (.split 19 (.dead 2) (.dead 3)))) (.dead 6)))))))) (.split 11 (.one 16 (.still 17 (.calc 18 (.split 1 (.still 7 (.calc 8 (.split 9 (.still 20 (.split 19 (.still 21 PV.fin) (.dead 1))) (.split 19 (.dead 2) (.dead 3))))) (.split 19 (.dead 5) (.dead 6)))))) (.one 16 (.split 1 (.still 7 (.calc 8 (.split 9 (.still 20 (.split 11 (.still 17 (.calc 18 (.split 19 (.still 21 PV.fin) (.dead 1)))) (.dead 4))) (.split 11 (.still 17 (.calc 18 (.split 19 (.dead 2) (.dead 3)))) (.dead 6))))) (.split 11 (.still 17 (.calc 18 (.split 19 (.dead 5) (.dead 6)))) (.dead 9))))))) (.one 6 (.split 1 (.still 7 (.calc 8 (.split 9 (.split 11 (.split 15 (.one 16 (.still 17 (.still 20 (.calc 18 (.split 19 (.still 21 PV.fin) (.dead 1)))))) (.dead 6)) (.split 15 (.one 16 (.still 20 (.split 11 (.still 17 (.calc 18 (.split 19 (.still 21 PV.fin) (.dead 1)))) (.dead 4)))) (.dead 7))) (.split 11 (.split 15 (.one 16 (.still 17 (.calc 18 (.split 9 (.still 20 (.split 19 (.still 21 PV.fin) (.dead 1))) (.split 19 (.dead 2) (.dead 3)))))) (.dead 7)) (.split 15 (.one 16 (.split 9 (.still 20 (.split 11 (.still 17 (.calc 18 (.split 19 (.still 21 PV.fin) (.dead 1)))) (.dead 4))) (.split 11 (.still 17 (.calc 18 (.split 19 (.dead 2) (.dead 3)))) (.dead 6)))) (.dead 8)))))) (.split 11 (.split 15 (.one 16 (.still 17 (.calc 18 (.split 1 (.still 7 (.calc 8 (.split 9 (.still 20 (.split 19 (.still 21 PV.fin) (.dead 1))) (.split 19 (.dead 2) (.dead 3))))) (.split 19 (.dead 5) (.dead 6)))))) (.dead 10)) (.split 15 (.one 16 (.split 1 (.still 7 (.calc 8 (.split 9 (.still 20 (.split 11 (.still 17 (.calc 18 (.split 19 (.still 21 PV.fin) (.dead 1)))) (.dead 4))) (.split 11 (.still 17 (.calc 18 (.split 19 (.dead 2) (.dead 3)))) (.dead 6))))) (.split 11 (.still 17 (.calc 18 (.split 19 (.dead 5) (.dead 6)))) (.dead 9)))) (.dead 11)))))) (.one 6 (.split 1 (.still 7 (.calc 8 (.split 9 (.split 11 (.split 14 (.split 15 (.one 16 (.still 17 (.still 20 (.calc 18 (.split 19 (.still 21 PV.fin) (.dead 1)))))) (.dead 6)) (.dead 7)) (.split 14 (.split 15 (.one 16 (.still 20 (.split 11 (.still 17 (.calc 18 (.split 19 (.still 21 PV.fin) (.dead 1)))) (.dead 4)))) (.dead 7)) (.dead 8))) (.split 11 (.split 14 (.split 15 (.one 16 (.still 17 (.calc 18 (.split 9 (.still 20 (.split 19 (.still 21 PV.fin) (.dead 1))) (.split 19 (.dead 2) (.dead 3)))))) (.dead 7)) (.dead 8)) (.split 14 (.split 15 (.one 16 (.split 9 (.still 20 (.split 11 (.still 17 (.calc 18 (.split 19 (.still 21 PV.fin) (.dead 1)))) (.dead 4))) (.split 11 (.still 17 (.calc 18 (.split 19 (.dead 2) (.dead 3)))) (.dead 6)))) (.dead 8)) (.dead 9)))))) (.split 11 (.split 14 (.split 15 (.one 16 (.still 17 (.calc 18 (.split 1 (.still 7 (.calc 8 (.split 9 (.still 20 (.split 19 (.still 21 PV.fin) (.dead 1))) (.split 19 (.dead 2) (.dead 3))))) (.split 19 (.dead 5) (.dead 6)))))) (.dead 10)) (.dead 11)) (.split 14 (.split 15 (.one 16 (.split 1 (.still 7 (.calc 8 (.split 9 (.still 20 (.split 11 (.still 17 (.calc 18 (.split 19 (.still 21 PV.fin) (.dead 1)))) (.dead 4))) (.split 11 (.still 17 (.calc 18 (.split 19 (.dead 2) (.dead 3)))) (.dead 6))))) (.split 11 (.still 17 (.calc 18 (.split 19 (.dead 5) (.dead 6)))) (.dead 9)))) (.dead 11)) (.dead 12))))))) (.split 11 (.split 14 (.split 15 (.dead 11) (.dead 12)) (.dead 13)) (.split 14 (.split 15 (.dead 12) (.dead 13)) (.dead 14)))) (.split 11 (.split 14 (.split 15 (.dead 12) (.dead 13)) (.dead 14)) (.split 14 (.split 15 (.dead 13) (.dead 14)) (.dead 15))))))))))) [0, 1, 2, 3, 4, 5, 7, 8, 9, 10, 11, 12, 13, 14, 15, 17, 18, 19, 20, 21] = true := by
  subst h
  kernel_rfl

set_option maxRecDepth 100000 in
set_option maxHeartbeats 4000000 in
theorem fam_fn (bs : List Int) (c : CurV) (hb : okCod bs) (h0 : okCur 100000 c) : FnS Tryz.prog 64 [(5000, curO bs c)] [.bp 5000 0] [(5000, curO bs (famZ bs c).c), (5001, .ds (perC (famZ bs c).l))] (.ag [.bs 5001 0 (famZ bs c).l.length 5]) := by
  have e0 := pick_at 5000 bs 12 c hb (okCur_mono h0 (by omega))
  have b0 := pickV_le hb (n := 12) h0.1
  have b1 := b0.2 (by decide)
  have k0 := okCur_pick (bs := bs) (n := 12) h0
  have hZ : famZ bs c = famN bs (pickV bs 12 c).toNat ⟨pickC bs 12 c, [], 0⟩ := rfl
  generalize famZ bs c = Z at *
  generalize pickC bs 12 c = c1 at *
  obtain ⟨n, hn⟩ := Int.eq_ofNat_of_zero_le b0.1
  rw [hn] at e0 b1 hZ
  rw [Int.toNat_natCast] at hZ
  refine fns_go Tryz.func64 rfl rfl Tryz.ntmps64 Tryz.results64 (by simp only [slotsA, Nat.reduceAdd]; rfl) (by simp) rfl ?_
  repeat' (first | (with_reducible first | refine aw_seq fun K hK => ?_ | refine aw_region (by kernel_rfl) ?_ | refine aw_condk ?_ | refine aw_block ?_) | ((with_reducible refine ev_aw ?_); first | (refine aw_drawJ (by kernel_rfl) (id := 7) _ _ (by kernel_rfl) (pl_DrF2_64_7U _ (by kernel_rfl)) (fun KJ hJ => ?_)) | (refine aw_drawJ (by kernel_rfl) (id := 9) _ _ (by kernel_rfl) (pl_DrF2_64_9U _ (by kernel_rfl)) (fun KJ hJ => ?_)) | (refine aw_drawW (by kernel_rfl) (id := 13) _ _ (by kernel_rfl) (pl_DrF2_64_13V _ (by kernel_rfl)) (fun KJ hJ => ?_))) | (with_reducible first | refine ru_four ?_ ?_ ?_ ?_ | refine ru_three ?_ ?_ ?_ | refine ru_two ?_ ?_ | refine rv_split ?_ ?_ | refine rv_two ?_ ?_ | refine rp_two ?_ ?_) | ((with_reducible refine evg ?_); simp only [go_sem, St.clean, cleanO, ↓reduceIte, Nat.reduceEqDiff, Nat.reduceBEq, Nat.reduceAdd, Nat.reduceMul, Nat.reduceSub, Nat.reduceLT, Nat.reduceLeDiff]) | (simp (disch := omega) only [wr, drop_at, str_at, int_at, Int.reduceSub, Int.reduceAdd, Int.reduceToNat, Int.toNat_zero, wr]) | ((with_reducible refine ev_call ?_); (first | (refine call_s e0 ?_ ?_ ?_ ?_ ?_; (focus rfl); (focus first | exact trivial | exact And.intro rfl trivial | exact ⟨rfl, rfl, trivial⟩ | exact ⟨rfl, rfl, rfl, trivial⟩); (focus rfl); (focus (simp [-List.map_map, apartO, dropO, killN, obCells, refs_dmap, nofnsD, AV.refs, AV.refsL, AV.nofn, AV.nofns] <;> fail)))); refine k_run ?_) | ((with_reducible refine ev_guard ?_); (with_reducible first | refine guard_t ?_ ?_ rfl | refine guard_f ?_ ?_ rfl) <;> (intro h; (try simp only [h]); (try simp only [nrm] at h) <;> (try ((with_reducible exfalso); omega)))) | ((with_reducible refine ck_split (fun h => ?_) (fun h => ?_)) <;> (try simp only [nrm] at h) <;> (try ((with_reducible exfalso); omega))) | ((with_reducible refine And.intro ?_ ?_); (first | omega | focus (simp; done) | focus (simp; omega) | focus ((repeat' (with_reducible refine And.intro ?_ ?_)) <;> first | omega | rfl | (simp only [go_sem, refsL_app, refs_dmap] <;> fail) | (simp [refsL_app, refs_dmap, AV.refsL, AV.refs] <;> omega)))) | (with_reducible refine hJ _ (fun K hK => ?_) ?_ <;> clear hJ KJ) | ((with_reducible refine ev_less ?_); (refine ⟨rfl, ?_, ?_⟩ <;> simp only [go_sem, St.clean, cleanO, SubS, SubO, beq_self_eq_true, ↓reduceIte, Nat.reduceEqDiff, Nat.reduceBEq, Nat.reduceAdd, Nat.reduceMul, Nat.reduceSub, Nat.reduceLT, Nat.reduceLeDiff])) | ((with_reducible first | apply hK | (clear hK K; first | apply hK | (clear hK K; first | apply hK | (clear hK K; apply hK)))); clear hK K) | fail)
  refine aw_loopU [4, 5, 6, 7, 8, 9, 10, 11, 12, 13, 14, 15, 16, 17, 18, 19, 20, 21, 22, 23, 24, 25, 26, 27, 28, 29, 30, 31, 32, 33, 34, 35, 36, 37, 38, 39, 40, 41, 42, 43, 44, 45, 46, 47, 48, 49, 50, 51, 52, 53, 54, 55, 56, 57, 58, 59, 60, 61, 62, 63, 64, 65, 66, 67, 68, 69, 70, 71, 72, 73, 74, 75, 76, 77, 78, 79, 80, 81, 82, 83, 84, 85, 86, 87, 88, 89, 90, 91, 92, 93, 94, 95, 96, 97, 98, 99, 100, 101] [3, 6, 10, 11, 12, 13, 21, 26, 30, 34, 38, 39, 47, 62, 63, 72, 73, 84, 90, 99, 100, 5000] (fun s : Nat × FamS => [(5, .d (.int s.1)), (4, .d (.int s.2.id))]) (fun s => [(10, .ds (perC s.2.l)), (3, .av [.bs 10 0 s.2.l.length 5]), (5000, curO bs s.2.c)]) (fun s => famN bs s.1 s.2 = Z ∧ s.1 + s.2.l.length ≤ 12 ∧ okCur (100002 + 20 * s.2.l.length) s.2.c ∧ 0 ≤ s.2.id ∧ s.2.id ≤ 4 * s.2.l.length) (fun s => s.1) (n, ⟨c1, [], 0⟩) ⟨hZ.symm, by simp only [List.length_nil]; omega, by simpa using k0, by simp, by simp⟩ ?_ ?_
  · (refine lessW_of [] rfl ?_ <;> simp only [St.sws, St.sw, swS, swO, AV.sw, AV.swL, OB.sw, swp, St.upd, dropS, dropOs, Less, SubS, SubO, look, lookO, List.elem, List.cons_append, List.nil_append, cond_true, cond_false, and_true, true_and, beq_self_eq_true, ↓reduceIte, Nat.reduceEqDiff, Nat.reduceBEq, Nat.reduceAdd, Nat.reduceMul, Nat.reduceSub, Nat.reduceLT, Nat.reduceLeDiff] <;> try simp)
    rfl
  · rintro ⟨k, ⟨c, l, id⟩⟩ ⟨g1, g2, g3, g4, g5⟩
    simp only at g1 g2 g3 g4 g5
    simp only [St.upd, dropS, dropOs, List.elem, List.cons_append, List.nil_append, cond_true, cond_false, beq_self_eq_true, ↓reduceIte, Nat.reduceEqDiff, Nat.reduceBEq, Nat.reduceAdd, Nat.reduceMul, Nat.reduceSub, Nat.reduceLT, Nat.reduceLeDiff]
    cases k with
    | zero =>
      rw [famN] at g1
      subst g1
      repeat' (first | (with_reducible first | refine aw_seq fun K hK => ?_ | refine aw_region (by kernel_rfl) ?_ | refine aw_condk ?_ | refine aw_block ?_) | ((with_reducible refine ev_aw ?_); first | (refine aw_drawJ (by kernel_rfl) (id := 7) _ _ (by kernel_rfl) (pl_DrF2_64_7U _ (by kernel_rfl)) (fun KJ hJ => ?_)) | (refine aw_drawJ (by kernel_rfl) (id := 9) _ _ (by kernel_rfl) (pl_DrF2_64_9U _ (by kernel_rfl)) (fun KJ hJ => ?_)) | (refine aw_drawW (by kernel_rfl) (id := 13) _ _ (by kernel_rfl) (pl_DrF2_64_13V _ (by kernel_rfl)) (fun KJ hJ => ?_))) | (with_reducible first | refine ru_four ?_ ?_ ?_ ?_ | refine ru_three ?_ ?_ ?_ | refine ru_two ?_ ?_ | refine rv_split ?_ ?_ | refine rv_two ?_ ?_ | refine rp_two ?_ ?_) | ((with_reducible refine evg ?_); simp only [go_sem, St.clean, cleanO, ↓reduceIte, Nat.reduceEqDiff, Nat.reduceBEq, Nat.reduceAdd, Nat.reduceMul, Nat.reduceSub, Nat.reduceLT, Nat.reduceLeDiff]) | (simp (disch := omega) only [wr, drop_at, str_at, int_at, Int.reduceSub, Int.reduceAdd, Int.reduceToNat, Int.toNat_zero, wr]) | ((with_reducible refine ev_guard ?_); (with_reducible first | refine guard_t ?_ ?_ rfl | refine guard_f ?_ ?_ rfl) <;> (intro h; (try simp only [h]); (try simp only [nrm] at h) <;> (try ((with_reducible exfalso); omega)))) | ((with_reducible refine ck_split (fun h => ?_) (fun h => ?_)) <;> (try simp only [nrm] at h) <;> (try ((with_reducible exfalso); omega))) | ((with_reducible refine And.intro ?_ ?_); (first | omega | focus (simp; done) | focus (simp; omega) | focus ((repeat' (with_reducible refine And.intro ?_ ?_)) <;> first | omega | rfl | (simp only [go_sem, refsL_app, refs_dmap] <;> fail) | (simp [refsL_app, refs_dmap, AV.refsL, AV.refs] <;> omega)))) | (with_reducible refine hJ _ (fun K hK => ?_) ?_ <;> clear hJ KJ) | ((with_reducible refine ev_less ?_); (refine ⟨rfl, ?_, ?_⟩ <;> simp only [go_sem, St.clean, cleanO, SubS, SubO, beq_self_eq_true, ↓reduceIte, Nat.reduceEqDiff, Nat.reduceBEq, Nat.reduceAdd, Nat.reduceMul, Nat.reduceSub, Nat.reduceLT, Nat.reduceLeDiff])) | ((with_reducible first | apply hK | (clear hK K; first | apply hK | (clear hK K; first | apply hK | (clear hK K; apply hK)))); clear hK K) | fail)
      refine ress_step [(10, 5001)] (by simp) (by simp [lensO, lookO, obCells]) rfl ⟨rfl, rfl, trivial⟩ ?_
      simp only [go_sem, ↓reduceIte, Nat.reduceEqDiff, Nat.reduceBEq, Nat.reduceAdd, Nat.reduceMul, Nat.reduceSub, Nat.reduceLT, Nat.reduceLeDiff]
      rfl
    | succ k =>
      rw [famN] at g1
      have hpl : (perC l).length = l.length * 5 := recC_len per_k l
      have p1 := pickV_le hb (n := 3) g3.1
      have p2 := p1.2 (by decide)
      have q1 := okCur_pick (bs := bs) (n := 3) g3
      have p3 := pickV_le hb (n := 20) q1.1
      have p4 := p3.2 (by decide)
      have q2 := okCur_pick (bs := bs) (n := 20) q1
      have q3 := okCur_pick (bs := bs) (n := 2) q2
      have c1' := pick_at 5000 bs 3 c hb (okCur_mono g3 (by omega))
      have c2' := pick_at 5000 bs 20 (pickC bs 3 c) hb (okCur_mono q1 (by omega))
      have c3' := one_at 5000 bs 2 (pickC bs 20 (pickC bs 3 c)) hb (okCur_mono q2 (by omega))
      have c4' := among_at 5000 38 bs [0, 20, 40, 60, 80] 5 (pickC bs 2 (pickC bs 20 (pickC bs 3 c))) hb (okCur_mono q3 (by omega)) (by decide) (by decide) (by decide) (by decide) (by decide) (by decide)
      have hamb : 0 ≤ amV bs [0, 20, 40, 60, 80] 5 (pickC bs 2 (pickC bs 20 (pickC bs 3 c))) ∧ amV bs [0, 20, 40, 60, 80] 5 (pickC bs 2 (pickC bs 20 (pickC bs 3 c))) ≤ 80 := by
        have hm : ∀ i : Nat, 0 ≤ ([0, 20, 40, 60, 80] : List Int).getD i 0 ∧ ([0, 20, 40, 60, 80] : List Int).getD i 0 ≤ 80 := fun i => by
          match i with
          | 0 => simp
          | 1 => simp
          | 2 => simp
          | 3 => simp
          | 4 => simp
          | n + 5 => simp
        exact hm _
      have hA : famA bs ⟨c, l, id⟩ = if oneV bs 2 (pickC bs 20 (pickC bs 3 c)) = true then ⟨pickC bs 5 (pickC bs 2 (pickC bs 20 (pickC bs 3 c))), ⟨id + 1 + pickV bs 3 c, 1500 + 8 * l.length + pickV bs 20 (pickC bs 3 c), 1500 + 8 * l.length + pickV bs 20 (pickC bs 3 c) + amV bs [0, 20, 40, 60, 80] 5 (pickC bs 2 (pickC bs 20 (pickC bs 3 c))), 0, 0⟩⟩ else ⟨pickC bs 2 (pickC bs 20 (pickC bs 3 c)), ⟨id + 1 + pickV bs 3 c, 1500 + 8 * l.length + pickV bs 20 (pickC bs 3 c), 0, 0, 0⟩⟩ := rfl
      have hAok := famA_ok hb (s := ⟨c, l, id⟩) g3
      have hF : famF bs ⟨c, l, id⟩ = ⟨(tryN bs l 3 (famA bs ⟨c, l, id⟩)).c, l ++ [(tryN bs l 3 (famA bs ⟨c, l, id⟩)).p], id + 1 + pickV bs 3 c⟩ := rfl
      have hTok := tryN_ok 3 (bs := bs) (l := l) hAok.1
      have htry : ∀ (j : Nat) (s : TryS), tryN bs l (j + 1) s = tryN bs l j (tryF bs l s) := fun _ _ => rfl
      rw [hF] at g1
      clear hF
      obtain ⟨T, hT⟩ : ∃ T, tryN bs l 3 (famA bs ⟨c, l, id⟩) = T := ⟨_, rfl⟩
      rw [hT] at g1 hTok
      simp only at hAok
      generalize famA bs ⟨c, l, id⟩ = A at *
      generalize hv1 : pickV bs 3 c = v1 at *
      generalize pickV bs 20 (pickC bs 3 c) = v2 at *
      generalize oneV bs 2 (pickC bs 20 (pickC bs 3 c)) = o at *
      generalize amV bs [0, 20, 40, 60, 80] 5 (pickC bs 2 (pickC bs 20 (pickC bs 3 c))) = am at *
      generalize pickC bs 5 (pickC bs 2 (pickC bs 20 (pickC bs 3 c))) = d4 at *
      generalize pickC bs 2 (pickC bs 20 (pickC bs 3 c)) = d3 at *
      generalize pickC bs 20 (pickC bs 3 c) = d2 at *
      generalize pickC bs 3 c = d1 at *
      cases o
      all_goals
        simp only [Bool.false_eq_true, if_false, if_true] at hA
        repeat' (first | (with_reducible first | refine aw_seq fun K hK => ?_ | refine aw_region (by kernel_rfl) ?_ | refine aw_condk ?_ | refine aw_block ?_) | ((with_reducible refine ev_aw ?_); first | (refine aw_drawJ (by kernel_rfl) (id := 7) _ _ (by kernel_rfl) (pl_DrF2_64_7U _ (by kernel_rfl)) (fun KJ hJ => ?_)) | (refine aw_drawJ (by kernel_rfl) (id := 9) _ _ (by kernel_rfl) (pl_DrF2_64_9U _ (by kernel_rfl)) (fun KJ hJ => ?_)) | (refine aw_drawW (by kernel_rfl) (id := 13) _ _ (by kernel_rfl) (pl_DrF2_64_13V _ (by kernel_rfl)) (fun KJ hJ => ?_))) | (with_reducible first | refine ru_four ?_ ?_ ?_ ?_ | refine ru_three ?_ ?_ ?_ | refine ru_two ?_ ?_ | refine rv_split ?_ ?_ | refine rv_two ?_ ?_ | refine rp_two ?_ ?_) | ((with_reducible refine evg ?_); simp only [go_sem, St.clean, cleanO, ↓reduceIte, Nat.reduceEqDiff, Nat.reduceBEq, Nat.reduceAdd, Nat.reduceMul, Nat.reduceSub, Nat.reduceLT, Nat.reduceLeDiff]) | (simp (disch := omega) only [wr, drop_at, str_at, int_at, Int.reduceSub, Int.reduceAdd, Int.reduceToNat, Int.toNat_zero, wr]) | ((with_reducible refine ev_call ?_); (first | (refine call_s c1' ?_ ?_ ?_ ?_ ?_; (focus rfl); (focus first | exact trivial | exact And.intro rfl trivial | exact ⟨rfl, rfl, trivial⟩ | exact ⟨rfl, rfl, rfl, trivial⟩); (focus rfl); (focus (simp [-List.map_map, apartO, dropO, killN, obCells, refs_dmap, nofnsD, AV.refs, AV.refsL, AV.nofn, AV.nofns] <;> fail))) | (refine call_s c2' ?_ ?_ ?_ ?_ ?_; (focus rfl); (focus first | exact trivial | exact And.intro rfl trivial | exact ⟨rfl, rfl, trivial⟩ | exact ⟨rfl, rfl, rfl, trivial⟩); (focus rfl); (focus (simp [-List.map_map, apartO, dropO, killN, obCells, refs_dmap, nofnsD, AV.refs, AV.refsL, AV.nofn, AV.nofns] <;> fail))) | (refine call_s c3' ?_ ?_ ?_ ?_ ?_; (focus rfl); (focus first | exact trivial | exact And.intro rfl trivial | exact ⟨rfl, rfl, trivial⟩ | exact ⟨rfl, rfl, rfl, trivial⟩); (focus rfl); (focus (simp [-List.map_map, apartO, dropO, killN, obCells, refs_dmap, nofnsD, AV.refs, AV.refsL, AV.nofn, AV.nofns] <;> fail))) | (refine call_s c4' ?_ ?_ ?_ ?_ ?_; (focus rfl); (focus first | exact trivial | exact And.intro rfl trivial | exact ⟨rfl, rfl, trivial⟩ | exact ⟨rfl, rfl, rfl, trivial⟩); (focus rfl); (focus (simp [-List.map_map, apartO, dropO, killN, obCells, refs_dmap, nofnsD, AV.refs, AV.refsL, AV.nofn, AV.nofns] <;> fail)))); refine k_run ?_) | ((with_reducible refine ev_guard ?_); (with_reducible first | refine guard_t ?_ ?_ rfl | refine guard_f ?_ ?_ rfl) <;> (intro h; (try simp only [h]); (try simp only [nrm] at h) <;> (try ((with_reducible exfalso); omega)))) | ((with_reducible refine ck_split (fun h => ?_) (fun h => ?_)) <;> (try simp only [nrm] at h) <;> (try ((with_reducible exfalso); omega))) | ((with_reducible refine And.intro ?_ ?_); (first | omega | focus (simp; done) | focus (simp; omega) | focus ((repeat' (with_reducible refine And.intro ?_ ?_)) <;> first | omega | rfl | (simp only [go_sem, refsL_app, refs_dmap] <;> fail) | (simp [refsL_app, refs_dmap, AV.refsL, AV.refs] <;> omega)))) | (with_reducible refine hJ _ (fun K hK => ?_) ?_ <;> clear hJ KJ) | ((with_reducible refine ev_less ?_); (refine ⟨rfl, ?_, ?_⟩ <;> simp only [go_sem, St.clean, cleanO, SubS, SubO, beq_self_eq_true, ↓reduceIte, Nat.reduceEqDiff, Nat.reduceBEq, Nat.reduceAdd, Nat.reduceMul, Nat.reduceSub, Nat.reduceLT, Nat.reduceLeDiff])) | ((with_reducible first | apply hK | (clear hK K; first | apply hK | (clear hK K; first | apply hK | (clear hK K; apply hK)))); clear hK K) | fail)
        refine aw_loopU [7, 8, 9, 14, 15, 18, 19, 20, 21, 22, 23, 24, 25, 26, 27, 28, 29, 30, 31, 32, 33, 34, 35, 36, 37, 38, 39, 40, 41, 42, 43, 44, 45, 46, 47, 48, 49, 50, 51, 52, 53, 54, 55, 56, 57, 58, 59, 60, 61, 62, 63, 64, 65, 66, 67, 68, 69, 70, 71, 72, 73, 74, 75, 76, 77, 78, 79, 80, 81, 82, 83, 84, 85, 86, 87, 88, 89, 90, 91, 92, 93, 94, 95] [6, 14, 15, 18, 19, 20, 21, 22, 23, 24, 25, 26, 27, 28, 29, 30, 31, 32, 33, 34, 35, 36, 37, 38, 39, 40, 41, 47, 62, 63, 72, 73, 84, 90, 5000] (fun s : Nat × TryS => [(7, .d (.int s.1))]) (fun s => [(5000, curO bs s.2.c), (6, perO s.2.p)]) (fun s => s.1 ≤ 3 ∧ tryN bs l (3 - s.1) s.2 = T ∧ okCur (100002 + 20 * l.length + 8 + 4 * s.1) s.2.c ∧ 1500 ≤ s.2.p.born ∧ s.2.p.born ≤ 1520 + 8 * l.length) (fun s => 3 - s.1) (0, A) ⟨by simp, hT, okCur_mono hAok.1 (by omega), hAok.2.1, by have := hAok.2.2.1; simpa using this⟩ ?_ ?_
        · simp only [hA]
          (refine lessW_of [] rfl ?_ <;> simp only [St.sws, St.sw, swS, swO, AV.sw, AV.swL, OB.sw, swp, St.upd, dropS, dropOs, Less, SubS, SubO, look, lookO, List.elem, List.cons_append, List.nil_append, cond_true, cond_false, and_true, true_and, beq_self_eq_true, ↓reduceIte, Nat.reduceEqDiff, Nat.reduceBEq, Nat.reduceAdd, Nat.reduceMul, Nat.reduceSub, Nat.reduceLT, Nat.reduceLeDiff] <;> try simp)
          try exact ⟨rfl, rfl⟩
        · rintro ⟨j, ⟨cc, pp⟩⟩ ⟨f1, f2, f3, f4, f5⟩
          simp only at f1 f2 f3 f4 f5
          simp only [St.upd, dropS, dropOs, List.elem, List.cons_append, List.nil_append, cond_true, cond_false, beq_self_eq_true, ↓reduceIte, Nat.reduceEqDiff, Nat.reduceBEq, Nat.reduceAdd, Nat.reduceMul, Nat.reduceSub, Nat.reduceLT, Nat.reduceLeDiff]
          by_cases hex : j < 3 ∧ 1 < l.length ∧ pp.one = 0
          · obtain ⟨x1, x2, x3⟩ := hex
            obtain ⟨pi, pb, pd, po, pt⟩ := pp
            simp only at x3 f4 f5
            subst x3
            obtain ⟨j', hj'⟩ : ∃ j', 3 - j = j' + 1 := ⟨2 - j, by omega⟩
            rw [hj', htry] at f2
            have r1 := pickV_le hb (n := l.length) f3.1
            have r2 := r1.2 (by omega)
            have s1 := okCur_pick (bs := bs) (n := l.length) f3
            have r3 := pickV_le hb (n := l.length) s1.1
            have r4 := r3.2 (by omega)
            have s2 := okCur_pick (bs := bs) (n := l.length) s1
            have e5 := pick_at 5000 bs l.length cc hb (okCur_mono f3 (by omega))
            have e6 := pick_at 5000 bs l.length (pickC bs l.length cc) hb (okCur_mono s1 (by omega))
            have hTF : tryF bs l ⟨cc, ⟨pi, pb, pd, 0, pt⟩⟩ = if 1 < l.length ∧ (0 : Int) = 0 then
              if (l.getD (pickV bs l.length cc).toNat PerV.zero).id ≠ (l.getD (pickV bs l.length (pickC bs l.length cc)).toNat PerV.zero).id ∧ mayW l (l.getD (pickV bs l.length cc).toNat PerV.zero).id ⟨pi, pb, pd, 0, pt⟩ = true ∧ mayW l (l.getD (pickV bs l.length (pickC bs l.length cc)).toNat PerV.zero).id ⟨pi, pb, pd, 0, pt⟩ = true then
                ⟨pickC bs l.length (pickC bs l.length cc), ⟨pi, pb, pd, (l.getD (pickV bs l.length cc).toNat PerV.zero).id, (l.getD (pickV bs l.length (pickC bs l.length cc)).toNat PerV.zero).id⟩⟩
              else ⟨pickC bs l.length (pickC bs l.length cc), ⟨pi, pb, pd, 0, pt⟩⟩
              else ⟨cc, ⟨pi, pb, pd, 0, pt⟩⟩ := rfl
            rw [if_pos ⟨x2, rfl⟩] at hTF
            generalize pickV bs l.length (pickC bs l.length cc) = w2 at *
            generalize pickC bs l.length (pickC bs l.length cc) = cc2 at *
            generalize pickV bs l.length cc = w1 at *
            generalize pickC bs l.length cc = cc1 at *
            obtain ⟨m1, rfl⟩ := Int.eq_ofNat_of_zero_le r1.1
            obtain ⟨m2, rfl⟩ := Int.eq_ofNat_of_zero_le r3.1
            rw [Int.toNat_natCast, Int.toNat_natCast] at hTF
            have hm1 : m1 < l.length := by omega
            have hm2 : m2 < l.length := by omega
            have e7 := l18Parent_fn (W := w15) (fun _ => rfl) l (l.getD m1 PerV.zero).id ⟨pi, pb, pd, 0, pt⟩ (by omega) (by simp only; omega)
            have e8 := l18Parent_fn (W := w15) (fun _ => rfl) l (l.getD m2 PerV.zero).id ⟨pi, pb, pd, 0, pt⟩ (by omega) (by simp only; omega)
            rw [show mayG (parX w15) l (l.getD m1 PerV.zero).id ⟨pi, pb, pd, 0, pt⟩ = mayW l (l.getD m1 PerV.zero).id ⟨pi, pb, pd, 0, pt⟩ from rfl, famD, ← perC_raw l] at e7
            rw [show mayG (parX w15) l (l.getD m2 PerV.zero).id ⟨pi, pb, pd, 0, pt⟩ = mayW l (l.getD m2 PerV.zero).id ⟨pi, pb, pd, 0, pt⟩ from rfl, famD, ← perC_raw l] at e8
            have h00 := fun h => per_get0 (l := l) (i := m1) h
            generalize mayW l (l.getD m1 PerV.zero).id ⟨pi, pb, pd, 0, pt⟩ = y1 at *
            generalize mayW l (l.getD m2 PerV.zero).id ⟨pi, pb, pd, 0, pt⟩ = y2 at *
            generalize tryF bs l ⟨cc, ⟨pi, pb, pd, 0, pt⟩⟩ = nx at *
            repeat' (first | (with_reducible first | refine aw_seq fun K hK => ?_ | refine aw_region (by kernel_rfl) ?_ | refine aw_condk ?_ | refine aw_block ?_) | ((with_reducible refine ev_aw ?_); first | (refine aw_drawJ (by kernel_rfl) (id := 7) _ _ (by kernel_rfl) (pl_DrF2_64_7U _ (by kernel_rfl)) (fun KJ hJ => ?_)) | (refine aw_drawJ (by kernel_rfl) (id := 9) _ _ (by kernel_rfl) (pl_DrF2_64_9U _ (by kernel_rfl)) (fun KJ hJ => ?_)) | (refine aw_drawW (by kernel_rfl) (id := 13) _ _ (by kernel_rfl) (pl_DrF2_64_13V _ (by kernel_rfl)) (fun KJ hJ => ?_))) | (with_reducible first | refine ru_four ?_ ?_ ?_ ?_ | refine ru_three ?_ ?_ ?_ | refine ru_two ?_ ?_ | refine rv_split ?_ ?_ | refine rv_two ?_ ?_ | refine rp_two ?_ ?_) | ((with_reducible refine evg ?_); simp only [go_sem, St.clean, cleanO, ↓reduceIte, Nat.reduceEqDiff, Nat.reduceBEq, Nat.reduceAdd, Nat.reduceMul, Nat.reduceSub, Nat.reduceLT, Nat.reduceLeDiff]) | (simp (disch := omega) only [wr, drop_at, str_at, int_at, Int.reduceSub, Int.reduceAdd, Int.reduceToNat, Int.toNat_zero, per_at, per_get0, wr]) | ((with_reducible refine ev_call ?_); (first | (refine call_s e5 ?_ ?_ ?_ ?_ ?_; (focus rfl); (focus first | exact trivial | exact And.intro rfl trivial | exact ⟨rfl, rfl, trivial⟩ | exact ⟨rfl, rfl, rfl, trivial⟩); (focus rfl); (focus (simp [-List.map_map, apartO, dropO, killN, obCells, refs_dmap, nofnsD, AV.refs, AV.refsL, AV.nofn, AV.nofns] <;> fail))) | (refine call_s e6 ?_ ?_ ?_ ?_ ?_; (focus rfl); (focus first | exact trivial | exact And.intro rfl trivial | exact ⟨rfl, rfl, trivial⟩ | exact ⟨rfl, rfl, rfl, trivial⟩); (focus rfl); (focus (simp [-List.map_map, apartO, dropO, killN, obCells, refs_dmap, nofnsD, AV.refs, AV.refsL, AV.nofn, AV.nofns] <;> fail))) | (refine call_fn e7 rfl ?_) | (refine call_fn e8 rfl ?_)); refine k_run ?_) | ((with_reducible refine ev_guard ?_); (with_reducible first | refine guard_t ?_ ?_ rfl | refine guard_f ?_ ?_ rfl) <;> (intro h; (try simp only [h]); (try simp only [nrm] at h) <;> (try ((with_reducible exfalso); omega)))) | ((with_reducible refine ck_split (fun h => ?_) (fun h => ?_)) <;> (try simp only [nrm] at h) <;> (try ((with_reducible exfalso); omega))) | ((with_reducible refine And.intro ?_ ?_); (first | omega | focus (simp; done) | focus (simp; omega) | focus ((repeat' (with_reducible refine And.intro ?_ ?_)) <;> first | omega | rfl | (simp only [go_sem, refsL_app, refs_dmap] <;> fail) | (simp [refsL_app, refs_dmap, AV.refsL, AV.refs] <;> omega)))) | (with_reducible refine hJ _ (fun K hK => ?_) ?_ <;> clear hJ KJ) | ((with_reducible refine ev_less ?_); (refine ⟨rfl, ?_, ?_⟩ <;> simp only [go_sem, St.clean, cleanO, SubS, SubO, beq_self_eq_true, ↓reduceIte, Nat.reduceEqDiff, Nat.reduceBEq, Nat.reduceAdd, Nat.reduceMul, Nat.reduceSub, Nat.reduceLT, Nat.reduceLeDiff])) | ((with_reducible first | apply hK | (clear hK K; first | apply hK | (clear hK K; first | apply hK | (clear hK K; apply hK)))); clear hK K) | fail)
            all_goals (try omega)
            all_goals
              by_cases hc : (l.getD m1 PerV.zero).id ≠ (l.getD m2 PerV.zero).id ∧ y1 = true ∧ y2 = true
            all_goals first
              | (rw [if_pos hc] at hTF
                 subst hTF
                 refine ⟨(j + 1, _), ⟨by simp only; omega, (by simp only; rw [show 3 - (j + 1) = j' from by omega]; exact f2), okCur_mono s2 (by simp only; omega), f4, f5⟩, by simp only; omega, ?_⟩
                 (refine lessW_of [] rfl ?_ <;> simp only [St.sws, St.sw, swS, swO, AV.sw, AV.swL, OB.sw, swp, St.upd, dropS, dropOs, Less, SubS, SubO, look, lookO, List.elem, List.cons_append, List.nil_append, cond_true, cond_false, and_true, true_and, beq_self_eq_true, ↓reduceIte, Nat.reduceEqDiff, Nat.reduceBEq, Nat.reduceAdd, Nat.reduceMul, Nat.reduceSub, Nat.reduceLT, Nat.reduceLeDiff] <;> try simp)
                 done)
              | (rw [if_neg hc] at hTF
                 subst hTF
                 refine ⟨(j + 1, _), ⟨by simp only; omega, (by simp only; rw [show 3 - (j + 1) = j' from by omega]; exact f2), okCur_mono s2 (by simp only; omega), f4, f5⟩, by simp only; omega, ?_⟩
                 (refine lessW_of [] rfl ?_ <;> simp only [St.sws, St.sw, swS, swO, AV.sw, AV.swL, OB.sw, swp, St.upd, dropS, dropOs, Less, SubS, SubO, look, lookO, List.elem, List.cons_append, List.nil_append, cond_true, cond_false, and_true, true_and, beq_self_eq_true, ↓reduceIte, Nat.reduceEqDiff, Nat.reduceBEq, Nat.reduceAdd, Nat.reduceMul, Nat.reduceSub, Nat.reduceLT, Nat.reduceLeDiff] <;> try simp)
                 done)
              | ((with_reducible exfalso)
                 first
                   | exact absurd trivial (by assumption)
                   | exact hc.1 (by assumption)
                   | exact absurd (hc.2.1.symm.trans (by assumption)) (by decide)
                   | exact absurd (hc.2.2.symm.trans (by assumption)) (by decide)
                   | exact absurd hc.2.1 (by assumption)
                   | exact absurd hc.2.2 (by assumption)
                   | exact hc ⟨by assumption, by assumption, by assumption⟩)
          · have hT2 : (⟨cc, pp⟩ : TryS) = T := by
              by_cases hj : j < 3
              · rw [← f2, tryN_id (fun h => hex ⟨hj, h.1, h.2⟩)]
              · rw [← f2, show 3 - j = 0 by omega]
                rfl
            subst hT2
            repeat' (first | (with_reducible first | refine aw_seq fun K hK => ?_ | refine aw_region (by kernel_rfl) ?_ | refine aw_condk ?_ | refine aw_block ?_) | ((with_reducible refine ev_aw ?_); first | (refine aw_drawJ (by kernel_rfl) (id := 7) _ _ (by kernel_rfl) (pl_DrF2_64_7U _ (by kernel_rfl)) (fun KJ hJ => ?_)) | (refine aw_drawJ (by kernel_rfl) (id := 9) _ _ (by kernel_rfl) (pl_DrF2_64_9U _ (by kernel_rfl)) (fun KJ hJ => ?_)) | (refine aw_drawW (by kernel_rfl) (id := 13) _ _ (by kernel_rfl) (pl_DrF2_64_13V _ (by kernel_rfl)) (fun KJ hJ => ?_))) | (with_reducible first | refine ru_four ?_ ?_ ?_ ?_ | refine ru_three ?_ ?_ ?_ | refine ru_two ?_ ?_ | refine rv_split ?_ ?_ | refine rv_two ?_ ?_ | refine rp_two ?_ ?_) | ((with_reducible refine evg ?_); simp only [go_sem, St.clean, cleanO, ↓reduceIte, Nat.reduceEqDiff, Nat.reduceBEq, Nat.reduceAdd, Nat.reduceMul, Nat.reduceSub, Nat.reduceLT, Nat.reduceLeDiff]) | (simp (disch := omega) only [wr, drop_at, str_at, int_at, Int.reduceSub, Int.reduceAdd, Int.reduceToNat, Int.toNat_zero, ints_all1, perC_all, wr]) | ((with_reducible refine ev_guard ?_); (with_reducible first | refine guard_t ?_ ?_ rfl | refine guard_f ?_ ?_ rfl) <;> (intro h; (try simp only [h]); (try simp only [nrm] at h) <;> (try ((with_reducible exfalso); omega)))) | ((with_reducible refine ck_split (fun h => ?_) (fun h => ?_)) <;> (try simp only [nrm] at h) <;> (try ((with_reducible exfalso); omega))) | ((with_reducible refine And.intro ?_ ?_); (first | omega | focus (simp; done) | focus (simp; omega) | focus ((repeat' (with_reducible refine And.intro ?_ ?_)) <;> first | omega | rfl | (simp only [go_sem, refsL_app, refs_dmap] <;> fail) | (simp [refsL_app, refs_dmap, AV.refsL, AV.refs] <;> omega)))) | (with_reducible refine hJ _ (fun K hK => ?_) ?_ <;> clear hJ KJ) | ((with_reducible refine ev_less ?_); (refine ⟨rfl, ?_, ?_⟩ <;> simp only [go_sem, St.clean, cleanO, SubS, SubO, beq_self_eq_true, ↓reduceIte, Nat.reduceEqDiff, Nat.reduceBEq, Nat.reduceAdd, Nat.reduceMul, Nat.reduceSub, Nat.reduceLT, Nat.reduceLeDiff])) | ((with_reducible first | apply hK | (clear hK K; first | apply hK | (clear hK K; first | apply hK | (clear hK K; apply hK)))); clear hK K) | fail)
            all_goals
              refine ⟨(k, ⟨cc, l ++ [pp], id + 1 + v1⟩), ⟨g1, by simp; omega, okCur_mono hTok.1 (by simp; omega), by simp only; omega, by simp; omega⟩, by simp only; omega, ?_⟩
              have hsn : perC (l ++ [pp]) = perC l ++ [D.int pp.id, D.int pp.born, D.int pp.died, D.int pp.one, D.int pp.two] := by
                rw [perC, recC_app]
                rfl
              rw [← perC_all l] at hsn
              simp only [hsn, List.length_append, List.length_singleton]
              (refine lessW_of [(100, 10)] rfl ?_ <;> simp only [St.sws, St.sw, swS, swO, AV.sw, AV.swL, OB.sw, swp, St.upd, dropS, dropOs, Less, SubS, SubO, look, lookO, List.elem, List.cons_append, List.nil_append, cond_true, cond_false, and_true, true_and, beq_self_eq_true, ↓reduceIte, Nat.reduceEqDiff, Nat.reduceBEq, Nat.reduceAdd, Nat.reduceMul, Nat.reduceSub, Nat.reduceLT, Nat.reduceLeDiff] <;> try simp)
              all_goals (first | rfl | omega | (simp; done))

end Go.Proofs.YtdeobicgildamaaGreatDoor
