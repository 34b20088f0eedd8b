/- ParseMarks: both walks and the law. -/
import Derived.Test.YtdeobicgildamaaGreatDoorMkX
import Derived.Test.YtdeobicgildamaaGreatDoorPCode
import Derived.Test.YtdeobicgildamaaGreatDoorIdx
import Derived.WalkKit
import Derived.WalkSpells
import Derived.KernelRfl
namespace Go.Proofs.YtdeobicgildamaaGreatDoor
open Go.RowKit
set_option linter.unusedVariables false
set_option linter.unusedSimpArgs false

attribute [local go_sem] strs intL mkWords

attribute [local simp] refs_dmap ints_plain ints_all ints_all1 ints_plain_take

theorem splT_le (s sep : ByteArray) (h : 1 ≤ sep.size) : (splT s sep).length ≤ s.size + 2 := by
  have h1 : (splT s sep).length = Lib.countB s sep + 1 := splT_len h
  have h2 : Lib.countB s sep ≤ s.data.toList.length + 1 := Lib.count_le _ _
  have := ba_size s
  omega

theorem mkOne_in (w : ByteArray) : 0 ≤ mkOne w ∧ mkOne w ≤ 7 := by
  have := idxB_in (trimA w) mkWords
  have h7 : mkWords.length = 7 := rfl
  unfold mkOne
  omega

set_option maxRecDepth 100000 in
set_option maxHeartbeats 4000000 in
theorem implPm_fn (s : ByteArray) (hs : s.size ≤ 1048576) : FnD Tryz.prog 7 [.str s] (pmR s) := by
  have hnil : leD (.tu [.v (.slice none 0 0), .bool false]) (.tu [intL [], .bool false]) := leD_tu (lesD_cons leD_nil (lesD_refl _))
  by_cases h0 : s = noM
  · have hR : pmR s = .tu [intL [], .bool true] := by rw [pmR, pmV, if_pos h0]
    rw [hR]
    have hd : decide (s = ⟨#[110, 111, 32, 109, 97, 114, 107]⟩) = true := decide_eq_true h0
    refine fn_go Tryz.func7 rfl rfl Tryz.ntmps7 Tryz.results7 (by simp only [slotsOf, argAV, List.map_cons, List.map_nil, Nat.reduceAdd]; rfl) (by simp) ?_
    repeat' (first | (with_reducible first | refine aw_seq fun K hK => ?_ | refine aw_region (by kernel_rfl) ?_ | refine aw_condk ?_ | refine aw_block ?_) | ((with_reducible refine evg ?_); simp only [go_sem, ↓reduceIte, Nat.reduceEqDiff, Nat.reduceBEq, Nat.reduceAdd, Nat.reduceMul, Nat.reduceSub, Nat.reduceLT, Nat.reduceLeDiff]) | (simp (disch := omega) only [wr, drop_at, str_at, int_at, Int.reduceSub, Int.reduceAdd, Int.reduceToNat, Int.toNat_zero, hd, wr]) | ((with_reducible refine ev_guard ?_); (with_reducible first | refine guard_t ?_ ?_ rfl | refine guard_f ?_ ?_ rfl) <;> (intro h; (try simp only [h]); (try simp only [nrm] at h) <;> (try ((with_reducible exfalso); omega)))) | ((with_reducible refine ck_split (fun h => ?_) (fun h => ?_)) <;> (try simp only [nrm] at h) <;> (try ((with_reducible exfalso); omega))) | ((with_reducible refine And.intro ?_ ?_); (first | omega | focus (simp; done) | focus (simp; omega) | focus ((repeat' (with_reducible refine And.intro ?_ ?_)) <;> first | omega | rfl | (simp only [go_sem, refsL_app, refs_dmap] <;> fail) | (simp [refsL_app, refs_dmap, AV.refsL, AV.refs] <;> omega)))) | ((with_reducible first | apply hK | (clear hK K; first | apply hK | (clear hK K; first | apply hK | (clear hK K; apply hK)))); clear hK K) | fail)
    all_goals first
      | contradiction
      | exact absurd trivial h
      | skip
    all_goals (first | refine res_tmp rfl (by simp [D.plain, plains]) (by simp) ?_ | refine res_at rfl (by simp [D.plain, plains]) (by simp) ?_ | refine res_two rfl (by simp [D.plain, plains]) (by simp) ?_ | refine res_three rfl (by simp [D.plain, plains]) (by simp) ?_ | skip)
    all_goals rfl
  · have hd : decide (s = ⟨#[110, 111, 32, 109, 97, 114, 107]⟩) = false := decide_eq_false h0
    by_cases h2 : 200 < s.size
    · have hR : pmR s = .tu [intL [], .bool false] := by rw [pmR, pmV_long h2]
      rw [hR]
      refine fnd_le ?_ hnil
      refine fn_go Tryz.func7 rfl rfl Tryz.ntmps7 Tryz.results7 (by simp only [slotsOf, argAV, List.map_cons, List.map_nil, Nat.reduceAdd]; rfl) (by simp) ?_
      repeat' (first | (with_reducible first | refine aw_seq fun K hK => ?_ | refine aw_region (by kernel_rfl) ?_ | refine aw_condk ?_ | refine aw_block ?_) | ((with_reducible refine evg ?_); simp only [go_sem, ↓reduceIte, Nat.reduceEqDiff, Nat.reduceBEq, Nat.reduceAdd, Nat.reduceMul, Nat.reduceSub, Nat.reduceLT, Nat.reduceLeDiff]) | (simp (disch := omega) only [wr, drop_at, str_at, int_at, Int.reduceSub, Int.reduceAdd, Int.reduceToNat, Int.toNat_zero, hd, wr]) | ((with_reducible refine ev_guard ?_); (with_reducible first | refine guard_t ?_ ?_ rfl | refine guard_f ?_ ?_ rfl) <;> (intro h; (try simp only [h]); (try simp only [nrm] at h) <;> (try ((with_reducible exfalso); omega)))) | ((with_reducible refine ck_split (fun h => ?_) (fun h => ?_)) <;> (try simp only [nrm] at h) <;> (try ((with_reducible exfalso); omega))) | ((with_reducible refine And.intro ?_ ?_); (first | omega | focus (simp; done) | focus (simp; omega) | focus ((repeat' (with_reducible refine And.intro ?_ ?_)) <;> first | omega | rfl | (simp only [go_sem, refsL_app, refs_dmap] <;> fail) | (simp [refsL_app, refs_dmap, AV.refsL, AV.refs] <;> omega)))) | ((with_reducible first | apply hK | (clear hK K; first | apply hK | (clear hK K; first | apply hK | (clear hK K; apply hK)))); clear hK K) | fail)
      all_goals first
        | contradiction
        | exact absurd trivial h
        | exact absurd (by omega) h
        | skip
      all_goals (first | refine res_tmp rfl (by simp [D.plain, plains]) (by simp) ?_ | refine res_at rfl (by simp [D.plain, plains]) (by simp) ?_ | refine res_two rfl (by simp [D.plain, plains]) (by simp) ?_ | refine res_three rfl (by simp [D.plain, plains]) (by simp) ?_ | skip)
      all_goals rfl
    · have e1 := split_fn s onB (by omega) (by decide)
      have hle := splT_le s onB (by decide)
      have hM : mkC s = ((splT s onB).map mkOne).reverse := rfl
      have hyes : okMarks (mkC s) = true → marksB (mkC s) = s → pmR s = .tu [intL (mkC s), .bool true] := fun h1 h2 => by
        rw [pmR, pmV, if_neg h0, if_pos ⟨h1, h2⟩]
      have hno : ¬ (okMarks (mkC s) = true ∧ marksB (mkC s) = s) → pmR s = .tu [intL [], .bool false] := fun h => by
        rw [pmR, pmV, if_neg h0, if_neg h]
      have e6 := implMarks_fn (mkC s) (by rw [hM]; simp; omega)
      rw [← ints_raw (mkC s)] at e6
      have hon : ({ data := #[32, 111, 110, 32] } : ByteArray) = onB := rfl
      have hwalk : ∀ R, FnD Tryz.prog 6 [D.ls 1 (mkC s).length ((((mkC s).map D.int).drop 0).take ((mkC s).length * 1))] R → (∃ T ok, R = .tu [.str T, .bool ok] ∧ ((ok = true ∧ T = s → pmR s = .tu [intL (mkC s), .bool true]) ∧ (¬ (ok = true ∧ T = s) → pmR s = .tu [intL [], .bool false]))) → FnD Tryz.prog 7 [.str s] (pmR s) := by
        intro R hm hRR
        obtain ⟨T, ok, rfl, hyes, hno⟩ := hRR
        clear e6
        obtain ⟨R, hR⟩ : ∃ R, pmR s = R := ⟨_, rfl⟩
        rw [hR] at hyes hno ⊢
        clear hR
        have hPl : (mkC s).length = (splT s onB).length := by rw [hM]; simp
        rw [hPl, hM] at hm
        rw [hM] at hyes
        clear hM hPl
        generalize splT s onB = P at *
        obtain ⟨R2, hle2, hy, hn⟩ : ∃ R2, leD R2 R ∧ (ok = true ∧ T = s → R2 = .tu [intL ((P.map mkOne).reverse), .bool true]) ∧ (¬ (ok = true ∧ T = s) → R2 = .tu [.v (.slice none 0 0), .bool false]) := by
          by_cases hk : ok = true ∧ T = s
          · exact ⟨_, leD_refl _, fun _ => hyes hk, fun h => absurd hk h⟩
          · refine ⟨.tu [.v (.slice none 0 0), .bool false], ?_, fun h => absurd h hk, fun _ => rfl⟩
            rw [hno hk]
            exact hnil
        refine fnd_le ?_ hle2
        clear hyes hno hle2 hnil
        refine fn_go Tryz.func7 rfl rfl Tryz.ntmps7 Tryz.results7 (by simp only [slotsOf, argAV, List.map_cons, List.map_nil, Nat.reduceAdd]; rfl) (by simp) ?_
        repeat' (first | (with_reducible first | refine aw_seq fun K hK => ?_ | refine aw_region (by kernel_rfl) ?_ | refine aw_condk ?_ | refine aw_block ?_) | ((with_reducible refine evg ?_); simp only [go_sem, ↓reduceIte, Nat.reduceEqDiff, Nat.reduceBEq, Nat.reduceAdd, Nat.reduceMul, Nat.reduceSub, Nat.reduceLT, Nat.reduceLeDiff]) | (simp (disch := omega) only [wr, drop_at, str_at, int_at, Int.reduceSub, Int.reduceAdd, Int.reduceToNat, Int.toNat_zero, hd, hon, wr]) | ((with_reducible refine ev_call ?_); (first | (refine call_fn e1 rfl ?_)); refine k_run ?_) | ((with_reducible refine ev_guard ?_); (with_reducible first | refine guard_t ?_ ?_ rfl | refine guard_f ?_ ?_ rfl) <;> (intro h; (try simp only [h]); (try simp only [nrm] at h) <;> (try ((with_reducible exfalso); omega)))) | ((with_reducible refine ck_split (fun h => ?_) (fun h => ?_)) <;> (try simp only [nrm] at h) <;> (try ((with_reducible exfalso); omega))) | ((with_reducible refine And.intro ?_ ?_); (first | omega | focus (simp; done) | focus (simp; omega) | focus ((repeat' (with_reducible refine And.intro ?_ ?_)) <;> first | omega | rfl | (simp only [go_sem, refsL_app, refs_dmap] <;> fail) | (simp [refsL_app, refs_dmap, AV.refsL, AV.refs] <;> omega)))) | ((with_reducible first | apply hK | (clear hK K; first | apply hK | (clear hK K; first | apply hK | (clear hK K; apply hK)))); clear hK K) | fail)
        all_goals first
          | contradiction
          | exact absurd trivial h
          | exact absurd (by omega) h
          | skip
        refine aw_loopU [4, 6, 15, 19, 20, 21, 22, 23, 24, 25, 26, 27, 28, 29, 30, 31] [15, 23, 25, 26, 28, 30] (fun i : Nat => [(19, .d (.int i)), (4, .bs 30 0 i 1)]) (fun i => [(30, .ds ((((P.take i).map mkOne).reverse).map D.int))]) (fun i => i ≤ P.length) (fun i => P.length - i) 0 (by omega) ?_ ?_
        · (refine lessW_of [(15, 30)] rfl ?_ <;> simp only [St.sws, St.sw, swS, swO, AV.sw, AV.swL, OB.sw, swp, St.upd, dropS, dropOs, Less, SubS, SubO, look, lookO, List.elem, List.cons_append, List.nil_append, cond_true, cond_false, and_true, true_and, beq_self_eq_true, ↓reduceIte, Nat.reduceEqDiff, Nat.reduceBEq, Nat.reduceAdd, Nat.reduceMul, Nat.reduceSub, Nat.reduceLT, Nat.reduceLeDiff] <;> try simp)
        · rintro i g1
          simp only [St.upd, dropS, dropOs, List.elem, List.cons_append, List.nil_append, cond_true, cond_false, beq_self_eq_true, ↓reduceIte, Nat.reduceEqDiff, Nat.reduceBEq, Nat.reduceAdd, Nat.reduceMul, Nat.reduceSub, Nat.reduceLT, Nat.reduceLeDiff]
          by_cases hi : i < P.length
          · have hat := fun d => str_at (l := P) (i := i) (d := d) hi
            have hnx : ((P.take (i + 1)).map mkOne).reverse = mkOne (P.getD i ⟨#[]⟩) :: ((P.take i).map mkOne).reverse := by
              rw [take_next ⟨#[]⟩ hi, List.map_append, List.reverse_append]
              rfl
            have hin := mkOne_in (P.getD i ⟨#[]⟩)
            have e3 := trimPre_fn (P.getD i ⟨#[]⟩) aSp
            have e4 := idxStr_fn mkWords (trimA (P.getD i ⟨#[]⟩)) (by decide)
            have hmo : mkOne (P.getD i ⟨#[]⟩) = idxB (trimA (P.getD i ⟨#[]⟩)) mkWords + 1 := rfl
            rw [show toB (Lib.trimPrefix (P.getD i ⟨#[]⟩).data.toList aSp.data.toList) = trimA (P.getD i ⟨#[]⟩) from rfl] at e3
            generalize idxB (trimA (P.getD i ⟨#[]⟩)) mkWords = v at *
            generalize trimA (P.getD i ⟨#[]⟩) = tw at *
            rw [hmo] at hnx hin
            clear hmo
            generalize P.getD i ⟨#[]⟩ = pw at *
            have hcl : ((((P.take i).map mkOne).reverse).map D.int).length = i := by simp; omega
            have htk : List.take i ((((P.take i).map mkOne).reverse).map D.int) = (((P.take i).map mkOne).reverse).map D.int := List.take_of_length_le (by omega)
            have hap : ({ data := #[97, 32] } : ByteArray) = aSp := rfl
            repeat' (first | (with_reducible first | refine aw_seq fun K hK => ?_ | refine aw_region (by kernel_rfl) ?_ | refine aw_condk ?_ | refine aw_block ?_) | ((with_reducible refine evg ?_); simp only [go_sem, ↓reduceIte, Nat.reduceEqDiff, Nat.reduceBEq, Nat.reduceAdd, Nat.reduceMul, Nat.reduceSub, Nat.reduceLT, Nat.reduceLeDiff]) | (simp (disch := omega) only [wr, drop_at, str_at, int_at, Int.reduceSub, Int.reduceAdd, Int.reduceToNat, Int.toNat_zero, hat, hcl, hap, wr]) | ((with_reducible refine ev_call ?_); (first | (refine call_fn markWords_fn rfl ?_) | (refine call_fn e3 rfl ?_) | (refine call_fn e4 rfl ?_)); refine k_run ?_) | ((with_reducible refine ev_guard ?_); (with_reducible first | refine guard_t ?_ ?_ rfl | refine guard_f ?_ ?_ rfl) <;> (intro h; (try simp only [h]); (try simp only [nrm] at h) <;> (try ((with_reducible exfalso); omega)))) | ((with_reducible refine ck_split (fun h => ?_) (fun h => ?_)) <;> (try simp only [nrm] at h) <;> (try ((with_reducible exfalso); omega))) | ((with_reducible refine And.intro ?_ ?_); (first | omega | focus (simp; done) | focus (simp; omega) | focus ((repeat' (with_reducible refine And.intro ?_ ?_)) <;> first | omega | rfl | (simp only [go_sem, refsL_app, refs_dmap] <;> fail) | (simp [refsL_app, refs_dmap, AV.refsL, AV.refs] <;> omega)))) | ((with_reducible first | apply hK | (clear hK K; first | apply hK | (clear hK K; first | apply hK | (clear hK K; apply hK)))); clear hK K) | fail)
            all_goals
              refine ⟨i + 1, by omega, by omega, ?_⟩
              rw [hnx]
              (refine lessW_of [] rfl ?_ <;> simp only [St.sws, St.sw, swS, swO, AV.sw, AV.swL, OB.sw, swp, St.upd, dropS, dropOs, Less, SubS, SubO, look, lookO, List.elem, List.cons_append, List.nil_append, cond_true, cond_false, and_true, true_and, beq_self_eq_true, ↓reduceIte, Nat.reduceEqDiff, Nat.reduceBEq, Nat.reduceAdd, Nat.reduceMul, Nat.reduceSub, Nat.reduceLT, Nat.reduceLeDiff] <;> try simp)
              refine ⟨by omega, ?_⟩
              rw [List.take_of_length_le (by simp; omega)]
          · have e : i = P.length := by omega
            subst e
            rw [List.take_length]
            have hLl : ((P.map mkOne).reverse).length = P.length := by simp
            clear e1 hle hi g1
            generalize (P.map mkOne).reverse = L at *
            generalize P.length = m at *
            subst hLl
            cases ok
            · have hR2 := hn (by simp)
              clear hy hn
              repeat' (first | (with_reducible first | refine aw_seq fun K hK => ?_ | refine aw_region (by kernel_rfl) ?_ | refine aw_condk ?_ | refine aw_block ?_) | ((with_reducible refine evg ?_); simp only [go_sem, ↓reduceIte, Nat.reduceEqDiff, Nat.reduceBEq, Nat.reduceAdd, Nat.reduceMul, Nat.reduceSub, Nat.reduceLT, Nat.reduceLeDiff]) | (simp (disch := omega) only [wr, drop_at, str_at, int_at, Int.reduceSub, Int.reduceAdd, Int.reduceToNat, Int.toNat_zero, hon, wr]) | ((with_reducible refine ev_call ?_); (first | (refine call_fn hm rfl ?_)); refine k_run ?_) | ((with_reducible refine ev_guard ?_); (with_reducible first | refine guard_t ?_ ?_ rfl | refine guard_f ?_ ?_ rfl) <;> (intro h; (try simp only [h]); (try simp only [nrm] at h) <;> (try ((with_reducible exfalso); omega)))) | ((with_reducible refine ck_split (fun h => ?_) (fun h => ?_)) <;> (try simp only [nrm] at h) <;> (try ((with_reducible exfalso); omega))) | ((with_reducible refine And.intro ?_ ?_); (first | omega | focus (simp; done) | focus (simp; omega) | focus ((repeat' (with_reducible refine And.intro ?_ ?_)) <;> first | omega | rfl | (simp only [go_sem, refsL_app, refs_dmap] <;> fail) | (simp [refsL_app, refs_dmap, AV.refsL, AV.refs] <;> omega)))) | ((with_reducible first | apply hK | (clear hK K; first | apply hK | (clear hK K; first | apply hK | (clear hK K; apply hK)))); clear hK K) | fail)
              all_goals first
                | contradiction
                | exact absurd trivial h
                | skip
              all_goals
                (first | refine res_tmp rfl (by simp [D.plain, plains]) (by simp) ?_ | refine res_at rfl (by simp [D.plain, plains]) (by simp) ?_ | refine res_two rfl (by simp [D.plain, plains]) (by simp) ?_ | refine res_three rfl (by simp [D.plain, plains]) (by simp) ?_)
                rw [hR2]
            · by_cases hT : T = s
              · have hR2 := hy ⟨rfl, hT⟩
                clear hy hn
                subst hT
                have hdd : decide (T = T) = true := decide_eq_true rfl
                repeat' (first | (with_reducible first | refine aw_seq fun K hK => ?_ | refine aw_region (by kernel_rfl) ?_ | refine aw_condk ?_ | refine aw_block ?_) | ((with_reducible refine evg ?_); simp only [go_sem, ↓reduceIte, Nat.reduceEqDiff, Nat.reduceBEq, Nat.reduceAdd, Nat.reduceMul, Nat.reduceSub, Nat.reduceLT, Nat.reduceLeDiff]) | (simp (disch := omega) only [wr, drop_at, str_at, int_at, Int.reduceSub, Int.reduceAdd, Int.reduceToNat, Int.toNat_zero, hdd, wr]) | ((with_reducible refine ev_call ?_); (first | (refine call_fn hm rfl ?_)); refine k_run ?_) | ((with_reducible refine ev_guard ?_); (with_reducible first | refine guard_t ?_ ?_ rfl | refine guard_f ?_ ?_ rfl) <;> (intro h; (try simp only [h]); (try simp only [nrm] at h) <;> (try ((with_reducible exfalso); omega)))) | ((with_reducible refine ck_split (fun h => ?_) (fun h => ?_)) <;> (try simp only [nrm] at h) <;> (try ((with_reducible exfalso); omega))) | ((with_reducible refine And.intro ?_ ?_); (first | omega | focus (simp; done) | focus (simp; omega) | focus ((repeat' (with_reducible refine And.intro ?_ ?_)) <;> first | omega | rfl | (simp only [go_sem, refsL_app, refs_dmap] <;> fail) | (simp [refsL_app, refs_dmap, AV.refsL, AV.refs] <;> omega)))) | ((with_reducible first | apply hK | (clear hK K; first | apply hK | (clear hK K; first | apply hK | (clear hK K; apply hK)))); clear hK K) | fail)
                all_goals first
                  | contradiction
                  | exact absurd trivial h
                  | skip
                all_goals
                  (first | refine res_tmp rfl (by simp [D.plain, plains]) (by simp) ?_ | refine res_at rfl (by simp [D.plain, plains]) (by simp) ?_ | refine res_two rfl (by simp [D.plain, plains]) (by simp) ?_ | refine res_three rfl (by simp [D.plain, plains]) (by simp) ?_)
                  rw [hR2, ints_raw L]
              · have hR2 := hn (fun h => hT h.2)
                clear hy hn
                have hdd : decide (T = s) = false := decide_eq_false hT
                repeat' (first | (with_reducible first | refine aw_seq fun K hK => ?_ | refine aw_region (by kernel_rfl) ?_ | refine aw_condk ?_ | refine aw_block ?_) | ((with_reducible refine evg ?_); simp only [go_sem, ↓reduceIte, Nat.reduceEqDiff, Nat.reduceBEq, Nat.reduceAdd, Nat.reduceMul, Nat.reduceSub, Nat.reduceLT, Nat.reduceLeDiff]) | (simp (disch := omega) only [wr, drop_at, str_at, int_at, Int.reduceSub, Int.reduceAdd, Int.reduceToNat, Int.toNat_zero, hdd, wr]) | ((with_reducible refine ev_call ?_); (first | (refine call_fn hm rfl ?_)); refine k_run ?_) | ((with_reducible refine ev_guard ?_); (with_reducible first | refine guard_t ?_ ?_ rfl | refine guard_f ?_ ?_ rfl) <;> (intro h; (try simp only [h]); (try simp only [nrm] at h) <;> (try ((with_reducible exfalso); omega)))) | ((with_reducible refine ck_split (fun h => ?_) (fun h => ?_)) <;> (try simp only [nrm] at h) <;> (try ((with_reducible exfalso); omega))) | ((with_reducible refine And.intro ?_ ?_); (first | omega | focus (simp; done) | focus (simp; omega) | focus ((repeat' (with_reducible refine And.intro ?_ ?_)) <;> first | omega | rfl | (simp only [go_sem, refsL_app, refs_dmap] <;> fail) | (simp [refsL_app, refs_dmap, AV.refsL, AV.refs] <;> omega)))) | ((with_reducible first | apply hK | (clear hK K; first | apply hK | (clear hK K; first | apply hK | (clear hK K; apply hK)))); clear hK K) | fail)
                all_goals first
                  | contradiction
                  | exact absurd trivial h
                  | skip
                all_goals
                  (first | refine res_tmp rfl (by simp [D.plain, plains]) (by simp) ?_ | refine res_at rfl (by simp [D.plain, plains]) (by simp) ?_ | refine res_two rfl (by simp [D.plain, plains]) (by simp) ?_ | refine res_three rfl (by simp [D.plain, plains]) (by simp) ?_)
                  rw [hR2]
      refine hwalk _ e6 ?_
      unfold mtxR
      cases g : okMarks (mkC s)
      · exact ⟨_, _, rfl, fun h => absurd h.1 (by simp), fun _ => hno (by rw [g]; simp)⟩
      · exact ⟨_, _, rfl, fun h => hyes g h.2, fun h => hno (fun q => h ⟨rfl, q.2⟩)⟩

end Go.Proofs.YtdeobicgildamaaGreatDoor
