/- Lemmas for loops over lists of data. -/
import Derived.Test.YtjbifidphckjoaaFlowE
import Derived.WalkKit
import Derived.WalkSpells
namespace Go.Proofs.Ytjbifidphckjoaa
open Go.RowKit
set_option linter.unusedVariables false
set_option linter.unusedSimpArgs false

theorem drop_at {α : Type} (l : List α) (n i : Nat) (d : α) : (l.drop n).getD i d = l.getD (n + i) d := by
 simp [List.getD_eq_getElem?_getD]

theorem map_at {α β : Type} (l : List α) (f : α -> β) (i : Nat) (d : β) (d' : α) (h : i < l.length) : (l.map f).getD i d = f (l.getD i d') := by
 simp [List.getD_eq_getElem?_getD, h]

theorem str_at {l : List ByteArray} {i : Nat} {d : D} (h : i < l.length) : (l.map D.str).getD i d = D.str (l.getD i ⟨#[]⟩) := map_at l D.str i d _ h

theorem int_at {l : List Int} {i : Nat} {d : D} (h : i < l.length) : (l.map D.int).getD i d = D.int (l.getD i 0) := map_at l D.int i d _ h

def EqTo {α : Type} (d : α) (a b : List α) (i : Nat) : Prop := ∀ k, k < i -> a.getD k d = b.getD k d

theorem eqTo_zero {α : Type} {d : α} {a b : List α} : EqTo d a b 0 := fun k h => absurd h (Nat.not_lt_zero k)

theorem eqTo_next {α : Type} {d : α} {a b : List α} {i : Nat} (h : EqTo d a b i) (e : a.getD i d = b.getD i d) : EqTo d a b (i + 1) := fun k hk => by
 by_cases hi : k = i
 · rw [hi]; exact e
 · exact h k (by omega)

theorem eqTo_all {α : Type} {d : α} {a b : List α} {i : Nat} (h : EqTo d a b i) (hl : a.length = b.length) (hi : a.length <= i) : a = b := by
 apply List.ext_getElem hl
 intro k h1 h2
 have := h k (by omega)
 simpa [List.getD_eq_getElem?_getD, h1, h2] using this

theorem getD_mem {α : Type} {l : List α} {i : Nat} (d : α) (h : i < l.length) : l.getD i d ∈ l := by
 simp [List.getD_eq_getElem?_getD, h]

theorem getD_eq {α : Type} {l : List α} {i : Nat} (d : α) (h : i < l.length) : l.getD i d = l[i] := by
 simp [List.getD_eq_getElem?_getD, h]

theorem take_next {α : Type} {l : List α} {i : Nat} (d : α) (h : i < l.length) : l.take (i + 1) = l.take i ++ [l.getD i d] := by
 rw [List.take_succ_eq_append_getElem h, getD_eq d h]

theorem drop_next {α : Type} {l : List α} {i : Nat} (d : α) (h : i < l.length) : l.drop i = l.getD i d :: l.drop (i + 1) := by
 rw [getD_eq d h]; exact List.drop_eq_getElem_cons h

theorem lsq : ((((((∀ (x : St), St.sws [] x = x) /\ (∀ (x : St) (a b : Nat) (r : List (Nat × Nat)), St.sws ((a, b) :: r) x = St.sws r (St.sw a b x))) /\ ((∀ (a b : Nat) (σ : St), St.sw a b σ = { n := St.n σ, sl := swS a b (St.sl σ), ob := swO a b (St.ob σ) }) /\ (∀ (a b : Nat), swS a b [] = []))) /\ (((∀ (a b t : Nat) (x_1 : AV) (r : List (Nat × AV)), swS a b ((t, x_1) :: r) = (t, AV.sw a b x_1) :: swS a b r) /\ (∀ (a b : Nat), swO a b [] = [])) /\ ((∀ (a b s : Nat) (o : OB) (r : List (Nat × OB)), swO a b ((s, o) :: r) = (swp a b s, OB.sw a b o) :: swO a b r) /\ ((∀ (a b s o : Nat), AV.sw a b (AV.bp s o) = AV.bp (swp a b s) o) /\ (∀ (a b s off n k : Nat), AV.sw a b (AV.bs s off n k) = AV.bs (swp a b s) off n k))))) /\ ((((∀ (a b : Nat) (cs : List AV), AV.sw a b (AV.ag cs) = AV.ag (AV.swL a b cs)) /\ (∀ (a b : Nat) (cs : List AV), AV.sw a b (AV.tu cs) = AV.tu (AV.swL a b cs))) /\ ((∀ (a b : Nat) (g : FuncId) (x_1 y : List AV), AV.sw a b (AV.fc g x_1 y) = AV.fc g (AV.swL a b x_1) (AV.swL a b y)) /\ (∀ (a b : Nat) (x_1 : D), AV.sw a b (AV.d x_1) = AV.d x_1))) /\ (((∀ (a b : Nat) (dom : List D -> Prop) (h : List D -> D), AV.sw a b (AV.fn dom h) = AV.fn dom h) /\ (∀ (a b s : Nat) (k : Bool), AV.sw a b (AV.rf s k) = AV.rf (swp a b s) k)) /\ ((∀ (a b : Nat), AV.sw a b AV.un = AV.un) /\ ((∀ (a b : Nat), AV.swL a b [] = []) /\ (∀ (a b : Nat) (x_1 : AV) (r : List AV), AV.swL a b (x_1 :: r) = AV.sw a b x_1 :: AV.swL a b r)))))) /\ (((((∀ (a b : Nat) (cs : List D), OB.sw a b (OB.ds cs) = OB.ds cs) /\ (∀ (a b : Nat) (cs : List AV), OB.sw a b (OB.av cs) = OB.av (AV.swL a b cs))) /\ ((∀ (a b : Nat) (kvs : List (List Int × Value)), OB.sw a b (OB.mp kvs) = OB.mp kvs) /\ (∀ (a b t n : Nat) (seen : List Nat), OB.sw a b (OB.it t n seen) = OB.it (swp a b t) n seen))) /\ (((∀ (a b : Nat), OB.sw a b OB.dead = OB.dead) /\ (∀ (a b s : Nat), swp a b s = if s = a then b else if s = b then a else s)) /\ ((∀ (σ : St) (ws : List Nat) (sl : List (Nat × AV)) (os : List Nat) (ob : List (Nat × OB)), St.upd σ ws sl os ob = { n := St.n σ, sl := sl ++ dropS ws (St.sl σ), ob := ob ++ dropOs os (St.ob σ) }) /\ ((∀ (ws : List Nat), dropS ws [] = []) /\ (∀ (ws : List Nat) (t : Nat) (x_1 : AV) (r : List (Nat × AV)), dropS ws ((t, x_1) :: r) = bif List.elem t ws then dropS ws r else (t, x_1) :: dropS ws r))))) /\ ((((∀ (ws : List Nat), dropOs ws [] = []) /\ (∀ (ws : List Nat) (s : Nat) (o : OB) (r : List (Nat × OB)), dropOs ws ((s, o) :: r) = bif List.elem s ws then dropOs ws r else (s, o) :: dropOs ws r)) /\ ((∀ (σ τ : St), Less σ τ = (St.n σ = St.n τ /\ SubS (St.sl σ) (St.sl τ) /\ SubO (St.ob σ) (St.ob τ))) /\ (∀ (sl : List (Nat × AV)), SubS sl [] = True))) /\ (((∀ (sl : List (Nat × AV)) (k : Nat) (x_1 : AV) (r : List (Nat × AV)), SubS sl ((k, x_1) :: r) = (look sl k = x_1 /\ SubS sl r)) /\ (∀ (ob : List (Nat × OB)), SubO ob [] = True)) /\ ((∀ (ob : List (Nat × OB)) (k : Nat) (x_1 : OB) (r : List (Nat × OB)), SubO ob ((k, x_1) :: r) = (lookO ob k = some x_1 /\ SubO ob r)) /\ ((∀ (x : Nat), look [] x = AV.un) /\ (∀ (x k : Nat) (x_2 : AV) (r : List (Nat × AV)), look ((k, x_2) :: r) x = if k = x then x_2 else look r x))))))) := (And.intro (And.intro (And.intro (And.intro (And.intro @St.sws.eq_1 @St.sws.eq_2) (And.intro @St.sw.eq_1 @swS.eq_1)) (And.intro (And.intro @swS.eq_2 @swO.eq_1) (And.intro @swO.eq_2 (And.intro @AV.sw.eq_1 @AV.sw.eq_2)))) (And.intro (And.intro (And.intro @AV.sw.eq_3 @AV.sw.eq_4) (And.intro @AV.sw.eq_5 @AV.sw.eq_6)) (And.intro (And.intro @AV.sw.eq_7 @AV.sw.eq_8) (And.intro @AV.sw.eq_9 (And.intro @AV.swL.eq_1 @AV.swL.eq_2))))) (And.intro (And.intro (And.intro (And.intro @OB.sw.eq_1 @OB.sw.eq_2) (And.intro @OB.sw.eq_3 @OB.sw.eq_4)) (And.intro (And.intro @OB.sw.eq_5 @swp.eq_1) (And.intro @St.upd.eq_1 (And.intro @dropS.eq_1 @dropS.eq_2)))) (And.intro (And.intro (And.intro @dropOs.eq_1 @dropOs.eq_2) (And.intro @Less.eq_1 @SubS.eq_1)) (And.intro (And.intro @SubS.eq_2 @SubO.eq_1) (And.intro @SubO.eq_2 (And.intro @look.eq_1 @look.eq_2))))))

theorem dsq : (((∀ {n : Int}, -9223372036854775808 <= n -> n <= 9223372036854775807 -> IntKind.wrap IntKind.i64 n = n) /\ (∀ {α : Type} (l : List α) (n i : Nat) (d : α), List.getD (List.drop n l) i d = List.getD l (n + i) d)) /\ ((∀ {l : List ByteArray} {i : Nat} {d : D}, i < List.length l -> List.getD (List.map D.str l) i d = D.str (List.getD l i { data := #[] })) /\ ((∀ {l : List Int} {i : Nat} {d : D}, i < List.length l -> List.getD (List.map D.int l) i d = D.int (List.getD l i 0)) /\ (Int.toNat 0 = 0)))) := (And.intro (And.intro @wr @drop_at) (And.intro @str_at (And.intro @int_at @Int.toNat_zero)))

theorem slo : (((∀ (x : Nat), slotsOf x [] = []) /\ ((∀ (x : Nat) (c : CV) (cs : List CV), slotsOf x (c :: cs) = (x, argAV c) :: slotsOf (x + 1) cs) /\ (∀ (x_1 : D), argAV (CV.d x_1) = AV.d x_1))) /\ ((∀ (dom : List D -> Prop) (h : List D -> D), argAV (CV.fn dom h) = AV.fn dom h) /\ ((∀ {α : Type} {β : Type} {f : α -> β} {a : α} {l : List α}, List.map f (a :: l) = f a :: List.map f l) /\ (∀ {α : Type} {β : Type} {f : α -> β}, List.map f [] = [])))) := (And.intro (And.intro @slotsOf.eq_1 (And.intro @slotsOf.eq_2 @argAV.eq_1)) (And.intro @argAV.eq_2 (And.intro @List.map_cons.{0, 0} @List.map_nil.{0, 0})))

end Go.Proofs.Ytjbifidphckjoaa
