/- Texts on the way, 5 of 9. -/
import Derived.Test.YtpliecbpcmchaaaGreatDoorJ4
import Derived.Shelf.Strings.Builder1
import Derived.Shelf.Strconv.Itoa3
import Derived.WalkKit
import Derived.BigCall
import Derived.Lib.ItoaLen
import Derived.Lib.AppendIntMem
set_option linter.unusedVariables false
set_option linter.unusedSimpArgs false
namespace Bh
open Go Go.Proofs
def fitE (e : Ent) : Bool := decide ((e.w.size : Int) ≤ 60) && (decide ((e.ph.length : Int) ≤ 60) && smallB e.wt)
def fitB (es : List Ent) (n : Nat) : Bool := !((decide ((es.length : Int) > n) && decide ((es.length : Int) ≤ 1000)) || decide ((es.length : Int) > 1100)) && es.all fitE
theorem fit_call (es : List Ent) (n : Nat) (hl : es.length ≤ 9223372036854775807) (hn : n ≤ 100000) : PCall Tryz.prog 14 [lexV es, .v (.int .i64 (n : Nat))] (.v (.bool (fitB es n))) := by
  refine pcall mixed k14 (by simp) fun H s hw h => ?_
  have h0 : s 0 = .p (.agg [.sl (es.map Ent.V)]) := h 0 _ rfl
  have h1 : s 1 = .p (.v (.int .i64 (n : Nat))) := h 1 _ rfl
  unfold c14
  by_cases hb : ((decide ((es.length : Int) > n) && decide ((es.length : Int) ≤ 1000)) || decide ((es.length : Int) > 1100)) = true
  · have hf : fitB es n = false := by rw [fitB, hb]; rfl
    rw [hf]
    cases d1 : decide ((es.length : Int) > n) <;> cases d2 : decide ((es.length : Int) ≤ 1000) <;> cases d3 : decide ((es.length : Int) > 1100) <;> rw [d1, d2, d3] at hb <;> first | (exact absurd hb (by decide)) | (simp only [go_sem, h0, h1, d1, d2, d3, List.getElem?_cons_zero, List.getElem?_cons_succ, List.length_map, ↓reduceIte, Nat.reduceEqDiff, Nat.reduceLT]; exact ⟨.refl _, fun i o h => h⟩)
  · have hbf : ((decide ((es.length : Int) > n) && decide ((es.length : Int) ≤ 1000)) || decide ((es.length : Int) > 1100)) = false := by simpa using hb
    have hf : fitB es n = es.all fitE := by rw [fitB, hbf]; rfl
    rw [hf]
    suffices hloop : ∀ s' : AS, s' 2 = .p (.ref (.agg [.sl (es.map Ent.V)])) → s' 5 = .p (.v (.int .i64 ((0 : Nat) : Nat))) → awp Tryz.prog noY 52 c14l0.loop s' H (blkQ 0 (thenQ (kawp Tryz.prog noY 52 ((AC.ops [AI.op { dst := some 4, guard := none, k := AK.mv, xs := [Operand.const (Value.bool true)] }]).seq AC.ret) (postP [(4, none)] H (PV.v (Value.bool (es.all fitE))))) (postP [(4, none)] H (PV.v (Value.bool (es.all fitE)))))) by
      cases d1 : decide ((es.length : Int) > n) <;> cases d2 : decide ((es.length : Int) ≤ 1000) <;> cases d3 : decide ((es.length : Int) > 1100) <;> rw [d1, d2, d3] at hbf <;> first | (exact absurd hbf (by decide)) | (simp only [go_sem, h0, h1, d1, d2, d3, List.getElem?_cons_zero, List.getElem?_cons_succ, List.length_map, ↓reduceIte, Nat.reduceEqDiff, Nat.reduceLT]; refine hloop _ ?_ ?_ <;> simp only [go_sem, ↓reduceIte, Nat.reduceEqDiff] <;> rfl)
    intro s0 z2 z5
    refine awp_loop (fun k s H' => ∃ i, i + k = es.length ∧ H.nx ≤ H'.nx ∧ (∀ j, j < H.nx → H'.get j = H.get j) ∧ (es.take i).all fitE = true ∧ s 2 = .p (.ref (.agg [.sl (es.map Ent.V)])) ∧ s 5 = .p (.v (.int .i64 (i : Nat)))) es.length ⟨0, by omega, by omega, fun j hj => rfl, rfl, z2, z5⟩ ?_
    rintro k s' H' ⟨i, hik, hnx, hsub, hL, q2, q5⟩
    have hend : ∀ H2 : AHeap, (∀ j, j < H.nx → H2.get j = H.get j) → SubG H H2 := fun H2 h2 j o hj => by rw [h2 j (hw j o hj)]; exact hj
    unfold c14l0
    by_cases hi : i < es.length
    · have dlt : decide ((i : Int) < (es.length : Int)) = true := by simp; omega
      have ei1 : IntKind.wrap .i64 ((i : Int) + 1) = ((i + 1 : Nat) : Int) := addwi1 (by omega)
      have gx := entGet hi
      have hT : (es.take (i + 1)).all fitE = fitE es[i] := by
        rw [List.take_succ_eq_append_getElem hi, List.all_append, hL]; simp
      have hF : fitE es[i] = false → es.all fitE = false := fun h => by
        rw [List.all_eq_false]; exact ⟨es[i], List.getElem_mem hi, by rw [h]; simp⟩
      have hiv : intsV es[i].ph = .sl (es[i].ph.map intV) := rfl
      have hs' : ∀ ob : AObj, ∀ j, j < H.nx → (H'.new ob).get j = H.get j := fun ob j hj => by simp (disch := omega) only [go_sem, ite_lt]; exact hsub j hj
      have sc := smallW_call es[i].wt
      cases d1 : decide ((es[i].w.size : Int) > 60)
      · cases d2 : decide ((es[i].ph.length : Int) > 60)
        · simp (disch := omega) only [go_sem, q2, q5, gx, z87, wrE, entW, entP, entF, hiv, dlt, d1, d2, ei1, List.getElem?_cons_zero, List.getElem?_cons_succ, List.length_map, ite_lt, ite_gt, ↓reduceIte, Nat.reduceEqDiff, Nat.reduceLT]
          refine ⟨_, sc, ?_⟩
          have e1 : fitE es[i] = smallB es[i].wt := by
            have d1 := of_decide_eq_false d1
            have d2 := of_decide_eq_false d2
            have a1 : decide ((es[i].w.size : Int) ≤ 60) = true := by simp; omega
            have a2 : decide ((es[i].ph.length : Int) ≤ 60) = true := by simp; omega
            rw [fitE, a1, a2]; rfl
          cases d3 : smallB es[i].wt
          · rw [hF (by rw [e1, d3])]
            simp (disch := omega) only [go_sem, q2, q5, ↓reduceIte, Nat.reduceEqDiff, Nat.reduceLT, show (!false) = true from rfl]
            exact ⟨.refl _, hend _ (hs' _)⟩
          · simp (disch := omega) only [go_sem, q2, q5, ei1, ↓reduceIte, Nat.reduceEqDiff, Nat.reduceLT, show (!true) = false from rfl]
            exact ⟨k - 1, by omega, i + 1, by omega, by omega, hs' _, by rw [hT, e1, d3], rfl⟩
        · have e1 : fitE es[i] = false := by
            have d2 := of_decide_eq_true d2
            have a2 : decide ((es[i].ph.length : Int) ≤ 60) = false := by simp; omega
            rw [fitE, a2]; simp
          rw [hF e1]
          simp (disch := omega) only [go_sem, q2, q5, gx, z87, wrE, entW, entP, entF, hiv, dlt, d1, d2, ei1, List.getElem?_cons_zero, List.getElem?_cons_succ, List.length_map, ite_lt, ite_gt, ↓reduceIte, Nat.reduceEqDiff, Nat.reduceLT]
          exact ⟨.refl _, hend _ (hs' _)⟩
      · have e1 : fitE es[i] = false := by
          have d1 := of_decide_eq_true d1
          have a1 : decide ((es[i].w.size : Int) ≤ 60) = false := by simp; omega
          rw [fitE, a1]; rfl
        rw [hF e1]
        simp (disch := omega) only [go_sem, q2, q5, gx, z87, wrE, entW, entP, entF, hiv, dlt, d1, ei1, List.getElem?_cons_zero, List.getElem?_cons_succ, List.length_map, ite_lt, ite_gt, ↓reduceIte, Nat.reduceEqDiff, Nat.reduceLT]
        exact ⟨.refl _, hend _ (hs' _)⟩
    · have dlt : decide ((i : Int) < (es.length : Int)) = false := by simp; omega
      have hi' : i = es.length := by omega
      rw [hi', List.take_length] at hL
      rw [hL]
      simp only [go_sem, q2, q5, dlt, List.getElem?_cons_zero, List.getElem?_cons_succ, List.length_map, ↓reduceIte, Nat.reduceEqDiff, Nat.reduceLT]
      exact ⟨.refl _, hend _ hsub⟩
end Bh
namespace Bh
open Go Go.Proofs
def c54 : AC := (.seq (.ops [.op ⟨some 4, none, .alloc 32, []⟩]) (.seq (.ops [.op ⟨some 5, none, .mv, [.tmp 0]⟩, .op ⟨some 6, none, .mv, [.tmp 1]⟩, .op ⟨some 7, none, .call false, [.func 114, .tmp 5, .tmp 6]⟩, .op ⟨none, none, .store 3, [.tmp 4, .tmp 7]⟩]) .ret))
theorem k54 : look1 Tryz.prog ⟨[], [], [], [], [], []⟩ 54 = some (c54, 8, [(4, (some (true, 3)))]) := by kernel_rfl
def c114 : AC := (.seq (.ops [.op ⟨some 4, none, .alloc 32, []⟩]) (.seq (.ops [.op ⟨some 5, none, .mv, [.tmp 0]⟩, .op ⟨some 6, none, .bin .lss, [.tmp 5, .const (.int .i64 0)]⟩, .op ⟨some 7, none, .mv, [.tmp 1]⟩, .op ⟨some 8, none, .bin .lss, [.tmp 7, .const (.int .i64 0)]⟩, .op ⟨some 9, none, (.eqb true), [.tmp 6, .tmp 8]⟩, .op ⟨some 10, none, .mv, [.tmp 0]⟩, .op ⟨some 11, none, .call false, [.func 80, .tmp 10]⟩, .op ⟨some 12, none, .call false, [.func 79, .tmp 11]⟩, .op ⟨some 13, none, .mv, [.tmp 1]⟩, .op ⟨some 14, none, .call false, [.func 80, .tmp 13]⟩, .op ⟨some 15, none, .call false, [.func 79, .tmp 14]⟩, .op ⟨some 16, none, .call false, [.func 78, .tmp 9, .tmp 12, .tmp 15]⟩, .op ⟨none, none, .store 3, [.tmp 4, .tmp 16]⟩]) .ret))
theorem k114 : look1 Tryz.prog ⟨[], [], [], [], [], []⟩ 114 = some (c114, 17, [(4, (some (true, 3)))]) := by kernel_rfl
def c19 : AC := (.seq (.ops [.op ⟨some 2, none, .box true 32, [.tmp 0]⟩, .op ⟨some 3, none, .box true 32, [.tmp 1]⟩, .op ⟨some 4, none, .mv, [.const (.bool false)]⟩]) (.seq (.ops [.op ⟨some 5, none, .fld 0 false 1, [.tmp 2]⟩, .op ⟨some 6, none, .load false 1, [.tmp 5]⟩, .op ⟨some 7, none, .fld 0 false 1, [.tmp 3]⟩, .op ⟨some 8, none, .load false 1, [.tmp 7]⟩, .op ⟨some 9, none, (.eqb false), [.tmp 6, .tmp 8]⟩, .op ⟨some 10, none, .mv, [.tmp 9]⟩, .op ⟨some 11, (some (10, true)), .fld 1 false 1, [.tmp 2]⟩, .op ⟨some 12, (some (10, true)), .load false 1, [.tmp 11]⟩, .op ⟨some 13, (some (10, true)), .fld 1 false 1, [.tmp 3]⟩, .op ⟨some 14, (some (10, true)), .load false 1, [.tmp 13]⟩, .op ⟨some 15, (some (10, true)), .call false, [.func 60, .tmp 12, .tmp 14]⟩, .op ⟨some 16, none, .pick, [.tmp 10, .tmp 15, .const (.bool false)]⟩, .op ⟨some 17, none, .mv, [.tmp 16]⟩, .op ⟨some 18, (some (17, true)), .fld 2 false 1, [.tmp 2]⟩, .op ⟨some 19, (some (17, true)), .load false 1, [.tmp 18]⟩, .op ⟨some 20, (some (17, true)), .fld 2 false 1, [.tmp 3]⟩, .op ⟨some 21, (some (17, true)), .load false 1, [.tmp 20]⟩, .op ⟨some 22, (some (17, true)), .call false, [.func 60, .tmp 19, .tmp 21]⟩, .op ⟨some 23, none, .pick, [.tmp 17, .tmp 22, .const (.bool false)]⟩, .op ⟨some 4, none, .mv, [.tmp 23]⟩]) .ret))
theorem k19 : look1 Tryz.prog ⟨[], [], [], [], [], []⟩ 19 = some (c19, 24, [(4, none)]) := by kernel_rfl
def c60l0 : AC := (.seq (.seq (.ops [.op ⟨some 11, none, .mv, [.tmp 5]⟩, .op ⟨some 12, none, .mv, [.tmp 0]⟩, .op ⟨some 13, none, .len false, [.tmp 12]⟩, .op ⟨some 14, none, .bin .lss, [.tmp 11, .tmp 13]⟩]) (.cond (.tmp 14) .skip (.exit 0))) (.seq (.block 1 (.seq (.draw [⟨some 17, none, .mv, [.tmp 0]⟩, ⟨some 18, none, .mv, [.tmp 5]⟩, ⟨some 19, none, (.idx 1), [.tmp 17, .tmp 18]⟩, ⟨some 20, none, .load false 1, [.tmp 19]⟩, ⟨some 21, none, .mv, [.tmp 1]⟩, ⟨some 22, none, .mv, [.tmp 5]⟩, ⟨some 23, none, (.idx 1), [.tmp 21, .tmp 22]⟩, ⟨some 24, none, .load false 1, [.tmp 23]⟩, ⟨some 25, none, .bin .neq, [.tmp 20, .tmp 24]⟩]) (.cond (.tmp 25) (.seq (.ops [.op ⟨some 4, none, .mv, [.const (.bool false)]⟩]) .ret) .skip))) (.ops [.op ⟨some 15, none, .mv, [.tmp 5]⟩, .op ⟨some 16, none, .bin .add, [.tmp 15, .const (.int .i64 1)]⟩, .op ⟨some 5, none, .mv, [.tmp 16]⟩])))
def c60 : AC := (.seq (.ops [.op ⟨some 4, none, .mv, [.const (.bool false)]⟩]) (.seq (.seq (.ops [.op ⟨some 6, none, .mv, [.tmp 0]⟩, .op ⟨some 7, none, .len false, [.tmp 6]⟩, .op ⟨some 8, none, .mv, [.tmp 1]⟩, .op ⟨some 9, none, .len false, [.tmp 8]⟩, .op ⟨some 10, none, .bin .neq, [.tmp 7, .tmp 9]⟩]) (.cond (.tmp 10) (.seq (.ops [.op ⟨some 4, none, .mv, [.const (.bool false)]⟩]) .ret) .skip)) (.seq (.seq (.ops [.op ⟨some 5, none, .mv, [.const (.int .i64 0)]⟩]) (.block 0 (.loop c60l0))) (.seq (.ops [.op ⟨some 4, none, .mv, [.const (.bool true)]⟩]) .ret))))
theorem k60 : look1 Tryz.prog ⟨[], [], [], [], [], []⟩ 60 = some (c60, 26, [(4, none)]) := by kernel_rfl
def c30 : AC := (.seq (.ops [.op ⟨some 2, none, .alloc 32, []⟩]) (.seq (.ops [.op ⟨some 3, none, .mv, [.tmp 0]⟩, .op ⟨some 4, none, .bin .lss, [.tmp 3, .const (.int .i64 0)]⟩, .op ⟨some 5, none, .mv, [.tmp 0]⟩, .op ⟨some 6, none, .call false, [.func 80, .tmp 5]⟩, .op ⟨some 7, none, .call false, [.func 79, .tmp 6]⟩, .op ⟨some 8, none, .call false, [.func 78, .tmp 4, .tmp 7, .const (.slice none 0 0)]⟩, .op ⟨none, none, .store 3, [.tmp 2, .tmp 8]⟩]) .ret))
theorem k30 : look1 Tryz.prog ⟨[], [], [], [], [], []⟩ 30 = some (c30, 9, [(2, (some (true, 3)))]) := by kernel_rfl
def c29l0 : AC := (.seq (.seq (.ops [.op ⟨some 6, none, .mv, [.tmp 5]⟩, .op ⟨some 7, none, .mv, [.tmp 0]⟩, .op ⟨some 8, none, .len false, [.tmp 7]⟩, .op ⟨some 9, none, .bin .lss, [.tmp 6, .tmp 8]⟩, .op ⟨some 10, none, .mv, [.tmp 9]⟩, .op ⟨some 11, (some (10, true)), .mv, [.tmp 5]⟩, .op ⟨some 12, (some (10, true)), .mv, [.tmp 1]⟩, .op ⟨some 13, (some (10, true)), .len false, [.tmp 12]⟩, .op ⟨some 14, (some (10, true)), .bin .lss, [.tmp 11, .tmp 13]⟩, .op ⟨some 15, none, .pick, [.tmp 10, .tmp 14, .const (.bool false)]⟩]) (.cond (.tmp 15) .skip (.exit 0))) (.seq (.block 1 (.seq (.seq (.draw [⟨some 18, none, .mv, [.tmp 0]⟩, ⟨some 19, none, .mv, [.tmp 5]⟩, ⟨some 20, none, (.idx 1), [.tmp 18, .tmp 19]⟩, ⟨some 21, none, .load false 1, [.tmp 20]⟩, ⟨some 22, none, .mv, [.tmp 1]⟩, ⟨some 23, none, .mv, [.tmp 5]⟩, ⟨some 24, none, (.idx 1), [.tmp 22, .tmp 23]⟩, ⟨some 25, none, .load false 1, [.tmp 24]⟩, ⟨some 26, none, .bin .lss, [.tmp 21, .tmp 25]⟩]) (.cond (.tmp 26) (.seq (.ops [.op ⟨some 4, none, .mv, [(.const (.int .i64 (-1)))]⟩]) .ret) .skip)) (.seq (.draw [⟨some 27, none, .mv, [.tmp 0]⟩, ⟨some 28, none, .mv, [.tmp 5]⟩, ⟨some 29, none, (.idx 1), [.tmp 27, .tmp 28]⟩, ⟨some 30, none, .load false 1, [.tmp 29]⟩, ⟨some 31, none, .mv, [.tmp 1]⟩, ⟨some 32, none, .mv, [.tmp 5]⟩, ⟨some 33, none, (.idx 1), [.tmp 31, .tmp 32]⟩, ⟨some 34, none, .load false 1, [.tmp 33]⟩, ⟨some 35, none, .bin .gtr, [.tmp 30, .tmp 34]⟩]) (.cond (.tmp 35) (.seq (.ops [.op ⟨some 4, none, .mv, [.const (.int .i64 1)]⟩]) .ret) .skip)))) (.ops [.op ⟨some 16, none, .mv, [.tmp 5]⟩, .op ⟨some 17, none, .bin .add, [.tmp 16, .const (.int .i64 1)]⟩, .op ⟨some 5, none, .mv, [.tmp 17]⟩])))
def c29 : AC := (.seq (.ops [.op ⟨some 4, none, .mv, [.const (.int .i64 0)]⟩]) (.seq (.seq (.ops [.op ⟨some 5, none, .mv, [.const (.int .i64 0)]⟩]) (.block 0 (.loop c29l0))) (.seq (.ops [.op ⟨some 36, none, .mv, [.tmp 0]⟩, .op ⟨some 37, none, .len false, [.tmp 36]⟩, .op ⟨some 38, none, .mv, [.tmp 1]⟩, .op ⟨some 39, none, .len false, [.tmp 38]⟩, .op ⟨some 40, none, .bin .sub, [.tmp 37, .tmp 39]⟩, .op ⟨some 41, none, .call false, [.func 77, .tmp 40]⟩, .op ⟨some 4, none, .mv, [.tmp 41]⟩]) .ret)))
theorem k29 : look1 Tryz.prog ⟨[], [], [], [], [], []⟩ 29 = some (c29, 42, [(4, none)]) := by kernel_rfl
def c39l0 : AC := (.seq (.seq (.ops [.op ⟨some 11, none, .mv, [.tmp 5]⟩, .op ⟨some 12, none, .mv, [.tmp 0]⟩, .op ⟨some 13, none, .len false, [.tmp 12]⟩, .op ⟨some 14, none, .bin .lss, [.tmp 11, .tmp 13]⟩]) (.cond (.tmp 14) .skip (.exit 0))) (.seq (.block 1 (.seq (.draw [⟨some 17, none, .mv, [.tmp 0]⟩, ⟨some 18, none, .mv, [.tmp 5]⟩, ⟨some 19, none, (.idx 4), [.tmp 17, .tmp 18]⟩, ⟨some 20, none, .fld 0 false 1, [.tmp 19]⟩, ⟨some 21, none, .load false 1, [.tmp 20]⟩, ⟨some 22, none, .mv, [.tmp 1]⟩, ⟨some 23, none, .mv, [.tmp 5]⟩, ⟨some 24, none, (.idx 4), [.tmp 22, .tmp 23]⟩, ⟨some 25, none, .fld 0 false 1, [.tmp 24]⟩, ⟨some 26, none, .load false 1, [.tmp 25]⟩, ⟨some 27, none, .call false, [.func 29, .tmp 21, .tmp 26]⟩, ⟨some 28, none, .bin .neq, [.tmp 27, .const (.int .i64 0)]⟩, ⟨some 29, none, .mv, [.tmp 28]⟩, ⟨some 30, (some (29, false)), .mv, [.tmp 0]⟩, ⟨some 31, (some (29, false)), .mv, [.tmp 5]⟩, ⟨some 32, (some (29, false)), (.idx 4), [.tmp 30, .tmp 31]⟩, ⟨some 33, (some (29, false)), .fld 1 true 3, [.tmp 32]⟩, ⟨some 34, (some (29, false)), .load true 3, [.tmp 33]⟩, ⟨some 35, (some (29, false)), .mv, [.tmp 1]⟩, ⟨some 36, (some (29, false)), .mv, [.tmp 5]⟩, ⟨some 37, (some (29, false)), (.idx 4), [.tmp 35, .tmp 36]⟩, ⟨some 38, (some (29, false)), .fld 1 true 3, [.tmp 37]⟩, ⟨some 39, (some (29, false)), .load true 3, [.tmp 38]⟩, ⟨some 40, (some (29, false)), .call false, [.func 19, .tmp 34, .tmp 39]⟩, ⟨some 41, (some (29, false)), .un .not, [.tmp 40]⟩, ⟨some 42, none, .pick, [.tmp 29, .const (.bool true), .tmp 41]⟩]) (.cond (.tmp 42) (.seq (.ops [.op ⟨some 4, none, .mv, [.const (.bool false)]⟩]) .ret) .skip))) (.ops [.op ⟨some 15, none, .mv, [.tmp 5]⟩, .op ⟨some 16, none, .bin .add, [.tmp 15, .const (.int .i64 1)]⟩, .op ⟨some 5, none, .mv, [.tmp 16]⟩])))
def c39 : AC := (.seq (.ops [.op ⟨some 4, none, .mv, [.const (.bool false)]⟩]) (.seq (.seq (.ops [.op ⟨some 6, none, .mv, [.tmp 0]⟩, .op ⟨some 7, none, .len false, [.tmp 6]⟩, .op ⟨some 8, none, .mv, [.tmp 1]⟩, .op ⟨some 9, none, .len false, [.tmp 8]⟩, .op ⟨some 10, none, .bin .neq, [.tmp 7, .tmp 9]⟩]) (.cond (.tmp 10) (.seq (.ops [.op ⟨some 4, none, .mv, [.const (.bool false)]⟩]) .ret) .skip)) (.seq (.seq (.ops [.op ⟨some 5, none, .mv, [.const (.int .i64 0)]⟩]) (.block 0 (.loop c39l0))) (.seq (.ops [.op ⟨some 4, none, .mv, [.const (.bool true)]⟩]) .ret))))
theorem k39 : look1 Tryz.prog ⟨[], [], [], [], [], []⟩ 39 = some (c39, 43, [(4, none)]) := by kernel_rfl
end Bh
namespace Bh
open Go Go.Proofs
theorem sameDigits_call (a b : List Nat) (hl : a.length ≤ 9223372036854775807) : PCall Tryz.prog 60 [natV a, natV b] (.v (.bool (a == b))) := by
  refine pcall mixed k60 (by simp) fun H s hw h => ?_
  have h0 : s 0 = .p (natV a) := h 0 _ rfl
  have h1 : s 1 = .p (natV b) := h 1 _ rfl
  unfold natV at h0 h1
  unfold c60
  by_cases hab : a.length = b.length
  case neg =>
    have e1 : ((a.length : Int) == (b.length : Int)) = false := by simp; omega
    have e2 : ((a.length : Int) != (b.length : Int)) = true := by simp; omega
    have e3 : (a == b) = false := by simp; intro h; exact hab (by rw [h])
    simp only [go_sem, h0, h1, e1, e2, e3, List.length_map, Bool.not_false, ↓reduceIte, Nat.reduceEqDiff, Nat.reduceLT]
    exact ⟨.refl _, fun i o h => h⟩
  have e1 : ((a.length : Int) == (b.length : Int)) = true := by simp; omega
  have e2 : ((a.length : Int) != (b.length : Int)) = false := by simp; omega
  simp only [go_sem, h0, h1, e1, e2, List.length_map, Bool.not_true, ↓reduceIte, Nat.reduceEqDiff, Nat.reduceLT]
  refine awp_loop (fun k s H' => ∃ i, i + k = a.length ∧ H' = H ∧ a.take i = b.take i ∧ s 0 = .p (.sl (a.map fun d => PV.v (.int .u32 (d : Nat)))) ∧ s 1 = .p (.sl (b.map fun d => PV.v (.int .u32 (d : Nat)))) ∧ s 5 = .p (.v (.int .i64 (i : Nat)))) a.length ⟨0, by omega, rfl, rfl, ?_, ?_, ?_⟩ ?_
  · simp only [go_sem, h0, ↓reduceIte, Nat.reduceEqDiff]
  · simp only [go_sem, h1, ↓reduceIte, Nat.reduceEqDiff]
  · simp only [go_sem, ↓reduceIte, Nat.reduceEqDiff]; rfl
  · rintro k s' H' ⟨i, hik, rfl, hL, q0, q1, q5⟩
    unfold c60l0
    by_cases hi : i < a.length
    · have hib : i < b.length := by omega
      have dlt : decide ((i : Int) < (a.length : Int)) = true := by simp; omega
      have ei1 : IntKind.wrap .i64 ((i : Int) + 1) = ((i + 1 : Nat) : Int) := addwi1 (by omega)
      have ga : (a.map fun d => PV.v (.int .u32 (d : Nat)))[i]? = some (PV.v (.int .u32 (a[i] : Nat))) := by simp [hi]
      have gb : (b.map fun d => PV.v (.int .u32 (d : Nat)))[i]? = some (PV.v (.int .u32 (b[i] : Nat))) := by simp [hib]
      by_cases hd : a[i] = b[i]
      · have d1 : ((a[i] : Int) == (b[i] : Int)) = true := by simp; omega
        have d2 : ((a[i] : Int) != (b[i] : Int)) = false := by simp; omega
        simp only [go_sem, q0, q1, q5, ga, gb, dlt, d1, d2, ei1, List.length_map, Bool.not_true, ↓reduceIte, Nat.reduceEqDiff, Nat.reduceLT]
        exact ⟨k - 1, by omega, i + 1, by omega, by rw [List.take_succ_eq_append_getElem hi, List.take_succ_eq_append_getElem hib, hL, hd], rfl⟩
      · have d1 : ((a[i] : Int) == (b[i] : Int)) = false := by simp; omega
        have d2 : ((a[i] : Int) != (b[i] : Int)) = true := by simp; omega
        have e3 : (a == b) = false := by simp; intro h; subst h; exact hd rfl
        simp only [go_sem, q0, q1, q5, ga, gb, dlt, d1, d2, e3, ei1, List.length_map, Bool.not_false, ↓reduceIte, Nat.reduceEqDiff, Nat.reduceLT]
        exact ⟨.refl _, fun i o h => h⟩
    · have dlt : decide ((i : Int) < (a.length : Int)) = false := by simp; omega
      have e3 : (a == b) = true := by
        have hi' : i = a.length := by omega
        rw [hi', List.take_length, hab, List.take_length] at hL
        simp [hL]
      simp only [go_sem, q0, q1, q5, dlt, e3, List.length_map, ↓reduceIte, Nat.reduceEqDiff, Nat.reduceLT]
      exact ⟨.refl _, fun i o h => h⟩
def sameB (x y : Fr) : Bool := (x.b == y.b) && ((x.n == y.n) && (x.d == y.d))
theorem same_call (x y : Fr) (hn : x.n.length ≤ 9223372036854775807) (hd : x.d.length ≤ 9223372036854775807) : PCall Tryz.prog 19 [x.V, y.V] (.v (.bool (sameB x y))) := by
  refine pcall mixed k19 (by simp) fun H s hw h => ?_
  have h0 : s 0 = .p (.agg [.v (.bool x.b), natV x.n, natV x.d]) := h 0 _ rfl
  have h1 : s 1 = .p (.agg [.v (.bool y.b), natV y.n, natV y.d]) := h 1 _ rfl
  have cn := sameDigits_call x.n y.n hn
  have cd := sameDigits_call x.d y.d hd
  unfold c19
  cases eb : (x.b == y.b)
  · have : sameB x y = false := by rw [sameB, eb]; rfl
    simp only [go_sem, h0, h1, eb, this, List.getElem?_cons_zero, List.getElem?_cons_succ, ↓reduceIte, Nat.reduceEqDiff, Nat.reduceLT]
    exact ⟨.refl _, fun i o h => h⟩
  · simp only [go_sem, h0, h1, eb, List.getElem?_cons_zero, List.getElem?_cons_succ, ↓reduceIte, Nat.reduceEqDiff, Nat.reduceLT]
    refine ⟨_, cn, ?_⟩
    cases en : (x.n == y.n)
    · have : sameB x y = false := by rw [sameB, eb, en]; rfl
      simp only [go_sem, h0, h1, this, List.getElem?_cons_zero, List.getElem?_cons_succ, ↓reduceIte, Nat.reduceEqDiff, Nat.reduceLT]
      exact ⟨.refl _, fun i o h => h⟩
    · have : sameB x y = (x.d == y.d) := by rw [sameB, eb, en]; rfl
      simp only [go_sem, h0, h1, this, List.getElem?_cons_zero, List.getElem?_cons_succ, ↓reduceIte, Nat.reduceEqDiff, Nat.reduceLT]
      refine ⟨_, cd, ?_⟩
      try simp only [go_sem, h0, h1, this, List.getElem?_cons_zero, List.getElem?_cons_succ, ↓reduceIte, Nat.reduceEqDiff, Nat.reduceLT]
      exact ⟨.refl _, fun i o h => h⟩
end Bh
namespace Bh
open Go Go.Proofs
def natOfL : List PV → Option (List Nat)
  | [] => some []
  | .v (.int .u32 (.ofNat z)) :: l => match natOfL l with | some m => some (z :: m) | none => none
  | _ => none
def natOf : PV → Option (List Nat)
  | .sl es => natOfL es
  | .v (.slice none 0 0) => some []
  | _ => none
def frOf : PV → Option Fr
  | .agg [.v (.bool b), n, d] => match natOf n, natOf d with | some n, some d => some ⟨b, n, d⟩ | _, _ => none
  | _ => none
def okN (l : List Nat) : Bool := l.all (fun x => Nat.blt x 4294967296) && Nat.ble l.length 1000
def okF (x : Fr) : Bool := okN x.n && okN x.d
def digF : Nat → Nat → List Nat
  | 0, _ => []
  | k + 1, x => bif Nat.beq x 0 then [] else (x % 4294967296) :: digF k (x / 4294967296)
def frE (q : Rat) : Option PV := bif Nat.blt q.num.natAbs (4294967296 ^ 40) && Nat.blt q.den (4294967296 ^ 40) then
  some (frV (decide (q.num < 0)) (digF 40 q.num.natAbs) (bif Nat.beq q.den 1 then [] else digF 40 q.den)) else none
theorem natOfL_ok : ∀ {es : List PV} {l : List Nat}, natOfL es = some l → es = l.map fun d => .v (.int .u32 (d : Nat)) := by
  intro es
  induction es with
  | nil => intro l h; injection h with h; subst h; rfl
  | cons e es ih =>
    intro l h
    unfold natOfL at h
    split at h
    · rename_i e'; cases e'
    · rename_i z m e'
      split at h
      · rename_i m' hm
        injection h with h; subst h
        injection e' with e1 e2; subst e1; subst e2
        rw [ih hm]; rfl
      · cases h
    · cases h
theorem natOf_ok {y : PV} {l : List Nat} (h : natOf y = some l) : Wk y (natV l) := by
  unfold natOf at h
  split at h
  · rw [natOfL_ok h]; exact .refl _
  · injection h with h; subst h; exact .nil
  · cases h
theorem frOf_ok {y : PV} {x : Fr} (h : frOf y = some x) : Wk y x.V := by
  unfold frOf at h
  split at h
  · rename_i b n d
    split at h
    · rename_i n' d' hn hd
      injection h with h; subst h
      refine .agg _ _ rfl fun j c d hc hd' => ?_
      match j, hc, hd' with
      | 0, hc, hd' => simp at hc hd'; subst hc; subst hd'; exact .refl _
      | 1, hc, hd' => simp at hc hd'; subst hc; subst hd'; exact natOf_ok hn
      | 2, hc, hd' => simp at hc hd'; subst hc; subst hd'; exact natOf_ok hd
    · cases h
  · cases h
theorem okN_ok {l : List Nat} (h : okN l = true) : (∀ x ∈ l, x < W32) ∧ l.length ≤ 1000 := by
  simp only [okN, Bool.and_eq_true, List.all_eq_true] at h
  exact ⟨fun x hx => blt_iff.1 (h.1 x hx), Nat.le_of_ble_eq_true h.2⟩
theorem okF_ok {x : Fr} (h : okF x = true) : x.OK 1000 := by
  simp only [okF, Bool.and_eq_true] at h
  have h1 := okN_ok h.1
  have h2 := okN_ok h.2
  exact ⟨h1.1, h2.1, h1.2, h2.2⟩
theorem okF_mono {x : Fr} {k : Nat} (h : okF x = true) (hk : 1000 ≤ k) : x.OK k := by
  have := okF_ok h
  exact ⟨this.n1, this.d1, Nat.le_trans this.nl hk, Nat.le_trans this.dl hk⟩
theorem digF_ok : ∀ (k x : Nat), x < W32 ^ k → digF k x = natD x := by
  intro k
  induction k with
  | zero => intro x h; have : x = 0 := by simpa using h
            subst this; rw [natD_0]; rfl
  | succ k ih =>
    intro x h
    unfold digF
    cases hx : Nat.beq x 0 with
    | true => rw [Nat.eq_of_beq_eq_true hx, natD_0]; rfl
    | false =>
      have h0 : x ≠ 0 := Nat.ne_of_beq_eq_false hx
      rw [natD_pos h0]
      have : x / W32 < W32 ^ k := by
        rw [Nat.pow_succ] at h
        exact Nat.div_lt_of_lt_mul (by rw [Nat.mul_comm]; exact h)
      rw [← ih _ this]; rfl
theorem frE_ok {q : Rat} {y : PV} (h : frE q = some y) : y = fracV q := by
  unfold frE at h
  cases hc : (Nat.blt q.num.natAbs (4294967296 ^ 40) && Nat.blt q.den (4294967296 ^ 40)) with
  | false => rw [hc] at h; cases h
  | true =>
    rw [hc] at h
    simp only [Bool.and_eq_true] at hc
    simp only [cond_true, Option.some.injEq] at h; subst h
    unfold fracV canN canD
    rw [digF_ok _ _ (blt_iff.1 hc.1)]
    cases hd : Nat.beq q.den 1 with
    | true => rw [if_pos (Nat.eq_of_beq_eq_true hd)]; rfl
    | false => rw [if_neg (Nat.ne_of_beq_eq_false hd), digF_ok _ _ (blt_iff.1 hc.2)]; rfl
def orcF2 (g : Rat → Rat → Option PV) : List PV → Option PV
  | [a, b] => match frOf a, frOf b with
    | some x, some y => bif okF x && okF y then g x.q y.q else none
    | _, _ => none
  | _ => none
def orcF1 (g : Rat → Option PV) : List PV → Option PV
  | [a] => match frOf a with
    | some x => bif okF x then g x.q else none
    | _ => none
  | _ => none
def orcOf : List PV → Option PV
  | [.v (.int .i64 (.ofNat n))] => bif Nat.blt n 9223372036854775808 then frE (n : Int) else none
  | _ => none
def orcCmp : List PV → Option PV
  | [.v (.string a), .v (.string b)] => some (.v (.int .i64 (cmpB a b)))
  | _ => none
def orcI (z : Int) : Option PV := some (.v (.int .i64 z))
theorem orcF2_ok {f : Nat} {g : Rat → Rat → Option PV} {G : Rat → Rat → PV} (hg : ∀ p q y, g p q = some y → y = G p q) (hc : ∀ x y : Fr, x.OK 1000 → y.OK 1000 → PCall Tryz.prog f [x.V, y.V] (G x.q y.q)) {a : List PV} {y : PV} (h : orcF2 g a = some y) : PCall Tryz.prog f a y := by
  unfold orcF2 at h
  split at h
  · rename_i a b
    split at h
    · rename_i x z hx hz
      cases hk : (okF x && okF z) with
      | false => rw [hk] at h; cases h
      | true =>
        rw [hk] at h
        simp only [Bool.and_eq_true] at hk
        simp only [cond_true] at h
        rw [hg _ _ _ h]
        refine (hc x z (okF_ok hk.1) (okF_ok hk.2)).wk rfl (fun j c d hc hd => ?_) (.refl _)
        match j, hc, hd with
        | 0, hc, hd => simp at hc hd; subst hc; subst hd; exact frOf_ok hx
        | 1, hc, hd => simp at hc hd; subst hc; subst hd; exact frOf_ok hz
    · cases h
  · cases h
theorem orcF1_ok {f : Nat} {g : Rat → Option PV} {G : Rat → PV} (hg : ∀ p y, g p = some y → y = G p) (hc : ∀ x : Fr, x.OK 1000 → PCall Tryz.prog f [x.V] (G x.q)) {a : List PV} {y : PV} (h : orcF1 g a = some y) : PCall Tryz.prog f a y := by
  unfold orcF1 at h
  split at h
  · rename_i a
    split at h
    · rename_i x hx
      cases hk : okF x with
      | false => rw [hk] at h; cases h
      | true =>
        rw [hk] at h
        simp only [cond_true] at h
        rw [hg _ _ h]
        refine (hc x (okF_ok hk)).wk rfl (fun j c d hc hd => ?_) (.refl _)
        match j, hc, hd with
        | 0, hc, hd => simp at hc hd; subst hc; subst hd; exact frOf_ok hx
    · cases h
  · cases h
theorem orcOf_ok {a : List PV} {y : PV} (h : orcOf a = some y) : PCall Tryz.prog 20 a y := by
  unfold orcOf at h
  split at h
  · rename_i n
    cases hk : Nat.blt n 9223372036854775808 with
    | false => rw [hk] at h; cases h
    | true =>
      rw [hk] at h
      rw [frE_ok h]
      exact of_call n (blt_iff.1 hk)
  · cases h
theorem orcCmp_ok {a : List PV} {y : PV} (h : orcCmp a = some y) : PCall Tryz.prog 143 a y := by
  unfold orcCmp at h
  split at h
  · injection h with h; subst h; exact scompare_call _ _
  · cases h
def orc0 (f : Nat) (a : List PV) : Option PV :=
  bif Nat.beq f 21 then orcF2 (fun p q => frE (p + q)) a else
  bif Nat.beq f 22 then orcF2 (fun p q => frE (p * q)) a else
  bif Nat.beq f 168 then orcF2 (fun p q => frE (p + -q)) a else
  bif Nat.beq f 23 then orcF2 (fun p q => orcI (cmpQ p q)) a else
  bif Nat.beq f 32 then orcF1 (fun p => orcI (sgnQ p)) a else
  bif Nat.beq f 20 then orcOf a else
  bif Nat.beq f 143 then orcCmp a else none
theorem Fr.OK.mono {x : Fr} {j k : Nat} (h : x.OK j) (hk : j ≤ k) : x.OK k := ⟨h.n1, h.d1, Nat.le_trans h.nl hk, Nat.le_trans h.dl hk⟩
theorem orcI_ok {z : Int} {y : PV} (h : orcI z = some y) : y = .v (.int .i64 z) := by injection h with h; exact h.symm
theorem orc0_ok : OrcOK Tryz.prog orc0 := by
  intro f a y h
  unfold orc0 at h
  cases h1 : Nat.beq f 21 with
  | true => rw [h1] at h; rw [Nat.eq_of_beq_eq_true h1]; exact orcF2_ok (G := fun p q => fracV (p + q)) (fun p q y => frE_ok) (fun x y hx hy => addF_call x y (hx.mono (by omega)) (hy.mono (by omega))) h
  | false =>
    rw [h1] at h; simp only [cond_false] at h
    cases h1 : Nat.beq f 22 with
    | true => rw [h1] at h; rw [Nat.eq_of_beq_eq_true h1]; exact orcF2_ok (G := fun p q => fracV (p * q)) (fun p q y => frE_ok) (fun x y hx hy => mulF_call x y (hx.mono (by omega)) (hy.mono (by omega))) h
    | false =>
      rw [h1] at h; simp only [cond_false] at h
      cases h1 : Nat.beq f 168 with
      | true => rw [h1] at h; rw [Nat.eq_of_beq_eq_true h1]; exact orcF2_ok (G := fun p q => fracV (p + -q)) (fun p q y => frE_ok) (fun x y hx hy => subF_call x y (hx.mono (by omega)) (hy.mono (by omega))) h
      | false =>
        rw [h1] at h; simp only [cond_false] at h
        cases h1 : Nat.beq f 23 with
        | true => rw [h1] at h; rw [Nat.eq_of_beq_eq_true h1]; exact orcF2_ok (G := fun p q => .v (.int .i64 (cmpQ p q))) (fun p q y => orcI_ok) (fun x y hx hy => cmp_call x y (hx.mono (by omega)) (hy.mono (by omega))) h
        | false =>
          rw [h1] at h; simp only [cond_false] at h
          cases h1 : Nat.beq f 32 with
          | true => rw [h1] at h; rw [Nat.eq_of_beq_eq_true h1]; exact orcF1_ok (G := fun p => .v (.int .i64 (sgnQ p))) (fun p y => orcI_ok) (fun x hx => sgn_call x (hx.mono (by omega))) h
          | false =>
            rw [h1] at h; simp only [cond_false] at h
            cases h1 : Nat.beq f 20 with
            | true => rw [h1] at h; rw [Nat.eq_of_beq_eq_true h1]; exact orcOf_ok h
            | false =>
              rw [h1] at h; simp only [cond_false] at h
              cases h1 : Nat.beq f 143 with
              | true => rw [h1] at h; rw [Nat.eq_of_beq_eq_true h1]; exact orcCmp_ok h
              | false => rw [h1] at h; cases h
end Bh
namespace Bh
open Go Go.Proofs
def intsOfL : List PV → Option (List Int)
  | [] => some []
  | .v (.int .i64 z) :: l => match intsOfL l with | some m => some (z :: m) | none => none
  | _ => none
def intsOf : PV → Option (List Int)
  | .sl es => intsOfL es
  | .v (.slice none 0 0) => some []
  | _ => none
def rulOf : PV → Option Rul
  | .agg [a, b, c, d, e, f, g] => match intsOf a, intsOf b, intsOf c, intsOf d, frOf (.agg [e, f, g]) with
    | some a, some b, some c, some d, some x => some ⟨a, b, c, d, x⟩
    | _, _, _, _, _ => none
  | _ => none
def rulsOfL : List PV → Option (List Rul)
  | [] => some []
  | x :: l => match rulOf x, rulsOfL l with | some y, some m => some (y :: m) | _, _ => none
def rulsOf : PV → Option (List Rul)
  | .sl es => rulsOfL es
  | .v (.slice none 0 0) => some []
  | _ => none
theorem intsOfL_ok : ∀ {es : List PV} {l : List Int}, intsOfL es = some l → es = l.map intV := by
  intro es
  induction es with
  | nil => intro l h; injection h with h; subst h; rfl
  | cons e es ih =>
    intro l h
    unfold intsOfL at h
    split at h
    · rename_i e'; cases e'
    · rename_i z m e'
      split at h
      · rename_i m' hm
        injection h with h; subst h
        injection e' with e1 e2; subst e1; subst e2
        rw [ih hm]; rfl
      · cases h
    · cases h
theorem intsOf_ok {y : PV} {l : List Int} (h : intsOf y = some l) : Wk y (intsV l) := by
  unfold intsOf at h
  split at h
  · rw [intsOfL_ok h]; exact .refl _
  · injection h with h; subst h; exact .nil
  · cases h
theorem rulOf_ok {y : PV} {x : Rul} (h : rulOf y = some x) : Wk y x.V := by
  unfold rulOf at h
  split at h
  · rename_i a b c d e f g
    split at h
    · rename_i a' b' c' d' x' h1 h2 h3 h4 h5
      injection h with h; subst h
      have h5 := frOf_ok h5
      cases x' with
      | mk xb xn xd =>
      have w5 : Wk e (.v (.bool xb)) ∧ Wk f (natV xn) ∧ Wk g (natV xd) := by
        cases h5 with
        | refl => exact ⟨.refl _, .refl _, .refl _⟩
        | agg cs ds hl he => exact ⟨he 0 _ _ rfl rfl, he 1 _ _ rfl rfl, he 2 _ _ rfl rfl⟩
      refine .agg _ _ rfl fun j c d hc hd' => ?_
      match j, hc, hd' with
      | 0, hc, hd' => simp at hc hd'; subst hc; subst hd'; exact intsOf_ok h1
      | 1, hc, hd' => simp at hc hd'; subst hc; subst hd'; exact intsOf_ok h2
      | 2, hc, hd' => simp at hc hd'; subst hc; subst hd'; exact intsOf_ok h3
      | 3, hc, hd' => simp at hc hd'; subst hc; subst hd'; exact intsOf_ok h4
      | 4, hc, hd' => simp at hc hd'; subst hc; subst hd'; exact w5.1
      | 5, hc, hd' => simp at hc hd'; subst hc; subst hd'; exact w5.2.1
      | 6, hc, hd' => simp at hc hd'; subst hc; subst hd'; exact w5.2.2
    · cases h
  · cases h
theorem rulsOfL_ok : ∀ {es : List PV} {l : List Rul}, rulsOfL es = some l → es.length = l.length ∧ ∀ (j : Nat) (c d : PV), es[j]? = some c → (l.map Rul.V)[j]? = some d → Wk c d := by
  intro es
  induction es with
  | nil => intro l h; injection h with h; subst h; exact ⟨rfl, fun j c d hc => by simp at hc⟩
  | cons e es ih =>
    intro l h
    unfold rulsOfL at h
    split at h
    · rename_i y m h1 h2
      injection h with h; subst h
      obtain ⟨k1, k2⟩ := ih h2
      refine ⟨by simp [k1], fun j c d hc hd => ?_⟩
      cases j with
      | zero => simp at hc hd; subst hc; subst hd; exact rulOf_ok h1
      | succ j => simp only [List.getElem?_cons_succ, List.map_cons] at hc hd; exact k2 j c d hc hd
    · cases h
theorem rulsOf_ok {y : PV} {l : List Rul} (h : rulsOf y = some l) : Wk y (.sl (l.map Rul.V)) := by
  unfold rulsOf at h
  split at h
  · obtain ⟨h1, h2⟩ := rulsOfL_ok h
    exact .sl _ _ (by simpa using h1) h2
  · injection h with h; subst h; exact .nil
  · cases h
end Bh
namespace Bh
open Go Go.Proofs
theorem nat0 : ((0 : Nat) : Rat) = 0 := rfl
theorem nat_nn (n : Nat) : (0 : Rat) ≤ (n : Rat) := by rw [← nat0, Rat.natCast_le_natCast]; omega
theorem wOpt_cell {ps : List Int} {i : Nat} {o : Opt} (hp : 1 ≤ o.pass) (T : Nat → Nat → Rat) : ∀ b : Nat, (List.range b).foldl (wStep ps i o) T =
    fun x y => if x = i + o.pass ∧ o.wr.length ≤ y ∧ y - o.wr.length < b ∧ canGo ps o (y - o.wr.length) (T i (y - o.wr.length)) = true then T x y + T i (y - o.wr.length) * o.w.q else T x y := by
  intro b
  induction b with
  | zero => funext x y; rw [if_neg (by omega)]; rfl
  | succ b ih =>
    rw [List.range_succ, List.foldl_append, ih]
    simp only [List.foldl_cons, List.foldl_nil]
    have hi : ∀ k, (if i = i + o.pass ∧ o.wr.length ≤ k ∧ k - o.wr.length < b ∧ canGo ps o (k - o.wr.length) (T i (k - o.wr.length)) = true then T i k + T i (k - o.wr.length) * o.w.q else T i k) = T i k := fun k => if_neg (by omega)
    funext x y
    unfold wStep
    simp only [hi]
    cases hg : canGo ps o b (T i b) with
    | false =>
      simp only [Bool.false_eq_true, if_false]
      by_cases h : x = i + o.pass ∧ o.wr.length ≤ y ∧ y - o.wr.length < b ∧ canGo ps o (y - o.wr.length) (T i (y - o.wr.length)) = true
      · rw [if_pos h, if_pos ⟨h.1, h.2.1, by omega, h.2.2.2⟩]
      · rw [if_neg h, if_neg]
        rintro ⟨h1, h2, h3, h4⟩
        by_cases e : y - o.wr.length = b
        · rw [e] at h4; rw [hg] at h4; cases h4
        · exact h ⟨h1, h2, by omega, h4⟩
    | true =>
      simp only [if_true, wUpd]
      by_cases h : x = i + o.pass ∧ y = b + o.wr.length
      · obtain ⟨rfl, rfl⟩ := h
        have e : b + o.wr.length - o.wr.length = b := by omega
        rw [if_pos ⟨rfl, rfl⟩, if_neg (by rw [e]; omega), if_pos ⟨rfl, by omega, by rw [e]; omega, by rw [e]; exact hg⟩, e]
      · rw [if_neg h]
        by_cases h' : x = i + o.pass ∧ o.wr.length ≤ y ∧ y - o.wr.length < b ∧ canGo ps o (y - o.wr.length) (T i (y - o.wr.length)) = true
        · rw [if_pos h', if_pos ⟨h'.1, h'.2.1, by omega, h'.2.2.2⟩]
        · rw [if_neg h', if_neg]
          rintro ⟨h1, h2, h3, h4⟩
          exact h' ⟨h1, h2, by omega, h4⟩
structure WG (L D c : Nat) (T : Nat → Nat → Rat) : Prop where
  lo : ∀ x y, 0 ≤ T x y
  hi : ∀ x y, T x y ≤ (c : Rat)
  out : ∀ x y, L < x → T x y = 0
  int : ∀ x y, ∃ z : Int, T x y * ((D ^ x : Nat) : Rat) = (z : Rat)
structure OG (L D i : Nat) (o : Opt) : Prop where
  p1 : 1 ≤ o.pass
  pl : i + o.pass ≤ L
  w0 : 0 ≤ o.w.q
  w1 : o.w.q ≤ 1
  int : ∃ z : Int, o.w.q * (D : Rat) = (z : Rat)
theorem WG.mono {L D c c' : Nat} {T : Nat → Nat → Rat} (h : WG L D c T) (hc : c ≤ c') : WG L D c' T :=
  ⟨h.lo, fun x y => Rat.le_trans (h.hi x y) (by rw [Rat.natCast_le_natCast]; exact hc), h.out, h.int⟩
theorem WG.opt {L D c i : Nat} {T : Nat → Nat → Rat} {o : Opt} {ps : List Int} (h : WG L D c T) (ho : OG L D i o) (b : Nat) : WG L D (2 * c) ((List.range b).foldl (wStep ps i o) T) := by
  rw [wOpt_cell ho.p1]
  have c2 : ((2 * c : Nat) : Rat) = (c : Rat) + (c : Rat) := by rw [Rat.natCast_mul]; grind
  refine ⟨fun x y => ?_, fun x y => ?_, fun x y hx => ?_, fun x y => ?_⟩
  · split
    · exact Rat.add_nonneg (h.lo _ _) (Rat.mul_nonneg (h.lo _ _) ho.w0)
    · exact h.lo _ _
  · have h1 := h.hi x y
    have h2 := h.hi i (y - o.wr.length)
    have h3 := h.lo i (y - o.wr.length)
    have h4 := ho.w1
    have h5 := h.lo x y
    have h6 := Rat.mul_nonneg h3 (show 0 ≤ 1 - o.w.q by grind)
    rw [c2]
    split
    · grind
    · grind
  · rw [if_neg (by have := ho.pl; omega)]
    exact h.out x y hx
  · split
    · rename_i hc
      obtain ⟨rfl, _⟩ := hc
      obtain ⟨z1, e1⟩ := h.int (i + o.pass) y
      obtain ⟨z2, e2⟩ := h.int i (y - o.wr.length)
      obtain ⟨z3, e3⟩ := ho.int
      refine ⟨z1 + z2 * z3 * ((D ^ (o.pass - 1) : Nat) : Int), ?_⟩
      have ep : ((D ^ (i + o.pass) : Nat) : Rat) = ((D ^ i : Nat) : Rat) * (D : Rat) * ((D ^ (o.pass - 1) : Nat) : Rat) := by
        rw [← Rat.natCast_mul, ← Rat.natCast_mul]
        congr 1
        have : i + o.pass = i + 1 + (o.pass - 1) := by have := ho.p1; omega
        rw [this, Nat.pow_add, Nat.pow_succ]
      rw [Rat.intCast_add, Rat.intCast_mul, Rat.intCast_mul, ← e1, ← e2, ← e3, Rat.intCast_natCast]
      generalize ((D ^ (i + o.pass) : Nat) : Rat) = X at ep ⊢
      rw [Rat.add_mul]
      congr 1
      rw [ep]
      grind
    · exact h.int x y
theorem WG.opts {L D i : Nat} {ps : List Int} : ∀ {os : List Opt} {c : Nat} {T : Nat → Nat → Rat}, WG L D c T → (∀ o ∈ os, OG L D i o) → WG L D (2 ^ os.length * c) (os.foldl (wOpt ps i) T) := by
  intro os
  induction os with
  | nil => intro c T h _; simpa using h
  | cons o os ih =>
    intro c T h ho
    have h1 := h.opt (ps := ps) (ho o (by simp)) (ps.length + 1)
    have := ih h1 fun o' ho' => ho o' (by simp [ho'])
    simp only [List.foldl_cons, List.length_cons]
    have e : 2 ^ (os.length + 1) * c = 2 ^ os.length * (2 * c) := by rw [Nat.pow_succ, Nat.mul_assoc]
    rw [e]; exact this
theorem optsS_le {r : List Rul} {l : List Int} {i : Nat} : (optsS r l i).length ≤ 2 := by
  unfold optsS
  split
  · simp
  · split
    · split <;> simp
    · simp
theorem WG.zero (L D : Nat) : WG L D 1 wT0 := by
  refine ⟨fun x y => ?_, fun x y => ?_, fun x y hx => ?_, fun x y => ?_⟩
  · unfold wT0; split <;> decide
  · unfold wT0; split <;> decide
  · unfold wT0; rw [if_neg (by omega)]
  · unfold wT0
    split
    · rename_i h; exact ⟨1, by rw [h.1]; simp⟩
    · exact ⟨0, by simp⟩
theorem WG.tab {r : List Rul} {l ps : List Int} {D : Nat} (ho : ∀ i, i < l.length → ∀ o ∈ optsS r l i, OG l.length D i o) : ∀ n, n ≤ l.length → WG l.length D (4 ^ n) (wTab r l ps n) := by
  intro n
  induction n with
  | zero => intro _; exact WG.zero _ _
  | succ n ih =>
    intro hn
    have h := ih (by omega)
    unfold wTab
    rw [List.range_succ, List.foldl_append]
    simp only [List.foldl_cons, List.foldl_nil]
    have h2 := h.opts (ps := ps) (ho n (by omega))
    refine WG.mono h2 ?_
    rw [Nat.pow_succ, Nat.mul_comm (4 ^ n)]
    refine Nat.mul_le_mul_right _ ?_
    exact Nat.le_trans (Nat.pow_le_pow_right (by omega) optsS_le) (by decide)
theorem szQ_of {q : Rat} {z : Int} {N k : Nat} (hN : N ≠ 0) (h : q * (N : Rat) = (z : Rat)) (h1 : z.natAbs < W32 ^ k) (h2 : N < W32 ^ k) : SzQ q k := by
  have hN' : (N : Rat) ≠ 0 := by rw [← nat0]; intro e; exact hN (Rat.natCast_inj.1 e)
  have : q = mkRat z N := by rw [Rat.mkRat_eq_div, ← h, Rat.mul_div_cancel hN']
  rw [this]
  exact szQ_mk hN (natD_len.2 h1) (natD_len.2 h2)
theorem WG.sz {L D c k : Nat} {T : Nat → Nat → Rat} (h : WG L D c T) (hD : 1 ≤ D) (hk : (c + 1) * D ^ L < W32 ^ k) (x y : Nat) : SzQ (T x y) k := by
  have hDp : ∀ x, 1 ≤ D ^ x := fun x => Nat.one_le_pow _ _ (by omega)
  have hk0 : 1 * 1 < W32 ^ k ∨ True := .inr trivial
  by_cases hx : L < x
  · rw [h.out x y hx]
    refine szQ_of (N := 1) (z := 0) (by omega) (by simp) ?_ ?_
    · have := hDp L; have : 0 < (c + 1) * D ^ L := Nat.mul_pos (by omega) (by omega); simp; omega
    · rcases Nat.eq_zero_or_pos k with rfl | hk'
      · have := hDp L; have : 0 < (c + 1) * D ^ L := Nat.mul_pos (by omega) (by omega); omega
      · exact Nat.one_lt_pow (by omega) (by decide)
  · obtain ⟨z, e⟩ := h.int x y
    have hx' : D ^ x ≤ D ^ L := Nat.pow_le_pow_right hD (by omega)
    have hz0 : (0 : Rat) ≤ (z : Rat) := by rw [← e]; exact Rat.mul_nonneg (h.lo _ _) (nat_nn _)
    have hz1 : (z : Rat) ≤ ((c * D ^ x : Nat) : Rat) := by
      rw [← e, Rat.natCast_mul]
      have h0 : (0 : Rat) ≤ ((D ^ x : Nat) : Rat) := nat_nn _
      have := Rat.mul_nonneg (show 0 ≤ (c : Rat) - T x y by have := h.hi x y; grind) h0
      grind
    have hz0' : 0 ≤ z := by rw [← Rat.intCast_zero, Rat.intCast_le_intCast] at hz0; exact hz0
    have hz1' : z ≤ ((c * D ^ x : Nat) : Int) := by rw [← Rat.intCast_natCast, Rat.intCast_le_intCast] at hz1; exact hz1
    have h1 : c * D ^ x ≤ c * D ^ L := Nat.mul_le_mul_left _ hx'
    have h2 : (c + 1) * D ^ L = c * D ^ L + D ^ L := by rw [Nat.add_mul, Nat.one_mul]
    have h3 := hDp L
    have h4 := hDp x
    exact szQ_of (by omega) e (by omega) (by omega)
theorem wSmall_of {r : List Rul} {l ps : List Int} {D : Nat} (hD : 1 ≤ D) (ho : ∀ i, i < l.length → ∀ o ∈ optsS r l i, OG l.length D i o) (hk : (4 ^ (l.length + 2) + 1) * D ^ l.length < W32 ^ 4000) : wSmall r l ps := by
  intro i a b o hi ha hb x y
  have h1 := WG.tab (ps := ps) ho i (by omega)
  have hom := ho i hi
  have h2 := h1.opts (ps := ps) (os := (optsS r l i).take a) fun o' ho' => hom o' (List.mem_of_mem_take ho')
  have h3 := h2.opt (ps := ps) (hom o (List.mem_of_getElem? ha)) b
  refine h3.sz hD ?_ x y
  refine Nat.lt_of_le_of_lt (Nat.mul_le_mul_right _ (Nat.succ_le_succ ?_)) hk
  have e1 : ((optsS r l i).take a).length ≤ 2 := by rw [List.length_take]; have := optsS_le (r := r) (l := l) (i := i); omega
  have e2 : 2 ^ ((optsS r l i).take a).length ≤ 4 := Nat.le_trans (Nat.pow_le_pow_right (by omega) e1) (by decide)
  have e3 : 4 ^ i ≤ 4 ^ l.length := Nat.pow_le_pow_right (by omega) (by omega)
  have e4 : 2 ^ ((optsS r l i).take a).length * 4 ^ i ≤ 4 * 4 ^ l.length := Nat.mul_le_mul e2 e3
  have e5 : 4 ^ (l.length + 2) = 16 * 4 ^ l.length := by rw [Nat.pow_add, Nat.mul_comm]
  omega
end Bh
namespace Bh
open Go Go.Proofs
theorem mul_den (q : Rat) : q * (q.den : Rat) = (q.num : Rat) := by
  have h : (q.den : Rat) ≠ 0 := by rw [← nat0]; intro e; exact q.den_nz (Rat.natCast_inj.1 e)
  have e : (q.num : Rat) / (q.den : Rat) = q := by rw [← Rat.mkRat_eq_div, Rat.mkRat_self]
  have := Rat.div_mul_cancel (a := (q.num : Rat)) h
  rw [e] at this; exact this
theorem sgnQ_pos {q : Rat} : 0 < sgnQ q ↔ 0 < q := by
  unfold sgnQ
  by_cases h : q = 0
  · rw [if_pos h, h]; decide
  · by_cases h2 : q < 0
    · rw [if_neg h, if_pos h2]
      constructor
      · intro h3; omega
      · intro h3; exfalso; grind
    · rw [if_neg h, if_neg h2]
      constructor
      · intro _; grind
      · intro _; omega
theorem sgnQ_neg {q : Rat} : sgnQ q < 0 ↔ q < 0 := by
  unfold sgnQ
  by_cases h : q = 0
  · rw [if_pos h, h]; decide
  · by_cases h2 : q < 0
    · rw [if_neg h, if_pos h2]; simp [h2]
    · rw [if_neg h, if_neg h2]
      constructor
      · intro h3; omega
      · intro h3; exact absurd h3 h2
theorem sgnQ_zero {q : Rat} : sgnQ q = 0 ↔ q = 0 := by
  unfold sgnQ
  by_cases h : q = 0
  · rw [if_pos h]; simp [h]
  · rw [if_neg h]
    split
    · constructor
      · intro h; omega
      · intro h'; exact absurd h' h
    · constructor
      · intro h; omega
      · intro h'; exact absurd h' h
theorem cmpQ_le {p q : Rat} : cmpQ p q ≤ 0 ↔ p ≤ q := by
  unfold cmpQ
  have := sgnQ_pos (q := p + -q)
  constructor
  · intro h
    have : ¬ 0 < p + -q := fun h' => by have := this.2 h'; omega
    grind
  · intro h
    have h' : ¬ 0 < p + -q := by grind
    have : ¬ 0 < sgnQ (p + -q) := fun h'' => h' (this.1 h'')
    omega
theorem cmpQ_zero {p q : Rat} : cmpQ p q = 0 ↔ p = q := by
  unfold cmpQ
  rw [sgnQ_zero]
  constructor <;> intro h <;> grind
theorem weightyB_iff {x : Fr} : weightyB x = true ↔ 0 < x.q ∧ x.q ≤ 1 := by
  unfold weightyB
  simp only [Bool.and_eq_true, decide_eq_true_eq, sgnQ_pos, cmpQ_le]
structure RG (x : Rul) : Prop where
  f1 : 1 ≤ x.fr.length
  f4 : x.fr.length ≤ 4
  fp : ∀ p ∈ x.fr, 1 ≤ p
  t4 : x.to.length ≤ 4
  w0 : 0 < x.wt.q
  w1 : x.wt.q ≤ 1
  ok : x.wt.OK 4
theorem phonedB_mem {l : List Int} {n : Nat} (h : phonedB l n = true) : l.length ≤ n ∧ ∀ p ∈ l, 1 ≤ p ∧ p ≤ 200 := by
  unfold phonedB at h
  simp only [Bool.and_eq_true, decide_eq_true_eq, Bool.not_eq_true', List.any_eq_false] at h
  refine ⟨h.1, fun p hp => ?_⟩
  have := h.2 p hp
  unfold badP at this
  simp only [Bool.or_eq_true, decide_eq_true_eq, not_or] at this
  omega
theorem rg_of {x : Rul} (h : badR x = false) (hok : x.OK 4) : RG x := by
  unfold badR at h
  simp only [Bool.or_eq_false_iff, decide_eq_false_iff_not, Bool.not_eq_false'] at h
  obtain ⟨⟨⟨⟨⟨h1, h2⟩, h3⟩, h4⟩, h5⟩, h6⟩ := h
  have a := phonedB_mem h2
  have b := phonedB_mem h3
  have c := weightyB_iff.1 h6
  exact ⟨by omega, a.1, fun p hp => (a.2 p hp).1, b.1, c.1, c.2, hok.wt⟩
theorem rgs_of {r : List Rul} (h : rulesB r = true) (hok : ∀ x ∈ r, x.OK 4) : r.length ≤ 50 ∧ ∀ x ∈ r, RG x := by
  unfold rulesB at h
  simp only [Bool.and_eq_true, decide_eq_true_eq, Bool.not_eq_true', List.any_eq_false] at h
  exact ⟨h.1, fun x hx => rg_of (by simpa using h.2 x hx) (hok x hx)⟩
theorem match_fits {x : Rul} {l : List Int} {i : Nat} (hx : RG x) (h : matchB x l i = true) : i + x.fr.length ≤ l.length := by
  unfold matchB fromB at h
  simp only [Bool.and_eq_true, List.all_eq_true, List.mem_range, beq_iff_eq] at h
  have h1 := h.1.1 (x.fr.length - 1) (by have := hx.f1; omega)
  rcases Nat.lt_or_ge l.length (i + x.fr.length) with hc | hc
  · exfalso
    have hf := hx.f1
    have e1 : nearZ l (i + (x.fr.length - 1) : Nat) = 0 := by
      unfold nearZ
      rw [if_neg (by omega)]
      rw [List.getD, List.getElem?_eq_none (by simp; omega)]; rfl
    rw [e1] at h1
    have e2 : x.fr.getD (x.fr.length - 1) 0 = x.fr[x.fr.length - 1]'(by omega) := by
      rw [List.getD, List.getElem?_eq_getElem (by omega)]; rfl
    have := hx.fp _ (List.getElem_mem (show x.fr.length - 1 < x.fr.length by omega))
    rw [e2] at h1
    omega
  · exact hc
def denR (r : List Rul) : Nat := r.foldr (fun x d => x.wt.q.den * d) 1
theorem denR_pos : ∀ r : List Rul, 1 ≤ denR r
  | [] => Nat.le_refl 1
  | x :: r => Nat.mul_pos x.wt.q.den_pos (denR_pos r)
theorem denR_int : ∀ {r : List Rul} {x : Rul}, x ∈ r → ∃ z : Int, x.wt.q * (denR r : Rat) = (z : Rat) := by
  intro r
  induction r with
  | nil => intro x hx; simp at hx
  | cons y r ih =>
    intro x hx
    have e : (denR (y :: r) : Rat) = (y.wt.q.den : Rat) * (denR r : Rat) := Rat.natCast_mul _ _
    rw [e]
    rcases List.mem_cons.1 hx with rfl | hx
    · refine ⟨x.wt.q.num * ((denR r : Nat) : Int), ?_⟩
      have : x.wt.q * (x.wt.q.den : Rat) = (x.wt.q.num : Rat) := mul_den _
      rw [Rat.intCast_mul, Rat.intCast_natCast, ← this]; grind
    · obtain ⟨z, hz⟩ := ih hx
      refine ⟨z * ((y.wt.q.den : Nat) : Int), ?_⟩
      rw [Rat.intCast_mul, Rat.intCast_natCast, ← hz]; grind
theorem denR_lt : ∀ {r : List Rul}, (∀ x ∈ r, x.wt.OK 4) → denR r < W32 ^ (4 * r.length + 1)
  | [], _ => by unfold denR; exact Nat.one_lt_pow (by omega) (by decide)
  | x :: r, h => by
    have h1 := denR_lt (r := r) fun y hy => h y (by simp [hy])
    have h2 := natD_len.1 (Fr.sz (x := x.wt) (h x (by simp)) (by omega)).2
    have : denR (x :: r) < W32 ^ 4 * W32 ^ (4 * r.length + 1) := Nat.mul_lt_mul'' h2 h1
    rw [← Nat.pow_add] at this
    simp only [List.length_cons]
    rw [show 4 * (r.length + 1) + 1 = 4 + (4 * r.length + 1) by omega]
    exact this
theorem canF1_OK {q : Rat} {k : Nat} (h : SzQ q k) : (canF q).OK k := canF_ok h
theorem og_of {r : List Rul} (hr : ∀ x ∈ r, RG x) {l : List Int} {i : Nat} (hi : i < l.length) {o : Opt} (ho : o ∈ optsS r l i) : OG l.length (denR r) i o ∧ o.wr.length ≤ 4 ∧ o.w.OK 5 := by
  have one : OG l.length (denR r) i ⟨[l.getD i 0], 1, canF 1⟩ ∧ ([l.getD i 0] : List Int).length ≤ 4 ∧ (canF 1).OK 5 := by
    refine ⟨⟨Nat.le_refl 1, by show i + 1 ≤ _; omega, by rw [canF_q]; decide, by rw [canF_q]; decide, ⟨(denR r : Int), by rw [canF_q, Rat.one_mul, Rat.intCast_natCast]⟩⟩, by simp, ?_⟩
    refine canF_ok ⟨?_, ?_⟩ <;> exact natD_len.2 (Nat.one_lt_pow (by omega) (by decide))
  unfold optsS at ho
  split at ho
  · simp only [List.mem_singleton] at ho; subst ho; exact one
  · rename_i n hn
    split at ho
    · rename_i x hx
      have hxm := List.mem_of_getElem? hx
      have g := hr x hxm
      have hm : matchB x l i = true := by
        obtain ⟨h1, h2, _⟩ := List.findIdx?_eq_some_iff_getElem.1 hn
        have : x = r[n] := by rw [List.getElem?_eq_getElem h1] at hx; injection hx with hx; exact hx.symm
        rw [this]; exact h2
      rcases List.mem_cons.1 ho with rfl | ho
      · refine ⟨⟨g.f1, match_fits g hm, by have := g.w0; grind, g.w1, denR_int hxm⟩, g.t4, ⟨g.ok.n1, g.ok.d1, Nat.le_trans g.ok.nl (by omega), Nat.le_trans g.ok.dl (by omega)⟩⟩
      · split at ho
        · rename_i hpos
          simp only [List.mem_singleton] at ho; subst ho
          have hp := sgnQ_pos.1 hpos
          have hw := g.w0
          obtain ⟨z, hz⟩ := denR_int hxm
          refine ⟨⟨Nat.le_refl 1, by show i + 1 ≤ _; omega, by rw [canF_q]; grind, by rw [canF_q]; grind, ⟨(denR r : Int) - z, ?_⟩⟩, by simp, ?_⟩
          · rw [canF_q, Rat.intCast_sub, ← hz, Rat.intCast_natCast]; grind
          · have hs := Fr.sz (x := x.wt) (k := 4) g.ok (by omega)
            have h2 := natD_len.1 hs.2
            refine canF_ok (szQ_of (N := x.wt.q.den) (z := (x.wt.q.den : Int) - x.wt.q.num) x.wt.q.den_nz ?_ ?_ (Nat.lt_of_lt_of_le h2 (Nat.pow_le_pow_right (by decide) (by omega))))
            · have : x.wt.q * (x.wt.q.den : Rat) = (x.wt.q.num : Rat) := mul_den _
              rw [Rat.intCast_sub, ← this, Rat.intCast_natCast]; grind
            · have h3 : 0 < x.wt.q.num := by
                have h5 : (0 : Rat) < (x.wt.q.num : Rat) := by
                  rw [← mul_den]
                  refine Rat.mul_pos g.w0 ?_
                  rw [← nat0, Rat.natCast_lt_natCast]; exact x.wt.q.den_pos
                rw [← Rat.intCast_zero, Rat.intCast_lt_intCast] at h5; exact h5
              have h4 : x.wt.q.num ≤ x.wt.q.den := by
                have := g.w1
                have h5 : (x.wt.q.num : Rat) ≤ (x.wt.q.den : Rat) := by
                  have e : x.wt.q * (x.wt.q.den : Rat) = (x.wt.q.num : Rat) := mul_den _
                  rw [← e]
                  have := Rat.mul_nonneg (show 0 ≤ 1 - x.wt.q by grind) (nat_nn x.wt.q.den)
                  grind
                rw [← Rat.intCast_natCast, Rat.intCast_le_intCast] at h5; exact h5
              have : ((x.wt.q.den : Int) - x.wt.q.num).natAbs < x.wt.q.den := by omega
              exact Nat.lt_trans this (Nat.lt_of_lt_of_le h2 (Nat.pow_le_pow_right (by decide) (by omega)))
        · simp at ho
    · simp at ho
theorem w32le {a b : Nat} (h : a ≤ b) : W32 ^ a ≤ W32 ^ b := Nat.pow_le_pow_right (by decide) h
theorem w32lt {a b : Nat} (h : a < b) : W32 ^ a < W32 ^ b := Nat.pow_lt_pow_right (by decide) h
theorem two_le {a b : Nat} (h : a ≤ b) : 2 ^ a ≤ 2 ^ b := Nat.pow_le_pow_right (by decide) h
theorem w32_pow2 (k : Nat) : W32 ^ k = 2 ^ (32 * k) := by rw [Nat.pow_mul]; rfl
theorem w32mul {x y a b : Nat} (h1 : x ≤ W32 ^ a) (h2 : y ≤ W32 ^ b) : x * y ≤ W32 ^ (a + b) := by rw [Nat.pow_add]; exact Nat.mul_le_mul h1 h2
theorem w32four {a b c : Nat} (h : a + a + (b + b) < c) : W32 ^ a * W32 ^ a * (W32 ^ b * W32 ^ b) < W32 ^ c := by
  rw [← Nat.pow_add, ← Nat.pow_add, ← Nat.pow_add]; exact w32lt h
theorem weightR_call (r : List Rul) (l ps : List Int) (hr : ∀ x ∈ r, RG x) (hok : ∀ x ∈ r, x.OK 4) (hrl : r.length ≤ 1000) (hl : l.length ≤ 100) (hp : ps.length ≤ 100000) (hs : (4 * r.length + 1) * l.length ≤ 3900) : PCall Tryz.prog 59 [.sl (r.map Rul.V), intsV l, intsV ps] (fracV (weightQ r l ps)) := by
  refine weight_call r l ps hrl hok (by omega) hp (fun i hi o ho => ?_) (wSmall_of (denR_pos r) (fun i hi o ho => (og_of hr hi ho).1) ?_)
  · obtain ⟨h1, h2, h3⟩ := og_of hr hi ho
    exact ⟨h1.p1, h1.pl, by omega, ⟨h3.n1, h3.d1, by have := h3.nl; omega, by have := h3.dl; omega⟩⟩
  · have h1 : denR r ^ l.length ≤ (W32 ^ (4 * r.length + 1)) ^ l.length := Nat.pow_le_pow_left (Nat.le_of_lt (denR_lt fun x hx => (hr x hx).ok)) _
    rw [← Nat.pow_mul] at h1
    have h2 := w32le hs
    have h3 : 4 ^ (l.length + 2) + 1 ≤ W32 ^ 99 := by
      have : 4 ^ (l.length + 2) ≤ 4 ^ 102 := Nat.pow_le_pow_right (by omega) (by omega)
      have e : (4 : Nat) ^ 102 + 1 ≤ W32 ^ 99 := by
        have : (4 : Nat) ^ 102 ≤ W32 ^ 98 := by
          have : (4 : Nat) ^ 102 = 2 ^ 204 := by decide
          have e2 := w32_pow2 98
          have h4 := two_le (show 204 ≤ 32 * 98 by omega)
          rw [this, e2]; exact h4
        have e3 : W32 ^ 99 = W32 ^ 98 * W32 := Nat.pow_succ ..
        have e4 : 1 ≤ W32 ^ 98 := Nat.one_le_pow _ _ (by decide)
        have w32 : W32 = 4294967296 := rfl
        rw [e3, w32] at *
        omega
      omega
    have h5 := w32mul h3 (Nat.le_trans h1 h2)
    have h6 := w32lt (show 99 + 3900 < 4000 by omega)
    exact Nat.lt_of_le_of_lt h5 h6
end Bh
namespace Go.Proofs
open Go.Shelf Go.RowKit Go.Lib
def Tryz.bren : Ren :=
  ⟨fun n => match n with | 166 => 152 | 167 => 154 | 169 => 155 | 240 => 191 | 276 => 226 | n => n,
   fun n => match n with | 37 => 201 | 70 => 200 | 72 => 203 | 75 => 205 | 80 => 210 | 164 => 259 | n => n,
   fun g => g⟩
theorem Tryz.b166 : Lays.n166 Tryz.prog Tryz.bren := by constructor <;> first | kernel_rfl | (intro w; kernel_rfl)
theorem Tryz.b167 : Lays.n167 Tryz.prog Tryz.bren := by constructor <;> first | kernel_rfl | (intro w; kernel_rfl)
theorem Tryz.bX : Builder.Extra Tryz.prog Tryz.bren := by constructor <;> first | kernel_rfl | (intro w; kernel_rfl) | (constructor <;> first | kernel_rfl | (intro w; kernel_rfl)) | decide
def Tryz.l169_ren : Ren :=
  ⟨fun n => match n with | 169 => 155 | n => n,
   fun n => match n with | 70 => 200 | 9 => 9 | 0 => 0 | 72 => 203 | 37 => 201 | 127 => 234 | 3 => 3 | 5 => 5 | n => n,
   fun n => n⟩
theorem Tryz.l169 : Lays.n169 Tryz.prog Tryz.l169_ren := by constructor <;> first | kernel_rfl | (intro w; kernel_rfl) | (constructor <;> first | kernel_rfl | (intro w; kernel_rfl)) | decide
def Tryz.lM171_ren : Ren :=
  ⟨fun n => match n with | 171 => 153 | 243 => 192 | 246 => 227 | 283 => 237 | 284 => 238 | 285 => 239 | 286 => 240 | 129 => 181 | 317 => 244 | 318 => 245 | 319 => 246 | 320 => 247 | 337 => 248 | 338 => 249 | n => n,
   fun n => match n with | 3 => 3 | 9 => 9 | 2 => 2 | 4 => 4 | 171 => 269 | 0 => 0 | 53 => 137 | 37 => 201 | 5 => 5 | 173 => 271 | 212 => 276 | 51 => 171 | 20 => 20 | 213 => 277 | 46 => 185 | 232 => 278 | 233 => 279 | n => n,
   fun n => match n with | 17 => 1 | 18 => 2 | 19 => 3 | n => n⟩
theorem Tryz.lM171 : LaysM.n171 Tryz.prog Tryz.lM171_ren := by constructor <;> first | kernel_rfl | (intro w; kernel_rfl) | (constructor <;> first | kernel_rfl | (intro w; kernel_rfl)) | decide
theorem Tryz.bX169 : Builder.Extra Tryz.prog Tryz.l169_ren := by constructor <;> first | kernel_rfl | (intro w; kernel_rfl) | (constructor <;> first | kernel_rfl | (intro w; kernel_rfl)) | decide
end Go.Proofs
namespace Go.Proofs
open Go.RowKit Go.Shelf Go.Lib
def Tryz.prL (l : List Int) : List UInt8 := l.flatMap fun z => Lib.itoa z ++ [32]
theorem Tryz.prL_succ (l : List Int) (k : Nat) (h : k < l.length) : Tryz.prL (l.take (k + 1)) = Tryz.prL (l.take k) ++ (Lib.itoa l[k] ++ [32]) := by
  unfold Tryz.prL
  rw [List.take_succ_eq_append_getElem h, List.flatMap_append]
  simp
theorem Tryz.prL_len (l : List Int) (hz : ∀ z ∈ l, -9223372036854775808 ≤ z ∧ z ≤ 9223372036854775807) : (Tryz.prL l).length ≤ 22 * l.length := by
  induction l with
  | nil => exact Nat.le_refl _
  | cons z l ih =>
    have h1 := ih fun y hy => hz y (by simp [hy])
    have h2 := Lib.itoa_length_le z (hz z (by simp)).1 (hz z (by simp)).2
    unfold Tryz.prL at h1 ⊢
    simp only [List.flatMap_cons, List.length_append, List.length_cons, List.length_nil]
    omega
theorem builder_kept {T e : TypeId} {B b : Nat} {p : Value} {bs : List Value} {w w' : World} (h : Lib.BuilderAt T e B b p bs w) (hk : ∀ i, i < w.heap.size → w'.heap[i]? = w.heap[i]?) : Lib.BuilderAt T e B b p bs w' := by
  obtain ⟨h1, v, h2, h3, h4⟩ := h
  have lt : ∀ {i : Nat} {o : Obj}, w.heap[i]? = some o → i < w.heap.size := fun h => (Array.getElem?_eq_some_iff.1 h).1
  refine ⟨h1, v, by rw [hk _ (lt h2)]; exact h2, ⟨h3.1, ?_⟩, h4⟩
  rcases h3.2 with h | ⟨g, cap, cur, k1, k2, k3, k4⟩
  · exact .inl h
  · exact .inr ⟨g, cap, cur, k1, k2, by rw [hk _ (lt k3)]; exact k3, k4⟩
theorem isBuilder_kept {T e : TypeId} {B b : Nat} {bs : List Value} {w w' : World} (h : Lib.IsBuilder T e B b bs w) (hk : ∀ i, i < w.heap.size → w'.heap[i]? = w.heap[i]?) : Lib.IsBuilder T e B b bs w' := by
  rcases h with h | h
  · exact .inl (builder_kept h hk)
  · exact .inr (builder_kept h hk)
set_option maxHeartbeats 4000000 in
set_option maxRecDepth 1000000 in
theorem Tryz.printed_w (ad : Option Addr) (l : List Int) (cap : Nat) (w : World) (hc : ∀ j (h : j < l.length), ∃ a, ad = some a ∧ a.block < w.heap.size ∧ w.cell? (a.add j) = some (.int .i64 l[j]))
    (htab : Lib.TabBelow Tryz.prog w.heap.size w "internal/strconv.uint64pow10" .u64 Lib.pow10Tab) (hz : ∀ z ∈ l, -9223372036854775808 ≤ z ∧ z ≤ 9223372036854775807) (hl : l.length ≤ 1000000000000) :
    Calls Tryz.prog 99 #[.slice ad l.length cap] w fun e w' => e = .returned (.string ⟨(Tryz.prL l).toArray⟩) ∧ Below w.heap.size w w' := by
  go_enter Tryz.func99, Tryz.ntmps99
  go_wp2
  go_loopw [8] (fun i wr => ∃ k : Nat, k ≤ l.length ∧ i = .int .i64 k ∧ Lib.IsBuilder 203 5 w.heap.size w.heap.size (Lib.byteCells (Tryz.prL (l.take k))) wr ∧ Below w.heap.size w wr) (fun i wr => l.length - (RowKit.intOf i).toNat)
  case atStart =>
    exact ⟨0, by omega, rfl, Lib.fresh_isBuilder 203 5 w, (Below.refl _ w).alloc (Nat.le_refl _) _⟩
  case round =>
    obtain ⟨k, hk, rfl, hI, hbw⟩ := hrel
    have hsz := hbw.size
    have hlen := Tryz.prL_len (l.take k) fun z h => hz z (List.mem_of_mem_take h)
    rw [List.length_take] at hlen
    by_cases hp : k < l.length
    · have hp' : (k : Int) < (l.length : Int) := by omega
      obtain ⟨a, rfl, hab, hcell⟩ := hc k hp
      have hcell' : wr.cell? (a.add k) = some (.int .i64 l[k]) := by
        rw [World.cell?_of_block (w := w) (w' := wr) (hbw.block _ (by rw [show (a.add k).block = a.block by unfold Addr.add; split <;> rfl]; exact hab))]; exact hcell
      have hzk := hz l[k] (List.getElem_mem hp)
      have hil := Lib.itoa_length_le l[k] hzk.1 hzk.2
      go_wp2_with (go_at_call 153; refine (Any.strconv_Itoa Tryz.lM171 l[k] hzk.1 hzk.2 wr (htab wr hbw)).mono ?_)
      rintro e W1 ⟨rfl, kk, os, rfl⟩
      have b1 : Below w.heap.size wr (Go.Sort.grow (wr.drewN kk) os) := below_grow _ _ hsz _ _
      have hI2 := isBuilder_kept hI (w' := Go.Sort.grow (wr.drewN kk) os) (below_grow wr.heap.size wr (Nat.le_refl _) kk os).block
      have hsz2 : w.heap.size ≤ (Go.Sort.grow (wr.drewN kk) os).heap.size := Nat.le_trans hsz b1.size
      go_wp2_with (go_at_call 152; refine (Any.Builder_WriteString Tryz.b166 Tryz.bX w.heap.size w.heap.size _ ⟨(Lib.itoa l[k]).toArray⟩ _ hI2 (by rw [Lib.byteCells_length]; show _ + (Lib.itoa l[k]).toArray.size ≤ _; rw [List.size_toArray]; omega) hsz2).mono ?_)
      rintro e W2 ⟨rfl, h2, b2⟩
      go_wp2_with (go_at_call 154; refine (Any.Builder_WriteByte Tryz.b167 Tryz.bX w.heap.size w.heap.size _ 32 _ (.inr h2) (by rw [List.length_append, Lib.byteCells_length]; show _ + (Lib.strCells ⟨(Lib.itoa l[k]).toArray⟩).length + 1 ≤ _; rw [Lib.strCells_length]; show _ + (Lib.itoa l[k]).toArray.size + 1 ≤ _; rw [List.size_toArray]; omega) (Nat.le_trans hsz2 b2.size)).mono ?_)
      rintro e W3 ⟨rfl, h3, b3⟩
      go_wp2
      go_roundw
      case rel =>
        refine ⟨k + 1, by omega, ?_, ?_, ((hbw.trans b1).trans b2).trans b3⟩
        · rfl
        · right
          have e : Lib.byteCells (Tryz.prL (l.take (k + 1))) = Lib.byteCells (Tryz.prL (l.take k)) ++ Lib.strCells ⟨(Lib.itoa l[k]).toArray⟩ ++ [.int .u8 32] := by
            rw [Tryz.prL_succ l k hp, Lib.byteCells_append, Lib.byteCells_append, List.append_assoc]
            congr 1
          rw [e]; exact h3
      case measure =>
        simp only [RowKit.intOf]
        omega
    · have hp' : ¬ (k : Int) < (l.length : Int) := by omega
      have etk : l.take k = l := List.take_of_length_le (by omega)
      rw [etk] at hI
      go_wp2_with (go_at_call 155; refine (Any.Builder_String_any Tryz.l169 Tryz.bX169 w.heap.size w.heap.size _ wr hI hsz).mono ?_)
      rintro e W1 ⟨rfl, b1⟩
      go_wp2
      intro b2
      go_wp2
      go_ret
      exact ⟨rfl, hbw.trans b2⟩
end Go.Proofs
namespace Bh
open Go Go.Proofs
theorem glob_tab {γ : Han} {Per : Nat → Prop} {H : AHeap} {w : World} (hH : HRep γ Per H w) : Lib.TabBelow Tryz.prog w.heap.size w "internal/strconv.uint64pow10" .u64 Lib.pow10Tab := by
  intro w' hb
  obtain ⟨h1, T, fr, h2⟩ := hH.glob (1, u64s [1, 10, 100, 1000, 10000, 100000, 1000000, 10000000, 100000000, 1000000000, 10000000000, 100000000000, 1000000000000, 10000000000000, 100000000000000, 1000000000000000, 10000000000000000, 100000000000000000, 1000000000000000000, 10000000000000000000]) (List.mem_singleton.2 rfl)
  have hlt : 1 < w.heap.size := (Array.getElem?_eq_some_iff.1 h2).1
  have hgn : Tryz.prog.globalNamed "internal/strconv.uint64pow10" = some 1 := by kernel_rfl
  unfold Lib.TabIs World.var?
  rw [hgn]
  simp only [Option.bind_some]
  rw [hb.block 1 hlt]
  simp only at h2
  rw [h2]
  rfl
theorem below_extW {w w' : World} (h : RowKit.Below w.heap.size w w') : ExtW w w' := ⟨fun i hi => h.block i hi, h.size, h.os, h.tape, h.output⟩
theorem printed_call (l : List Int) (hz : ∀ z ∈ l, -9223372036854775808 ≤ z ∧ z ≤ 9223372036854775807) (hl : l.length ≤ 1000000000000) : PCall Tryz.prog 99 [intsV l] (.v (.string ⟨(Tryz.prL l).toArray⟩)) := by
  intro H
  refine ⟨enters_of Tryz.func99 (by kernel_rfl) rfl, fun γ Per w vs hY hH hv => ?_⟩
  obtain ⟨v, vs', rfl, h1, h2⟩ := ARs.cons hv
  have := h2.nil
  subst this
  have h1 := h1.pv
  unfold intsV at h1
  generalize hes : l.map intV = es at h1
  cases h1 with
  | sl _ a cap k f hcap hmax hc hk hp he =>
    have hlen : es.length = l.length := by rw [← hes]; simp
    rw [hlen]
    refine (Tryz.printed_w a l cap w (fun j hj => ?_) (glob_tab hH) hz hl).mono ?_
    · have hke : k = 1 := by
        have : l[j] ∈ l := List.getElem_mem hj
        have hm : intV l[j] ∈ es := by rw [← hes]; exact List.mem_map_of_mem this
        exact (hk _ hm).symm
      subst hke
      obtain ⟨ad, e1, e2, e3, e4⟩ := hc j (by omega)
      have hej : es[j]? = some (intV l[j]) := by rw [← hes]; simp [hj]
      have hve := he j _ hej
      have hfj : f j = .int .i64 l[j] := by
        unfold intV at hve
        simp only [packN, PV.isAgg, Bool.false_eq_true, if_false, Nat.mul_one] at hve
        generalize f j = z at hve
        cases hve; rfl
      exact ⟨ad, e1, hH.per _ e2, by rw [e4, hfj]⟩
    · rintro e w' ⟨rfl, hb⟩
      have hx := below_extW hb
      exact ⟨_, .p (.v (.string ⟨(Tryz.prL l).toArray⟩)), H, γ, Per, rfl, ⟨rfl, rfl⟩, .p _ _ (.v _), hH.ext hx (fun b h => h) (fun b h => .inl h), hx.more hH (fun b h => h)⟩
end Bh
namespace Bh
open Go Go.Proofs
def dig3 (n : Nat) : List UInt8 := bif Nat.blt n 10 then [UInt8.ofNat (48 + n)] else bif Nat.blt n 100 then [UInt8.ofNat (48 + n / 10), UInt8.ofNat (48 + n % 10)] else [UInt8.ofNat (48 + n / 10 / 10), UInt8.ofNat (48 + n / 10 % 10), UInt8.ofNat (48 + n % 10)]
def prE : List Int → Option (List UInt8)
  | [] => some []
  | .ofNat n :: l => bif Nat.blt n 1000 then (match prE l with | some m => some (dig3 n ++ 32 :: m) | none => none) else none
  | _ => none
def orcPr : List PV → Option PV
  | [x] => match intsOf x with | some l => (match prE l with | some b => bif Nat.ble l.length 1000 then some (.v (.string ⟨b.toArray⟩)) else none | none => none) | none => none
  | _ => none
theorem dig3_ok {n : Nat} (h : n < 1000) : dig3 n = Lib.itoa (n : Int) := by
  rw [Lib.itoa_nonneg]
  unfold dig3
  by_cases h1 : n < 10
  · rw [blt_iff.2 h1, Lib.decDigits_one h1]; rfl
  · rw [blt_f h1]
    by_cases h2 : n < 100
    · rw [blt_iff.2 h2, Lib.decDigits_two h1 h2]; rfl
    · rw [blt_f h2, Lib.decDigits, dif_neg h1, Lib.decDigits_two (by omega) (by omega)]; rfl
theorem prE_ok : ∀ {l : List Int} {b : List UInt8}, prE l = some b → b = Tryz.prL l ∧ ∀ z ∈ l, -9223372036854775808 ≤ z ∧ z ≤ 9223372036854775807 := by
  intro l
  induction l with
  | nil => intro b h; injection h with h; subst h; exact ⟨rfl, fun z hz => by simp at hz⟩
  | cons z l ih =>
    intro b h
    unfold prE at h
    split at h
    · rename_i e; cases e
    · rename_i n l' e
      injection e with e1 e2; subst e1; subst e2
      cases hn : Nat.blt n 1000 with
      | false => rw [hn] at h; cases h
      | true =>
        rw [hn] at h
        simp only [cond_true] at h
        have hn := blt_iff.1 hn
        split at h
        · rename_i m hm
          injection h with h; subst h
          obtain ⟨k1, k2⟩ := ih hm
          refine ⟨?_, fun z hz => ?_⟩
          · rw [k1, dig3_ok hn]
            unfold Tryz.prL
            rw [List.flatMap_cons]
            show _ = (Lib.itoa (n : Int) ++ [32]) ++ _
            simp
          · rcases List.mem_cons.1 hz with rfl | hz
            · constructor <;> (show _ ≤ _; simp <;> omega)
            · exact k2 z hz
        · cases h
    · cases h
theorem orcPr_ok {a : List PV} {y : PV} (h : orcPr a = some y) : PCall Tryz.prog 99 a y := by
  unfold orcPr at h
  split at h
  · rename_i x
    split at h
    · rename_i l hl
      split at h
      · rename_i b hb
        cases hn : Nat.ble l.length 1000 with
        | false => rw [hn] at h; cases h
        | true =>
          rw [hn] at h
          simp only [cond_true, Option.some.injEq] at h; subst h
          obtain ⟨k1, k2⟩ := prE_ok hb
          have hn := Nat.le_of_ble_eq_true hn
          rw [k1]
          exact pcall_wk1 (printed_call l k2 (by omega)) (intsOf_ok hl)
      · cases h
    · cases h
  · cases h
def okRul (x : Rul) : Bool := Nat.ble x.fr.length 1000 && Nat.ble x.to.length 1000 && Nat.ble x.l.length 1000 && Nat.ble x.r.length 1000 && okN x.wt.n && okN x.wt.d && Nat.ble x.wt.n.length 4 && Nat.ble x.wt.d.length 4
theorem okRul_ok {x : Rul} (h : okRul x = true) : x.OK 4 := by
  simp only [okRul, Bool.and_eq_true] at h
  obtain ⟨⟨⟨⟨⟨⟨⟨h1, h2⟩, h3⟩, h4⟩, h5⟩, h6⟩, h7⟩, h8⟩ := h
  exact ⟨Nat.le_of_ble_eq_true h1, Nat.le_of_ble_eq_true h2, Nat.le_of_ble_eq_true h3, Nat.le_of_ble_eq_true h4, (okN_ok h5).1, (okN_ok h6).1, Nat.le_of_ble_eq_true h7, Nat.le_of_ble_eq_true h8⟩
def orcW : List PV → Option PV
  | [r, l, p] => match rulsOf r, intsOf l, intsOf p with
    | some r, some l, some p => bif r.all okRul && rulesB r && Nat.ble r.length 10 && Nat.ble l.length 50 && Nat.ble p.length 1000 then frE (weightQ r l p) else none
    | _, _, _ => none
  | _ => none
theorem orcW_ok {a : List PV} {y : PV} (h : orcW a = some y) : PCall Tryz.prog 59 a y := by
  unfold orcW at h
  split at h
  · rename_i r l p
    split at h
    · rename_i r' l' p' hr hl hp
      cases hc : (r'.all okRul && rulesB r' && Nat.ble r'.length 10 && Nat.ble l'.length 50 && Nat.ble p'.length 1000) with
      | false => rw [hc] at h; cases h
      | true =>
        rw [hc] at h
        simp only [cond_true] at h
        simp only [Bool.and_eq_true, List.all_eq_true] at hc
        obtain ⟨⟨⟨⟨h1, h2⟩, h3⟩, h4⟩, h5⟩ := hc
        have h3 := Nat.le_of_ble_eq_true h3
        have h4 := Nat.le_of_ble_eq_true h4
        have h5 := Nat.le_of_ble_eq_true h5
        have hok : ∀ x ∈ r', x.OK 4 := fun x hx => okRul_ok (h1 x hx)
        rw [frE_ok h]
        have hb : (4 * r'.length + 1) * l'.length ≤ 41 * 50 := Nat.mul_le_mul (by omega) h4
        refine (weightR_call r' l' p' (rgs_of h2 hok).2 hok (by omega) (by omega) (by omega) (by omega)).wk rfl (fun j x z hx hz => ?_) (.refl _)
        match j, hx, hz with
        | 0, hx, hz => simp at hx hz; subst hx; subst hz; exact rulsOf_ok hr
        | 1, hx, hz => simp at hx hz; subst hx; subst hz; exact intsOf_ok hl
        | 2, hx, hz => simp at hx hz; subst hx; subst hz; exact intsOf_ok hp
    · cases h
  · cases h
def orc5 (f : Nat) (a : List PV) : Option PV := bif Nat.beq f 99 then orcPr a else bif Nat.beq f 59 then orcW a else orc0 f a
theorem orc5_ok : OrcOK Tryz.prog orc5 := by
  intro f a y h
  unfold orc5 at h
  cases h1 : Nat.beq f 99 with
  | true => rw [h1] at h; rw [Nat.eq_of_beq_eq_true h1]; exact orcPr_ok h
  | false =>
    rw [h1] at h; simp only [cond_false] at h
    cases h2 : Nat.beq f 59 with
    | true => rw [h2] at h; rw [Nat.eq_of_beq_eq_true h2]; exact orcW_ok h
    | false => rw [h2] at h; exact orc0_ok f a y h
end Bh
