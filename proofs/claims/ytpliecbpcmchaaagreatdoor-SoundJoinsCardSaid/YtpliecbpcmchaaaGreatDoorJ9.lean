/- SoundJoins holds for every input that can be read as data: it returns true and its arguments read afterwards as before (the tied card). Conditions: none beyond the card's own. -/
import Derived.Test.YtpliecbpcmchaaaGreatDoorJ8
import Derived.Test.YtpliecbpcmchaaaGreatDoorCards
import Derived.Test.YtpliecbpcmchaaaGreatDoorTie
import Derived.SevenTiedAt
set_option linter.unusedVariables false
set_option linter.unusedSimpArgs false
namespace Go.Proofs.YtpliecbpcmchaaaGreatDoor
open Go Bh Go.ChangeShapes Go.WideShapes Go.ChangeAt Go.RowKit
theorem door5 (os : Os) (args : Array Value) : laidMetH Tryz.prog laid5 ((World.doorLaid Tryz.prog 24 os).forCall (fun _ _ => 0) ⟨#[], args, []⟩).memory :=
  laidMetH_of_parts3 (fuel := 8) (laidMet_of_run' 8 (by kernel_rfl) (by kernel_rfl)) (by kernel_rfl) (by kernel_rfl)
theorem u4 : Tryz.prog.underlying 4 = some .bool := by kernel_rfl
set_option maxRecDepth 100000 in
theorem soundJoins_lifted (os : Os) (started : os.Started) (H : Type) (enc : TypeId × Value → H) :
    ReturnsInHanded {} Tryz.checked os 3 .any (fun w args => (Rows.soundJoinsSpec.pre enc Tryz.prog Tryz.f3 [] false w args ∧ laidMetH Tryz.prog laid5 w) ∧ sizedMet enc Tryz.prog Tryz.f3 (OpenSpec.ofChange Rows.soundJoinsSpec) false w args)
      (Rows.soundJoinsSpec.post enc Tryz.prog Tryz.f3 false true false false) := by
  refine returnsInHanded_of_change_and (C := Tryz.checked) (X := fun w _ => laidMetH Tryz.prog laid5 w) (fun _ _ _ hh h => h.of_heap hh) own5 started (by kernel_rfl) Tryz.func3
    (ChangeSpec.witness_shaped (enc := enc) (C := Tryz.checked) (os := os) (X := fun w _ => laidMetH Tryz.prog laid5 w) false (World.doorLaid Tryz.prog 24 os) #[.agg #[.slice none 0 0], .slice none 0 0, .slice none 0 0, .slice none 0 0] 8 rfl (World.shaped_of_RefB (by kernel_rfl) (by kernel_rfl)) (by kernel_rfl) (by kernel_rfl) (by kernel_rfl) (door5 os _)) ?_
  intro W base args ds gs before hval0 hW _ _ hL _
  have hval : ∀ (j : Nat) t v, Tryz.f3.params[j]? = some t → args[j]? = some v → Value.okWide Tryz.prog W .any base t v := hval0
  have hW' := hW
  obtain ⟨p, q, hA0, hV, rfl, hfz, hnd⟩ := hW
  have hA : DataW.TrodAll enc Tryz.prog W 0 (fun _ => true) true Tryz.f3.params.toList args.toList ds p := hA0
  rw [Tryz.params3] at hA hval
  obtain ⟨v0, v1, v2, v3, d0, d1, d2, d3, p0, p1, p2, p3, rfl, rfl, rfl, h0, h1, h2, h3⟩ := trodAll_four hA
  obtain ⟨rfl, rfl⟩ := trodVars_none hV
  clear hA0 hval0
  simp only [List.append_nil] at hW'
  obtain ⟨y0, i0, a0⟩ := arg_vp chk24 (hval 0 24 v0 rfl rfl) h0
  obtain ⟨y1, i1, a1⟩ := arg_vp chk25 (hval 1 25 v1 rfl rfl) h1
  obtain ⟨y2, i2, a2⟩ := arg_vp chk25 (hval 2 25 v2 rfl rfl) h2
  obtain ⟨y3, i3, a3⟩ := arg_vp chk26 (hval 3 26 v3 rfl rfl) h3
  obtain ⟨es, e0, l0, hd⟩ := is_lex i0
  obtain ⟨a, rfl, l1, _⟩ := is_strs i1
  obtain ⟨b, rfl, l2, _⟩ := is_strs i2
  obtain ⟨ps, rfl, l3, _⟩ := is_ints i3
  rw [e0] at a0
  refine (calls_of (f := 3) (args := [lexV es, .sl (a.map strV), .sl (b.map strV), intsV ps]) (y := .v (.bool true)) (vs := [v0, v1, v2, v3]) (fun H _ => soundJoins_call es a b ps hd l0 l1 l2 l3) hL rfl (fun j x v hx hv => ?_)).mono fun e W' ⟨v, he, ⟨Per, hvp⟩, hB⟩ => ?_
  · match j, hx, hv with
    | 0, hx, hv => simp at hx hv; subst hx; subst hv; exact a0
    | 1, hx, hv => simp at hx hv; subst hx; subst hv; exact a1
    | 2, hx, hv => simp at hx hv; subst hx; subst hv; exact a2
    | 3, hx, hv => simp at hx hv; subst hx; subst hv; exact a3
  · subst he
    cases hvp
    have lt : ∀ x ∈ p0 ++ p1 ++ p2 ++ p3, x.block < W.heap.size := fun x hx => by simpa using hW'.lt x hx
    refine ⟨_, rfl, _, _, _, [], p0 ++ (p1 ++ (p2 ++ p3)), [], hW', trodAll_mk1 (shut_bool u4 true), trodAll_mk4 ?_ ?_ ?_ ?_, rfl, hB.frame _, fun h => by cases h⟩
    · exact Below.trod laidOut5 (by kernel_rfl) (of_decide_eq_true (by kernel_rfl)) h0 hB fun x hx => lt x (by simp [hx])
    · exact Below.trod laidOut5 (by kernel_rfl) (of_decide_eq_true (by kernel_rfl)) h1 hB fun x hx => lt x (by simp [hx])
    · exact Below.trod laidOut5 (by kernel_rfl) (of_decide_eq_true (by kernel_rfl)) h2 hB fun x hx => lt x (by simp [hx])
    · exact Below.trod laidOut5 (by kernel_rfl) (of_decide_eq_true (by kernel_rfl)) h3 hB fun x hx => lt x (by simp [hx])
theorem soundJoins_holds : Rows.SoundJoinsSaid :=
  OpenClaim.holds_of_wide 3 Tryz.f3 rfl rfl rfl rfl rfl rfl rfl ⟨rfl, rfl, rfl, rfl, rfl⟩ rfl rfl rfl rfl rfl (by kernel_rfl) Tryz.func3 (by kernel_rfl)
    (of_decide_eq_true (by kernel_rfl)) (by unfold Func.isWrapper; first | (rw [if_pos (by decide +kernel)]; kernel_rfl) | (rw [if_neg (by decide +kernel)]; exact ⟨rfl, rfl⟩))
    (fun os started H enc _ => soundJoins_lifted os started H enc)
theorem soundJoins_card : Rows.SoundJoinsCardSaid :=
  Claim7.holds_tied_plain_at .later [] [.data, .data, .data] true (true, "078c8375dd06dff7bfaf85f790418e8d8b917cffdf592fc304271a346642f2ea") false
    soundJoins_holds (fun _ h => by cases h) (by kernel_rfl) (fun _ h => by cases h) soundJoins_row_tie rfl ⟨rfl, rfl⟩ (by kernel_rfl) rfl
    (fun f fn hf hfn => by
      obtain rfl : f = 3 := Option.some.inj ((show Tryz.prog.funcNamed "earshot/earshotlaw05.SoundJoins" = some 3 by kernel_rfl).symm.trans hf) |>.symm
      obtain rfl : fn = Tryz.f3 := (Option.some.inj (Tryz.func3.symm.trans hfn)).symm
      exact ⟨by kernel_rfl, fun j t ht => by
        rw [Tryz.params3] at ht
        have hm : t ∈ [24, 25, 26] := by
          have := Array.mem_of_getElem? ht
          simp at this ⊢
          omega
        have hall : ([24, 25, 26].all fun u => !Tryz.prog.wantsStandIn u) = true := by kernel_rfl
        exact (show Tryz.prog.wantsStandIn t = false by simpa using List.all_eq_true.1 hall t hm)⟩)
    (by kernel_rfl)
#print axioms soundJoins_card
end Go.Proofs.YtpliecbpcmchaaaGreatDoor
