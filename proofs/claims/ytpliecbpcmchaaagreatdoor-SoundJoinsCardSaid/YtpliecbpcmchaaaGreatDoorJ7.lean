/- Texts on the way, 7 of 9. -/
import Derived.Test.YtpliecbpcmchaaaGreatDoorJ6
set_option linter.unusedVariables false
set_option linter.unusedSimpArgs false
namespace Bh
open Go Go.Proofs
inductive CT where
  | lf
  | nd (k : Nat) (c : AC) (n : Nat) (rs : List (Nat × Option (Bool × Nat))) (l r : CT)
def CT.get : CT → Cod
  | .lf, _ => none
  | .nd k c n rs l r, f => bif Nat.beq f k then some (c, n, rs) else bif Nat.blt f k then l.get f else r.get f
def CT.All (P : Program) : CT → Prop
  | .lf => True
  | .nd k c n rs l r => (∃ h, look1 P h k = some (c, n, rs)) ∧ l.All P ∧ r.All P
theorem CT.ok {P : Program} : ∀ {t : CT}, t.All P → CodOK P t.get := by
  intro t
  induction t with
  | lf => intro _ f c h; cases h
  | nd k c n rs l r ihl ihr =>
    rintro ⟨h0, hl, hr⟩ f x h
    simp only [CT.get] at h
    cases h1 : Nat.beq f k with
    | true => rw [h1] at h; injection h with h; subst h; rw [Nat.eq_of_beq_eq_true h1]; exact h0
    | false =>
      rw [h1] at h; simp only [cond_false] at h
      cases h2 : Nat.blt f k with
      | true => rw [h2] at h; exact ihl hl f x h
      | false => rw [h2] at h; exact ihr hr f x h
def ct1 : CT := (.nd 115 c115e 9 [(4, none)] (.nd 72 c72e 18 [(2, none)] (.nd 52 c52e 21 [(0, (some (true, 1))), (1, none)] (.nd 27 c27e 42 [(4, none)] (.nd 19 c19e 24 [(4, none)] (.nd 18 c18e 63 [(8, (some (true, 3))), (9, none)] (.nd 17 c17e 125 [(0, none)] .lf .lf) .lf) (.nd 26 c26e 70 [(8, none), (9, none)] (.nd 25 c25e 77 [(6, (some (false, 1))), (7, (some (false, 1)))] .lf .lf) .lf)) (.nd 34 c34e 92 [(2, none)] (.nd 29 c29e 42 [(4, none)] (.nd 28 c28e 26 [(4, none), (5, none)] .lf .lf) .lf) (.nd 44 c44e 26 [(4, none), (5, none)] (.nd 39 c39e 43 [(4, none)] .lf .lf) .lf))) (.nd 58 c58e 26 [(2, none), (3, (some (true, 3)))] (.nd 55 c55e 14 [(4, none)] (.nd 54 c54e 8 [(4, (some (true, 3)))] (.nd 53 c53e 11 [(2, none)] .lf .lf) .lf) (.nd 57 c57e 4 [(2, none)] (.nd 56 c56e 70 [(6, none), (7, none)] .lf .lf) .lf)) (.nd 69 c69e 105 [(4, none), (5, none)] (.nd 60 c60e 26 [(4, none)] (.nd 59 c59e 120 [(6, (some (true, 3)))] .lf .lf) .lf) (.nd 71 c71e 18 [(2, none)] (.nd 70 c70e 30 [] .lf .lf) .lf)))) (.nd 89 c89e 36 [(4, none)] (.nd 78 c78e 59 [(6, (some (true, 3)))] (.nd 75 c75e 19 [(4, none)] (.nd 74 c74e 14 [] (.nd 73 c73e 77 [] .lf .lf) .lf) (.nd 77 c77e 7 [(2, none)] (.nd 76 c76e 33 [(4, none)] .lf .lf) .lf)) (.nd 82 c82e 28 [(2, none)] (.nd 80 c80e 10 [(2, none)] (.nd 79 c79e 10 [(2, none)] .lf .lf) .lf) (.nd 84 c84e 19 [(4, none)] (.nd 83 c83e 12 [(2, none)] .lf .lf) .lf))) (.nd 105 c105e 33 [(4, none)] (.nd 96 c96e 26 [(4, none)] (.nd 92 c92e 6 [(2, none)] (.nd 90 c90e 8 [(2, none)] .lf .lf) .lf) (.nd 104 c104e 49 [(6, none), (7, none)] (.nd 98 c98e 35 [(2, none)] .lf .lf) .lf)) (.nd 113 c113e 35 [(2, none)] (.nd 112 c112e 37 [(2, none)] (.nd 111 c111e 9 [(4, none)] .lf .lf) .lf) (.nd 114 c114e 17 [(4, (some (true, 3)))] .lf .lf))))) (.nd 160 c160e 55 [(4, none)] (.nd 138 c138e 21 [(2, none)] (.nd 132 c132e 115 [(6, none)] (.nd 118 c118e 35 [(5, none)] (.nd 117 c117e 7 [] (.nd 116 c116e 9 [(2, none)] .lf .lf) .lf) (.nd 120 c120e 61 [(6, none)] (.nd 119 c119e 8 [(2, none)] .lf .lf) .lf)) (.nd 135 c135e 8 [(2, none)] (.nd 134 c134e 148 [] (.nd 133 c133e 47 [] .lf .lf) .lf) (.nd 137 c137e 20 [(4, none)] (.nd 136 c136e 20 [(4, none)] .lf .lf) .lf))) (.nd 148 c148e 14 [] (.nd 141 c141e 104 [(4, none), (5, none)] (.nd 140 c140e 48 [(4, none)] (.nd 139 c139e 12 [(2, none)] .lf .lf) .lf) (.nd 147 c147e 8 [(3, none)] (.nd 146 c146e 19 [(4, none)] .lf .lf) .lf)) (.nd 151 c151e 66 [(4, none)] (.nd 150 c150e 14 [] (.nd 149 c149e 19 [(4, none)] .lf .lf) .lf) (.nd 159 c159e 12 [(2, none)] (.nd 158 c158e 67 [(4, none)] .lf .lf) .lf)))) (.nd 184 c184e 13 [(2, none)] (.nd 171 c171e 9 [(4, none)] (.nd 165 c165e 19 [(4, none)] (.nd 162 c162e 47 [(4, none)] (.nd 161 c161e 45 [(4, none)] .lf .lf) .lf) (.nd 167 c167e 69 [(6, none)] (.nd 166 c166e 19 [(4, none)] .lf .lf) .lf)) (.nd 181 c181e 25 [(2, none)] (.nd 180 c180e 19 [(2, none)] (.nd 172 c172e 53 [] .lf .lf) .lf) (.nd 183 c183e 6 [(2, none)] (.nd 182 c182e 6 [(2, none)] .lf .lf) .lf))) (.nd 196 c196e 9 [(4, none)] (.nd 189 c189e 148 [] (.nd 186 c186e 27 [(2, none)] (.nd 185 c185e 34 [(2, none)] .lf .lf) .lf) (.nd 195 c195e 17 [(4, none)] (.nd 190 c190e 148 [] .lf .lf) .lf)) (.nd 218 c218e 53 [] (.nd 210 c210e 53 [] (.nd 203 c203e 19 [(4, none)] .lf .lf) .lf) (.nd 229 c229e 19 [(4, none)] .lf .lf))))))
theorem ct1_ok : ct1.All Tryz.prog := ⟨⟨_, k115e⟩, ⟨⟨_, k72e⟩, ⟨⟨_, k52e⟩, ⟨⟨_, k27e⟩, ⟨⟨_, k19e⟩, ⟨⟨_, k18e⟩, ⟨⟨_, k17e⟩, trivial, trivial⟩, trivial⟩, ⟨⟨_, k26e⟩, ⟨⟨_, k25e⟩, trivial, trivial⟩, trivial⟩⟩, ⟨⟨_, k34e⟩, ⟨⟨_, k29e⟩, ⟨⟨_, k28e⟩, trivial, trivial⟩, trivial⟩, ⟨⟨_, k44e⟩, ⟨⟨_, k39e⟩, trivial, trivial⟩, trivial⟩⟩⟩, ⟨⟨_, k58e⟩, ⟨⟨_, k55e⟩, ⟨⟨_, k54e⟩, ⟨⟨_, k53e⟩, trivial, trivial⟩, trivial⟩, ⟨⟨_, k57e⟩, ⟨⟨_, k56e⟩, trivial, trivial⟩, trivial⟩⟩, ⟨⟨_, k69e⟩, ⟨⟨_, k60e⟩, ⟨⟨_, k59e⟩, trivial, trivial⟩, trivial⟩, ⟨⟨_, k71e⟩, ⟨⟨_, k70e⟩, trivial, trivial⟩, trivial⟩⟩⟩⟩, ⟨⟨_, k89e⟩, ⟨⟨_, k78e⟩, ⟨⟨_, k75e⟩, ⟨⟨_, k74e⟩, ⟨⟨_, k73e⟩, trivial, trivial⟩, trivial⟩, ⟨⟨_, k77e⟩, ⟨⟨_, k76e⟩, trivial, trivial⟩, trivial⟩⟩, ⟨⟨_, k82e⟩, ⟨⟨_, k80e⟩, ⟨⟨_, k79e⟩, trivial, trivial⟩, trivial⟩, ⟨⟨_, k84e⟩, ⟨⟨_, k83e⟩, trivial, trivial⟩, trivial⟩⟩⟩, ⟨⟨_, k105e⟩, ⟨⟨_, k96e⟩, ⟨⟨_, k92e⟩, ⟨⟨_, k90e⟩, trivial, trivial⟩, trivial⟩, ⟨⟨_, k104e⟩, ⟨⟨_, k98e⟩, trivial, trivial⟩, trivial⟩⟩, ⟨⟨_, k113e⟩, ⟨⟨_, k112e⟩, ⟨⟨_, k111e⟩, trivial, trivial⟩, trivial⟩, ⟨⟨_, k114e⟩, trivial, trivial⟩⟩⟩⟩⟩, ⟨⟨_, k160e⟩, ⟨⟨_, k138e⟩, ⟨⟨_, k132e⟩, ⟨⟨_, k118e⟩, ⟨⟨_, k117e⟩, ⟨⟨_, k116e⟩, trivial, trivial⟩, trivial⟩, ⟨⟨_, k120e⟩, ⟨⟨_, k119e⟩, trivial, trivial⟩, trivial⟩⟩, ⟨⟨_, k135e⟩, ⟨⟨_, k134e⟩, ⟨⟨_, k133e⟩, trivial, trivial⟩, trivial⟩, ⟨⟨_, k137e⟩, ⟨⟨_, k136e⟩, trivial, trivial⟩, trivial⟩⟩⟩, ⟨⟨_, k148e⟩, ⟨⟨_, k141e⟩, ⟨⟨_, k140e⟩, ⟨⟨_, k139e⟩, trivial, trivial⟩, trivial⟩, ⟨⟨_, k147e⟩, ⟨⟨_, k146e⟩, trivial, trivial⟩, trivial⟩⟩, ⟨⟨_, k151e⟩, ⟨⟨_, k150e⟩, ⟨⟨_, k149e⟩, trivial, trivial⟩, trivial⟩, ⟨⟨_, k159e⟩, ⟨⟨_, k158e⟩, trivial, trivial⟩, trivial⟩⟩⟩⟩, ⟨⟨_, k184e⟩, ⟨⟨_, k171e⟩, ⟨⟨_, k165e⟩, ⟨⟨_, k162e⟩, ⟨⟨_, k161e⟩, trivial, trivial⟩, trivial⟩, ⟨⟨_, k167e⟩, ⟨⟨_, k166e⟩, trivial, trivial⟩, trivial⟩⟩, ⟨⟨_, k181e⟩, ⟨⟨_, k180e⟩, ⟨⟨_, k172e⟩, trivial, trivial⟩, trivial⟩, ⟨⟨_, k183e⟩, ⟨⟨_, k182e⟩, trivial, trivial⟩, trivial⟩⟩⟩, ⟨⟨_, k196e⟩, ⟨⟨_, k189e⟩, ⟨⟨_, k186e⟩, ⟨⟨_, k185e⟩, trivial, trivial⟩, trivial⟩, ⟨⟨_, k195e⟩, ⟨⟨_, k190e⟩, trivial, trivial⟩, trivial⟩⟩, ⟨⟨_, k218e⟩, ⟨⟨_, k210e⟩, ⟨⟨_, k203e⟩, trivial, trivial⟩, trivial⟩, ⟨⟨_, k229e⟩, trivial, trivial⟩⟩⟩⟩⟩⟩
end Bh
namespace Bh
open Go Go.Proofs
def isT (x : Option PV) : Bool := match x with | some (.v (.bool true)) => true | _ => false
theorem isT_ok {x : Option PV} (h : isT x = true) : x = some (.v (.bool true)) := by
  unfold isT at h
  split at h
  · rfl
  · cases h
set_option maxRecDepth 100000 in
theorem known_run : isT (runAt Tryz.prog orc5 ct1.get 300 17 []) = true := by kernel_rfl
theorem known_call {Y : YS} (H : AHeap) : HCall Tryz.prog Y 17 [] H fun r H' => r = .p (.v (.bool true)) ∧ H' = ⟨fun _ => none, H.nx⟩ :=
  hcall_run mixed orc5_ok (CT.ok ct1_ok) (args := []) (isT_ok known_run) H
end Bh
