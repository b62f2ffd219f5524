/- Texts on the way, 8 of 9. -/
import Derived.Test.YtpliecbpcmchaaaGreatDoorJ7
import Derived.Carry
import Derived.DataReads
import Derived.ChangeArms
import Derived.DataElems
import Derived.Test.YtpliecbpcmchaaaGreatDoorRows
import Derived.ProofKit
import Derived.LaidMore
import Derived.OpenShut
import Derived.Stop.Joined
set_option linter.unusedVariables false
set_option linter.unusedSimpArgs false
namespace Bh
open Go Go.Proofs
def c3l0 : AC := (.seq (.seq (.ops [.op ⟨some 59, none, .mv, [.tmp 12]⟩, .op ⟨some 60, none, .mv, [.tmp 3]⟩, .op ⟨some 61, none, .len false, [.tmp 60]⟩, .op ⟨some 62, none, .bin .leq, [.tmp 59, .tmp 61]⟩]) (.cond (.tmp 62) .skip (.exit 0))) (.seq (.block 1 (.seq (.draw [⟨some 13, none, .alloc 32, []⟩, ⟨some 66, none, .load true 1, [.tmp 4]⟩, ⟨some 67, none, .mv, [.tmp 1]⟩, ⟨some 68, none, .mv, [.tmp 3]⟩, ⟨some 69, none, .mv, [.tmp 12]⟩, ⟨some 70, none, .slice 1 false true, [.tmp 68, .tmp 69]⟩, ⟨some 71, none, .call false, [.func 18, .tmp 66, .const (.slice none 0 0), .tmp 67, .tmp 70]⟩, ⟨some 65, none, .mv, [.tmp 71]⟩, ⟨some 72, none, .ext 0, [.tmp 65]⟩, ⟨some 73, none, .ext 1, [.tmp 65]⟩, ⟨none, none, .store 3, [.tmp 13, .tmp 72]⟩, ⟨some 14, none, .mv, [.tmp 73]⟩]) (.seq (.draw [⟨some 15, none, .alloc 32, []⟩, ⟨some 75, none, .load true 1, [.tmp 4]⟩, ⟨some 76, none, .mv, [.tmp 2]⟩, ⟨some 77, none, .mv, [.tmp 3]⟩, ⟨some 78, none, .mv, [.tmp 12]⟩, ⟨some 79, none, .slice 1 true false, [.tmp 77, .tmp 78]⟩, ⟨some 80, none, .call false, [.func 18, .tmp 75, .const (.slice none 0 0), .tmp 76, .tmp 79]⟩, ⟨some 74, none, .mv, [.tmp 80]⟩, ⟨some 81, none, .ext 0, [.tmp 74]⟩, ⟨some 82, none, .ext 1, [.tmp 74]⟩, ⟨none, none, .store 3, [.tmp 15, .tmp 81]⟩, ⟨some 16, none, .mv, [.tmp 82]⟩]) (.seq (.seq (.ops [.op ⟨some 83, none, .mv, [.tmp 14]⟩, .op ⟨some 84, none, .bin .neq, [.tmp 83, .const (.int .i64 0)]⟩, .op ⟨some 85, none, .mv, [.tmp 84]⟩, .op ⟨some 86, (some (85, false)), .mv, [.tmp 16]⟩, .op ⟨some 87, (some (85, false)), .bin .neq, [.tmp 86, .const (.int .i64 0)]⟩, .op ⟨some 88, none, .pick, [.tmp 85, .const (.bool true), .tmp 87]⟩]) (.cond (.tmp 88) (.seq (.ops [.op ⟨some 8, none, .mv, [.const (.bool false)]⟩]) .ret) .skip)) (.draw [⟨some 89, none, .load true 3, [.tmp 11]⟩, ⟨some 90, none, .load true 3, [.tmp 13]⟩, ⟨some 91, none, .load true 3, [.tmp 15]⟩, ⟨some 92, none, .call false, [.func 22, .tmp 90, .tmp 91]⟩, ⟨some 93, none, .call false, [.func 21, .tmp 89, .tmp 92]⟩, ⟨none, none, .store 3, [.tmp 11, .tmp 93]⟩]))))) (.ops [.op ⟨some 63, none, .mv, [.tmp 12]⟩, .op ⟨some 64, none, .bin .add, [.tmp 63, .const (.int .i64 1)]⟩, .op ⟨some 12, none, .mv, [.tmp 64]⟩])))
def c3 : AC := (.seq (.ops [.op ⟨some 4, none, .box true 24, [.tmp 0]⟩, .op ⟨some 8, none, .mv, [.const (.bool false)]⟩]) (.seq (.seq (.ops [.op ⟨some 17, none, .load true 1, [.tmp 4]⟩, .op ⟨some 18, none, .call false, [.func 14, .tmp 17, .const (.int .i64 12)]⟩, .op ⟨some 19, none, .un .not, [.tmp 18]⟩, .op ⟨some 20, none, .mv, [.tmp 19]⟩, .op ⟨some 21, (some (20, false)), .mv, [.tmp 1]⟩, .op ⟨some 22, (some (20, false)), .call false, [.func 15, .tmp 21, .const (.int .i64 2)]⟩, .op ⟨some 23, (some (20, false)), .un .not, [.tmp 22]⟩, .op ⟨some 24, none, .pick, [.tmp 20, .const (.bool true), .tmp 23]⟩, .op ⟨some 25, none, .mv, [.tmp 24]⟩, .op ⟨some 26, (some (25, false)), .mv, [.tmp 2]⟩, .op ⟨some 27, (some (25, false)), .call false, [.func 15, .tmp 26, .const (.int .i64 2)]⟩, .op ⟨some 28, (some (25, false)), .un .not, [.tmp 27]⟩, .op ⟨some 29, none, .pick, [.tmp 25, .const (.bool true), .tmp 28]⟩, .op ⟨some 30, none, .mv, [.tmp 29]⟩, .op ⟨some 31, (some (30, false)), .mv, [.tmp 3]⟩, .op ⟨some 32, (some (30, false)), .len false, [.tmp 31]⟩, .op ⟨some 33, (some (30, false)), .bin .gtr, [.tmp 32, .const (.int .i64 12)]⟩, .op ⟨some 34, none, .pick, [.tmp 30, .const (.bool true), .tmp 33]⟩, .op ⟨some 35, none, .mv, [.tmp 34]⟩, .op ⟨some 36, (some (35, false)), .load true 1, [.tmp 4]⟩, .op ⟨some 37, (some (35, false)), .call false, [.func 16, .tmp 36, .const (.int .i64 5)]⟩, .op ⟨some 38, none, .pick, [.tmp 35, .const (.bool true), .tmp 37]⟩]) (.cond (.tmp 38) (.seq (.ops [.op ⟨some 39, none, .call true, [.func 17]⟩, .op ⟨some 8, none, .mv, [.tmp 39]⟩]) .ret) .skip)) (.seq (.draw [⟨some 9, none, .alloc 32, []⟩, ⟨some 42, none, .mv, [.tmp 1]⟩, ⟨some 43, none, .app 9 1 16, [.const (.slice none 0 0), .tmp 42]⟩, ⟨some 44, none, .mv, [.tmp 2]⟩, ⟨some 45, none, (.appf 9 1 16), [.tmp 43, .tmp 44]⟩, ⟨some 41, none, .load true 1, [.tmp 4]⟩, ⟨some 46, none, .mv, [.tmp 3]⟩, ⟨some 47, none, .call false, [.func 18, .tmp 41, .const (.slice none 0 0), .tmp 45, .tmp 46]⟩, ⟨some 40, none, .mv, [.tmp 47]⟩, ⟨some 48, none, .ext 0, [.tmp 40]⟩, ⟨some 49, none, .ext 1, [.tmp 40]⟩, ⟨none, none, .store 3, [.tmp 9, .tmp 48]⟩, ⟨some 10, none, .mv, [.tmp 49]⟩]) (.seq (.seq (.ops [.op ⟨some 50, none, .mv, [.tmp 10]⟩, .op ⟨some 51, none, .bin .neq, [.tmp 50, .const (.int .i64 0)]⟩]) (.cond (.tmp 51) (.seq (.ops [.op ⟨some 52, none, .load true 3, [.tmp 9]⟩, .op ⟨some 53, none, (.build 32 []), []⟩, .op ⟨some 54, none, .call false, [.func 19, .tmp 52, .tmp 53]⟩, .op ⟨some 55, none, .mv, [.tmp 54]⟩, .op ⟨some 56, (some (55, true)), .call true, [.func 17]⟩, .op ⟨some 57, none, .pick, [.tmp 55, .tmp 56, .const (.bool false)]⟩, .op ⟨some 8, none, .mv, [.tmp 57]⟩]) .ret) .skip)) (.seq (.ops [.op ⟨some 58, none, .call false, [.func 20, .const (.int .i64 0)]⟩, .op ⟨some 11, none, .alloc 32, []⟩, .op ⟨none, none, .store 3, [.tmp 11, .tmp 58]⟩]) (.seq (.seq (.ops [.op ⟨some 12, none, .mv, [.const (.int .i64 0)]⟩]) (.block 0 (.loop c3l0))) (.seq (.ops [.op ⟨some 94, none, .load true 3, [.tmp 9]⟩, .op ⟨some 95, none, .load true 3, [.tmp 11]⟩, .op ⟨some 96, none, .call false, [.func 23, .tmp 94, .tmp 95]⟩, .op ⟨some 97, none, .bin .eql, [.tmp 96, .const (.int .i64 0)]⟩, .op ⟨some 98, none, .mv, [.tmp 97]⟩, .op ⟨some 99, (some (98, true)), .call true, [.func 17]⟩, .op ⟨some 100, none, .pick, [.tmp 98, .tmp 99, .const (.bool false)]⟩, .op ⟨some 8, none, .mv, [.tmp 100]⟩]) .ret)))))))
theorem k3 : look1 Tryz.prog ⟨[45], [], [39, 56, 99], [], [], []⟩ 3 = some (c3, 101, [(8, none)]) := by kernel_rfl
end Bh
namespace Bh
open Go Go.Proofs
def smR {α : Type} (f : α → Rat) : List α → Rat
  | [] => 0
  | a :: l => f a + smR f l
theorem smR_foldl {α : Type} (f : α → Rat) : ∀ (l : List α) (a : Rat), l.foldl (fun a c => a + f c) a = a + smR f l
  | [], a => by simp only [List.foldl_nil, smR]; grind
  | c :: l, a => by simp only [List.foldl_cons, smR]; rw [smR_foldl]; grind
theorem smR_append {α : Type} (f : α → Rat) : ∀ (l m : List α), smR f (l ++ m) = smR f l + smR f m
  | [], m => by simp only [List.nil_append, smR]; grind
  | c :: l, m => by simp only [List.cons_append, smR]; rw [smR_append]; grind
theorem smR_flatMap {α β : Type} (f : β → Rat) (g : α → List β) : ∀ l : List α, smR f (l.flatMap g) = smR (fun x => smR f (g x)) l
  | [] => rfl
  | c :: l => by simp only [List.flatMap_cons, smR, smR_append]; rw [smR_flatMap]
theorem smR_map {α β : Type} (f : β → Rat) (g : α → β) : ∀ l : List α, smR f (l.map g) = smR (fun x => f (g x)) l
  | [] => rfl
  | c :: l => by simp only [List.map_cons, smR]; rw [smR_map]
theorem smR_congr {α : Type} {f g : α → Rat} : ∀ {l : List α}, (∀ x ∈ l, f x = g x) → smR f l = smR g l
  | [], _ => rfl
  | c :: l, h => by simp only [smR]; rw [h c (by simp), smR_congr fun x hx => h x (by simp [hx])]
theorem smR_add {α : Type} (f g : α → Rat) : ∀ l : List α, smR (fun x => f x + g x) l = smR f l + smR g l
  | [] => by simp only [smR]; grind
  | c :: l => by simp only [smR]; rw [smR_add]; grind
theorem smR_mul {α : Type} (k : Rat) (f : α → Rat) : ∀ l : List α, smR (fun x => k * f x) l = k * smR f l
  | [] => by simp only [smR]; grind
  | c :: l => by simp only [smR]; rw [smR_mul]; grind
theorem smR_mulr {α : Type} (k : Rat) (f : α → Rat) (l : List α) : smR (fun x => f x * k) l = smR f l * k := by
  rw [Rat.mul_comm, ← smR_mul]; exact smR_congr fun x _ => Rat.mul_comm _ _
theorem smR_zero {α : Type} {f : α → Rat} : ∀ {l : List α}, (∀ x ∈ l, f x = 0) → smR f l = 0
  | [], _ => rfl
  | c :: l, h => by simp only [smR]; rw [h c (by simp), smR_zero fun x hx => h x (by simp [hx])]; grind
theorem smR_swap {α β : Type} (g : α → β → Rat) (I : List β) : ∀ l : List α, smR (fun x => smR (fun i => g x i) I) l = smR (fun i => smR (fun x => g x i) l) I
  | [] => by simp only [smR]; exact (smR_zero fun _ _ => rfl).symm
  | c :: l => by simp only [smR]; rw [smR_swap g I l, ← smR_add]
theorem smR_prod {α β : Type} (f : α → Rat) (g : β → Rat) (l : List α) (m : List β) : smR f l * smR g m = smR (fun x => smR (fun y => f x * g y) m) l := by
  rw [← smR_mulr]
  exact smR_congr fun x _ => (smR_mul _ _ _).symm
theorem smR_one {f : Nat → Rat} {n k : Nat} (hk : k < n) (h : ∀ i, i < n → i ≠ k → f i = 0) : smR f (List.range n) = f k := by
  have h1 : List.range n = List.range k ++ [k] ++ (List.range (n - k - 1)).map (k + 1 + ·) := by
    apply List.ext_getElem
    · simp; omega
    · intro i h1 h2
      simp only [List.getElem_range, List.getElem_append, List.length_append, List.length_range, List.length_singleton, List.getElem_map, List.getElem_singleton]
      split
      · split <;> omega
      · omega
  rw [h1, smR_append, smR_append]
  have e1 : smR f (List.range k) = 0 := smR_zero fun x hx => by have := List.mem_range.1 hx; exact h x (by omega) (by omega)
  have e2 : smR f ((List.range (n - k - 1)).map (k + 1 + ·)) = 0 := smR_zero fun x hx => by
    obtain ⟨i, hi, rfl⟩ := List.mem_map.1 hx
    have := List.mem_range.1 hi
    exact h _ (by omega) (by omega)
  rw [e1, e2]
  simp only [smR]; grind
theorem combL_append : ∀ l m : List (List Ent), combL (l ++ m) = (combL l).flatMap fun c => (combL m).map (c ++ ·)
  | [], m => by simp [combL]
  | x :: l, m => by
    simp only [List.cons_append, combL]
    rw [combL_append]
    simp only [List.flatMap_assoc, List.map_flatMap, List.flatMap_map, List.map_map]
    rfl
theorem phJ_append (c d : List Ent) : phJ (c ++ d) = phJ c ++ phJ d := by simp [phJ]
theorem wtJ_from (l : List Ent) : ∀ a : Rat, l.foldl (fun a e => a * e.wt.q) a = a * wtJ l := by
  unfold wtJ
  induction l with
  | nil => intro a; simp only [List.foldl_nil]; grind
  | cons e l ih => intro a; simp only [List.foldl_cons]; rw [ih (a * e.wt.q), ih (1 * e.wt.q)]; grind
theorem wtJ_append (c d : List Ent) : wtJ (c ++ d) = wtJ c * wtJ d := by
  unfold wtJ; rw [List.foldl_append, wtJ_from]; rfl
theorem wtJ_cons (e : Ent) (l : List Ent) : wtJ (e :: l) = e.wt.q * wtJ l := by
  unfold wtJ; rw [List.foldl_cons, wtJ_from]; unfold wtJ; grind
theorem sumQ_eq (r : List Rul) (ps : List Int) (cs : List (List Ent)) : sumQ r ps cs = smR (fun c => wtJ c * weightQ r (phJ c) ps) cs := by
  unfold sumQ; rw [smR_foldl]; grind
theorem optsS_nil {l : List Int} {i : Nat} : optsS [] l i = [⟨[l.getD i 0], 1, canF 1⟩] := rfl
theorem wTab_nil (l ps : List Int) : ∀ n, n ≤ l.length → ∀ x y, wTab [] l ps n x y = if x ≤ n ∧ y = x ∧ x ≤ ps.length ∧ l.take x = ps.take x then 1 else 0 := by
  intro n
  induction n with
  | zero =>
    intro _ x y
    show wT0 x y = _
    unfold wT0
    by_cases h : x = 0 ∧ y = 0
    · rw [if_pos h, if_pos]; obtain ⟨rfl, rfl⟩ := h; simp
    · rw [if_neg h, if_neg]; rintro ⟨h1, h2, _⟩; omega
  | succ n ih =>
    intro hn x y
    have ih := ih (by omega)
    have e : wTab [] l ps (n + 1) = wRow [] l ps (wTab [] l ps n) n := by
      unfold wTab; rw [List.range_succ, List.foldl_append]; rfl
    have e2 : wRow [] l ps (wTab [] l ps n) n = wOpt ps n (wTab [] l ps n) ⟨[l.getD n 0], 1, canF 1⟩ := by
      unfold wRow; rw [optsS_nil]; rfl
    rw [e, e2]
    unfold wOpt
    rw [wOpt_cell (o := ⟨[l.getD n 0], 1, canF 1⟩) (Nat.le_refl 1)]
    simp only [List.length_cons, List.length_nil, Nat.zero_add, canF_q]
    have hl : n < l.length := by omega
    have tk : l.take (n + 1) = l.take n ++ [l.getD n 0] := by
      rw [List.take_succ_eq_append_getElem hl]; congr; simp [List.getD_eq_getElem?_getD, hl]
    rw [ih x y, ih n (y - 1)]
    unfold canGo
    simp only [List.length_cons, List.length_nil, Nat.zero_add, Bool.and_eq_true, decide_eq_true_eq]
    by_cases hx : x = n + 1
    · subst hx
      have f1 : ¬ (n + 1 ≤ n ∧ y = n + 1 ∧ n + 1 ≤ ps.length ∧ l.take (n + 1) = ps.take (n + 1)) := fun h => by omega
      rw [if_neg f1]
      by_cases hg : n ≤ n ∧ y - 1 = n ∧ n ≤ ps.length ∧ l.take n = ps.take n
      · rw [if_pos hg]
        obtain ⟨_, hy, hps, htk⟩ := hg
        by_cases hP : n + 1 ≤ ps.length
        · have tp : ps.take (n + 1) = ps.take n ++ [ps[n]] := List.take_succ_eq_append_getElem (by omega)
          have d1 : (ps.take (n + 1)).drop n = [ps[n]] := by
            rw [tp, List.drop_append_of_le_length (by simp; omega), List.drop_eq_nil_of_le (by simp; omega)]; rfl
          by_cases hy1 : y = n + 1
          · subst hy1
            simp only [Nat.add_sub_cancel, eqZ, d1]
            by_cases he : l.getD n 0 = ps[n]
            · rw [if_pos, if_pos]
              · grind
              · refine ⟨by omega, by first | trivial | rfl, by omega, ?_⟩; rw [tk, tp, htk, he]
              · refine ⟨by first | trivial | rfl, by omega, by omega, ⟨by decide, by omega⟩, ?_⟩; rw [he]; simp
            · rw [if_neg, if_neg]
              · rintro ⟨_, _, _, h⟩
                rw [tk, tp, htk] at h
                have := List.append_cancel_left h
                simp at this; exact he (by rw [← this]; rfl)
              · rintro ⟨_, _, _, _, h⟩
                have := eq_of_beq h
                injection this with h1 _; exact he h1.symm
          · have : y = 0 := by omega
            rw [if_neg (by omega), if_neg (by omega)]
        · rw [if_neg (fun h => by omega), if_neg (fun h => by omega)]
      · rw [if_neg hg]
        have hz : ¬ (0 < sgnQ 0) := by decide
        rw [if_neg (fun h => hz h.2.2.2.1.1), if_neg]
        rintro ⟨_, hy, hps, he⟩
        refine hg ⟨Nat.le_refl _, by omega, by omega, ?_⟩
        have := congrArg (List.take n) he
        rwa [List.take_take, List.take_take, Nat.min_eq_left (by omega)] at this
    · rw [if_neg (fun h => hx h.1)]
      by_cases h : x ≤ n ∧ y = x ∧ x ≤ ps.length ∧ l.take x = ps.take x
      · rw [if_pos h, if_pos ⟨by omega, h.2⟩]
      · rw [if_neg h, if_neg]
        rintro ⟨h1, h2⟩; exact h ⟨by omega, h2⟩
theorem weightQ_nil (l ps : List Int) : weightQ [] l ps = if l = ps then 1 else 0 := by
  unfold weightQ
  rw [wTab_nil l ps _ (Nat.le_refl _)]
  by_cases h : l = ps
  · subst h; rw [if_pos rfl, if_pos]; simp
  · rw [if_neg h, if_neg]
    rintro ⟨_, h1, _, h2⟩
    rw [List.take_length, ← h1, List.take_length] at h2
    exact h h2
theorem cut_ind (u v ps : List Int) : (if u ++ v = ps then (1 : Rat) else 0) = smR (fun i => (if u = ps.take i then 1 else 0) * (if v = ps.drop i then 1 else 0)) (List.range (ps.length + 1)) := by
  have key : ∀ i, i < ps.length + 1 → i ≠ u.length → (if u = ps.take i then (1 : Rat) else 0) * (if v = ps.drop i then 1 else 0) = 0 := fun i hi hne => by
    rw [if_neg]
    · grind
    · intro h; have := congrArg List.length h; simp at this; omega
  by_cases hu : u.length < ps.length + 1
  · rw [smR_one hu key]
    by_cases h : u ++ v = ps
    · subst h; rw [if_pos rfl, if_pos (by simp), if_pos (by simp)]; grind
    · rw [if_neg h]
      by_cases h1 : u = ps.take u.length
      · rw [if_pos h1, if_neg]
        · grind
        · intro h2; exact h (by rw [h2, h1, List.length_take, Nat.min_eq_left (by omega)]; exact List.take_append_drop _ _)
      · rw [if_neg h1]; grind
  · rw [smR_zero fun i hi => key i (List.mem_range.1 hi) (by have := List.mem_range.1 hi; omega), if_neg]
    intro h; subst h; simp at hu; omega
theorem sumQ_join (l m : List (List Ent)) (ps : List Int) : sumQ [] ps (combL (l ++ m)) = smR (fun i => sumQ [] (ps.take i) (combL l) * sumQ [] (ps.drop i) (combL m)) (List.range (ps.length + 1)) := by
  rw [sumQ_eq, combL_append, smR_flatMap]
  have e : ∀ i, sumQ [] (ps.take i) (combL l) * sumQ [] (ps.drop i) (combL m) = smR (fun c => smR (fun d => (wtJ c * wtJ d) * ((if phJ c = ps.take i then 1 else 0) * (if phJ d = ps.drop i then 1 else 0))) (combL m)) (combL l) := fun i => by
    rw [sumQ_eq, sumQ_eq, smR_prod]
    exact smR_congr fun c _ => smR_congr fun d _ => by rw [weightQ_nil, weightQ_nil]; grind
  rw [smR_congr fun i _ => e i]
  rw [← smR_swap (fun c i => smR (fun d => (wtJ c * wtJ d) * ((if phJ c = ps.take i then 1 else 0) * (if phJ d = ps.drop i then 1 else 0))) (combL m))]
  refine smR_congr fun c _ => ?_
  rw [smR_map, ← smR_swap (fun d i => (wtJ c * wtJ d) * ((if phJ c = ps.take i then 1 else 0) * (if phJ d = ps.drop i then 1 else 0)))]
  refine smR_congr fun d _ => ?_
  rw [smR_mul, ← cut_ind, weightQ_nil, phJ_append, wtJ_append]
end Bh
namespace Bh
open Go Go.Proofs
def cntF (n : Nat) (os : List (List Ent)) : Nat := os.foldl (fun n o => min (n * o.length) 5001) n
def phF (n : Nat) (os : List (List Ent)) : Nat := os.foldl (fun n o => n + maxPh o) n
theorem cntF_ge : ∀ {os : List (List Ent)} {n : Nat}, (∀ o ∈ os, o ≠ []) → n ≤ 5001 → n ≤ cntF n os
  | [], n, _, _ => Nat.le_refl _
  | o :: os, n, h, hn => by
    have h1 : 1 ≤ o.length := List.length_pos_iff.2 (h o (by simp))
    have h2 : n ≤ min (n * o.length) 5001 := Nat.le_min.2 ⟨Nat.le_mul_of_pos_right _ h1, hn⟩
    exact Nat.le_trans h2 (cntF_ge (os := os) (fun x hx => h x (by simp [hx])) (Nat.min_le_right _ _))
theorem cntF_mono : ∀ {os : List (List Ent)} {n m : Nat}, n ≤ m → cntF n os ≤ cntF m os
  | [], n, m, h => h
  | o :: os, n, m, h => by
    refine cntF_mono (os := os) ?_
    have := Nat.mul_le_mul_right o.length h
    show min (n * o.length) 5001 ≤ min (m * o.length) 5001
    omega
theorem phF_eq : ∀ {os : List (List Ent)} {n : Nat}, phF n os = n + phF 0 os
  | [], n => rfl
  | o :: os, n => by
    show phF (n + maxPh o) os = n + phF (0 + maxPh o) os
    rw [phF_eq (n := n + maxPh o), phF_eq (n := 0 + maxPh o)]; omega
theorem chosen_iff {es : List Ent} {ws : List ByteArray} : (chosenS es ws).2 = 0 ↔ (∀ w ∈ ws, entL es w ≠ []) ∧ cntF 1 (ws.map (entL es)) ≤ 5000 ∧ phF 0 (ws.map (entL es)) ≤ 400 := by
  unfold chosenS
  split
  · rename_i h
    refine ⟨fun h => by simp at h, fun ⟨h1, _⟩ => ?_⟩
    obtain ⟨w, hw, he⟩ := List.any_eq_true.1 h
    exact absurd (List.isEmpty_iff.1 he) (h1 w hw)
  · rename_i h
    have h' : ∀ w ∈ ws, entL es w ≠ [] := fun w hw he => h (List.any_eq_true.2 ⟨w, hw, by rw [he]; rfl⟩)
    have e1 : cntO (ws.map (entL es)) = cntF 1 (ws.map (entL es)) := rfl
    have e2 : phO (ws.map (entL es)) = phF 0 (ws.map (entL es)) := rfl
    rw [e1, e2]
    split
    · rename_i h2
      exact ⟨fun h => by simp at h, fun ⟨_, h3, h4⟩ => by omega⟩
    · rename_i h2
      exact ⟨fun _ => ⟨h', by omega, by omega⟩, fun _ => rfl⟩
theorem chosen_fst {es : List Ent} {ws : List ByteArray} (h : (chosenS es ws).2 = 0) : (chosenS es ws).1 = ws.map (entL es) := by
  unfold chosenS at h ⊢
  split
  · rename_i h1; rw [if_pos h1] at h; simp at h
  · rename_i h1
    rw [if_neg h1] at h
    split
    · rename_i h2; rw [if_pos h2] at h; simp at h
    · rfl
theorem chosen_append {es : List Ent} {a b : List ByteArray} (h : (chosenS es (a ++ b)).2 = 0) : (chosenS es a).2 = 0 ∧ (chosenS es b).2 = 0 := by
  obtain ⟨h1, h2, h3⟩ := chosen_iff.1 h
  have ha : ∀ w ∈ a, entL es w ≠ [] := fun w hw => h1 w (by simp [hw])
  have hb : ∀ w ∈ b, entL es w ≠ [] := fun w hw => h1 w (by simp [hw])
  have ha' : ∀ o ∈ a.map (entL es), o ≠ [] := fun o ho => by obtain ⟨w, hw, rfl⟩ := List.mem_map.1 ho; exact ha w hw
  have hb' : ∀ o ∈ b.map (entL es), o ≠ [] := fun o ho => by obtain ⟨w, hw, rfl⟩ := List.mem_map.1 ho; exact hb w hw
  have ec : cntF 1 ((a ++ b).map (entL es)) = cntF (cntF 1 (a.map (entL es))) (b.map (entL es)) := by
    rw [List.map_append]; exact List.foldl_append ..
  have ep : phF 0 ((a ++ b).map (entL es)) = phF (phF 0 (a.map (entL es))) (b.map (entL es)) := by
    rw [List.map_append]; exact List.foldl_append ..
  rw [ec] at h2
  rw [ep, phF_eq] at h3
  have c1 : cntF 1 (a.map (entL es)) ≤ 5001 := cntO_le (by omega)
  have c2 := cntF_ge hb' c1
  have c3 := cntF_ge ha' (n := 1) (by omega)
  have c4 := cntF_mono (os := b.map (entL es)) c3
  exact ⟨chosen_iff.2 ⟨ha, by omega, by omega⟩, chosen_iff.2 ⟨hb, by omega, by omega⟩⟩
theorem combL_cons_len (x : List Ent) (os : List (List Ent)) : (combL (x :: os)).length = x.length * (combL os).length := by
  show (x.flatMap fun e => (combL os).map (e :: ·)).length = _
  generalize combL os = m
  induction x with
  | nil => simp
  | cons e x ih => simp only [List.flatMap_cons, List.length_append, List.length_map, List.length_cons, ih]; rw [Nat.succ_mul]; omega
theorem combL_cnt : ∀ {os : List (List Ent)} {n : Nat}, cntF n os ≤ 5000 → n * (combL os).length ≤ 5000
  | [], n, h => by
    have : n ≤ 5000 := h
    have e : (combL []).length = 1 := rfl
    rw [e]; omega
  | o :: os, n, h => by
    have h' : cntF (min (n * o.length) 5001) os ≤ 5000 := h
    have ih := combL_cnt h'
    rw [combL_cons_len, ← Nat.mul_assoc]
    rcases Nat.eq_zero_or_pos (combL os).length with hz | hz
    · rw [hz]; omega
    · have : min (n * o.length) 5001 ≤ 5000 := Nat.le_trans (Nat.le_mul_of_pos_right _ hz) ih
      rw [Nat.min_eq_left (by omega)] at ih
      exact ih
theorem combL_mem : ∀ {os : List (List Ent)} {c : List Ent}, c ∈ combL os → c.length = os.length ∧ ∀ e ∈ c, ∃ o ∈ os, e ∈ o
  | [], c, h => by
    have : c = [] := by simpa [combL] using h
    subst this; exact ⟨rfl, fun e he => by simp at he⟩
  | o :: os, c, h => by
    unfold combL at h
    obtain ⟨e, he, h⟩ := List.mem_flatMap.1 h
    obtain ⟨d, hd, rfl⟩ := List.mem_map.1 h
    obtain ⟨h1, h2⟩ := combL_mem hd
    refine ⟨by simp [h1], fun x hx => ?_⟩
    rcases List.mem_cons.1 hx with rfl | hx
    · exact ⟨o, by simp, he⟩
    · obtain ⟨o', ho', hx'⟩ := h2 x hx
      exact ⟨o', by simp [ho'], hx'⟩
theorem phJ_le {k : Nat} : ∀ {c : List Ent}, (∀ e ∈ c, e.ph.length ≤ k) → (phJ c).length ≤ c.length * k
  | [], _ => by simp [phJ]
  | e :: c, h => by
    have h1 := phJ_le (c := c) fun x hx => h x (by simp [hx])
    have h2 := h e (by simp)
    have e1 : phJ (e :: c) = e.ph ++ phJ c := by simp [phJ]
    rw [e1, List.length_append, List.length_cons, Nat.succ_mul]; omega
def denE (es : List Ent) : Nat := es.foldr (fun x d => x.wt.q.den * d) 1
theorem denE_pos : ∀ r : List Ent, 1 ≤ denE r
  | [] => Nat.le_refl 1
  | x :: r => Nat.mul_pos x.wt.q.den_pos (denE_pos r)
theorem denE_int : ∀ {r : List Ent} {x : Ent}, x ∈ r → ∃ z : Int, x.wt.q * (denE r : Rat) = (z : Rat) := by
  intro r
  induction r with
  | nil => intro x hx; simp at hx
  | cons y r ih =>
    intro x hx
    have e : (denE (y :: r) : Rat) = (y.wt.q.den : Rat) * (denE r : Rat) := Rat.natCast_mul _ _
    rw [e]
    rcases List.mem_cons.1 hx with rfl | hx
    · refine ⟨x.wt.q.num * ((denE r : Nat) : Int), ?_⟩
      have : x.wt.q * (x.wt.q.den : Rat) = (x.wt.q.num : Rat) := mul_den _
      rw [Rat.intCast_mul, Rat.intCast_natCast, ← this]; grind
    · obtain ⟨z, hz⟩ := ih hx
      refine ⟨z * ((y.wt.q.den : Nat) : Int), ?_⟩
      rw [Rat.intCast_mul, Rat.intCast_natCast, ← hz]; grind
theorem denE_lt : ∀ {r : List Ent}, (∀ x ∈ r, x.OK 4) → denE r < W32 ^ (4 * r.length + 1)
  | [], _ => by unfold denE; exact Nat.one_lt_pow (by omega) (by decide)
  | x :: r, h => by
    have h1 := denE_lt (r := r) fun y hy => h y (by simp [hy])
    have h2 := natD_len.1 (Fr.sz (x := x.wt) (h x (by simp)).wt (by omega)).2
    have : denE (x :: r) < W32 ^ 4 * W32 ^ (4 * r.length + 1) := Nat.mul_lt_mul'' h2 h1
    rw [← Nat.pow_add] at this
    simp only [List.length_cons]
    rw [show 4 * (r.length + 1) + 1 = 4 + (4 * r.length + 1) by omega]
    exact this
def EP (es : List Ent) : Prop := ∀ e ∈ es, 0 < e.wt.q ∧ e.wt.q ≤ 1
theorem ep_valid {es : List Ent} (h : validB es = true) : EP es := by
  intro e he
  simp only [validB, Bool.and_eq_true, decide_eq_true_eq] at h
  obtain ⟨i, hi, rfl⟩ := List.mem_iff_getElem.1 he
  have := (ordB_iff.1 h.1.2 i hi es[i] (by simp [hi])).1
  simp only [entB, Bool.and_eq_true] at this
  exact weightyB_iff.1 this.2
theorem wtJ_int {es : List Ent} (hp : EP es) : ∀ {c : List Ent}, (∀ e ∈ c, e ∈ es) → 0 ≤ wtJ c ∧ wtJ c ≤ 1 ∧ ∃ z : Int, wtJ c * ((denE es ^ c.length : Nat) : Rat) = (z : Rat)
  | [], _ => ⟨by decide, by decide, 1, by simp [wtJ]⟩
  | e :: c, h => by
    obtain ⟨h1, h2, z, hz⟩ := wtJ_int hp (c := c) fun x hx => h x (by simp [hx])
    obtain ⟨p1, p2⟩ := hp e (h e (by simp))
    obtain ⟨z', hz'⟩ := denE_int (h e (by simp))
    have p0 : 0 ≤ e.wt.q := by grind
    have e1 := Rat.mul_nonneg p0 h1
    have e2 := Rat.mul_nonneg p0 (show 0 ≤ 1 - wtJ c by grind)
    rw [wtJ_cons]
    refine ⟨e1, by grind, z' * z, ?_⟩
    rw [List.length_cons, Nat.pow_succ, Rat.natCast_mul, Rat.intCast_mul, ← hz, ← hz']; grind
theorem smR_grid {α : Type} {f : α → Rat} {N B : Nat} : ∀ {l : List α}, (∀ c ∈ l, 0 ≤ f c ∧ f c ≤ (B : Rat) ∧ ∃ z : Int, f c * (N : Rat) = (z : Rat)) → 0 ≤ smR f l ∧ smR f l ≤ ((l.length * B : Nat) : Rat) ∧ ∃ z : Int, smR f l * (N : Rat) = (z : Rat)
  | [], _ => by
    refine ⟨by simp only [smR]; decide, ?_, 0, by simp [smR]⟩
    simp [smR]
  | c :: l, h => by
    obtain ⟨h1, h2, z, hz⟩ := smR_grid (l := l) fun x hx => h x (by simp [hx])
    obtain ⟨p1, p2, z', hz'⟩ := h c (by simp)
    simp only [smR]
    refine ⟨Rat.add_nonneg p1 h1, ?_, z' + z, ?_⟩
    · rw [List.length_cons, Nat.succ_mul, Rat.natCast_add]; grind
    · rw [Rat.intCast_add, ← hz, ← hz', Rat.add_mul]
theorem grid_sz {q : Rat} {N B k : Nat} (hN : 1 ≤ N) (h0 : 0 ≤ q) (h1 : q ≤ (B : Rat)) (hz : ∃ z : Int, q * (N : Rat) = (z : Rat)) (hk : (B + 1) * N < W32 ^ k) : SzQ q k := by
  obtain ⟨z, hz⟩ := hz
  refine szQ_of (N := N) (z := z) (by omega) hz ?_ ?_
  · have z0 : 0 ≤ z := by
      have := Rat.mul_nonneg h0 (nat_nn N)
      rw [hz] at this
      exact Rat.intCast_nonneg.1 this
    have z1 : z ≤ ((B * N : Nat) : Int) := by
      have := Rat.mul_le_mul_of_nonneg_right h1 (nat_nn N)
      rw [hz, ← Rat.natCast_mul, ← Rat.intCast_natCast] at this
      exact Rat.intCast_le_intCast.1 this
    have : z.natAbs ≤ B * N := by omega
    have e : (B + 1) * N = B * N + N := Nat.succ_mul ..
    omega
  · have : N ≤ (B + 1) * N := Nat.le_mul_of_pos_left _ (by omega)
    omega
theorem weightQ_grid {r : List Rul} {l ps : List Int} {L : Nat} (hr : ∀ x ∈ r, RG x) (hl : l.length ≤ L) : 0 ≤ weightQ r l ps ∧ weightQ r l ps ≤ ((4 ^ L : Nat) : Rat) ∧ ∃ z : Int, weightQ r l ps * ((denR r ^ L : Nat) : Rat) = (z : Rat) := by
  have h := WG.tab (r := r) (l := l) (ps := ps) (D := denR r) (fun i hi o ho => (og_of hr hi ho).1) l.length (Nat.le_refl _)
  refine ⟨h.lo _ _, Rat.le_trans (h.hi _ _) ?_, ?_⟩
  · rw [Rat.natCast_le_natCast]; exact Nat.pow_le_pow_right (by omega) hl
  · obtain ⟨z, hz⟩ := h.int l.length ps.length
    refine ⟨z * ((denR r ^ (L - l.length) : Nat) : Int), ?_⟩
    have e : denR r ^ L = denR r ^ l.length * denR r ^ (L - l.length) := by rw [← Nat.pow_add]; congr 1; omega
    unfold weightQ
    rw [e, Rat.natCast_mul, Rat.intCast_mul, Rat.intCast_natCast, ← hz]; grind
theorem le_sq {x y : Nat} (h : x ≤ y) (hy : 1 ≤ y) : x ≤ y * y := Nat.le_trans h (Nat.le_mul_of_pos_right _ hy)
theorem w32pos (k : Nat) : 1 ≤ W32 ^ k := Nat.one_le_pow _ _ (by decide)
theorem wgH (es : List Ent) (r : List Rul) (os : List (List Ent)) (ps : List Int) (K L : Nat) (hr : ∀ x ∈ r, RG x) (hrok : ∀ x ∈ r, x.OK 4) (hrl : r.length ≤ 1000) (hok : ∀ e ∈ es, e.OK 4) (hp : EP es)
    (hos : os.length ≤ K) (hK : K ≤ 100) (hL : L ≤ 100) (hm : ∀ o ∈ os, ∀ e ∈ o, e ∈ es) (hph : ∀ c ∈ combL os, (phJ c).length ≤ L) (hps : ps.length ≤ 100000)
    (h1 : (4 * r.length + 1) * L ≤ 3900) (h2 : (4 * es.length + 1) * K ≤ 3900) (hc : cntF 1 os ≤ 5000) : WgH r ps os := by
  have dr : denR r ^ L ≤ W32 ^ 3900 := by
    have h := Nat.pow_le_pow_left (Nat.le_of_lt (denR_lt fun x hx => (hr x hx).ok)) L
    rw [← Nat.pow_mul] at h
    have h' := w32le h1
    exact Nat.le_trans h h'
  have de : denE es ^ K ≤ W32 ^ 3900 := by
    have h := Nat.pow_le_pow_left (Nat.le_of_lt (denE_lt hok)) K
    rw [← Nat.pow_mul] at h
    have h' := w32le h2
    exact Nat.le_trans h h'
  have drp : 1 ≤ denR r ^ L := Nat.one_le_pow _ _ (denR_pos r)
  have dep : 1 ≤ denE es ^ K := Nat.one_le_pow _ _ (denE_pos es)
  have p4 : 4 ^ L ≤ W32 ^ 50 := by
    have : 4 ^ L ≤ 4 ^ 100 := Nat.pow_le_pow_right (by omega) hL
    have e : (4 : Nat) ^ 100 = 2 ^ 200 := by decide
    have e2 := two_le (show 200 ≤ 32 * 50 by omega)
    have e3 := w32_pow2 50
    rw [e3]; exact Nat.le_trans this (Nat.le_trans (Nat.le_of_eq e) e2)
  have w1 := w32pos 50
  have mem : ∀ c ∈ combL os, c.length ≤ K ∧ ∀ e ∈ c, e ∈ es := fun c hc => by
    obtain ⟨a, b⟩ := combL_mem hc
    exact ⟨by omega, fun e he => by obtain ⟨o, ho, h⟩ := b e he; exact hm o ho e h⟩
  have wq : ∀ c ∈ combL os, 0 ≤ weightQ r (phJ c) ps ∧ weightQ r (phJ c) ps ≤ ((4 ^ L : Nat) : Rat) ∧ ∃ z : Int, weightQ r (phJ c) ps * ((denR r ^ L : Nat) : Rat) = (z : Rat) := fun c hc => weightQ_grid hr (hph c hc)
  have wj : ∀ c ∈ combL os, 0 ≤ wtJ c ∧ wtJ c ≤ 1 ∧ ∃ z : Int, wtJ c * ((denE es ^ K : Nat) : Rat) = (z : Rat) := fun c hc => by
    obtain ⟨a, b⟩ := mem c hc
    obtain ⟨h1, h2, z, hz⟩ := wtJ_int hp b
    refine ⟨h1, h2, z * ((denE es ^ (K - c.length) : Nat) : Int), ?_⟩
    have e : denE es ^ K = denE es ^ c.length * denE es ^ (K - c.length) := by rw [← Nat.pow_add]; congr 1; omega
    rw [e, Rat.natCast_mul, Rat.intCast_mul, Rat.intCast_natCast, ← hz]; grind
  have pr : ∀ c ∈ combL os, 0 ≤ wtJ c * weightQ r (phJ c) ps ∧ wtJ c * weightQ r (phJ c) ps ≤ ((4 ^ L : Nat) : Rat) ∧ ∃ z : Int, (wtJ c * weightQ r (phJ c) ps) * ((denE es ^ K * denR r ^ L : Nat) : Rat) = (z : Rat) := fun c hc => by
    obtain ⟨a1, a2, z, hz⟩ := wj c hc
    obtain ⟨b1, b2, z', hz'⟩ := wq c hc
    have e2 := Rat.mul_nonneg (show 0 ≤ 1 - wtJ c by grind) b1
    refine ⟨Rat.mul_nonneg a1 b1, by grind, z * z', ?_⟩
    rw [Rat.natCast_mul, Rat.intCast_mul, ← hz, ← hz']; grind
  have W9 := w32four (show 50 + 50 + (3900 + 3900) < 10000 by omega)
  have one : ∀ B N, B + 1 ≤ W32 ^ 50 * W32 ^ 50 → N ≤ W32 ^ 3900 * W32 ^ 3900 → (B + 1) * N < W32 ^ 10000 := fun B N hB hN => Nat.lt_of_le_of_lt (Nat.mul_le_mul hB hN) W9
  have w39 := w32pos 3900
  have dE := le_sq de w39
  have dR := le_sq dr w39
  have dM := Nat.mul_le_mul de dr
  have big : 5000 * W32 ^ 50 + 1 ≤ W32 ^ 50 * W32 ^ 50 := by
    have : 5001 ≤ W32 ^ 50 := by
      have : W32 ^ 1 ≤ W32 ^ 50 := Nat.pow_le_pow_right (by decide) (by omega)
      have e : W32 ^ 1 = 4294967296 := rfl
      omega
    have := Nat.mul_le_mul_right (W32 ^ 50) this
    rw [show 5001 * W32 ^ 50 = 5000 * W32 ^ 50 + W32 ^ 50 from Nat.succ_mul ..] at this
    omega
  refine ⟨fun c hc => ?_, fun c hc => ⟨?_, ?_, ?_, ?_⟩, fun past hpf => ?_⟩
  · obtain ⟨a, b⟩ := mem c hc
    exact ⟨by omega, fun e he => hok e (b e he)⟩
  · exact weightR_call r (phJ c) ps hr hrok hrl (Nat.le_trans (hph c hc) hL) hps (Nat.le_trans (Nat.mul_le_mul_left _ (hph c hc)) h1)
  · obtain ⟨a1, a2, a3⟩ := wj c hc
    refine grid_sz (B := 1) dep a1 a2 a3 (one _ _ (by omega) dE)
  · obtain ⟨a1, a2, a3⟩ := wq c hc
    refine grid_sz drp a1 a2 a3 (one _ _ (by omega) dR)
  · obtain ⟨a1, a2, a3⟩ := pr c hc
    exact grid_sz (Nat.mul_pos dep drp) a1 a2 a3 (one _ _ (by omega) dM)
  · rw [sumQ_eq]
    obtain ⟨a1, a2, a3⟩ := smR_grid (f := fun c => wtJ c * weightQ r (phJ c) ps) (l := past) fun c hc => pr c (hpf.subset hc)
    have hl := hpf.length_le
    have hcc := combL_cnt hc
    refine grid_sz (Nat.mul_pos dep drp) a1 a2 a3 (one _ _ ?_ dM)
    have : past.length * 4 ^ L ≤ 5000 * W32 ^ 50 := Nat.mul_le_mul (by omega) p4
    omega
end Bh
namespace Bh
open Go Go.Proofs
def GQ (B N : Nat) (q : Rat) : Prop := 0 ≤ q ∧ q ≤ (B : Rat) ∧ ∃ z : Int, q * (N : Rat) = (z : Rat)
theorem GQ.mul {B B' N N' : Nat} {p q : Rat} (h : GQ B N p) (h' : GQ B' N' q) : GQ (B * B') (N * N') (p * q) := by
  obtain ⟨a1, a2, z, hz⟩ := h
  obtain ⟨b1, b2, z', hz'⟩ := h'
  have e1 := Rat.mul_nonneg (show 0 ≤ (B : Rat) - p by grind) b1
  have e2 := Rat.mul_nonneg (nat_nn B) (show 0 ≤ (B' : Rat) - q by grind)
  refine ⟨Rat.mul_nonneg a1 b1, ?_, z * z', ?_⟩
  · rw [Rat.natCast_mul]; grind
  · rw [Rat.natCast_mul, Rat.intCast_mul, ← hz, ← hz']; grind
theorem GQ.mono {B B' N : Nat} {q : Rat} (h : GQ B N q) (hb : B ≤ B') : GQ B' N q := ⟨h.1, Rat.le_trans h.2.1 (Rat.natCast_le_natCast.2 hb), h.2.2⟩
theorem GQ.sum {α : Type} {f : α → Rat} {N B : Nat} {l : List α} (h : ∀ c ∈ l, GQ B N (f c)) : GQ (l.length * B) N (smR f l) := smR_grid h
theorem GQ.sz {B N k : Nat} {q : Rat} (h : GQ B N q) (hN : 1 ≤ N) (hk : (B + 1) * N < W32 ^ k) : SzQ q k := grid_sz hN h.1 h.2.1 h.2.2 hk
theorem weight_gq {es : List Ent} {r : List Rul} {os : List (List Ent)} {ps : List Int} {K L : Nat} (hr : ∀ x ∈ r, RG x) (hp : EP es) (hos : os.length ≤ K) (hm : ∀ o ∈ os, ∀ e ∈ o, e ∈ es) (hph : ∀ c ∈ combL os, (phJ c).length ≤ L) (hc : cntF 1 os ≤ 5000) :
    GQ (5000 * 4 ^ L) (denE es ^ K * denR r ^ L) (sumQ r ps (combL os)) := by
  rw [sumQ_eq]
  refine (GQ.sum (B := 1 * 4 ^ L) fun c hc => ?_).mono ?_
  · obtain ⟨a, b⟩ := combL_mem hc
    refine GQ.mul ?_ (weightQ_grid hr (hph c hc))
    obtain ⟨h1, h2, z, hz⟩ := wtJ_int hp (c := c) fun e he => by obtain ⟨o, ho, h⟩ := b e he; exact hm o ho e h
    refine ⟨h1, by simpa using h2, z * ((denE es ^ (K - c.length) : Nat) : Int), ?_⟩
    have e : denE es ^ K = denE es ^ c.length * denE es ^ (K - c.length) := by rw [← Nat.pow_add]; congr 1; omega
    rw [e, Rat.natCast_mul, Rat.intCast_mul, Rat.intCast_natCast, ← hz]; grind
  · rw [Nat.one_mul]
    have := combL_cnt hc
    exact Nat.mul_le_mul_right _ (by omega)
end Bh
namespace Bh
open Go Go.Proofs
theorem chkR_T {i : Decidable True} {r : Res} : @chkR True i r = r := by unfold chkR; exact if_pos trivial
theorem slV_str (H : AHeap) (l : List ByteArray) : slV H 1 (.p (.sl (l.map strV))) = some ((l.map strV).map .p) := by
  rw [slV_sl, if_pos]
  exact List.all_eq_true.2 fun x hx => by obtain ⟨z, _, rfl⟩ := List.mem_map.1 hx; rfl
theorem allP_str (a b : List ByteArray) : allP ((a.map strV).map AV.p ++ (b.map strV).map AV.p) = some ((a ++ b).map strV) := by
  rw [← List.map_append, ← List.map_append, allP_map]
theorem fit_ok {es : List Ent} {n : Nat} (hf : fitB es n = true) (hd : ∀ e ∈ es, (∀ x ∈ e.wt.n, x < W32) ∧ ∀ x ∈ e.wt.d, x < W32) : (es.length ≤ n ∨ 1000 < es.length) ∧ es.length ≤ 1100 ∧ ∀ e ∈ es, e.OK 4 := by
  simp only [fitB, Bool.and_eq_true, Bool.not_eq_true', Bool.or_eq_false_iff, Bool.and_eq_false_iff, decide_eq_false_iff_not, List.all_eq_true] at hf
  obtain ⟨⟨h1, h2⟩, h3⟩ := hf
  refine ⟨by omega, by omega, fun e he => ?_⟩
  have h := h3 e he
  simp only [fitE, smallB, Bool.and_eq_true, decide_eq_true_eq] at h
  exact ⟨by omega, by omega, ⟨(hd e he).1, (hd e he).2, h.2.2.1, h.2.2.2⟩⟩
theorem weigh0_call (es : List Ent) (ws : List ByteArray) (ps : List Int) (hd : ∀ e ∈ es, (∀ x ∈ e.wt.n, x < W32) ∧ ∀ x ∈ e.wt.d, x < W32) (hf : fitB es 12 = true) (hlo : longB es 5 = false) (hw : ws.length ≤ 4) (hp : ps.length ≤ 400) :
    PCall Tryz.prog 18 [lexV es, .v (.slice none 0 0), .sl (ws.map strV), intsV ps] (weighV es [] ws ps) := by
  obtain ⟨f1, f2, f3⟩ := fit_ok hf hd
  have h := weigh_call es [] ws ps (by omega) (fun _ => f3) (by simp) (fun x hx => by simp at hx) (by omega) (by omega) fun hok hc => by
    have hv : validB es = true := by simp only [okB, Bool.and_eq_true] at hok; exact hok.1.1.1
    have hel : es.length ≤ 12 := by
      simp only [validB, Bool.and_eq_true, decide_eq_true_eq] at hv; have := hv.1.1; omega
    rw [chosen_fst hc]
    obtain ⟨c1, c2, c3⟩ := chosen_iff.1 hc
    have hm : ∀ o ∈ ws.map (entL es), ∀ e ∈ o, e ∈ es := fun o ho e he => by
      obtain ⟨w, _, rfl⟩ := List.mem_map.1 ho; exact entL_mem he
    have h5 : ∀ e ∈ es, e.ph.length ≤ 5 := fun e he => by
      have := List.any_eq_false.1 hlo e he
      simp at this; omega
    refine wgH es [] _ ps 4 20 (fun x hx => by simp at hx) (fun x hx => by simp at hx) (by simp) f3 (ep_valid hv) (by simpa using hw) (by omega) (by omega) hm (fun c hc => ?_) (by omega) (by simp) (by omega) c2
    obtain ⟨a1, a2⟩ := combL_mem hc
    have := phJ_le (k := 5) (c := c) fun e he => by obtain ⟨o, ho, h⟩ := a2 e he; exact h5 e (hm o ho e h)
    rw [List.length_map] at a1
    omega
  exact h.wk rfl (fun j x y hx hy => by
    match j, hx, hy with
    | 0, hx, hy => simp at hx hy; subst hx; subst hy; exact .refl _
    | 1, hx, hy => simp at hx hy; subst hx; subst hy; exact .nil
    | 2, hx, hy => simp at hx hy; subst hx; subst hy; exact .refl _
    | 3, hx, hy => simp at hx hy; subst hx; subst hy; exact .refl _) (.refl _)
theorem wZ {q : Rat} : (AV.p (.agg [.v (.bool false), .v (.slice none 0 0), .v (.slice none 0 0)])).wr 0 (.p (fracV q)) = some (.p (fracV q)) := wr_0 rfl rfl
theorem wZZ : (AV.p (.agg [.v (.bool false), .v (.slice none 0 0), .v (.slice none 0 0)])).wr 0 (.p (.agg [.v (.bool false), .v (.slice none 0 0), .v (.slice none 0 0)])) = some (.p (.agg [.v (.bool false), .v (.slice none 0 0), .v (.slice none 0 0)])) := wr_0 rfl rfl
theorem same0 : PCall Tryz.prog 19 [.agg [.v (.bool false), .v (.slice none 0 0), .v (.slice none 0 0)], .agg [.v (.bool false), .v (.slice none 0 0), .v (.slice none 0 0)]] (.v (.bool true)) := by
  have z := canF_ok (q := 0) (k := 1) ⟨natD_len.2 (by decide), natD_len.2 (by decide)⟩
  have h := same_call (canF 0) (canF 0) (by have := z.nl; omega) (by have := z.dl; omega)
  have e : sameB (canF 0) (canF 0) = true := by simp [sameB]
  rw [e, canF_V] at h
  exact h.wk rfl (fun j x y hx hy => by
    match j, hx, hy with
    | 0, hx, hy => simp at hx hy; subst hx; subst hy; exact wk_zero
    | 1, hx, hy => simp at hx hy; subst hx; subst hy; exact wk_zero) (.refl _)
def cutQ (es : List Ent) (a b : List ByteArray) (ps : List Int) (i : Nat) : Rat := sumQ [] (ps.take i) (combL (chosenS es a).1) * sumQ [] (ps.drop i) (combL (chosenS es b).1)
structure JH (es : List Ent) (a b : List ByteArray) (ps : List Int) : Prop where
  he1 : okB es [] (a ++ b).length ps = true
  he2 : (chosenS es (a ++ b)).2 = 0
  hd : ∀ e ∈ es, (∀ x ∈ e.wt.n, x < W32) ∧ ∀ x ∈ e.wt.d, x < W32
  hf : fitB es 12 = true
  hlo : longB es 5 = false
  la : a.length ≤ 2
  lb : b.length ≤ 2
  lps : ps.length ≤ 12
theorem JH.val {es : List Ent} {a b : List ByteArray} {ps : List Int} (h : JH es a b ps) : validB es = true ∧ rulesB [] = true ∧ phonedB ps 400 = true := by
  have := h.he1
  simp only [okB, Bool.and_eq_true] at this
  exact ⟨this.1.1.1, this.1.1.2, this.2⟩
theorem JH.es12 {es : List Ent} {a b : List ByteArray} {ps : List Int} (h : JH es a b ps) : es.length ≤ 12 := by
  have h1 := h.val.1
  have h2 := (fit_ok h.hf h.hd).1
  simp only [validB, Bool.and_eq_true, decide_eq_true_eq] at h1
  have := h1.1.1
  omega
theorem JH.long {es : List Ent} {a b : List ByteArray} {ps : List Int} (h : JH es a b ps) : ∀ e ∈ es, e.ph.length ≤ 5 := fun e he => by
  have := List.any_eq_false.1 h.hlo e he
  simp at this; omega
theorem phoned_sub {l m : List Int} {n : Nat} (h : phonedB l n = true) (hs : ∀ x ∈ m, x ∈ l) (hm : m.length ≤ l.length) : phonedB m n = true := by
  simp only [phonedB, Bool.and_eq_true, decide_eq_true_eq, Bool.not_eq_true', List.any_eq_false] at h ⊢
  exact ⟨by omega, fun x hx => h.2 x (hs x hx)⟩
def JN (es : List Ent) : Nat := denE es ^ 2 * denR [] ^ 10
theorem JN_pos (es : List Ent) : 1 ≤ JN es := Nat.mul_pos (Nat.one_le_pow _ _ (denE_pos es)) (Nat.one_le_pow _ _ (denR_pos []))
theorem JN_le {es : List Ent} (h12 : es.length ≤ 12) (hok : ∀ e ∈ es, e.OK 4) : JN es ≤ W32 ^ 98 := by
  have h1 : denE es ≤ W32 ^ 49 := Nat.le_trans (Nat.le_of_lt (denE_lt hok)) (Nat.pow_le_pow_right (by decide) (by omega))
  have h2 := Nat.pow_le_pow_left h1 2
  rw [← Nat.pow_mul] at h2
  have e : denR [] ^ 10 = 1 := by show 1 ^ 10 = 1; rfl
  unfold JN; rw [e, Nat.mul_one]; exact h2
theorem JH.one {es : List Ent} {a b : List ByteArray} {ps : List Int} (h : JH es a b ps) (ws : List ByteArray) (qs : List Int) (hw : ws.length ≤ 2) (hc : (chosenS es ws).2 = 0) (hq : ∀ x ∈ qs, x ∈ ps) (hql : qs.length ≤ ps.length) :
    PCall Tryz.prog 18 [lexV es, .v (.slice none 0 0), .sl (ws.map strV), intsV qs] (.tup [fracV (sumQ [] qs (combL (chosenS es ws).1)), .v (.int .i64 0)]) ∧ GQ (5000 * 4 ^ 10) (JN es) (sumQ [] qs (combL (chosenS es ws).1)) := by
  obtain ⟨v1, v2, v3⟩ := h.val
  have hok : okB es [] ws.length qs = true := by
    have : ws.length ≤ 40 := by omega
    simp [okB, v1, v2, this, phoned_sub v3 hq hql]
  have wc := weigh0_call es ws qs h.hd h.hf h.hlo (by omega) (by have := h.lps; omega)
  have hW : weighV es [] ws qs = .tup [fracV (sumQ [] qs (combL (chosenS es ws).1)), .v (.int .i64 0)] := by simp only [weighV, hok, hc, if_true]
  rw [hW] at wc
  refine ⟨wc, ?_⟩
  rw [chosen_fst hc]
  obtain ⟨c1, c2, c3⟩ := chosen_iff.1 hc
  have hm : ∀ o ∈ ws.map (entL es), ∀ e ∈ o, e ∈ es := fun o ho e he => by
    obtain ⟨w, _, rfl⟩ := List.mem_map.1 ho; exact entL_mem he
  refine weight_gq (fun x hx => by simp at hx) (ep_valid v1) (by simpa using hw) hm (fun c hc => ?_) c2
  obtain ⟨a1, a2⟩ := combL_mem hc
  have := phJ_le (k := 5) (c := c) fun e he => by obtain ⟨o, ho, h'⟩ := a2 e he; exact h.long e (hm o ho e h')
  rw [List.length_map] at a1
  omega
theorem JH.cut {es : List Ent} {a b : List ByteArray} {ps : List Int} (h : JH es a b ps) (i : Nat) : GQ (5000 * 4 ^ 10 * (5000 * 4 ^ 10)) (JN es * JN es) (cutQ es a b ps i) := by
  obtain ⟨ca, cb⟩ := chosen_append h.he2
  exact GQ.mul (h.one a (ps.take i) h.la ca (fun x hx => List.mem_of_mem_take hx) (by simp; omega)).2 (h.one b (ps.drop i) h.lb cb (fun x hx => List.mem_of_mem_drop hx) (by simp)).2
theorem JH.szs {es : List Ent} {a b : List ByteArray} {ps : List Int} (h : JH es a b ps) {q : Rat} {B : Nat} (hB : B ≤ 20 * (5000 * 4 ^ 10 * (5000 * 4 ^ 10))) (hq : GQ B (JN es * JN es) q) : SzQ q 10000 := by
  have hN := JN_le h.es12 (fit_ok h.hf h.hd).2.2
  have hp := JN_pos es
  refine hq.sz (Nat.mul_pos hp hp) ?_
  have h1 : B + 1 ≤ W32 ^ 3 := Nat.le_trans (Nat.succ_le_succ hB) (by decide)
  have h2 := Nat.mul_le_mul h1 (Nat.mul_le_mul hN hN)
  rw [← Nat.pow_add, ← Nat.pow_add] at h2
  have h3 := w32lt (show 3 + (98 + 98) < 10000 by omega)
  exact Nat.lt_of_le_of_lt h2 h3
theorem JH.sz1 {es : List Ent} {a b : List ByteArray} {ps : List Int} (h : JH es a b ps) {q : Rat} (hq : GQ (5000 * 4 ^ 10) (JN es) q) : SzQ q 10000 := by
  have hN := JN_le h.es12 (fit_ok h.hf h.hd).2.2
  refine hq.sz (JN_pos es) ?_
  have h1 : 5000 * 4 ^ 10 + 1 ≤ W32 ^ 3 := by decide
  have h2 := Nat.mul_le_mul h1 hN
  rw [← Nat.pow_add] at h2
  have h3 := w32lt (show 3 + 98 < 10000 by omega)
  exact Nat.lt_of_le_of_lt h2 h3
theorem JH.upto {es : List Ent} {a b : List ByteArray} {ps : List Int} (h : JH es a b ps) (i : Nat) (hi : i ≤ ps.length + 1) : SzQ (smR (cutQ es a b ps) (List.range i)) 10000 := by
  have := h.lps
  refine h.szs ?_ (GQ.sum fun c _ => h.cut c)
  rw [List.length_range]
  exact Nat.mul_le_mul_right _ (by omega)
theorem part (es : List Ent) (a b : List ByteArray) (ps : List Int) (i : Nat) (h : JH es a b ps) :
    PCall Tryz.prog 18 [lexV es, .v (.slice none 0 0), .sl (a.map strV), intsV (ps.take i)] (.tup [fracV (sumQ [] (ps.take i) (combL (chosenS es a).1)), .v (.int .i64 0)]) ∧
    PCall Tryz.prog 18 [lexV es, .v (.slice none 0 0), .sl (b.map strV), intsV (ps.drop i)] (.tup [fracV (sumQ [] (ps.drop i) (combL (chosenS es b).1)), .v (.int .i64 0)]) ∧
    PCall Tryz.prog 22 [fracV (sumQ [] (ps.take i) (combL (chosenS es a).1)), fracV (sumQ [] (ps.drop i) (combL (chosenS es b).1))] (fracV (cutQ es a b ps i)) ∧
    (i ≤ ps.length → PCall Tryz.prog 21 [fracV (smR (cutQ es a b ps) (List.range i)), fracV (cutQ es a b ps i)] (fracV (smR (cutQ es a b ps) (List.range (i + 1))))) := by
  obtain ⟨ca, cb⟩ := chosen_append h.he2
  obtain ⟨a1, a2⟩ := h.one a (ps.take i) h.la ca (fun x hx => List.mem_of_mem_take hx) (by simp; omega)
  obtain ⟨b1, b2⟩ := h.one b (ps.drop i) h.lb cb (fun x hx => List.mem_of_mem_drop hx) (by simp)
  have mc := mulF_call (canF _) (canF _) (canF_ok (h.sz1 a2)) (canF_ok (h.sz1 b2))
  rw [canF_V, canF_q, canF_V, canF_q] at mc
  refine ⟨a1, b1, mc, fun hi => ?_⟩
  have ac := addF_call (canF _) (canF _) (canF_ok (h.upto i (by omega))) (canF_ok (h.szs (by omega) (h.cut i)))
  rw [canF_V, canF_q, canF_V, canF_q] at ac
  have e : smR (cutQ es a b ps) (List.range (i + 1)) = smR (cutQ es a b ps) (List.range i) + cutQ es a b ps i := by
    rw [List.range_succ, smR_append]; simp only [smR]; grind
  rw [e]; exact ac
theorem total (es : List Ent) (a b : List ByteArray) (ps : List Int) (h : JH es a b ps) :
    PCall Tryz.prog 23 [fracV (sumQ [] ps (combL (chosenS es (a ++ b)).1)), fracV (smR (cutQ es a b ps) (List.range (ps.length + 1)))] (.v (.int .i64 0)) := by
  obtain ⟨ca, cb⟩ := chosen_append h.he2
  have e : sumQ [] ps (combL (chosenS es (a ++ b)).1) = smR (cutQ es a b ps) (List.range (ps.length + 1)) := by
    rw [chosen_fst h.he2, List.map_append, sumQ_join]
    unfold cutQ
    rw [chosen_fst ca, chosen_fst cb]
  rw [e]
  have sz := canF_ok (h.upto (ps.length + 1) (Nat.le_refl _))
  have cc := cmp_call (canF _) (canF _) ⟨sz.n1, sz.d1, by have := sz.nl; omega, by have := sz.dl; omega⟩ ⟨sz.n1, sz.d1, by have := sz.nl; omega, by have := sz.dl; omega⟩
  rw [canF_V, canF_q, cmpQ_zero.2 rfl] at cc
  exact cc
theorem soundJoins_call (es : List Ent) (a b : List ByteArray) (ps : List Int) (hd : ∀ e ∈ es, (∀ x ∈ e.wt.n, x < W32) ∧ ∀ x ∈ e.wt.d, x < W32) (hl : es.length ≤ 9223372036854775807) (ha : a.length ≤ 9223372036854775807) (hb : b.length ≤ 9223372036854775807) (hp : ps.length ≤ 9223372036854775807) {Y : YS} {H : AHeap} :
    HCall Tryz.prog Y 3 [.p (lexV es), .p (.sl (a.map strV)), .p (.sl (b.map strV)), .p (intsV ps)] H fun r H' => r = .p (.v (.bool true)) := by
  refine hcall mixed k3 (by simp) fun s hw h => ?_
  have h0 : s 0 = .p (lexV es) := h 0 _ rfl
  have h1 : s 1 = .p (.sl (a.map strV)) := h 1 _ rfl
  have h2 : s 2 = .p (.sl (b.map strV)) := h 2 _ rfl
  have h3 : s 3 = .p (intsV ps) := h 3 _ rfl
  have fc := fit_call es 12 hl (by omega)
  have sa := said_call a 2 ha (by omega)
  have sb := said_call b 2 hb (by omega)
  have lc := long_call es 5 hl
  have n1 : (!false) = true := rfl
  have n2 : (!true) = false := rfl
  have kn : ∀ H1 : AHeap, ∃ Pt, HCall Tryz.prog Y 17 [] H1 Pt ∧ ∀ (r : AV) (H' : AHeap), Pt r H' → ∃ (r1 : AV) (H2 : AHeap), r1 = AV.p (PV.v (Value.bool true)) ∧ WkA r r1 ∧ H2.nx = H'.nx ∧ ∀ (i : Nat) (o : AObj), H2.get i = some o → H'.get i = some o := fun H1 => ⟨_, known_call H1, fun r H' hh => ⟨_, _, rfl, by rw [hh.1]; exact .refl _, rfl, fun i o h => h⟩⟩
  unfold c3
  simp (disch := omega) only [go_sem, h0, h1, h2, h3, ite_lt, ite_gt, ↓reduceIte, Nat.reduceEqDiff, Nat.reduceLT]
  refine ⟨_, fc, ?_⟩
  cases hf : fitB es 12
  · simp (disch := omega) only [go_sem, n1, n2, h0, h1, h2, h3, ite_lt, ite_gt, ↓reduceIte, Nat.reduceEqDiff, Nat.reduceLT]
    exact kn _
  simp (disch := omega) only [go_sem, n1, n2, h0, h1, h2, h3, ite_lt, ite_gt, ↓reduceIte, Nat.reduceEqDiff, Nat.reduceLT]
  refine ⟨_, sa, ?_⟩
  cases hsa : saidB a 2
  · simp (disch := omega) only [go_sem, n1, n2, h0, h1, h2, h3, ite_lt, ite_gt, ↓reduceIte, Nat.reduceEqDiff, Nat.reduceLT]
    exact kn _
  simp (disch := omega) only [go_sem, n1, n2, h0, h1, h2, h3, ite_lt, ite_gt, ↓reduceIte, Nat.reduceEqDiff, Nat.reduceLT]
  refine ⟨_, sb, ?_⟩
  cases hsb : saidB b 2
  · simp (disch := omega) only [go_sem, n1, n2, h0, h1, h2, h3, ite_lt, ite_gt, ↓reduceIte, Nat.reduceEqDiff, Nat.reduceLT]
    exact kn _
  cases hpl : decide ((ps.length : Int) > 12)
  case true =>
    simp (disch := omega) only [go_sem, n1, n2, hpl, h0, h1, h2, h3, ite_lt, ite_gt, ↓reduceIte, Nat.reduceEqDiff, Nat.reduceLT]
    exact kn _
  simp (disch := omega) only [go_sem, n1, n2, hpl, h0, h1, h2, h3, ite_lt, ite_gt, ↓reduceIte, Nat.reduceEqDiff, Nat.reduceLT]
  refine ⟨_, lc, ?_⟩
  cases hlo : longB es 5
  case true =>
    simp (disch := omega) only [go_sem, n1, n2, hpl, h0, h1, h2, h3, ite_lt, ite_gt, ↓reduceIte, Nat.reduceEqDiff, Nat.reduceLT]
    exact kn _
  have la : a.length ≤ 2 := by
    simp only [saidB, Bool.and_eq_true, decide_eq_true_eq] at hsa; exact hsa.2
  have lb : b.length ≤ 2 := by
    simp only [saidB, Bool.and_eq_true, decide_eq_true_eq] at hsb; exact hsb.2
  have z1 : a.length * 16 ≤ 140737488355328 := by omega
  have z2 : (a.length + b.length) * 16 ≤ 140737488355328 := by omega
  simp (disch := omega) only [go_sem, chkR_T, slV_str, allP_str, List.length_map, z1, z2, n1, n2, hpl, h0, h1, h2, h3, ite_lt, ite_gt, ↓reduceIte, Nat.reduceEqDiff, Nat.reduceLT]
  have lab : (a ++ b).length ≤ 4 := by rw [List.length_append]; omega
  have lps : ps.length ≤ 12 := by have := of_decide_eq_false hpl; omega
  have wb := weigh0_call es (a ++ b) ps hd hf hlo (by omega) (by omega)
  refine ⟨_, wb, ?_⟩
  by_cases he : (okB es [] (a ++ b).length ps = true ∧ (chosenS es (a ++ b)).2 = 0)
  · obtain ⟨he1, he2⟩ := he
    have hW : weighV es [] (a ++ b) ps = .tup [fracV (sumQ [] ps (combL (chosenS es (a ++ b)).1)), .v (.int .i64 0)] := by simp only [weighV, he1, he2, if_true]
    rw [hW]
    have e0 : ((0 : Int) != 0) = false := rfl
    have oc := of_call 0 (by omega)
    simp (disch := omega) only [go_sem, e0, wZ, bz32, z32, List.getElem?_cons_zero, List.getElem?_cons_succ, n1, n2, h0, h1, h2, h3, ite_lt, ite_gt, ↓reduceIte, Nat.reduceEqDiff, Nat.reduceLT]
    refine ⟨_, oc, ?_⟩
    have q0 : (((0 : Nat) : Int) : Rat) = smR (cutQ es a b ps) (List.range 0) := rfl
    rw [q0]
    simp (disch := omega) only [go_sem, wZ, h0, h1, h2, h3, ite_lt, ite_gt, ↓reduceIte, Nat.reduceEqDiff, Nat.reduceLT]
    refine awp_loop (fun k s H' => ∃ i, i + k = ps.length + 1 ∧ H.nx + 3 < H'.nx ∧ H'.get H.nx = some (.box 32 (.p (fracV (sumQ [] ps (combL (chosenS es (a ++ b)).1))))) ∧ H'.get (H.nx + 3) = some (.box 32 (.p (fracV (smR (cutQ es a b ps) (List.range i))))) ∧
      s 1 = .p (.sl (a.map strV)) ∧ s 2 = .p (.sl (b.map strV)) ∧ s 3 = .p (.sl (ps.map intV)) ∧ s 4 = .p (.ref (lexV es)) ∧ s 9 = .pb H.nx 0 ∧ s 11 = .pb (H.nx + 3) 0 ∧ s 12 = .p (.v (.int .i64 (i : Nat)))) (ps.length + 1) ⟨0, by omega, ?_, ?_, ?_, ?_⟩ ?_
    · simp only [go_sem]; omega
    · simp (disch := omega) only [go_sem, ite_lt, ite_gt, ↓reduceIte, Nat.reduceEqDiff, Nat.reduceLT]
    · simp (disch := omega) only [go_sem, ite_lt, ite_gt, ↓reduceIte, Nat.reduceEqDiff, Nat.reduceLT]
    · simp (disch := omega) only [go_sem, h0, h1, h2, h3, ite_lt, ite_gt, ↓reduceIte, Nat.reduceEqDiff, Nat.reduceLT]
      exact ⟨rfl, rfl⟩
    · rintro k s' H' ⟨i, hik, hnx, g9, g11, h1, h2, h3, h4, h9, h11, h12⟩
      unfold c3l0
      by_cases hi : i ≤ ps.length
      · have dle : decide ((i : Int) ≤ (ps.length : Int)) = true := by simp; omega
        have slT : slC 1 (ps.map intV) 0 i = some (.p (intsV (ps.take i))) := by
          rw [slC_s (by omega) (by simp; omega) (all_ints ps), ← List.map_take, List.drop_zero]; rfl
        have slD : slC 1 (ps.map intV) i ps.length = some (.p (intsV (ps.drop i))) := by
          rw [slC_s (by omega) (by simp) (all_ints ps), ← List.map_take, ← List.map_drop, List.take_length]; rfl
        have pa := part es a b ps i ⟨he1, he2, hd, hf, hlo, la, lb, lps⟩
        obtain ⟨wa, wb', fm, fs⟩ := pa
        have fs := fs hi
        generalize hQ : smR (cutQ es a b ps) (List.range (i + 1)) = Q at fs
        have ei1 : IntKind.wrap .i64 ((i : Int) + 1) = ((i + 1 : Nat) : Int) := addwi1 (by omega)
        simp (disch := omega) only [go_sem, dle, slT, slD, h1, h2, h3, h4, h9, h11, h12, List.length_map, z32, ite_lt, ite_gt, ↓reduceIte, Nat.reduceEqDiff, Nat.reduceLT]
        refine ⟨_, wa, ?_⟩
        simp (disch := omega) only [go_sem, wZ, dle, slT, slD, h1, h2, h3, h4, h9, h11, h12, List.getElem?_cons_zero, List.getElem?_cons_succ, List.length_map, z32, ite_lt, ite_gt, ↓reduceIte, Nat.reduceEqDiff, Nat.reduceLT]
        refine ⟨_, wb', ?_⟩
        simp (disch := omega) only [go_sem, e0, wZ, dle, slT, slD, h1, h2, h3, h4, h9, h11, h12, g9, g11, List.getElem?_cons_zero, List.getElem?_cons_succ, List.length_map, z32, ite_lt, ite_gt, ↓reduceIte, Nat.reduceEqDiff, Nat.reduceLT]
        refine ⟨_, fm, ?_⟩
        refine ⟨_, fs, ?_⟩
        simp (disch := omega) only [go_sem, wrFF, ei1, h1, h2, h3, h4, h9, h11, h12, g9, g11, List.length_map, ite_lt, ite_gt, ↓reduceIte, Nat.reduceEqDiff, Nat.reduceLT]
        exact ⟨k - 1, by omega, i + 1, by omega, by rw [hQ], rfl⟩
      · have dle : decide ((i : Int) ≤ (ps.length : Int)) = false := by simp; omega
        have hi' : i = ps.length + 1 := by omega
        have ht := total es a b ps ⟨he1, he2, hd, hf, hlo, la, lb, lps⟩
        rw [← hi'] at ht
        simp (disch := omega) only [go_sem, dle, h1, h2, h3, h4, h9, h11, h12, g9, g11, List.length_map, z32, ite_lt, ite_gt, ↓reduceIte, Nat.reduceEqDiff, Nat.reduceLT]
        refine ⟨_, ht, ?_⟩
        have e00 : ((0 : Int) == 0) = true := rfl
        simp (disch := omega) only [go_sem, e00, ↓reduceIte, Nat.reduceEqDiff, Nat.reduceLT]
        exact kn _
  · obtain ⟨k, hk, hW⟩ : ∃ k : Nat, k ≠ 0 ∧ weighV es [] (a ++ b) ps = .tup [.agg [.v (.bool false), .v (.slice none 0 0), .v (.slice none 0 0)], .v (.int .i64 (k : Nat))] := by
      unfold weighV
      split
      · rename_i h1
        split
        · rename_i h2; exact absurd ⟨h1, h2⟩ he
        · rename_i h2; exact ⟨_, h2, rfl⟩
      · exact ⟨2, by omega, rfl⟩
    rw [hW]
    have e0 : (((k : Nat) : Int) != 0) = true := by simpa using hk
    simp (disch := omega) only [go_sem, e0, wZ, wZZ, bz32, z32, List.getElem?_cons_zero, List.getElem?_cons_succ, n1, n2, h0, h1, h2, h3, ite_lt, ite_gt, ↓reduceIte, Nat.reduceEqDiff, Nat.reduceLT]
    refine ⟨_, same0, ?_⟩
    simp (disch := omega) only [go_sem, ↓reduceIte, Nat.reduceEqDiff, Nat.reduceLT]
    exact kn _
end Bh
namespace Bh
open Go Go.Proofs
inductive Shp where
  | int (k : IntKind) | bool | str
  | sl (s : Shp)
  | st (f : Shp)
  | nil
  | cons (a b : Shp)
def Shp.wid : Shp → Nat
  | .int _ | .bool | .str | .sl _ => 1
  | .st f => f.wid
  | .nil => 0
  | .cons a b => a.wid + b.wid
def Shp.ag : Shp → Bool
  | .st _ => true
  | _ => false
def Shp.chk (P : Program) : Shp → TypeId ⊕ (List Field × Nat) → Bool
  | .int k, .inl t => match P.underlying t with | some (.int k') => decide (k' = k) | _ => false
  | .bool, .inl t => match P.underlying t with | some .bool => true | _ => false
  | .str, .inl t => match P.underlying t with | some .string => true | _ => false
  | .sl s, .inl t => match P.underlying t with | some (.slice e) => Nat.beq (P.cellsOf e) s.wid && Nat.ble 1 s.wid && s.chk P (.inl e) | _ => false
  | .st f, .inl t => match P.underlying t with | some (.struct l) => Nat.beq (P.cellsOf t) f.wid && f.chk P (.inr (l.toList, 0)) | _ => false
  | .nil, .inr ([], _) => true
  | .cons a b, .inr (f :: l, off) => Nat.beq f.offset off && Nat.beq (P.cellsOf f.type) a.wid && a.chk P (.inl f.type) && b.chk P (.inr (l, off + a.wid))
  | _, _ => false
def Shp.pack (s : Shp) (ys : List PV) : PV := if s.ag then .agg ys else ys.headD .any
def Shp.is : Shp → List PV → Prop
  | .int k, ys => ∃ n, ys = [.v (.int k n)] ∧ (Lit.int k n).wf = true
  | .bool, ys => ∃ b, ys = [.v (.bool b)]
  | .str, ys => ∃ s : ByteArray, ys = [.v (.string s)] ∧ s.size ≤ maxLen
  | .sl s, ys => ∃ es : List PV, ys = [.sl es] ∧ es.length ≤ maxLen ∧ ∀ e ∈ es, ∃ zs, s.is zs ∧ e = s.pack zs
  | .st f, ys => f.is ys
  | .nil, ys => ys = []
  | .cons a b, ys => ∃ us vs, ys = us ++ vs ∧ a.is us ∧ b.is vs
theorem Shp.is_len : ∀ {s : Shp} {ys : List PV}, s.is ys → ys.length = s.wid
  | .int k, ys, h => by obtain ⟨n, rfl, _⟩ := h; rfl
  | .bool, ys, h => by obtain ⟨n, rfl⟩ := h; rfl
  | .str, ys, h => by obtain ⟨n, rfl, _⟩ := h; rfl
  | .sl s, ys, h => by obtain ⟨n, rfl, _⟩ := h; rfl
  | .st f, ys, h => Shp.is_len (s := f) h
  | .nil, ys, h => by have : ys = [] := h; subst this; rfl
  | .cons a b, ys, h => by
    obtain ⟨us, vs, rfl, h1, h2⟩ := h
    rw [List.length_append, Shp.is_len h1, Shp.is_len h2]; rfl
theorem Shp.wid1 {P : Program} {s : Shp} {t : TypeId} (h : s.chk P (.inl t) = true) (ha : s.ag = false) : s.wid = 1 := by
  cases s <;> first | (cases ha; done) | (cases h; done) | rfl
theorem list_of {α : Type} {Q : Nat → α → Prop} : ∀ {n : Nat}, (∀ i, i < n → ∃ e, Q i e) → ∃ es : List α, es.length = n ∧ ∀ i e, es[i]? = some e → Q i e
  | 0, _ => ⟨[], rfl, fun i e h => by simp at h⟩
  | n + 1, h => by
    obtain ⟨es, h1, h2⟩ := list_of (Q := Q) (n := n) fun i hi => h i (by omega)
    obtain ⟨e, he⟩ := h n (by omega)
    refine ⟨es ++ [e], by simp [h1], fun i x hx => ?_⟩
    by_cases hi : i < es.length
    · rw [List.getElem?_append_left hi] at hx; exact h2 i x hx
    · rw [List.getElem?_append_right (by omega)] at hx
      cases hj : i - es.length with
      | zero =>
        have e1 : i = n := by omega
        rw [hj] at hx
        have e2 : e = x := by simpa using hx
        rw [e1, ← e2]; exact he
      | succ j => rw [hj] at hx; simp at hx
section
variable {P : Program} {W : World} {H : Type} {enc : TypeId × Value → H}
def Got (W : World) (s : Shp) (cs : List Value) : Prop :=
  ∃ ys, s.is ys ∧ cs.length = s.wid ∧ (∀ x ∈ cs, one x) ∧ ∀ j c, ys[j]? = some c → VP (fun b => b < W.heap.size) W c (cs.getD j undef)
theorem Got.one1 {s : Shp} {v : Value} {y : PV} (hw : s.wid = 1) (h1 : one v) (hi : s.is [y]) (hv : VP (fun b => b < W.heap.size) W y v) : Got W s [v] :=
  ⟨[y], hi, by simp [hw], fun x hx => by simp at hx; subst hx; exact h1, fun j c hc => by
    cases j with
    | zero => simp at hc; subst hc; exact hv
    | succ j => simp at hc⟩
theorem got (s : Shp) :
    (∀ (fuel : Nat) (t : TypeId) (cs : List Value) (x : DataW H × List MemPlace), s.chk P (.inl t) = true → DataW.trod enc P W 0 (fun _ => true) true fuel t cs = some x → Got W s cs) ∧
    (∀ (fuel : Nat) (l : List Field) (off : Nat) (cs : List Value), s.chk P (.inr (l, off)) = true → (∀ f ∈ l, ∃ x, DataW.trod enc P W 0 (fun _ => true) true fuel f.type ((cs.drop f.offset).take (P.cellsOf f.type)) = some x) → cs.length = off + s.wid →
      ∃ ys, s.is ys ∧ (∀ j, off ≤ j → j < cs.length → one (cs.getD j undef)) ∧ ∀ j c, ys[j]? = some c → VP (fun b => b < W.heap.size) W c (cs.getD (off + j) undef)) := by
  induction s with
  | int k =>
    refine ⟨fun fuel t cs x hc h => ?_, fun fuel l off cs hc => by simp [Shp.chk] at hc⟩
    have ht : P.underlying t = some (.int k) := by
      simp only [Shp.chk] at hc
      split at hc
      · rename_i k' h1; rw [h1, of_decide_eq_true hc]
      · cases hc
    obtain ⟨m, rfl, _, hwf⟩ := DataW.trod_int ht h
    exact Got.one1 rfl rfl ⟨m, rfl, hwf⟩ (.v _)
  | bool =>
    refine ⟨fun fuel t cs x hc h => ?_, fun fuel l off cs hc => by simp [Shp.chk] at hc⟩
    have ht : P.underlying t = some .bool := by
      simp only [Shp.chk] at hc
      split at hc
      · assumption
      · cases hc
    obtain ⟨m, rfl, _⟩ := DataW.trod_bool ht h
    exact Got.one1 rfl rfl ⟨m, rfl⟩ (.v _)
  | str =>
    refine ⟨fun fuel t cs x hc h => ?_, fun fuel l off cs hc => by simp [Shp.chk] at hc⟩
    have ht : P.underlying t = some .string := by
      simp only [Shp.chk] at hc
      split at hc
      · assumption
      · cases hc
    obtain ⟨m, rfl, _, hz⟩ := DataW.trod_string ht h
    exact Got.one1 rfl rfl ⟨m, rfl, hz⟩ (.v _)
  | nil =>
    refine ⟨fun fuel t cs x hc h => by simp [Shp.chk] at hc, fun fuel l off cs hc h hl => ?_⟩
    refine ⟨[], rfl, fun j h1 h2 => ?_, fun j c hc => by simp at hc⟩
    simp [Shp.wid] at hl; omega
  | cons a b iha ihb =>
    refine ⟨fun fuel t cs x hc h => by simp [Shp.chk] at hc, fun fuel l off cs hc h hl => ?_⟩
    cases l with
    | nil => simp [Shp.chk] at hc
    | cons f l =>
      simp only [Shp.chk, Bool.and_eq_true] at hc
      obtain ⟨⟨⟨h1, h2⟩, h3⟩, h4⟩ := hc
      have h1 := Nat.eq_of_beq_eq_true h1
      have h2 := Nat.eq_of_beq_eq_true h2
      simp only [Shp.wid] at hl
      obtain ⟨x, hx⟩ := h f (by simp)
      obtain ⟨us, u1, u2, u3, u4⟩ := iha.1 fuel f.type _ x h3 hx
      obtain ⟨vs, v1, v2, v3⟩ := ihb.2 fuel l (off + a.wid) cs h4 (fun g hg => h g (by simp [hg])) (by omega)
      have lu := Shp.is_len u1
      have gd : ∀ j, j < a.wid → ((cs.drop f.offset).take (P.cellsOf f.type)).getD j undef = cs.getD (off + j) undef := fun j hj => by
        simp only [List.getD_eq_getElem?_getD]
        rw [List.getElem?_take_of_lt (by omega), List.getElem?_drop, h1]
      refine ⟨us ++ vs, ⟨us, vs, rfl, u1, v1⟩, fun j j1 j2 => ?_, fun j c hc => ?_⟩
      · by_cases hj : j < off + a.wid
        · have := gd (j - off) (by omega)
          rw [show off + (j - off) = j by omega] at this
          rw [← this]
          refine u3 _ ?_
          have hlt : j - off < ((cs.drop f.offset).take (P.cellsOf f.type)).length := by rw [u2]; omega
          rw [List.getD_eq_getElem?_getD, List.getElem?_eq_getElem hlt]
          exact List.getElem_mem hlt
        · exact v2 j (by omega) j2
      · by_cases hj : j < us.length
        · rw [List.getElem?_append_left hj] at hc
          have := u4 j c hc
          rwa [gd j (by omega)] at this
        · rw [List.getElem?_append_right (by omega)] at hc
          have := v3 _ c hc
          rwa [show off + a.wid + (j - us.length) = off + j by omega] at this
  | st f ih =>
    refine ⟨fun fuel t cs x hc h => ?_, fun fuel l off cs hc => by simp [Shp.chk] at hc⟩
    simp only [Shp.chk] at hc
    split at hc
    · rename_i l ht
      simp only [Bool.and_eq_true] at hc
      obtain ⟨h1, h2⟩ := hc
      have h1 := Nat.eq_of_beq_eq_true h1
      obtain ⟨xs, n, rfl, rfl, hlen, hxl, hf⟩ := DataW.trod_struct ht h
      obtain ⟨ys, y1, y2, y3⟩ := ih.2 n l.toList 0 cs h2 (fun f hf' => by
        obtain ⟨i, hi, rfl⟩ := List.mem_iff_getElem.1 hf'
        have hi' : i < l.size := by simpa using hi
        have := hf i l[i] (Array.getElem?_eq_getElem hi')
        rw [List.getElem?_eq_getElem (by omega)] at this
        exact ⟨_, by simpa using this⟩) (by omega)
      refine ⟨ys, y1, by rw [hlen, h1]; rfl, fun x hx => ?_, fun j c hc => by have := y3 j c hc; rwa [Nat.zero_add] at this⟩
      obtain ⟨j, hj, rfl⟩ := List.mem_iff_getElem.1 hx
      have := y2 j (Nat.zero_le _) hj
      rwa [List.getD_eq_getElem?_getD, List.getElem?_eq_getElem hj] at this
    · cases hc
  | sl s ih =>
    refine ⟨fun fuel t cs x hc h => ?_, fun fuel l off cs hc => by simp [Shp.chk] at hc⟩
    simp only [Shp.chk] at hc
    split at hc
    · rename_i e ht
      simp only [Bool.and_eq_true] at hc
      obtain ⟨⟨h1, h2⟩, h3⟩ := hc
      have h1 := Nat.eq_of_beq_eq_true h1
      have h2 := Nat.le_of_ble_eq_true h2
      rcases DataW.trod_slice ht h with ⟨rfl, _⟩ | ⟨a, len, cap, elems, rest, n, rfl, rfl, rfl, hb1, hb2, hb3, hln, hel, _, _⟩
      · exact Got.one1 rfl rfl ⟨[], rfl, by simp, fun e he => by simp at he⟩ (.sl [] none 0 1 (fun _ => undef) (Nat.le_refl _) (by decide) (fun j hj => by simp at hj) (fun e he => by simp at he) (.inl (by omega)) (fun i e he => by simp at he))
      · 
        let f : Nat → Value := fun j => (W.cell? (a.add j)).getD undef
        have each : ∀ i, i < len → ∃ y : PV, (∃ zs, s.is zs ∧ y = s.pack zs) ∧ y.wid = s.wid ∧ (∀ j, j < s.wid → a.block < W.heap.size ∧ one (f (i * s.wid + j)) ∧ W.cell? (a.add (i * s.wid + j)) = some (f (i * s.wid + j))) ∧ VP (fun b => b < W.heap.size) W y (packN y.isAgg y.wid f (i * s.wid)) := fun i hi => by
          have hg := hel i hi
          have hlt : i < elems.length := by omega
          rw [List.getElem?_eq_getElem hlt] at hg
          cases hcs : W.cells? 0 (a.add (i * P.cellsOf e)) (P.cellsOf e) with
          | none => rw [hcs] at hg; cases hg
          | some cs' =>
            rw [hcs] at hg
            obtain ⟨zs, z1, z2, z3, z4⟩ := ih.1 n e cs' _ h3 hg
            obtain ⟨c1, c2, c3⟩ := World.cells?_some hcs
            have blk := World.cells?_block hcs (by omega)
            rw [add_block] at blk
            have cell : ∀ j, j < s.wid → W.cell? (a.add (i * s.wid + j)) = some (cs'.getD j undef) := fun j hj => by
              have := c3 j (by omega)
              rw [Addr.add_add, h1] at this
              rw [this, List.getD_eq_getElem?_getD, List.getElem?_eq_getElem (by omega)]; rfl
            have fj : ∀ j, j < s.wid → f (i * s.wid + j) = cs'.getD j undef := fun j hj => by
              show (W.cell? _).getD undef = _
              rw [cell j hj]; rfl
            have on : ∀ j, j < s.wid → one (cs'.getD j undef) := fun j hj => by
              refine z3 _ ?_
              rw [List.getD_eq_getElem?_getD, List.getElem?_eq_getElem (by omega)]
              exact List.getElem_mem _
            have lz := Shp.is_len z1
            cases hag : s.ag with
            | true =>
              have ep : s.pack zs = .agg zs := by unfold Shp.pack; rw [hag]; rfl
              refine ⟨.agg zs, ⟨zs, z1, ep.symm⟩, lz, fun j hj => ⟨blk, by rw [fj j hj]; exact on j hj, by rw [fj j hj]; exact cell j hj⟩, ?_⟩
              unfold packN
              simp only [PV.isAgg, PV.wid, if_true]
              refine .agg zs _ (by simp) (fun x hx => ?_) fun j c hc => ?_
              · obtain ⟨j, hj, rfl⟩ := List.mem_map.1 hx
                have := List.mem_range.1 hj
                rw [fj j (by omega)]; exact on j (by omega)
              · have hj : j < zs.length := (List.getElem?_eq_some_iff.1 hc).1
                rw [range_get _ _ _ hj, fj j (by omega)]
                exact z4 j c hc
            | false =>
              have w1 := Shp.wid1 h3 hag
              obtain ⟨z, rfl⟩ : ∃ z, zs = [z] := by
                match zs, lz with
                | [z], _ => exact ⟨z, rfl⟩
                | [], h => simp at h; omega
                | _ :: _ :: _, h => simp at h; omega
              have ep : s.pack [z] = z := by unfold Shp.pack; rw [hag]; rfl
              have z4 := z4 0 z rfl
              have na : z.isAgg = false ∧ z.wid = 1 := by
                cases s with
                | int k => obtain ⟨n, hz, _⟩ := z1; injection hz with hz; subst hz; exact ⟨rfl, rfl⟩
                | bool => obtain ⟨n, hz⟩ := z1; injection hz with hz; subst hz; exact ⟨rfl, rfl⟩
                | str => obtain ⟨n, hz, _⟩ := z1; injection hz with hz; subst hz; exact ⟨rfl, rfl⟩
                | sl s => obtain ⟨n, hz, _⟩ := z1; injection hz with hz; subst hz; exact ⟨rfl, rfl⟩
                | st f => cases hag
                | nil => cases h3
                | cons a b => cases h3
              refine ⟨z, ⟨[z], z1, ep.symm⟩, by rw [na.2, w1], fun j hj => ⟨blk, by rw [fj j hj]; exact on j hj, by rw [fj j hj]; exact cell j hj⟩, ?_⟩
              have := fj 0 (by omega)
              rw [Nat.add_zero] at this
              unfold packN
              rw [na.1, this]
              exact z4
        obtain ⟨es, e1, e2⟩ := list_of each
        have em : ∀ y ∈ es, ∃ i, i < len ∧ es[i]? = some y := fun y hy => by
          obtain ⟨i, hi, rfl⟩ := List.mem_iff_getElem.1 hy
          exact ⟨i, by omega, List.getElem?_eq_getElem hi⟩
        refine Got.one1 rfl rfl (y := .sl es) ⟨es, rfl, by omega, fun y hy => ?_⟩ ?_
        · obtain ⟨i, _, hi⟩ := em y hy
          exact (e2 i y hi).1
        · have := VP.sl (Per := fun b => b < W.heap.size) (w := W) es (some a) cap s.wid f (by omega) hb3 (fun j hj => ?_) (fun y hy => ?_) (.inl (by omega)) fun i y hy => (e2 i y hy).2.2.2
          · rwa [e1] at this
          · have hi : j / s.wid < len := by rw [← e1]; exact Nat.div_lt_of_lt_mul (by rw [Nat.mul_comm]; exact hj)
            have := (e2 (j / s.wid) es[j / s.wid] (List.getElem?_eq_getElem (by omega))).2.2.1 (j % s.wid) (Nat.mod_lt _ (by omega))
            rw [Nat.mul_comm, Nat.div_add_mod] at this
            exact ⟨a, rfl, this⟩
          · obtain ⟨i, _, hi⟩ := em y hy
            exact (e2 i y hi).2.1
    · cases hc
end
end Bh
namespace Bh
open Go Go.Proofs
open Go.ChangeShapes Go.WideShapes Go.RowKit
def intsS : Shp := .sl (.int .i64)
def strsS : Shp := .sl .str
def natS : Shp := .sl (.int .u32)
def fracS : Shp := .st (.cons .bool (.cons natS (.cons natS .nil)))
def entS : Shp := .st (.cons .str (.cons intsS (.cons fracS .nil)))
def lexS : Shp := .st (.cons (.sl entS) .nil)
def rulS : Shp := .st (.cons intsS (.cons intsS (.cons intsS (.cons intsS (.cons fracS .nil)))))
theorem arg_vp {P : Program} {W : World} {H : Type} {enc : TypeId × Value → H} {s : Shp} {t : TypeId} {v : Value} {d : DataW H} {ps : List MemPlace} {b0 : Nat} (hc : s.chk P (.inl t) = true) (ho : Value.okWide P W .any b0 t v)
    (h : DataW.Trod enc P W 0 (fun _ => true) true t v d ps) : ∃ ys, s.is ys ∧ VP (fun b => b < W.heap.size) W (s.pack ys) v := by
  obtain ⟨fuel, h⟩ := h
  obtain ⟨ys, h1, h2, h3, h4⟩ := (got (P := P) (W := W) (enc := enc) s).1 fuel t _ _ hc h
  have hl := Shp.is_len h1
  have one : s.ag = false → ∀ x : Value, x.cells = #[x] → x = v → ∃ ys, s.is ys ∧ VP (fun b => b < W.heap.size) W (s.pack ys) v := fun ha x hx e => by
    subst e
    have w1 := Shp.wid1 hc ha
    match ys, hl, h4, h1 with
    | [z], _, h4, h1 =>
      refine ⟨[z], h1, ?_⟩
      have := h4 0 z rfl
      rw [hx] at this
      unfold Shp.pack; rw [ha]; exact this
    | [], hl, _, _ => simp at hl; omega
    | _ :: _ :: _, hl, _, _ => simp at hl; omega
  cases s with
  | int k =>
    simp only [Shp.chk] at hc
    split at hc
    · rename_i k' ht
      obtain ⟨n, rfl⟩ := okWide_int ht ho
      exact one rfl _ rfl rfl
    · cases hc
  | bool =>
    simp only [Shp.chk] at hc
    split at hc
    · rename_i ht
      obtain ⟨n, rfl⟩ := okWide_bool ht ho
      exact one rfl _ rfl rfl
    · cases hc
  | str =>
    simp only [Shp.chk] at hc
    split at hc
    · rename_i ht
      obtain ⟨n, rfl⟩ := okWide_string ht ho
      exact one rfl _ rfl rfl
    · cases hc
  | sl s =>
    have hc' := hc
    simp only [Shp.chk] at hc'
    split at hc'
    · rename_i e ht
      obtain ⟨a, len, cap, rfl⟩ := okWide_slice ht ho
      exact one rfl _ rfl rfl
    · cases hc'
  | st f =>
    have hc' := hc
    simp only [Shp.chk] at hc'
    split at hc'
    · rename_i l ht
      obtain ⟨cs, rfl, hsz⟩ := okWide_struct ht ho
      refine ⟨ys, h1, ?_⟩
      have := VP.agg (Per := fun b => b < W.heap.size) (w := W) ys cs.toList (by rw [hl]; exact h2) h3 h4
      exact this
    · cases hc'
  | nil => cases hc
  | cons a b => cases hc
theorem is_list {α : Type} {s : Shp} (V : α → PV) (Q : α → Prop) (hd : ∀ zs, s.is zs → ∃ x, s.pack zs = V x ∧ Q x) {ys : List PV} (h : (Shp.sl s).is ys) : ∃ l : List α, ys = [.sl (l.map V)] ∧ l.length ≤ maxLen ∧ ∀ x ∈ l, Q x := by
  obtain ⟨es, rfl, hl, he⟩ := h
  suffices ∃ l : List α, es = l.map V ∧ ∀ x ∈ l, Q x by
    obtain ⟨l, rfl, hq⟩ := this
    exact ⟨l, rfl, by simpa using hl, hq⟩
  clear hl
  induction es with
  | nil => exact ⟨[], rfl, fun x hx => by simp at hx⟩
  | cons e es ih =>
    obtain ⟨l, rfl, hq⟩ := ih fun x hx => he x (by simp [hx])
    obtain ⟨zs, hz, rfl⟩ := he e (by simp)
    obtain ⟨x, hx, hqx⟩ := hd zs hz
    exact ⟨x :: l, by rw [List.map_cons, hx], fun y hy => by
      rcases List.mem_cons.1 hy with rfl | hy
      · exact hqx
      · exact hq y hy⟩
theorem is_ints {ys : List PV} (h : intsS.is ys) : ∃ l : List Int, ys = [intsV l] ∧ l.length ≤ maxLen ∧ ∀ z ∈ l, (Lit.int .i64 z).wf = true :=
  is_list intV (fun z => (Lit.int .i64 z).wf = true) (fun zs hz => by obtain ⟨n, rfl, hn⟩ := hz; exact ⟨n, rfl, hn⟩) h
theorem is_strs {ys : List PV} (h : strsS.is ys) : ∃ l : List ByteArray, ys = [.sl (l.map strV)] ∧ l.length ≤ maxLen ∧ ∀ z ∈ l, z.size ≤ maxLen :=
  is_list strV (fun z => z.size ≤ maxLen) (fun zs hz => by obtain ⟨n, rfl, hn⟩ := hz; exact ⟨n, rfl, hn⟩) h
theorem is_nat {ys : List PV} (h : natS.is ys) : ∃ l : List Nat, ys = [natV l] ∧ l.length ≤ maxLen ∧ ∀ z ∈ l, z < W32 := by
  refine is_list (fun d => .v (.int .u32 (d : Nat))) (fun z => z < W32) (fun zs hz => ?_) h
  obtain ⟨n, rfl, hn⟩ := hz
  have hb : 0 ≤ n ∧ n < 4294967296 := by
    have := hn
    simp [Lit.wf, IntKind.min, IntKind.max, IntKind.signed, IntKind.bits] at this
    omega
  refine ⟨n.toNat, ?_, ?_⟩
  · show PV.v (.int .u32 n) = .v (.int .u32 ((n.toNat : Nat) : Int))
    rw [Int.toNat_of_nonneg hb.1]
  · have w : W32 = 4294967296 := rfl
    omega
theorem is_frac {ys : List PV} (h : fracS.is ys) : ∃ x : Fr, ys = [.v (.bool x.b), natV x.n, natV x.d] ∧ x.n.length ≤ maxLen ∧ x.d.length ≤ maxLen ∧ (∀ z ∈ x.n, z < W32) ∧ ∀ z ∈ x.d, z < W32 := by
  obtain ⟨us, vs, rfl, ⟨b, rfl⟩, us1, vs1, rfl, h1, us2, vs2, rfl, h2, rfl⟩ := h
  obtain ⟨n, rfl, n1, n2⟩ := is_nat h1
  obtain ⟨d, rfl, d1, d2⟩ := is_nat h2
  exact ⟨⟨b, n, d⟩, rfl, n1, d1, n2, d2⟩
theorem is_ent {ys : List PV} (h : entS.is ys) : ∃ e : Ent, Shp.pack entS ys = e.V ∧ (∀ z ∈ e.wt.n, z < W32) ∧ (∀ z ∈ e.wt.d, z < W32) := by
  obtain ⟨us, vs, rfl, ⟨w, rfl, _⟩, us1, vs1, rfl, h1, us2, vs2, rfl, h2, rfl⟩ := h
  obtain ⟨n, rfl, _⟩ := is_ints h1
  obtain ⟨x, rfl, _, _, x1, x2⟩ := is_frac h2
  exact ⟨⟨w, n, x⟩, rfl, x1, x2⟩
theorem is_lex {ys : List PV} (h : lexS.is ys) : ∃ es : List Ent, Shp.pack lexS ys = lexV es ∧ es.length ≤ maxLen ∧ ∀ e ∈ es, (∀ z ∈ e.wt.n, z < W32) ∧ ∀ z ∈ e.wt.d, z < W32 := by
  obtain ⟨us, vs, rfl, h1, rfl⟩ := h
  obtain ⟨es, rfl, hl, hq⟩ := is_list Ent.V (fun e => (∀ z ∈ e.wt.n, z < W32) ∧ ∀ z ∈ e.wt.d, z < W32) (fun zs hz => is_ent hz) h1
  exact ⟨es, rfl, hl, hq⟩
theorem is_rul {ys : List PV} (h : rulS.is ys) : ∃ e : Rul, Shp.pack rulS ys = e.V ∧ e.fr.length ≤ maxLen ∧ e.to.length ≤ maxLen ∧ e.l.length ≤ maxLen ∧ e.r.length ≤ maxLen ∧ (∀ z ∈ e.wt.n, z < W32) ∧ (∀ z ∈ e.wt.d, z < W32) := by
  obtain ⟨us, vs, rfl, h1, us2, vs2, rfl, h2, us3, vs3, rfl, h3, us4, vs4, rfl, h4, us5, vs5, rfl, h5, rfl⟩ := h
  obtain ⟨a, rfl, l1, _⟩ := is_ints h1
  obtain ⟨b, rfl, l2, _⟩ := is_ints h2
  obtain ⟨c, rfl, l3, _⟩ := is_ints h3
  obtain ⟨d, rfl, l4, _⟩ := is_ints h4
  obtain ⟨x, rfl, _, _, x1, x2⟩ := is_frac h5
  exact ⟨⟨a, b, c, d, x⟩, rfl, l1, l2, l3, l4, x1, x2⟩
theorem chk24 : lexS.chk Tryz.prog (.inl 24) = true := by kernel_rfl
theorem chk25 : strsS.chk Tryz.prog (.inl 25) = true := by kernel_rfl
theorem chk26 : intsS.chk Tryz.prog (.inl 26) = true := by kernel_rfl
end Bh
namespace Bh
open Go Go.Proofs Go.Proofs.YtpliecbpcmchaaaGreatDoor
open Go.ChangeShapes Go.WideShapes Go.RowKit
theorem own5 : ownKnob Tryz.prog.godebug = none := by kernel_rfl
theorem laidOut5 : laidOutB Tryz.prog = true := by kernel_rfl
def laid5 : List (String × DataW Unit) := [("math/bits.deBruijn32tab", Rows.laid_math_bits_deBruijn32tab), ("math/bits.deBruijn64tab", Rows.laid_math_bits_deBruijn64tab), ("internal/strconv.uint64pow10", Rows.laid_internal_strconv_uint64pow10)]
theorem gPow : Tryz.prog.globalNamed "internal/strconv.uint64pow10" = some 1 := by kernel_rfl
noncomputable def tPow : TypeId := ((Tryz.prog.globals[1]?).map (·.type)).getD 0
noncomputable def ePow : TypeId := match Tryz.prog.underlying tPow with | some (.array _ e) => e | _ => 0
theorem tPow_eq : (Tryz.prog.globals[1]?).map (·.type) = some tPow := by kernel_rfl
theorem uPow : Tryz.prog.underlying tPow = some (.array 20 ePow) := by kernel_rfl
theorem uInt : Tryz.prog.underlying ePow = some (.int .u64) := by kernel_rfl
theorem cPow : Tryz.prog.cellsOf ePow = 1 := by kernel_rfl
def pows : List Int := [1, 10, 100, 1000, 10000, 100000, 1000000, 10000000, 100000000, 1000000000, 10000000000, 100000000000, 1000000000000, 10000000000000, 100000000000000, 1000000000000000, 10000000000000000, 100000000000000000, 1000000000000000000, 10000000000000000000]
theorem laidPow : (Rows.laid_internal_strconv_uint64pow10 : DataW Unit) = .agg (pows.map fun n => .lit (.int .u64 n)) := rfl
theorem globs_eq : globs = [(1, pows.map fun n => .int .u64 n)] := rfl
theorem lits_at {L : List Int} {xs : List (DataW Unit × List MemPlace)} (h : (L.map fun n => (DataW.lit (.int .u64 n) : DataW Unit)) = xs.map (·.1)) {i : Nat} {x : DataW Unit × List MemPlace} (hx : xs[i]? = some x) : ∃ n, L[i]? = some n ∧ x.1 = .lit (.int .u64 n) := by
  have e := congrArg (·[i]?) h
  simp only [List.getElem?_map, hx, Option.map_some] at e
  cases hn : L[i]? with
  | none => rw [hn] at e; cases e
  | some n => rw [hn] at e; injection e with e; exact ⟨n, rfl, e.symm⟩
theorem glob_of_laid {W : World} (h : laidMetH Tryz.prog laid5 W) : ∀ q ∈ globs, q.1 < W.heap.size ∧ ∃ T fr, W.heap[q.1]? = some (.cells q.2.toArray T fr) := by
  rw [MakeChecks.laidMetH_plain _ _ _ (by kernel_rfl)] at h
  obtain ⟨ps, ⟨g0, t0, cs0, f0, p0, q0, _, _, _, _, ⟨g1, t1, cs1, f1, p1, q1, _, _, _, _, ⟨g, t, cs, f, p, q, hg, ht, hv, hd, _, _⟩, _⟩, _⟩, _, _⟩ := h
  obtain rfl := Option.some.inj (gPow.symm.trans hg)
  obtain rfl := Option.some.inj (tPow_eq.symm.trans ht)
  obtain ⟨xs, m, rfl, hx, hlen, hn, hel⟩ := DataW.trod_array uPow hd
  have hx1 : (pows.map fun n => (DataW.lit (.int .u64 n) : DataW Unit)) = xs.map (·.1) := by
    have := congrArg Prod.fst hx
    rw [laidPow] at this
    injection this
  rw [cPow] at hel
  have hcl : cs.toList.length = 20 := by
    rw [hlen]; kernel_rfl
  have hcs : cs.toList = pows.map fun n => Value.int .u64 n := by
    apply List.ext_getElem?
    intro i
    by_cases hi : i < 20
    · have h1 := hel i hi
      rw [Nat.mul_one, List.getElem?_eq_getElem (by omega)] at h1
      obtain ⟨k, e1, e2, _⟩ := DataW.trod_int uInt h1
      obtain ⟨n, n1, n2⟩ := lits_at hx1 (List.getElem?_eq_getElem (show i < xs.length by omega))
      have n3 : (DataW.lit (.int .u64 k) : DataW Unit) = .lit (.int .u64 n) := by rw [← n2, e2]
      have n4 : k = n := by simpa only [DataW.lit.injEq, Lit.int.injEq, true_and] using n3
      subst n4
      have e3 := congrArg (·[0]?) e1
      simp only [List.getElem?_take_of_lt (Nat.lt_succ_self 0), List.getElem?_drop, Nat.add_zero] at e3
      rw [e3, List.getElem?_map, n1]; rfl
    · rw [List.getElem?_eq_none (by omega), List.getElem?_eq_none (by simp [pows]; omega)]
  intro q hq
  rw [globs_eq] at hq
  have : q = (1, pows.map fun n => Value.int .u64 n) := by simpa using hq
  subst this
  unfold World.var? at hv
  rw [gPow] at hv
  simp only [Option.bind_some] at hv
  cases hh : W.heap[1]? with
  | none => rw [hh] at hv; cases hv
  | some o =>
    rw [hh] at hv
    cases o with
    | cells c T fr =>
      injection hv with hv; subst hv
      have h1 : (1 : Nat) < W.heap.size := (Array.getElem?_eq_some_iff.1 hh).1
      refine ⟨h1, T, fr, ?_⟩
      show some (Obj.cells c T fr) = some (Obj.cells (pows.map fun n => Value.int .u64 n).toArray T fr)
      rw [← hcs]
    | _ => cases hv
theorem calls_of {f : FuncId} {args : List PV} {y : PV} {vs : List Value} {W : World} (h : ∀ H, WF H → HCall Tryz.prog noY f (args.map .p) H fun r H' => r = .p y) (hg : laidMetH Tryz.prog laid5 W)
    (ha : vs.length = args.length) (hv : ∀ (j : Nat) (x : PV) (v : Value), args[j]? = some x → vs[j]? = some v → VP (fun b => b < W.heap.size) W x v) :
    Calls Tryz.prog f vs.toArray W fun e W' => ∃ v, e = .returned v ∧ (∃ Per, VP Per W' y v) ∧ Below W.heap.size W W' := by
  have hw : WF eH := fun i o h => by cases h
  have hr : HRep (fun _ => none) (fun b => b < W.heap.size) eH W := ⟨fun i o h => (by cases h), fun i v h => (by cases h), fun i o v b h => (by cases h), fun i j o o' v v' b h => (by cases h), fun b h => h, glob_of_laid hg⟩
  refine ((h eH hw).2 (fun _ => none) (fun b => b < W.heap.size) W vs (oky_no _ _ _ _) hr ?_).mono fun e W' hh => ?_
  · refine ⟨by simpa using ha, fun j x hx => ?_⟩
    rw [List.getElem?_map] at hx
    cases hy : args[j]? with
    | none => rw [hy] at hx; cases hx
    | some y =>
      rw [hy] at hx
      injection hx with hx
      subst hx
      have hj : j < vs.length := by have := (List.getElem?_eq_some_iff.1 hy).1; omega
      refine .p _ _ ?_
      rw [List.getD_eq_getElem?_getD, List.getElem?_eq_getElem hj]
      exact hv j y _ hy (List.getElem?_eq_getElem hj)
  · obtain ⟨v, r, H', γ', Per', rfl, rfl, hAR, _, hM⟩ := hh
    refine ⟨v, rfl, ⟨Per', by cases hAR; assumption⟩, ⟨hM.os, hM.tape, hM.output, hM.size, hM.heap⟩⟩
end Bh
