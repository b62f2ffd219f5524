/- Texts on the way, 3 of 9. -/
import Derived.Test.YtpliecbpcmchaaaGreatDoorJ2
import Derived.Test.YtpliecbpcmchaaaGreatDoorChecked
set_option linter.unusedVariables false
set_option linter.unusedSimpArgs false
namespace Bh
open Go
def sMv (l : List AV) (_ : AHeap) : Res := r1 .v l
def sPick (l : List AV) (_ : AHeap) : Res := r3 (fun c x y => onB c fun t => .v (if t then x else y)) l
def sExt (i : Nat) (l : List AV) (_ : AHeap) : Res := r1 (fun x => onO (semExt i x) .v) l
def sBin (op : BinOp) (l : List AV) (_ : AHeap) : Res := r2 (fun x y => onV x fun u => onV y fun v => onO (binV op u v) fun z => .v (.p (.v z))) l
def sEqb (neg : Bool) (l : List AV) (_ : AHeap) : Res := r2 (fun x y => onB x fun a => onB y fun b => .v (.p (.v (.bool ((a == b) != neg))))) l
def sUn (op : UnOp) (l : List AV) (_ : AHeap) : Res := r1 (fun x => onV x fun u => onO (unV op u) fun z => .v (.p (.v z))) l
def sConv (k : IntKind) (l : List AV) (_ : AHeap) : Res := r1 (fun x => onI x fun _ z => .v (.p (.v (.int k (k.wrap z))))) l
def sLoad (agg : Bool) (m : Nat) (l : List AV) (H : AHeap) : Res := r1 (fun x => onO (semLoad H agg m x) .v) l
def sStore (m : Nat) (l : List AV) (H : AHeap) : Res := r2 (fun x y => onO (semStore H m x y) fun q => .st q.1 q.2) l
def sFld (off : Nat) (agg : Bool) (m : Nat) (l : List AV) (_ : AHeap) : Res := r1 (fun x => onO (semFld off agg m x) .v) l
def sSub (off : Nat) (agg : Bool) (m : Nat) (l : List AV) (_ : AHeap) : Res := r1 (fun x => onO (semSub off agg m x) .v) l
def sIdx (k : Nat) (l : List AV) (H : AHeap) : Res := r2 (fun x i => onO (semIdx H k x i) .v) l
def sLen (str : Bool) (l : List AV) (H : AHeap) : Res := r1 (fun x => if str then onS x fun b => .v (.p (.v (.int .i64 b.size))) else onO (semLen H x) fun n => .v (.p (.v (.int .i64 n)))) l
def sMlen (l : List AV) (H : AHeap) : Res := r1 (fun x => onM H x fun _ m => .v (.p (.v (.int .i64 m.length)))) l
def sSlice (k : Nat) (lo hi : Bool) (l : List AV) (H : AHeap) : Res := rC (fun x l => sliceArgs lo hi l fun a b => onO (semSlice H k a b x) .v) l
def sAlloc (P : Program) (T : Nat) (_ : List AV) (_ : AHeap) : Res := .new true (.box T (.p (zeroT P T)))
def sBox (per : Bool) (T : Nat) (l : List AV) (_ : AHeap) : Res := r1 (fun x => chkR (x.ok1 = true) (if per then onP x fun y => .v (.p (.ref y)) else .new true (.box T x))) l
def sMks (P : Program) (E k b : Nat) (l : List AV) (_ : AHeap) : Res := r2 (semMks P E k b) l
def sBsl (own : Bool) (E k : Nat) (l : List AV) (_ : AHeap) : Res := semBsl own E k l
def sApp (E k b : Nat) (l : List AV) (H : AHeap) : Res := r2 (semApp H E k b) l
def sBuild (P : Program) (T : Nat) (ps : List (Nat × Nat × Nat)) (l : List AV) (_ : AHeap) : Res := chkR (partsOK ps l = true) (onO (buildV (zeroT P T) ps l) .v)
def sCall (hp : Bool) (l : List AV) (_ : AHeap) : Res := rC (semCall hp) l
def sMkf (f : Nat) (l : List AV) (_ : AHeap) : Res := .v (mkClo f l)
def sMn (l : List AV) (_ : AHeap) : Res := r2 (fun x y => onI x fun k u => onI y fun _ v => .v (.p (.v (.int k (min u v))))) l
def sMx (l : List AV) (_ : AHeap) : Res := r2 (fun x y => onI x fun k u => onI y fun _ v => .v (.p (.v (.int k (max u v))))) l
def sEqn (neg : Bool) (l : List AV) (H : AHeap) : Res := r1 (eqnR H neg) l
def sEqp (neg : Bool) (l : List AV) (_ : AHeap) : Res := r1 (fun x => onO (semEqp x) fun e => .v (.p (.v (.bool (e != neg))))) l
def sNilc (l : List AV) (_ : AHeap) : Res := r1 (fun x => onO (semNil x) .v) l
def sSidx (l : List AV) (_ : AHeap) : Res := r2 semSidx l
def sMkm (_ : List AV) (_ : AHeap) : Res := .new false (.map [])
def sLkp (P : Program) (ok : Bool) (E : Nat) (l : List AV) (H : AHeap) : Res := r2 (fun x y => onM H x fun _ m => onS y fun k => .v (.p (if ok then .tup [(mGet m k).getD (zeroT P E), .v (.bool (mGet m k).isSome)] else (mGet m k).getD (zeroT P E)))) l
def sMup (l : List AV) (H : AHeap) : Res := r3 (fun x y z => onM H x fun r m => onS y fun k => onP z fun u => .st r (.map (mSet m k u))) l
def sRng (l : List AV) (H : AHeap) : Res := r1 (fun x => onM H x fun r m => .new false (.iter r [] m.length)) l
def sNxt (l : List AV) (H : AHeap) : Res := r1 (fun x => onIt H x fun r mi seen n m => chkR (n = m.length) (.nxt r mi n seen m)) l
def sEnt (l : List AV) (H : AHeap) : Res := r1 (fun x => onIt H x fun r mi seen n m => chkR (n = m.length) (onO seen.getLast? fun i => onO m[i]? fun y => .v (.p (.tup [.v (.string y.1), y.2])))) l
def sLenp (l : List AV) (_ : AHeap) : Res := r1 (fun x => onO (semLen eH x) fun n => .v (.p (.v (.int .i64 n)))) l
def sCalln (l : List AV) (_ : AHeap) : Res := rC semCallN l
def sClrs (P : Program) (E k : Nat) (l : List AV) (H : AHeap) : Res := r1 (semClear P H E k) l
def sAppf (E k b : Nat) (l : List AV) (H : AHeap) : Res := r2 (fun x y => frzRes (semApp H E k b x y)) l
def onEH (f : List AV → AHeap → Res) (l : List AV) (_ : AHeap) : Res := f l eH
def semF (P : Program) (k : AK) : List AV → AHeap → Res :=
  match k with
  | .mv => sMv
  | .pick => sPick
  | .ext i => sExt i
  | .bin op => sBin op
  | .eqb neg => sEqb neg
  | .un op => sUn op
  | .conv k => sConv k
  | .load agg m => sLoad agg m
  | .store m => sStore m
  | .fld off agg m => sFld off agg m
  | .sub off agg m => sSub off agg m
  | .idx k => sIdx k
  | .len str => sLen str
  | .mlen => sMlen
  | .slice k lo hi => sSlice k lo hi
  | .alloc T => sAlloc P T
  | .box per T => sBox per T
  | .mks E k b => sMks P E k b
  | .bsl own E k => sBsl own E k
  | .app E k b => sApp E k b
  | .build T ps => sBuild P T ps
  | .call hp => sCall hp
  | .mkf f => sMkf f
  | .mn => sMn
  | .mx => sMx
  | .eqn neg => sEqn neg
  | .eqp neg => sEqp neg
  | .nilc => sNilc
  | .sidx => sSidx
  | .mkm => sMkm
  | .lkp ok E => sLkp P ok E
  | .mup => sMup
  | .rng => sRng
  | .nxt => sNxt
  | .ent => sEnt
  | .loadp agg m => onEH (sLoad agg m)
  | .idxp k => onEH (sIdx k)
  | .lenp => sLenp
  | .slicep k lo hi => onEH (sSlice k lo hi)
  | .calln => sCalln
  | .clrs E k => sClrs P E k
  | .appf E k b => sAppf E k b
theorem semF_eq (P : Program) (k : AK) : semF P k = sem P k := by
  funext l H
  cases k <;> rfl
def TT : Nat → Type
  | 0 => AV
  | n + 1 => TT n × TT n
noncomputable def tGet (d : Nat) : TT d → Nat → AV := Nat.rec (motive := fun d => TT d → Nat → AV) (fun t _ => t) (fun _ ih t k => bif Nat.beq (k % 2) 0 then ih t.1 (k / 2) else ih t.2 (k / 2)) d
noncomputable def tSet (d : Nat) : TT d → Nat → AV → TT d := Nat.rec (motive := fun d => TT d → Nat → AV → TT d) (fun _ _ x => x) (fun _ ih t k x => bif Nat.beq (k % 2) 0 then (ih t.1 (k / 2) x, t.2) else (t.1, ih t.2 (k / 2) x)) d
noncomputable def tNew (d : Nat) : TT d := Nat.rec (motive := TT) AV.un (fun _ t => (t, t)) d
theorem tGet_set : ∀ (d : Nat) (t : TT d) (k : Nat) (x : AV) (u : Nat), tGet d (tSet d t k x) u = if u % 2 ^ d = k % 2 ^ d then x else tGet d t u := by
  intro d
  induction d with
  | zero => intro t k x u; rw [if_pos (by omega)]; rfl
  | succ d ih =>
    intro t k x u
    have e1 : ∀ (t : TT (d + 1)) u, tGet (d + 1) t u = bif Nat.beq (u % 2) 0 then tGet d t.1 (u / 2) else tGet d t.2 (u / 2) := fun _ _ => rfl
    have e2 : tSet (d + 1) t k x = bif Nat.beq (k % 2) 0 then (tSet d t.1 (k / 2) x, t.2) else (t.1, tSet d t.2 (k / 2) x) := rfl
    have key : (u % 2 ^ (d + 1) = k % 2 ^ (d + 1)) ↔ (u % 2 = k % 2 ∧ (u / 2) % 2 ^ d = (k / 2) % 2 ^ d) := by
      have hp : 2 ^ (d + 1) = 2 * 2 ^ d := by rw [Nat.pow_succ, Nat.mul_comm]
      have q : ∀ z, z % 2 ^ (d + 1) = z % 2 + 2 * ((z / 2) % 2 ^ d) := fun z => by rw [hp]; exact Nat.mod_mul
      rw [q u, q k]
      omega
    rw [e1, e1, e2]
    have hu : u % 2 = 0 ∨ u % 2 = 1 := by omega
    have hk : k % 2 = 0 ∨ k % 2 = 1 := by omega
    rcases hu with hu | hu <;> rcases hk with hk | hk
    · rw [hu, hk]
      show tGet d (tSet d t.1 (k / 2) x) (u / 2) = _
      rw [ih]
      by_cases h : (u / 2) % 2 ^ d = (k / 2) % 2 ^ d
      · rw [if_pos h, if_pos (key.2 ⟨by omega, h⟩)]
      · rw [if_neg h, if_neg (fun e => h (key.1 e).2)]; rfl
    · rw [hu, hk, if_neg (fun e => by have := (key.1 e).1; omega)]; rfl
    · rw [hu, hk, if_neg (fun e => by have := (key.1 e).1; omega)]; rfl
    · rw [hu, hk]
      show tGet d (tSet d t.2 (k / 2) x) (u / 2) = _
      rw [ih]
      by_cases h : (u / 2) % 2 ^ d = (k / 2) % 2 ^ d
      · rw [if_pos h, if_pos (key.2 ⟨by omega, h⟩)]
      · rw [if_neg h, if_neg (fun e => h (key.1 e).2)]; rfl
abbrev SL := TT 8
noncomputable def sGet (t : SL) : AS := fun u => bif Nat.blt u 256 then tGet 8 t u else .un
noncomputable def lSetS (t : SL) (k : Nat) (x : AV) : Option SL := bif Nat.blt k 256 then some (tSet 8 t k x) else none
theorem blt_iff {a b : Nat} : Nat.blt a b = true ↔ a < b := by simp [Nat.blt]; omega
theorem blt_f {a b : Nat} (h : ¬ a < b) : Nat.blt a b = false := by cases hh : Nat.blt a b with | false => rfl | true => exact absurd (blt_iff.1 hh) h
theorem sSet_ok {l : SL} {k : Nat} {y : AV} {l' : SL} (h : lSetS l k y = some l') : sGet l' = AS.upd (sGet l) k y := by
  unfold lSetS at h
  cases hk : Nat.blt k 256 with
  | false => rw [hk] at h; cases h
  | true =>
    rw [hk] at h
    injection h with h; subst h
    have hk := blt_iff.1 hk
    funext u
    show (bif Nat.blt u 256 then tGet 8 (tSet 8 l k y) u else .un) = if u = k then y else (bif Nat.blt u 256 then tGet 8 l u else .un)
    by_cases hu : u < 256
    · rw [blt_iff.2 hu]
      simp only [cond_true]
      rw [tGet_set]
      by_cases e : u = k
      · rw [if_pos e, if_pos (by rw [e])]
      · rw [if_neg e, if_neg (show ¬ u % 2 ^ 8 = k % 2 ^ 8 by omega)]
    · rw [blt_f hu, if_neg (by omega)]; rfl
def lSet {α : Type} : List α → Nat → α → Option (List α)
  | [], _, _ => none
  | _ :: l, 0, y => some (y :: l)
  | x :: l, k + 1, y => match lSet l k y with | some l' => some (x :: l') | none => none
noncomputable def putS (d : Option Nat) (s : SL) (x : AV) : Option SL := match d with | some d => lSetS s d x | none => some s
theorem putS_ok {d : Option Nat} {s s' : SL} {x : AV} (h : putS d s x = some s') : (sGet s' : AS) = updO d (sGet s) x := by
  cases d with
  | none => injection h with h; subst h; rfl
  | some d => exact sSet_ok h
noncomputable def padL : List AV → Nat → SL → SL := List.rec (motive := fun _ => Nat → SL → SL) (fun _ t => t) (fun x _ ih k t => ih (k + 1) (tSet 8 t k x))
noncomputable def padS (args : List AV) (n : Nat) : Option SL := bif Nat.ble args.length 256 then some (padL args 0 (tNew 8)) else none
theorem tNew_get : ∀ (d u : Nat), tGet d (tNew d) u = .un := by
  intro d
  induction d with
  | zero => intro u; rfl
  | succ d ih =>
    intro u
    show (bif Nat.beq (u % 2) 0 then tGet d (tNew d) (u / 2) else tGet d (tNew d) (u / 2)) = _
    rw [ih]; cases Nat.beq (u % 2) 0 <;> rfl
theorem padL_ok : ∀ (args : List AV) (k : Nat) (t : SL), k + args.length ≤ 256 → ∀ u, u < 256 → tGet 8 (padL args k t) u = if k ≤ u ∧ u < k + args.length then (args[u - k]?).getD .un else tGet 8 t u := by
  intro args
  induction args with
  | nil => intro k t _ u hu; rw [if_neg (by simp)]; rfl
  | cons x l ih =>
    intro k t hk u hu
    simp only [List.length_cons] at hk ⊢
    show tGet 8 (padL l (k + 1) (tSet 8 t k x)) u = _
    rw [ih (k + 1) _ (by omega) u hu, tGet_set]
    by_cases e : u = k
    · subst e
      rw [if_neg (by omega), if_pos rfl, if_pos (by omega), Nat.sub_self]; rfl
    · by_cases h : k + 1 ≤ u ∧ u < k + 1 + l.length
      · rw [if_pos h, if_pos (by omega)]
        have : u - k = (u - (k + 1)) + 1 := by omega
        rw [this, List.getElem?_cons_succ]
      · rw [if_neg h, if_neg (show ¬ u % 2 ^ 8 = k % 2 ^ 8 by omega), if_neg (by omega)]
theorem padS_ok {args : List AV} {n : Nat} {t : SL} (h : padS args n = some t) : sGet t = initS args := by
  unfold padS at h
  cases hl : Nat.ble args.length 256 with
  | false => rw [hl] at h; cases h
  | true =>
    rw [hl] at h
    injection h with h; subst h
    have hl := Nat.le_of_ble_eq_true hl
    funext u
    unfold sGet initS
    by_cases hu : u < 256
    · rw [blt_iff.2 hu]
      simp only [cond_true]
      rw [padL_ok args 0 _ (by omega) u hu, tNew_get]
      by_cases h2 : u < args.length
      · rw [if_pos (by omega), Nat.sub_zero]
      · rw [if_neg (by omega), List.getElem?_eq_none (by omega)]; rfl
    · rw [blt_f hu, List.getElem?_eq_none (by omega)]; rfl
noncomputable def setL : SL → List Nat → List AV → Option SL
  | s, [], [] => some s
  | s, p :: ps, x :: xs => match lSetS s p x with | some s' => setL s' ps xs | none => none
  | _, _, _ => none
theorem setL_ok : ∀ {ps : List Nat} {xs : List AV} {s s' : SL}, setL s ps xs = some s' → (sGet s' : AS) = setS (sGet s) ps xs ∧ xs.length = ps.length := by
  intro ps
  induction ps with
  | nil =>
    intro xs s s' h
    cases xs with
    | nil => injection h with h; subst h; exact ⟨rfl, rfl⟩
    | cons x xs => cases h
  | cons p ps ih =>
    intro xs s s' h
    cases xs with
    | nil => cases h
    | cons x xs =>
      simp only [setL] at h
      split at h
      · rename_i s1 h1
        obtain ⟨h2, h3⟩ := ih h
        exact ⟨by rw [h2, sSet_ok h1]; rfl, by simp [h3]⟩
      · cases h
inductive EO where
  | ob (o : AObj)
  | lp (st : LoopState) (pd : Option Code)
structure Hp where
  nx : Nat
  os : List (Option EO)
def oIdx {α : Type} : List (Option α) → Nat → Option α
  | [], _ => none
  | x :: _, 0 => x
  | _ :: l, k + 1 => oIdx l k
def Hp.at (h : Hp) (i : Nat) : Option EO := bif Nat.blt i h.nx then oIdx h.os (h.nx - 1 - i) else none
def eoO : Option EO → Option AObj
  | some (.ob o) => some o
  | _ => none
def eoR (R : Loop) : Option EO → Option AObj
  | some (.ob o) => some o
  | some (.lp st pd) => some (.loop R st pd)
  | none => none
def hH (h : Hp) : AHeap := ⟨fun i => eoO (h.at i), h.nx⟩
def toH (Rf : Nat → Loop) (h : Hp) : AHeap := ⟨fun i => eoR (Rf i) (h.at i), h.nx⟩
def Hp.new (h : Hp) (e : Option EO) : Hp := ⟨h.nx + 1, e :: h.os⟩
def Hp.put (h : Hp) (i : Nat) (e : Option EO) : Option Hp := bif Nat.blt i h.nx then (match lSet h.os (h.nx - 1 - i) e with | some os => some ⟨h.nx, os⟩ | none => none) else none
def Hp.delO (h : Hp) (i : Option Nat) : Option Hp := match i with | some i => h.put i none | none => some h
theorem at_lt {h : Hp} {i : Nat} (hi : i < h.nx) : h.at i = oIdx h.os (h.nx - 1 - i) := by unfold Hp.at; rw [blt_iff.2 hi]; rfl
theorem at_ge {h : Hp} {i : Nat} (hi : ¬ i < h.nx) : h.at i = none := by unfold Hp.at; rw [blt_f hi]; rfl
theorem oIdx_set {α : Type} : ∀ {l l' : List (Option α)} {k : Nat} {y : Option α}, lSet l k y = some l' → ∀ u, oIdx l' u = if u = k then y else oIdx l u := by
  intro l
  induction l with
  | nil => intro l' k y h; cases h
  | cons x l ih =>
    intro l' k y h u
    cases k with
    | zero =>
      simp only [lSet, Option.some.injEq] at h; subst h
      cases u with
      | zero => rfl
      | succ u => simp [oIdx]
    | succ k =>
      simp only [lSet] at h
      split at h
      · rename_i m hm
        injection h with h; subst h
        cases u with
        | zero => simp [oIdx]
        | succ u => have := ih hm u; simp only [oIdx] at this ⊢; rw [this]; simp
      · cases h
theorem new_at {h : Hp} {e : Option EO} (i : Nat) : (h.new e).at i = if i = h.nx then e else h.at i := by
  by_cases h1 : i = h.nx
  · subst h1
    rw [at_lt (by simp [Hp.new]), if_pos rfl]
    simp [Hp.new, oIdx]
  · rw [if_neg h1]
    by_cases h2 : i < h.nx
    · rw [at_lt (by simp [Hp.new]; omega), at_lt h2]
      have : (h.new e).nx - 1 - i = (h.nx - 1 - i) + 1 := by simp only [Hp.new]; omega
      rw [this]; rfl
    · rw [at_ge (by simp only [Hp.new]; omega), at_ge h2]
theorem put_at {h h' : Hp} {j : Nat} {e : Option EO} (hp : h.put j e = some h') : h'.nx = h.nx ∧ j < h.nx ∧ ∀ i, h'.at i = if i = j then e else h.at i := by
  unfold Hp.put at hp
  cases hb : Nat.blt j h.nx with
  | false => rw [hb] at hp; cases hp
  | true =>
    rw [hb] at hp
    have hj := blt_iff.1 hb
    simp only [cond_true] at hp
    split at hp
    · rename_i os hos
      injection hp with hp; subst hp
      refine ⟨rfl, hj, fun i => ?_⟩
      by_cases hi : i < h.nx
      · rw [at_lt (show i < (⟨h.nx, os⟩ : Hp).nx from hi), at_lt hi]
        have := oIdx_set hos (h.nx - 1 - i)
        show oIdx os (h.nx - 1 - i) = _
        rw [this]
        by_cases e1 : i = j
        · rw [if_pos (by omega), if_pos e1]
        · rw [if_neg (by omega), if_neg e1]
      · rw [at_ge (show ¬ i < (⟨h.nx, os⟩ : Hp).nx from hi), at_ge hi, if_neg (by omega)]
    · cases hp
theorem eoR_if {c : Prop} [Decidable c] {R : Loop} {a b : Option EO} : eoR R (if c then a else b) = if c then eoR R a else eoR R b := by split <;> rfl
theorem toH_new (Rf : Nat → Loop) (h : Hp) (o : AObj) : toH Rf (h.new (some (.ob o))) = (toH Rf h).new o := by
  unfold toH AHeap.new
  congr 1
  funext i
  rw [new_at, eoR_if]; rfl
theorem toH_none (Rf : Nat → Loop) (h : Hp) : (toH Rf (h.new none)) = ⟨(toH Rf h).get, h.nx + 1⟩ := by
  unfold toH
  congr 1
  funext i
  rw [new_at, eoR_if]
  split
  · rename_i e; subst e; show none = eoR (Rf h.nx) (h.at h.nx); rw [at_ge (Nat.lt_irrefl _)]; rfl
  · rfl
theorem toH_put {Rf : Nat → Loop} {h h' : Hp} {j : Nat} {o : AObj} (hp : h.put j (some (.ob o)) = some h') : toH Rf h' = (toH Rf h).set j o := by
  obtain ⟨h1, h2, h3⟩ := put_at hp
  unfold toH AHeap.set
  simp only [h1, AHeap.mk.injEq, and_true]
  funext i
  rw [h3, eoR_if]; rfl
theorem toH_del {Rf : Nat → Loop} {h h' : Hp} {j : Nat} (hp : h.put j none = some h') : toH Rf h' = (toH Rf h).del j := by
  obtain ⟨h1, h2, h3⟩ := put_at hp
  unfold toH AHeap.del
  simp only [h1, AHeap.mk.injEq, and_true]
  funext i
  rw [h3, eoR_if]; rfl
theorem toH_apf {Rf : Nat → Loop} {h h' : Hp} {i : Option Nat} {o : AObj} (hp : h.delO i = some h') : toH Rf (h'.new none) = (((Bh.delO (toH Rf h) i).new o).del (toH Rf h).nx) ∧ h.nx ≤ (h'.new none).nx := by
  have key : toH Rf h' = Bh.delO (toH Rf h) i ∧ h'.nx = h.nx := by
    cases i with
    | none => injection hp with hp; subst hp; exact ⟨rfl, rfl⟩
    | some i => exact ⟨toH_del hp, (put_at hp).1⟩
  rw [toH_none, ← key.1]
  refine ⟨?_, by show h.nx ≤ h'.nx + 1; omega⟩
  unfold AHeap.new AHeap.del
  simp only [AHeap.mk.injEq]
  refine ⟨?_, by show h'.nx + 1 = h'.nx + 1; rfl⟩
  funext j
  show eoR (Rf j) (h'.at j) = if j = h.nx then none else if j = h'.nx then some o else eoR (Rf j) (h'.at j)
  by_cases e : j = h.nx
  · rw [if_pos e, at_ge (by omega)]; rfl
  · rw [if_neg e, if_neg (by omega)]
theorem toH_putL {Rf : Nat → Loop} {h h' : Hp} {j : Nat} {st : LoopState} {pd : Option Code} (hp : h.put j (some (.lp st pd)) = some h') : toH Rf h' = (toH Rf h).set j (.loop (Rf j) st pd) := by
  obtain ⟨h1, h2, h3⟩ := put_at hp
  unfold toH AHeap.set
  simp only [h1, AHeap.mk.injEq, and_true]
  funext i
  rw [h3, eoR_if]
  split
  · rename_i e; subst e; rfl
  · rfl
theorem toH_newL (Rf : Nat → Loop) (h : Hp) (st : LoopState) (pd : Option Code) : toH Rf (h.new (some (.lp st pd))) = (toH Rf h).new (.loop (Rf h.nx) st pd) := by
  unfold toH AHeap.new
  congr 1
  funext i
  rw [new_at, eoR_if]
  split
  · rename_i e; subst e; rfl
  · rfl
def Ag (b : Nat) (R R' : Nat → Loop) : Prop := ∀ i, i < b → R' i = R i
theorem Ag.refl (b : Nat) (R : Nat → Loop) : Ag b R R := fun _ _ => rfl
theorem Ag.trans {a b : Nat} {R S T : Nat → Loop} (h : Ag a R S) (hab : a ≤ b) (k : Ag b S T) : Ag a R T := fun i hi => (k i (by omega)).trans (h i hi)
theorem Ag.le {a b : Nat} {R S : Nat → Loop} (h : Ag b R S) (hab : a ≤ b) : Ag a R S := fun i hi => h i (by omega)
theorem toH_ag {R R' : Nat → Loop} {h : Hp} (ha : Ag h.nx R R') : toH R' h = toH R h := by
  unfold toH
  congr 1
  funext i
  by_cases hi : i < h.nx
  · rw [ha i hi]
  · rw [at_ge hi]; rfl
theorem hH_sub (Rf : Nat → Loop) (h : Hp) : SubG (hH h) (toH Rf h) := fun i o hi => by
  simp only [hH, toH] at hi ⊢
  revert hi
  cases h.at i with
  | none => intro h; cases h
  | some e => cases e with
    | ob o' => exact id
    | lp st pd => intro h; cases h
theorem toH_wf (Rf : Nat → Loop) (h : Hp) : WF (toH Rf h) := fun i o hi => by
  by_cases hl : i < h.nx
  · exact hl
  · simp only [toH] at hi; rw [at_ge hl] at hi; cases hi
theorem toH_nx (Rf : Nat → Loop) (h : Hp) : (toH Rf h).nx = h.nx := rfl
def sameV : Value → Value → Bool
  | .int k z, .int k' z' => decide (k = k') && decide (z = z')
  | .bool a, .bool b => a == b
  | .string a, .string b => a.data.toList == b.data.toList
  | .slice none 0 0, .slice none 0 0 => true
  | .pointer none, .pointer none => true
  | .nilFunc, .nilFunc => true
  | .map none, .map none => true
  | .nilIface, .nilIface => true
  | _, _ => false
theorem sameV_ok {x y : Value} (h : sameV x y = true) : x = y := by
  unfold sameV at h
  split at h
  · simp only [Bool.and_eq_true, decide_eq_true_eq] at h; obtain ⟨rfl, rfl⟩ := h; rfl
  · simp only [beq_iff_eq] at h; subst h; rfl
  · rename_i a b
    simp only [beq_iff_eq] at h
    cases a with | mk a => cases b with | mk b => cases a with | mk a => cases b with | mk b => simp only at h; subst h; rfl
  · rfl
  · rfl
  · rfl
  · rfl
  · rfl
  · cases h
mutual
def sameP : PV → PV → Bool
  | .v x, .v y => sameV x y
  | .sl a, .sl b => sameL a b
  | .agg a, .agg b => sameL a b
  | .ref x, .ref y => sameP x y
  | .clo f a, .clo g b => Nat.beq f g && sameL a b
  | .tup a, .tup b => sameL a b
  | .any, .any => true
  | _, _ => false
def sameL : List PV → List PV → Bool
  | [], [] => true
  | x :: l, y :: m => sameP x y && sameL l m
  | _, _ => false
end
mutual
theorem sameP_ok : ∀ (x y : PV), sameP x y = true → x = y
  | .v x, y, h => by
    cases y with
    | v z => have e : x = z := sameV_ok (by simpa [sameP] using h); rw [e]
    | _ => simp [sameP] at h
  | .sl a, y, h => by cases y <;> first | (simp [sameP] at h; done) | (rw [sameL_ok a _ (by simpa [sameP] using h)])
  | .agg a, y, h => by cases y <;> first | (simp [sameP] at h; done) | (rw [sameL_ok a _ (by simpa [sameP] using h)])
  | .ref x, y, h => by cases y <;> first | (simp [sameP] at h; done) | (rw [sameP_ok x _ (by simpa [sameP] using h)])
  | .clo f a, y, h => by
    cases y with
    | clo g b =>
      simp only [sameP, Bool.and_eq_true] at h
      rw [sameL_ok a b h.2, show f = g from Nat.eq_of_beq_eq_true h.1]
    | _ => simp [sameP] at h
  | .tup a, y, h => by cases y <;> first | (simp [sameP] at h; done) | (rw [sameL_ok a _ (by simpa [sameP] using h)])
  | .any, y, h => by cases y <;> first | rfl | (simp [sameP] at h)
theorem sameL_ok : ∀ (l m : List PV), sameL l m = true → l = m
  | [], m, h => by cases m with | nil => rfl | cons => simp [sameL] at h
  | x :: l, m, h => by
    cases m with
    | nil => simp [sameL] at h
    | cons y m =>
      simp only [sameL, Bool.and_eq_true] at h
      rw [sameP_ok x y h.1, sameL_ok l m h.2]
end
mutual
def sameA : AV → AV → Bool
  | .un, .un => true
  | .p x, .p y => sameP x y
  | .ag a, .ag b => sameAL a b
  | .tp a, .tp b => sameAL a b
  | .cl f a, .cl g b => Nat.beq f g && sameAL a b
  | .hd i, .hd j => Nat.beq i j
  | .pb i o, .pb j p => Nat.beq i j && Nat.beq o p
  | .pe i n k o, .pe i' n' k' o' => Nat.beq i i' && Nat.beq n n' && Nat.beq k k' && Nat.beq o o'
  | .ss i n k o, .ss i' n' k' o' => Nat.beq i i' && Nat.beq n n' && Nat.beq k k' && Nat.beq o o'
  | _, _ => false
def sameAL : List AV → List AV → Bool
  | [], [] => true
  | x :: l, y :: m => sameA x y && sameAL l m
  | _, _ => false
end
mutual
theorem sameA_ok : ∀ (x y : AV), sameA x y = true → x = y
  | .un, y, h => by cases y <;> first | rfl | (simp [sameA] at h)
  | .p x, y, h => by cases y <;> first | (simp [sameA] at h; done) | (rw [sameP_ok x _ (by simpa [sameA] using h)])
  | .ag a, y, h => by cases y <;> first | (simp [sameA] at h; done) | (rw [sameAL_ok a _ (by simpa [sameA] using h)])
  | .tp a, y, h => by cases y <;> first | (simp [sameA] at h; done) | (rw [sameAL_ok a _ (by simpa [sameA] using h)])
  | .cl f a, y, h => by
    cases y with
    | cl g b =>
      simp only [sameA, Bool.and_eq_true] at h
      rw [sameAL_ok a b h.2, show f = g from Nat.eq_of_beq_eq_true h.1]
    | _ => simp [sameA] at h
  | .hd i, y, h => by
    cases y with
    | hd j => rw [show i = j from Nat.eq_of_beq_eq_true (by simpa [sameA] using h)]
    | _ => simp [sameA] at h
  | .pb i o, y, h => by
    cases y with
    | pb j p => simp only [sameA, Bool.and_eq_true] at h; rw [show i = j from Nat.eq_of_beq_eq_true h.1, show o = p from Nat.eq_of_beq_eq_true h.2]
    | _ => simp [sameA] at h
  | .pe i n k o, y, h => by
    cases y with
    | pe i' n' k' o' =>
      simp only [sameA, Bool.and_eq_true] at h
      rw [show i = i' from Nat.eq_of_beq_eq_true h.1.1.1, show n = n' from Nat.eq_of_beq_eq_true h.1.1.2, show k = k' from Nat.eq_of_beq_eq_true h.1.2, show o = o' from Nat.eq_of_beq_eq_true h.2]
    | _ => simp [sameA] at h
  | .ss i n k o, y, h => by
    cases y with
    | ss i' n' k' o' =>
      simp only [sameA, Bool.and_eq_true] at h
      rw [show i = i' from Nat.eq_of_beq_eq_true h.1.1.1, show n = n' from Nat.eq_of_beq_eq_true h.1.1.2, show k = k' from Nat.eq_of_beq_eq_true h.1.2, show o = o' from Nat.eq_of_beq_eq_true h.2]
    | _ => simp [sameA] at h
theorem sameAL_ok : ∀ (l m : List AV), sameAL l m = true → l = m
  | [], m, h => by cases m with | nil => rfl | cons => simp [sameAL] at h
  | x :: l, m, h => by
    cases m with
    | nil => simp [sameAL] at h
    | cons y m =>
      simp only [sameAL, Bool.and_eq_true] at h
      rw [sameA_ok x y h.1, sameAL_ok l m h.2]
end
def all2 {α : Type} (f : α → α → Bool) : List α → List α → Bool
  | [], [] => true
  | x :: l, y :: m => f x y && all2 f l m
  | _, _ => false
theorem all2_eq {α : Type} {f : α → α → Bool} (hf : ∀ x y, f x y = true → x = y) : ∀ {l m : List α}, all2 f l m = true → l = m
  | [], [], _ => rfl
  | [], _ :: _, h => by simp [all2] at h
  | _ :: _, [], h => by simp [all2] at h
  | x :: l, y :: m, h => by simp only [all2, Bool.and_eq_true] at h; rw [hf _ _ h.1, all2_eq hf h.2]
def sameM (x y : ByteArray × PV) : Bool := x.1.data.toList == y.1.data.toList && sameP x.2 y.2
theorem sameM_ok (x y : ByteArray × PV) (h : sameM x y = true) : x = y := by
  obtain ⟨a, p⟩ := x; obtain ⟨b, q⟩ := y
  simp only [sameM, Bool.and_eq_true, beq_iff_eq] at h
  obtain ⟨h1, h2⟩ := h
  rw [sameP_ok _ _ h2]
  cases a with | mk a => cases b with | mk b => cases a with | mk a => cases b with | mk b => simp only at h1; subst h1; rfl
def sameO : AObj → AObj → Bool
  | .row E k es, .row E' k' es' => Nat.beq E E' && Nat.beq k k' && sameAL es es'
  | .box T c, .box T' c' => Nat.beq T T' && sameA c c'
  | .map m, .map m' => all2 sameM m m'
  | .iter i s n, .iter i' s' n' => Nat.beq i i' && all2 Nat.beq s s' && Nat.beq n n'
  | _, _ => false
theorem sameO_ok {x y : AObj} (h : sameO x y = true) : x = y := by
  unfold sameO at h
  split at h
  · rename_i E k es E' k' es'
    simp only [Bool.and_eq_true] at h
    rw [show E = E' from Nat.eq_of_beq_eq_true h.1.1, show k = k' from Nat.eq_of_beq_eq_true h.1.2, sameAL_ok _ _ h.2]
  · rename_i T c T' c'
    simp only [Bool.and_eq_true] at h
    rw [show T = T' from Nat.eq_of_beq_eq_true h.1, sameA_ok _ _ h.2]
  · rw [all2_eq sameM_ok h]
  · rename_i i s n i' s' n'
    simp only [Bool.and_eq_true] at h
    rw [show i = i' from Nat.eq_of_beq_eq_true h.1.1, show n = n' from Nat.eq_of_beq_eq_true h.2, all2_eq (fun x y h => Nat.eq_of_beq_eq_true h) h.1.2]
  · cases h
def sameS : LoopState → LoopState → Bool
  | .ready, .ready => true
  | .busy, .busy => true
  | .done, .done => true
  | .exhausted, .exhausted => true
  | _, _ => false
theorem sameS_ok {x y : LoopState} (h : sameS x y = true) : x = y := by cases x <;> cases y <;> first | rfl | cases h
def noC : Option Code → Bool
  | none => true
  | _ => false
theorem noC_ok {x : Option Code} (h : noC x = true) : x = none := by cases x <;> first | rfl | cases h
def sameE : Option EO → Option EO → Bool
  | none, none => true
  | some (.ob o), some (.ob o') => sameO o o'
  | some (.lp st pd), some (.lp st' pd') => sameS st st' && noC pd && noC pd'
  | _, _ => false
theorem sameE_ok (x y : Option EO) (h : sameE x y = true) : x = y := by
  unfold sameE at h
  split at h
  · rfl
  · rw [sameO_ok h]
  · simp only [Bool.and_eq_true] at h; rw [sameS_ok h.1.1, noC_ok h.1.2, noC_ok h.2]
  · cases h
def sameH (h h' : Hp) : Bool := Nat.beq h.nx h'.nx && all2 sameE h.os h'.os
theorem sameH_ok {h h' : Hp} (e : sameH h h' = true) : h = h' := by
  obtain ⟨n, os⟩ := h; obtain ⟨n', os'⟩ := h'
  simp only [sameH, Bool.and_eq_true] at e
  rw [show n = n' from Nat.eq_of_beq_eq_true e.1, all2_eq sameE_ok e.2]
def dd : List (AV × Hp) → List (AV × Hp)
  | [] => []
  | x :: l => match l with
    | [] => [x]
    | _ => bif (dd l).any (fun y => sameA x.1 y.1 && sameH x.2 y.2) then dd l else x :: dd l
theorem mem_dd : ∀ {l : List (AV × Hp)} {o : AV × Hp}, o ∈ l → o ∈ dd l := by
  intro l
  induction l with
  | nil => intro o h; exact h
  | cons x l ih =>
    intro o h
    unfold dd
    cases l with
    | nil => exact h
    | cons y m =>
      dsimp only
      rcases List.mem_cons.1 h with rfl | h
      · cases hc : (dd (y :: m)).any (fun y => sameA o.1 y.1 && sameH o.2 y.2) with
        | false => simp
        | true =>
          simp only [cond_true]
          rw [List.any_eq_true] at hc
          obtain ⟨z, hz, he⟩ := hc
          simp only [Bool.and_eq_true] at he
          have : o = z := by obtain ⟨a, b⟩ := o; obtain ⟨c, d⟩ := z; rw [show a = c from sameA_ok _ _ he.1, show b = d from sameH_ok he.2]
          rw [this]; exact hz
      · have := ih h
        cases (dd (y :: m)).any (fun y => sameA x.1 y.1 && sameH x.2 y.2) with
        | false => simp [this]
        | true => simpa using this
def gcE : Option EO → Option EO → Bool
  | none, _ => true
  | some (.ob o), some (.ob o0) => o.pers || sameO o o0
  | some (.lp st pd), some (.lp st0 pd0) => sameS st st0 && noC pd && noC pd0
  | _, _ => false
def gc (h0 h : Hp) : Option Hp := bif all2 gcE (h.os.drop (h.nx - h0.nx)) h0.os then some ⟨h0.nx, h.os.drop (h.nx - h0.nx)⟩ else none
def oldE : Option EO → Option EO → Bool
  | none, _ => true
  | x, y => sameE x y
def oldOK (h0 h : Hp) : Bool := all2 oldE (h.os.drop (h.nx - h0.nx)) h0.os
def isOb : Option EO → Bool
  | some (.lp _ _) => false
  | _ => true
def noLp (h0 h : Hp) : Bool := (h.os.take (h.nx - h0.nx)).all isOb
inductive Ex where
  | nrm
  | ext (id : Nat)
  | ret
def Ex.e : Ex → Exit
  | .nrm => .normal
  | .ext id => .exit id
  | .ret => .ret
structure Out where
  x : Ex
  s : SL
  h : Hp
def onL {α β : Type} (f : α → Option (List β)) : List α → Option (List β)
  | [] => some []
  | x :: l => match f x with
    | some a => (match l with | [] => some a | _ => match onL f l with | some b => some (a ++ b) | none => none)
    | none => none
theorem onL_ok {α β : Type} {f : α → Option (List β)} : ∀ {l : List α} {r : List β}, onL f l = some r → ∀ x ∈ l, ∃ a, f x = some a ∧ ∀ y ∈ a, y ∈ r := by
  intro l
  induction l with
  | nil => intro r h x hx; simp at hx
  | cons x l ih =>
    intro r h z hz
    unfold onL at h
    split at h
    · rename_i a ha
      cases l with
      | nil =>
        injection h with h; subst h
        simp only [List.mem_singleton] at hz; subst hz
        exact ⟨a, ha, fun y hy => hy⟩
      | cons y m =>
        dsimp only at h
        split at h
        · rename_i b hb
          injection h with h; subst h
          rcases List.mem_cons.1 hz with rfl | hz
          · exact ⟨a, ha, fun y hy => List.mem_append_left _ hy⟩
          · obtain ⟨c, h1, h2⟩ := ih hb z hz
            exact ⟨c, h1, fun y hy => List.mem_append_right _ (h2 y hy)⟩
        · cases h
    · cases h
structure RC where
  call : Nat → List AV → Hp → Option (List (AV × Hp))
  yld : Nat → List AV → Hp → Option (List (AV × Hp))
  loop : Nat → AC → SL → Hp → Option (List Out)
  rf : Nat → Operand → List Nat → AC → AC → SL → Hp → Option (List Out)
noncomputable def nxtL (i mi n : Nat) (seen : List Nat) (d : Option Nat) (s : SL) (h : Hp) : Nat → List (ByteArray × PV) → Option (List (SL × Hp))
  | _, [] => some []
  | j, y :: m => match nxtL i mi n seen d s h (j + 1) m with
    | none => none
    | some r => bif seen.any (Nat.beq j) then some r else match putS d s (.p (.tup [.v (.bool true), .v (.string y.1), y.2])), h.put i (some (.ob (.iter mi (seen ++ [j]) n))) with
      | some s', some h' => some ((s', h') :: r)
      | _, _ => none
def allSeen (seen : List Nat) : Nat → Bool
  | 0 => true
  | n + 1 => seen.any (Nat.beq n) && allSeen seen n
noncomputable def evFin (orc : Nat → List PV → Option PV) (rc : RC) (d : Option Nat) (s : SL) (h : Hp) : Res → Option (List (SL × Hp))
  | .v x => match putS d s x with | some s' => some [(s', h)] | none => none
  | .new pb o => match putS d s (if pb then .pb h.nx 0 else .hd h.nx) with | some s' => some [(s', h.new (some (.ob o)))] | none => none
  | .st i o => match putS d s .un, h.put i (some (.ob o)) with | some s', some h' => some [(s', h')] | _, _ => none
  | .app i o => match putS d s (.hd h.nx), h.put i none with | some s', some h' => some [(s', h'.new (some (.ob o)))] | _, _ => none
  | .apf i o y => match putS d s (.p y), h.delO i with | some s', some h' => some [(s', h'.new none)] | _, _ => none
  | .call f args => match orc f args with | some y => (match putS d s (.p y) with | some s' => some [(s', h)] | none => none) | none => none
  | .callH f args => match rc.call f args h with | some l => onL (fun q => match putS d s q.1 with | some s' => some [(s', q.2)] | none => none) l | none => none
  | .callN f args => match rc.call f args h with | some l => onL (fun q => match putS d s q.1 with | some s' => some [(s', q.2)] | none => none) l | none => none
  | .yld i args => match rc.yld i args h with | some l => onL (fun q => match putS d s q.1 with | some s' => some [(s', q.2)] | none => none) l | none => none
  | .nd e neg => match putS d s (.p (.v (.bool (false != neg)))) with
    | some s1 => bif e then (match putS d s (.p (.v (.bool (true != neg)))) with | some s2 => some [(s1, h), (s2, h)] | none => none) else some [(s1, h)]
    | none => none
  | .nxt i mi n seen m => match nxtL i mi n seen d s h 0 m with
    | some r => bif allSeen seen n then (match putS d s (.p (.tup [.v (.bool false)])) with | some s' => some ((s', h) :: r) | none => none) else some r
    | none => none
  | .no => none
noncomputable def evGrd (P : Program) (orc : Nat → List PV → Option PV) (rc : RC) (o : AOp) (s : SL) (h : Hp) : Option (List (SL × Hp)) :=
  match o.guard with
  | none => evFin orc rc o.dst s h (semF P o.k (o.xs.map (AS.ev (sGet s))) (hH h))
  | some (g, want) => match gb want (sGet s g) with
    | some b => bif b == want then evFin orc rc o.dst s h (semF P o.k (o.xs.map (AS.ev (sGet s))) (hH h)) else (match putS o.dst s (.p (.v (.tuple #[]))) with | some s' => some [(s', h)] | none => none)
    | none => none
noncomputable def evGh (n : Nat) (g : Gh) (s : SL) (h : Hp) : Option (SL × Hp) :=
  match g with
  | .frz r => bif Nat.blt r n then (match frzA (hH h) (sGet s r) with
    | some (i, y) => (match lSetS s r (.p y), h.put i none with | some s', some h' => some (s', h') | _, _ => none)
    | none => none) else none
  | .frzo r => bif Nat.blt r n then (match frzA (hH h) (sGet s r) with
    | some (i, y) => (match lSetS s r (.p y), h.put i none with | some s', some h' => some (s', h') | _, _ => none)
    | none => some (s, h)) else none
  | .nilr r E k => bif Nat.blt r n && Nat.blt 0 k then (match sGet s r with
    | .p (.v (.slice none 0 0)) => (match lSetS s r (.hd h.nx) with | some s' => some (s', h.new (some (.ob (.row E k [])))) | none => none)
    | _ => none) else none
  | .sl0 r => bif Nat.blt r n then (match sGet s r with
    | .p (.v (.slice none 0 0)) => (match lSetS s r (.p (.sl [])) with | some s' => some (s', h) | none => none)
    | _ => none) else none
  | .clr r => bif Nat.blt r n then (match lSetS s r .un with | some s' => some (s', h) | none => none) else none
noncomputable def aiStep (P : Program) (orc : Nat → List PV → Option PV) (rc : RC) (n : Nat) (ih : SL → Hp → Option (List (SL × Hp))) (s : SL) (h : Hp) : AI → Option (List (SL × Hp))
  | .op o => (match evGrd P orc rc o s h with
    | some l => onL (fun q => ih q.1 q.2) l
    | none => none)
  | .gh g => (match evGh n g s h with
    | some q => ih q.1 q.2
    | none => none)
noncomputable def evOps (P : Program) (orc : Nat → List PV → Option PV) (rc : RC) (n : Nat) (l : List AI) : SL → Hp → Option (List (SL × Hp)) :=
  List.rec (motive := fun _ => SL → Hp → Option (List (SL × Hp))) (fun s h => some [(s, h)]) (fun i _ ih s h => aiStep P orc rc n ih s h i) l
noncomputable def effF (orc : Nat → List PV → Option PV) (rc : RC) (d : Option Nat) (s : SL) (h : Hp) : Res → Option (SL × Hp)
  | .v x => match putS d s x with | some s' => some (s', h) | none => none
  | .new pb o => match putS d s (if pb then .pb h.nx 0 else .hd h.nx) with | some s' => some (s', h.new (some (.ob o))) | none => none
  | .st i o => match putS d s .un, h.put i (some (.ob o)) with | some s', some h' => some (s', h') | _, _ => none
  | .app i o => match putS d s (.hd h.nx), h.put i none with | some s', some h' => some (s', h'.new (some (.ob o))) | _, _ => none
  | .apf i o y => match putS d s (.p y), h.delO i with | some s', some h' => some (s', h'.new none) | _, _ => none
  | .call f args => match orc f args with | some y => (match putS d s (.p y) with | some s' => some (s', h) | none => none) | none => none
  | .callH f args => match rc.call f args h with
    | some [q] => bif noLp h q.2 then (match putS d s q.1 with | some s' => some (s', q.2) | none => none) else none
    | _ => none
  | .callN f args => match rc.call f args h with
    | some [q] => bif noLp h q.2 && oldOK h q.2 then (match putS d s q.1 with | some s' => some (s', q.2) | none => none) else none
    | _ => none
  | _ => none
noncomputable def drStep (P : Program) (orc : Nat → List PV → Option PV) (rc : RC) (ih : SL → Hp → Option (SL × Hp)) (s : SL) (h : Hp) (o : AOp) : Option (SL × Hp) :=
  match o.guard with
    | none => (match effF orc rc o.dst s h (semF P o.k (o.xs.map (AS.ev (sGet s))) (hH h)) with | some q => ih q.1 q.2 | none => none)
    | some (g, want) => match gb want (sGet s g) with
      | some b => bif b == want then (match effF orc rc o.dst s h (semF P o.k (o.xs.map (AS.ev (sGet s))) (hH h)) with | some q => ih q.1 q.2 | none => none)
          else (match putS o.dst s (.p (.v (.tuple #[]))) with | some s' => ih s' h | none => none)
      | none => none
noncomputable def evDraw (P : Program) (orc : Nat → List PV → Option PV) (rc : RC) (l : List AOp) : SL → Hp → Option (SL × Hp) :=
  List.rec (motive := fun _ => SL → Hp → Option (SL × Hp)) (fun s h => some (s, h)) (fun o _ ih s h => drStep P orc rc ih s h o) l
noncomputable def blkO (id : Nat) (o : Out) : Out := match o with
  | ⟨.ext i, s, h⟩ => bif Nat.beq i id then ⟨.nrm, s, h⟩ else ⟨.ext i, s, h⟩
  | o => o
def nrmO (q : SL × Hp) : Out := ⟨.nrm, q.1, q.2⟩
abbrev EvT := SL → Hp → Option (List Out)
def evSkip : EvT := fun s h => some [⟨.nrm, s, h⟩]
noncomputable def evOpsC (P : Program) (orc : Nat → List PV → Option PV) (rc : RC) (n : Nat) (l : List AI) : EvT := fun s h => match evOps P orc rc n l s h with | some l => some (l.map nrmO) | none => none
noncomputable def evDrawC (P : Program) (orc : Nat → List PV → Option PV) (rcN : RC) (l : List AOp) : EvT := fun s h => match evDraw P orc rcN l s h with | some q => some [nrmO q] | none => none
def seqK (rb : EvT) (o : Out) : Option (List Out) := match o with | ⟨.nrm, s', h'⟩ => rb s' h' | o => some [o]
def evSeq (ra rb : EvT) : EvT := fun s h => match ra s h with
    | some l => onL (seqK rb) l
    | none => none
noncomputable def evCond (n : Nat) (c : Operand) (ra rb : EvT) : EvT := fun s h => bif OkO n c then (match AS.ev (sGet s) c with
    | .p (.v (.bool t)) => bif t then ra s h else rb s h
    | _ => none) else none
noncomputable def evBlock (id : Nat) (ra : EvT) : EvT := fun s h => match ra s h with | some l => some (l.map (blkO id)) | none => none
def evExit (id : Nat) : EvT := fun s h => some [⟨.ext id, s, h⟩]
def evRet : EvT := fun s h => some [⟨.ret, s, h⟩]
noncomputable def ev (P : Program) (orc : Nat → List PV → Option PV) (rc rcN : RC) (n : Nat) (c : AC) : EvT :=
  AC.rec (motive := fun _ => EvT) evSkip (fun l => evOpsC P orc rc n l) (fun l => evDrawC P orc rcN l) (fun _ _ ra rb => evSeq ra rb) (fun c _ _ ra rb => evCond n c ra rb) (fun id _ ra => evBlock id ra) (fun a _ => rc.loop n a) (fun _ ra => ra) evExit evRet (fun f ps a b _ _ => rc.rf n f ps a b) c
abbrev Cod := Nat → Option (AC × Nat × List (Nat × Option (Bool × Nat)))
noncomputable def finB (rs : List (Nat × Option (Bool × Nat))) (h0 : Hp) : Out → Option (List (AV × Hp))
  | ⟨.ext _, _, _⟩ => none
  | ⟨_, s, h⟩ => bif resOK (sGet s) (hH h) rs then (match resAV (rs.map (resV (sGet s) (hH h))) with
    | .p y => (match gc h0 h with | some h' => some [(.p y, h')] | none => none)
    | _ => none) else none
noncomputable def finQ (rs : List (Nat × Option (Bool × Nat))) : Out → Option (List (AV × Hp))
  | ⟨.ext _, _, _⟩ => none
  | ⟨_, s, h⟩ => bif resOK (sGet s) (hH h) rs then some [(resAV (rs.map (resV (sGet s) (hH h))), h)] else none
noncomputable def evCall (P : Program) (orc : Nat → List PV → Option PV) (code : Cod) (rc rcN : RC) (f : Nat) (args : List AV) (h : Hp) : Option (List (AV × Hp)) :=
  match code f with
  | some (ac, n, rs) => bif Nat.ble args.length n then (match padS args n with | none => none | some s0 => match ev P orc rc rcN n ac s0 h with
    | some os => (match onL (finB rs h) os with
      | some l => some (dd l)
      | none => match onL (finQ rs) os with | some l => some (dd l) | none => none)
    | none => none) else none
  | none => none
inductive Env where
  | nil
  | cons (i : Nat) (ps : List Nat) (a b : AC) (n : Nat) (s : SL) (own rest : Env)
def Env.find : Env → Nat → Option (List Nat × AC × AC × Nat × SL × Env)
  | .nil, _ => none
  | .cons i ps a b n s own rest, j => bif Nat.beq i j then some (ps, a, b, n, s, own) else rest.find j
def isLp (st : LoopState) : Option EO → Bool
  | some (.lp st' none) => sameS st st'
  | _ => false
noncomputable def endY (i : Nat) : Out → Option (List (AV × Hp))
  | ⟨.nrm, _, h⟩ => bif isLp .busy (h.at i) then (match h.put i (some (.lp .ready none)) with | some h' => some [(.p (.v (.bool true)), h')] | none => none) else none
  | ⟨.ret, _, h⟩ => bif isLp .busy (h.at i) then (match h.put i (some (.lp .done (some .ret))) with | some h' => some [(.p (.v (.bool false)), h')] | none => none) else none
  | ⟨.ext id, _, h⟩ => bif isLp .busy (h.at i) then (match h.put i (some (.lp .done (some (.exit id)))) with | some h' => some [(.p (.v (.bool false)), h')] | none => none) else none
noncomputable def midY (P : Program) (orc : Nat → List PV → Option PV) (rc rcN : RC) (n : Nat) (b : AC) (i : Nat) : Out → Option (List (AV × Hp))
  | ⟨.nrm, s, h⟩ => bif isLp .ready (h.at i) then (match h.put i (some (.lp .busy none)) with
    | some h' => (match ev P orc rc rcN n b s h' with | some l => onL (endY i) l | none => none)
    | none => none) else none
  | _ => none
noncomputable def endR (s : SL) (i : Nat) (q : AV × Hp) : Option (List Out) := match q.2.at i with
  | some (.lp .busy _) => none
  | some (.lp _ pd) => (match q.2.put i (some (.lp .exhausted pd)) with
    | some h' => (match pd with | none => some [⟨.nrm, s, h'⟩] | some .ret => some [⟨.ret, s, h'⟩] | some (.exit id) => some [⟨.ext id, s, h'⟩] | _ => none)
    | none => none)
  | _ => none
noncomputable def run (P : Program) (orc : Nat → List PV → Option PV) (code : Cod) : Nat → Env → RC
  | 0, _ => ⟨fun _ _ _ => none, fun _ _ _ => none, fun _ _ _ _ => none, fun _ _ _ _ _ _ _ => none⟩
  | k + 1, env => {
    call := fun f args h => match allP args with
      | some ps => (match orc f ps with | some y => some [(.p y, h)] | none => evCall P orc code (run P orc code k env) (run P orc code k .nil) f args h)
      | none => evCall P orc code (run P orc code k env) (run P orc code k .nil) f args h
    yld := fun i xs h => match env.find i with
      | some (ps, a, b, n, s, own) => bif isLp .ready (h.at i) then (match setL s ps xs with
        | some s' => (match ev P orc (run P orc code k own) (run P orc code k .nil) n a s' h with
          | some l => onL (midY P orc (run P orc code k own) (run P orc code k .nil) n b i) l
          | none => none)
        | none => none) else none
      | none => none
    loop := fun n a s h => match ev P orc (run P orc code k env) (run P orc code k .nil) n a s h with
      | some l => onL (fun o => match o with | ⟨.nrm, s', h'⟩ => (run P orc code k env).loop n a s' h' | o => some [o]) l
      | none => none
    rf := fun n f ps a b s h => bif OkO n f then (match cloOf (AS.ev (sGet s) f) with
      | some (g, caps) => (match evCall P orc code (run P orc code k (.cons h.nx ps a b n s env env)) (run P orc code k .nil) g (.hd h.nx :: caps) (h.new (some (.lp .ready none))) with
        | some l => onL (endR s h.nx) l
        | none => none)
      | none => none) else none }
end Bh
namespace Bh
open Go
def OrcOK (P : Program) (orc : Nat → List PV → Option PV) : Prop := ∀ f a y, orc f a = some y → PCall P f a y
def CodOK (P : Program) (code : Cod) : Prop := ∀ f c, code f = some c → ∃ h, look1 P h f = some c
def OneOf (h : Hp) (R : Nat → Loop) (os : List (AV × Hp)) : AV → AHeap → Prop := fun r H' => ∃ o ∈ os, ∃ R', Ag h.nx R R' ∧ r = o.1 ∧ H' = toH R' o.2
structure RCok (P : Program) (Y : YS) (b : Nat) (R0 : Nat → Loop) (rc : RC) : Prop where
  call : ∀ f args h os, b ≤ h.nx → rc.call f args h = some os → (∀ o ∈ os, h.nx ≤ o.2.nx) ∧ ∀ R, Ag b R0 R → HCall P Y f args (toH R h) (OneOf h R os)
  yld : ∀ i xs h os, b ≤ h.nx → rc.yld i xs h = some os → (∀ o ∈ os, h.nx ≤ o.2.nx) ∧ ∀ R, Ag b R0 R → Y i xs (toH R h) (OneOf h R os)
  loop : ∀ n a s h os, b ≤ h.nx → rc.loop n a s h = some os → (∀ o ∈ os, h.nx ≤ o.h.nx) ∧ ∀ R Q, Ag b R0 R → (∀ o ∈ os, ∀ R', Ag h.nx R R' → Q o.x.e (sGet o.s) (toH R' o.h)) → awp P Y n (.loop a) (sGet s) (toH R h) Q
  rf : ∀ n f ps x y s h os, b ≤ h.nx → rc.rf n f ps x y s h = some os → (∀ o ∈ os, h.nx ≤ o.h.nx) ∧ ∀ R Q, Ag b R0 R → (∀ o ∈ os, ∀ R', Ag h.nx R R' → Q o.x.e (sGet o.s) (toH R' o.h)) → awp P Y n (.rf f ps x y) (sGet s) (toH R h) Q
section
variable {P : Program} {Y : YS} {b : Nat} {R0 : Nat → Loop} {rc rcN : RC} {orc : Nat → List PV → Option PV} {n : Nat}
theorem anyb {l : List Nat} {j : Nat} : l.any (Nat.beq j) = true ↔ j ∈ l := by
  rw [List.any_eq_true]
  constructor
  · rintro ⟨x, hx, he⟩; rw [Nat.eq_of_beq_eq_true he]; exact hx
  · intro h; exact ⟨j, h, Nat.beq_refl j⟩
theorem allSeen_of {seen : List Nat} : ∀ {m : Nat}, (∀ j, j < m → j ∈ seen) → allSeen seen m = true
  | 0, _ => rfl
  | m + 1, h => by simp only [allSeen, Bool.and_eq_true]; exact ⟨anyb.2 (h m (by omega)), allSeen_of fun j hj => h j (by omega)⟩
theorem nxtL_ok {i mi m0 : Nat} {seen : List Nat} {d : Option Nat} {s : SL} {h : Hp} : ∀ {m : List (ByteArray × PV)} {j : Nat} {r : List (SL × Hp)}, nxtL i mi m0 seen d s h j m = some r →
    (∀ o ∈ r, h.nx ≤ o.2.nx) ∧ ∀ u y, m[u]? = some y → j + u ∉ seen → ∃ o ∈ r, (sGet o.1 : AS) = updO d (sGet s) (.p (.tup [.v (.bool true), .v (.string y.1), y.2])) ∧ h.put i (some (.ob (.iter mi (seen ++ [j + u]) m0))) = some o.2 := by
  intro m
  induction m with
  | nil => intro j r hr; injection hr with hr; subst hr; exact ⟨fun o ho => by simp at ho, fun u y hu => by simp at hu⟩
  | cons z m ih =>
    intro j r hr
    unfold nxtL at hr
    split at hr
    · cases hr
    · rename_i r1 h1
      obtain ⟨k1, k2⟩ := ih h1
      cases hs : seen.any (Nat.beq j) with
      | true =>
        rw [hs] at hr
        simp only [cond_true, Option.some.injEq] at hr; subst hr
        refine ⟨k1, fun u y hu hn => ?_⟩
        cases u with
        | zero => exact absurd (anyb.1 hs) hn
        | succ u =>
          obtain ⟨o, ho, e1, e2⟩ := k2 u y (by simpa using hu) (by rw [show j + 1 + u = j + (u + 1) by omega]; exact hn)
          exact ⟨o, ho, e1, by rw [show j + (u + 1) = j + 1 + u by omega]; exact e2⟩
      | false =>
        rw [hs] at hr
        simp only [cond_false] at hr
        split at hr
        · rename_i s' h' hs' hh'
          injection hr with hr; subst hr
          refine ⟨fun o ho => ?_, fun u y hu hn => ?_⟩
          · rcases List.mem_cons.1 ho with rfl | ho
            · rw [(put_at hh').1]; exact Nat.le_refl _
            · exact k1 o ho
          · cases u with
            | zero =>
              simp only [List.getElem?_cons_zero, Option.some.injEq] at hu; subst hu
              exact ⟨(s', h'), by simp, putS_ok hs', hh'⟩
            | succ u =>
              obtain ⟨o, ho, e1, e2⟩ := k2 u y (by simpa using hu) (by rw [show j + 1 + u = j + (u + 1) by omega]; exact hn)
              exact ⟨o, by simp [ho], e1, by rw [show j + (u + 1) = j + 1 + u by omega]; exact e2⟩
        · cases hr
theorem callL_ok {d : Option Nat} {s : SL} {h : Hp} {l : List (AV × Hp)} {os : List (SL × Hp)} (ho : onL (fun q => match putS d s q.1 with | some s' => some [(s', q.2)] | none => none) l = some os) :
    ∀ q ∈ l, ∃ s', (sGet s' : AS) = updO d (sGet s) q.1 ∧ (s', q.2) ∈ os := by
  intro q hq
  obtain ⟨a, h1, h2⟩ := onL_ok ho q hq
  split at h1
  · rename_i s' hs'
    injection h1 with h1; subst h1
    exact ⟨s', putS_ok hs', h2 _ (by simp)⟩
  · cases h1
theorem onL_mem {α β : Type} {f : α → Option (List β)} : ∀ {l : List α} {r : List β}, onL f l = some r → ∀ y ∈ r, ∃ x ∈ l, ∃ a, f x = some a ∧ y ∈ a := by
  intro l
  induction l with
  | nil => intro r h y hy; injection h with h; subst h; simp at hy
  | cons x l ih =>
    intro r h z hz
    unfold onL at h
    split at h
    · rename_i a ha
      cases l with
      | nil =>
        injection h with h; subst h
        exact ⟨x, by simp, a, ha, hz⟩
      | cons y m =>
        dsimp only at h
        split at h
        · rename_i c hc
          injection h with h; subst h
          rcases List.mem_append.1 hz with hz | hz
          · exact ⟨x, by simp, a, ha, hz⟩
          · obtain ⟨w, h1, h2⟩ := ih hc z hz
            exact ⟨w, by simp [h1], h2⟩
        · cases h
    · cases h
theorem evFin_ok (hO : OrcOK P orc) (hrc : RCok P Y b R0 rc) {d : Option Nat} {s : SL} {h : Hp} {r : Res} {os : List (SL × Hp)} (hb : b ≤ h.nx) (he : evFin orc rc d s h r = some os) :
    r ≠ .no ∧ (∀ o ∈ os, h.nx ≤ o.2.nx) ∧ ∀ R K, Ag b R0 R → (∀ o ∈ os, ∀ R', Ag h.nx R R' → K (sGet o.1) (toH R' o.2)) → fin P Y d (sGet s) (toH R h) r K := by
  have calls : ∀ {f : Nat} {args : List AV} (g : Nat → List AV → Hp → Option (List (AV × Hp))), (match g f args h with | some l => onL (fun q => match putS d s q.1 with | some s' => some [(s', q.2)] | none => none) l | none => none) = some os → ∃ l, g f args h = some l ∧ (∀ q ∈ l, ∃ s', (sGet s' : AS) = updO d (sGet s) q.1 ∧ (s', q.2) ∈ os) ∧ ∀ o ∈ os, ∃ q ∈ l, o.2 = q.2 := by
    intro f args g hg
    split at hg
    · rename_i l hl
      refine ⟨l, hl, callL_ok (h := h) hg, fun o ho => ?_⟩
      obtain ⟨q, hq, a, h1, h2⟩ := onL_mem hg o ho
      split at h1
      · injection h1 with h1; subst h1
        simp only [List.mem_singleton] at h2; subst h2
        exact ⟨q, hq, rfl⟩
      · cases h1
    · cases hg
  cases r with
  | v x =>
    simp only [evFin] at he
    split at he
    · rename_i s' hs'
      injection he with he; subst he
      refine ⟨by simp, fun o ho => by simp only [List.mem_singleton] at ho; subst ho; exact Nat.le_refl _, fun R K hR hk => ?_⟩
      have := hk (s', h) (by simp) R (Ag.refl _ _)
      rw [putS_ok hs'] at this; exact this
    · cases he
  | new pb o =>
    simp only [evFin] at he
    split at he
    · rename_i s' hs'
      injection he with he; subst he
      refine ⟨by simp, fun o ho => by simp only [List.mem_singleton] at ho; subst ho; exact Nat.le_succ _, fun R K hR hk => ?_⟩
      have := hk (s', h.new (some (.ob o))) (by simp) R (Ag.refl _ _)
      rw [putS_ok hs', toH_new] at this; exact this
    · cases he
  | st i o =>
    simp only [evFin] at he
    split at he
    · rename_i s' h' hs' hh'
      injection he with he; subst he
      refine ⟨by simp, fun o ho => by simp only [List.mem_singleton] at ho; subst ho; rw [(put_at hh').1]; exact Nat.le_refl _, fun R K hR hk => ?_⟩
      have := hk (s', h') (by simp) R (Ag.refl _ _)
      rw [putS_ok hs', toH_put hh'] at this; exact this
    · cases he
  | app i o =>
    simp only [evFin] at he
    split at he
    · rename_i s' h' hs' hh'
      injection he with he; subst he
      refine ⟨by simp, fun o ho => by simp only [List.mem_singleton] at ho; subst ho; simp only [Hp.new, (put_at hh').1]; omega, fun R K hR hk => ?_⟩
      have := hk (s', h'.new (some (.ob o))) (by simp) R (Ag.refl _ _)
      rw [putS_ok hs', toH_new, toH_del hh'] at this; exact this
    · cases he
  | apf i o y =>
    simp only [evFin] at he
    split at he
    · rename_i s' h' hs' hh'
      injection he with he; subst he
      refine ⟨by simp, fun o' ho => by simp only [List.mem_singleton] at ho; subst ho; exact (toH_apf (Rf := R0) (o := o) hh').2, fun R K hR hk => ?_⟩
      have := hk (s', h'.new none) (by simp) R (Ag.refl _ _)
      rw [putS_ok hs', (toH_apf (o := o) hh').1] at this; exact this
    · cases he
  | call f args =>
    simp only [evFin] at he
    split at he
    · rename_i y hy
      split at he
      · rename_i s' hs'
        injection he with he; subst he
        refine ⟨by simp, fun o ho => by simp only [List.mem_singleton] at ho; subst ho; exact Nat.le_refl _, fun R K hR hk => ?_⟩
        have := hk (s', h) (by simp) R (Ag.refl _ _)
        rw [putS_ok hs'] at this
        exact ⟨y, hO _ _ _ hy, this⟩
      · cases he
    · cases he
  | callH f args =>
    obtain ⟨l, h1, h2, h3⟩ := calls rc.call he
    obtain ⟨k1, k2⟩ := hrc.call f args h l hb h1
    refine ⟨by simp, fun o ho => by obtain ⟨q, hq, e⟩ := h3 o ho; rw [e]; exact k1 q hq, fun R K hR hk => ⟨_, k2 R hR, ?_⟩⟩
    rintro r H' ⟨o, ho, R', hag, rfl, rfl⟩
    obtain ⟨s', e1, e2⟩ := h2 o ho
    rw [← e1]; exact hk _ e2 R' hag
  | callN f args =>
    obtain ⟨l, h1, h2, h3⟩ := calls rc.call he
    obtain ⟨k1, k2⟩ := hrc.call f args h l hb h1
    refine ⟨by simp, fun o ho => by obtain ⟨q, hq, e⟩ := h3 o ho; rw [e]; exact k1 q hq, fun R K hR hk => ⟨_, k2 R hR, ?_⟩⟩
    rintro r H' ⟨o, ho, R', hag, rfl, rfl⟩
    obtain ⟨s', e1, e2⟩ := h2 o ho
    rw [← e1]; exact hk _ e2 R' hag
  | yld i args =>
    obtain ⟨l, h1, h2, h3⟩ := calls rc.yld he
    obtain ⟨k1, k2⟩ := hrc.yld i args h l hb h1
    refine ⟨by simp, fun o ho => by obtain ⟨q, hq, e⟩ := h3 o ho; rw [e]; exact k1 q hq, fun R K hR hk => ⟨_, k2 R hR, ?_⟩⟩
    rintro r H' ⟨o, ho, R', hag, rfl, rfl⟩
    obtain ⟨s', e1, e2⟩ := h2 o ho
    rw [← e1]; exact hk _ e2 R' hag
  | nd e neg =>
    simp only [evFin] at he
    split at he
    · rename_i s1 hs1
      cases e with
      | true =>
        simp only [cond_true] at he
        split at he
        · rename_i s2 hs2
          injection he with he; subst he
          refine ⟨by simp, fun o ho => by simp only [List.mem_cons, List.not_mem_nil, or_false] at ho; rcases ho with rfl | rfl <;> exact Nat.le_refl _, fun R K hR hk c hc => ?_⟩
          cases c with
          | true => have := hk (s2, h) (by simp) R (Ag.refl _ _); rw [putS_ok hs2] at this; exact this
          | false => have := hk (s1, h) (by simp) R (Ag.refl _ _); rw [putS_ok hs1] at this; exact this
        · cases he
      | false =>
        simp only [cond_false, Option.some.injEq] at he; subst he
        refine ⟨by simp, fun o ho => by simp only [List.mem_singleton] at ho; subst ho; exact Nat.le_refl _, fun R K hR hk c hc => ?_⟩
        cases c with
        | true => exact absurd (hc rfl) (by simp)
        | false => have := hk (s1, h) (by simp) R (Ag.refl _ _); rw [putS_ok hs1] at this; exact this
    · cases he
  | nxt i mi m0 seen m =>
    simp only [evFin] at he
    split at he
    · rename_i r hr
      obtain ⟨k1, k2⟩ := nxtL_ok hr
      have step : ∀ {R : Nat → Loop} {K : AS → AHeap → Prop}, (∀ o ∈ r, K (sGet o.1) (toH R o.2)) → ∀ j y, m[j]? = some y → j ∉ seen → K (updO d (sGet s) (.p (.tup [.v (.bool true), .v (.string y.1), y.2]))) ((toH R h).set i (.iter mi (seen ++ [j]) m0)) := by
        intro R K hk j y hy hj
        obtain ⟨o, ho, e1, e2⟩ := k2 j y hy (by rwa [Nat.zero_add])
        rw [Nat.zero_add] at e2
        rw [← e1, ← toH_put e2]; exact hk o ho
      cases hs : allSeen seen m0 with
      | true =>
        rw [hs] at he
        simp only [cond_true] at he
        split at he
        · rename_i s' hs'
          injection he with he; subst he
          refine ⟨by simp, fun o ho => by rcases List.mem_cons.1 ho with rfl | ho; exact Nat.le_refl _; exact k1 o ho, fun R K hR hk => ⟨fun _ => ?_, step fun o ho => hk o (by simp [ho]) R (Ag.refl _ _)⟩⟩
          have := hk (s', h) (by simp) R (Ag.refl _ _); rw [putS_ok hs'] at this; exact this
        · cases he
      | false =>
        rw [hs] at he
        simp only [cond_false, Option.some.injEq] at he; subst he
        refine ⟨by simp, k1, fun R K hR hk => ⟨fun ha => ?_, step fun o ho => hk o ho R (Ag.refl _ _)⟩⟩
        rw [allSeen_of ha] at hs; cases hs
    · cases he
  | no => cases he
theorem evGrd_ok (hO : OrcOK P orc) (hrc : RCok P Y b R0 rc) {o : AOp} {s : SL} {h : Hp} {os : List (SL × Hp)} (hb : b ≤ h.nx) (he : evGrd P orc rc o s h = some os) :
    (∀ o ∈ os, h.nx ≤ o.2.nx) ∧ ∀ R K, Ag b R0 R → (∀ o ∈ os, ∀ R', Ag h.nx R R' → K (sGet o.1) (toH R' o.2)) → grdK P Y o (sGet s) (toH R h) K := by
  have go : evFin orc rc o.dst s h (semF P o.k (o.xs.map (AS.ev (sGet s))) (hH h)) = some os → (∀ o ∈ os, h.nx ≤ o.2.nx) ∧ ∀ R K, Ag b R0 R → (∀ o ∈ os, ∀ R', Ag h.nx R R' → K (sGet o.1) (toH R' o.2)) → fin P Y o.dst (sGet s) (toH R h) (sem P o.k (o.xs.map (AS.ev (sGet s))) (toH R h)) K := by
    intro he
    obtain ⟨h0, h1, h2⟩ := evFin_ok hO hrc hb he
    refine ⟨h1, fun R K hR hk => ?_⟩
    rw [semF_eq] at h0 h2; rw [sem_mono (hH_sub R h) h0]
    exact h2 R K hR hk
  unfold evGrd at he
  unfold grdK
  cases hg : o.guard with
  | none => rw [hg] at he; exact go he
  | some q =>
    obtain ⟨g, want⟩ := q
    rw [hg] at he
    dsimp only at he ⊢
    cases hgb : gb want (sGet s g) with
    | none => rw [hgb] at he; cases he
    | some c =>
      rw [hgb] at he
      dsimp only at he ⊢
      cases hcw : (c == want) with
      | true =>
        rw [hcw] at he
        have e : c = want := by simpa using hcw
        obtain ⟨h1, h2⟩ := go he
        exact ⟨h1, fun R K hR hk => by rw [if_pos e]; exact h2 R K hR hk⟩
      | false =>
        rw [hcw] at he
        have e : ¬ c = want := by simpa using hcw
        simp only [cond_false] at he
        split at he
        · rename_i s' hs'
          injection he with he; subst he
          refine ⟨fun o ho => by simp only [List.mem_singleton] at ho; subst ho; exact Nat.le_refl _, fun R K hR hk => ?_⟩
          rw [if_neg e]
          have := hk (s', h) (by simp) R (Ag.refl _ _); rw [putS_ok hs'] at this; exact this
        · cases he
theorem frz_eq {h : Hp} {R : Nat → Loop} {x : AV} (hf : frzA (hH h) x = none) : frzA (toH R h) x = none := by
  have key : ∀ i, (toH R h).get i = (hH h).get i ∨ ((hH h).get i = none ∧ ∃ L st pd, (toH R h).get i = some (.loop L st pd)) := by
    intro i
    simp only [toH, hH]
    cases h.at i with
    | none => exact .inl rfl
    | some e => cases e with
      | ob o => exact .inl rfl
      | lp st pd => exact .inr ⟨rfl, _, st, pd, rfl⟩
  unfold frzA at hf ⊢
  split
  · rename_i r
    rcases key r with e | ⟨e1, L, st, pd, e2⟩
    · rw [e]; exact hf
    · rw [e2]
  · rename_i r oo nn k
    rcases key r with e | ⟨e1, L, st, pd, e2⟩
    · rw [e]; exact hf
    · rw [e2]
  · rename_i r
    rcases key r with e | ⟨e1, L, st, pd, e2⟩
    · rw [e]; exact hf
    · rw [e2]
  · rfl
theorem evGh_ok {g : Gh} {s : SL} {h : Hp} {q : SL × Hp} (he : evGh n g s h = some q) : h.nx ≤ q.2.nx ∧ ∀ R K, K (sGet q.1) (toH R q.2) → ghK n g (sGet s) (toH R h) K := by
  cases g with
  | frz r =>
    simp only [evGh] at he
    cases hb : Nat.blt r n with
    | false => rw [hb] at he; cases he
    | true =>
      rw [hb] at he
      simp only [cond_true] at he
      split at he
      · rename_i i y hf
        split at he
        · rename_i s' h' hs' hh'
          injection he with he; subst he
          refine ⟨by rw [(put_at hh').1]; exact Nat.le_refl _, fun R K hk => ⟨blt_iff.1 hb, ?_⟩⟩
          rw [frz_ext (hH_sub R h) hf]
          show K _ _
          rw [← sSet_ok hs', ← toH_del hh']; exact hk
        · cases he
      · cases he
  | frzo r =>
    simp only [evGh] at he
    cases hb : Nat.blt r n with
    | false => rw [hb] at he; cases he
    | true =>
      rw [hb] at he
      simp only [cond_true] at he
      split at he
      · rename_i i y hf
        split at he
        · rename_i s' h' hs' hh'
          injection he with he; subst he
          refine ⟨by rw [(put_at hh').1]; exact Nat.le_refl _, fun R K hk => ⟨blt_iff.1 hb, ?_⟩⟩
          rw [frz_ext (hH_sub R h) hf]
          show K _ _
          rw [← sSet_ok hs', ← toH_del hh']; exact hk
        · cases he
      · rename_i hf
        injection he with he; subst he
        refine ⟨Nat.le_refl _, fun R K hk => ⟨blt_iff.1 hb, ?_⟩⟩
        rw [frz_eq hf]
        exact hk
  | nilr r E k =>
    simp only [evGh] at he
    cases hb : (Nat.blt r n && Nat.blt 0 k) with
    | false => rw [hb] at he; cases he
    | true =>
      rw [hb] at he
      simp only [Bool.and_eq_true] at hb
      simp only [cond_true] at he
      split at he
      · rename_i hx
        split at he
        · rename_i s' hs'
          injection he with he; subst he
          refine ⟨Nat.le_succ _, fun R K hk => ⟨blt_iff.1 hb.1, hx, blt_iff.1 hb.2, ?_⟩⟩
          rw [toH_new, sSet_ok hs'] at hk; exact hk
        · cases he
      · cases he
  | sl0 r =>
    simp only [evGh] at he
    cases hb : Nat.blt r n with
    | false => rw [hb] at he; cases he
    | true =>
      rw [hb] at he
      simp only [cond_true] at he
      split at he
      · rename_i hx
        split at he
        · rename_i s' hs'
          injection he with he; subst he
          refine ⟨Nat.le_refl _, fun R K hk => ⟨blt_iff.1 hb, hx, ?_⟩⟩
          rw [sSet_ok hs'] at hk; exact hk
        · cases he
      · cases he
  | clr r =>
    simp only [evGh] at he
    cases hb : Nat.blt r n with
    | false => rw [hb] at he; cases he
    | true =>
      rw [hb] at he
      simp only [cond_true] at he
      split at he
      · rename_i s' hs'
        injection he with he; subst he
        refine ⟨Nat.le_refl _, fun R K hk => ⟨blt_iff.1 hb, ?_⟩⟩
        rw [sSet_ok hs'] at hk; exact hk
      · cases he
theorem evOps_ok (hO : OrcOK P orc) (hrc : RCok P Y b R0 rc) : ∀ {l : List AI} {s : SL} {h : Hp} {os : List (SL × Hp)}, b ≤ h.nx → evOps P orc rc n l s h = some os →
    (∀ o ∈ os, h.nx ≤ o.2.nx) ∧ ∀ R K, Ag b R0 R → (∀ o ∈ os, ∀ R', Ag h.nx R R' → K (sGet o.1) (toH R' o.2)) → opsK P Y n l (sGet s) (toH R h) K := by
  intro l
  induction l with
  | nil =>
    intro s h os hb he
    injection he with he; subst he
    exact ⟨fun o ho => by simp only [List.mem_singleton] at ho; subst ho; exact Nat.le_refl _, fun R K hR hk => hk (s, h) (by simp) R (Ag.refl _ _)⟩
  | cons x l ih =>
    intro s h os hb he
    cases x with
    | op o =>
      have he : (match evGrd P orc rc o s h with | some l' => onL (fun q => evOps P orc rc n l q.1 q.2) l' | none => none) = some os := he
      split at he
      · rename_i m hm
        obtain ⟨h1, h2⟩ := evGrd_ok hO hrc hb hm
        refine ⟨fun o ho => ?_, fun R K hR hk => ?_⟩
        · obtain ⟨q, hq, a, e1, e2⟩ := onL_mem he o ho
          have hq1 := h1 q hq
          exact Nat.le_trans hq1 ((ih (Nat.le_trans hb hq1) e1).1 o e2)
        · refine h2 R (fun s' H' => opsK P Y n l s' H' K) hR fun q hq R' hR' => ?_
          obtain ⟨a, e1, e2⟩ := onL_ok he q hq
          have hq1 := h1 q hq
          exact (ih (Nat.le_trans hb hq1) e1).2 R' K (hR.trans hb hR') fun o ho R'' hR'' => hk o (e2 o ho) R'' (hR'.trans hq1 hR'')
      · cases he
    | gh g =>
      have he : (match evGh n g s h with | some q => evOps P orc rc n l q.1 q.2 | none => none) = some os := he
      split at he
      · rename_i q hq
        obtain ⟨h1, h2⟩ := evGh_ok hq
        obtain ⟨k1, k2⟩ := ih (Nat.le_trans hb h1) he
        exact ⟨fun o ho => Nat.le_trans h1 (k1 o ho), fun R K hR hk => h2 R _ (k2 R K hR fun o ho R' hR' => hk o ho R' (hR'.le h1))⟩
      · cases he
theorem oIdx_drop {α : Type} : ∀ (d : Nat) (l : List (Option α)) (k : Nat), oIdx (l.drop d) k = oIdx l (k + d)
  | 0, l, k => rfl
  | d + 1, [], k => by cases k <;> rfl
  | d + 1, x :: l, k => by rw [List.drop_succ_cons, oIdx_drop d l k]; rfl
theorem all2_at {α : Type} {f : Option α → Option α → Bool} : ∀ {l m : List (Option α)}, all2 f l m = true → ∀ k, (oIdx l k = none ∧ oIdx m k = none) ∨ f (oIdx l k) (oIdx m k) = true
  | [], [], _, k => .inl ⟨rfl, rfl⟩
  | [], _ :: _, h, _ => by simp [all2] at h
  | _ :: _, [], h, _ => by simp [all2] at h
  | x :: l, y :: m, h, 0 => by simp only [all2, Bool.and_eq_true] at h; exact .inr h.1
  | x :: l, y :: m, h, k + 1 => by simp only [all2, Bool.and_eq_true] at h; exact all2_at h.2 k
theorem at_drop {h0 h : Hp} (hn : h0.nx ≤ h.nx) {i : Nat} (hi : i < h0.nx) : oIdx (h.os.drop (h.nx - h0.nx)) (h0.nx - 1 - i) = h.at i := by
  rw [oIdx_drop, at_lt (by omega)]
  congr 1
  omega
theorem oldOK_ok {h0 h : Hp} (hn : h0.nx ≤ h.nx) (ho : oldOK h0 h = true) (R : Nat → Loop) : Old (toH R h0) (toH R h) := by
  intro i hi x hx
  have hi : i < h0.nx := hi
  have := all2_at ho (h0.nx - 1 - i)
  rw [at_drop hn hi, ← at_lt hi] at this
  simp only [toH] at hx ⊢
  rcases this with ⟨e1, e2⟩ | e
  · rw [e1] at hx; cases hx
  · unfold oldE at e
    split at e
    · rename_i e'; rw [e'] at hx; cases hx
    · rw [sameE_ok _ _ e] at hx; exact hx
theorem noLp_at : ∀ {d : Nat} {l : List (Option EO)} {k : Nat}, (l.take d).all isOb = true → k < d → isOb (oIdx l k) = true
  | 0, _, _, _, h => absurd h (by omega)
  | d + 1, [], k, _, _ => by cases k <;> rfl
  | d + 1, x :: l, 0, h, _ => by simp only [List.take_succ_cons, List.all_cons, Bool.and_eq_true] at h; exact h.1
  | d + 1, x :: l, k + 1, h, hk => by simp only [List.take_succ_cons, List.all_cons, Bool.and_eq_true] at h; exact noLp_at (d := d) (l := l) (k := k) h.2 (by omega)
theorem noLp_ok {h0 h : Hp} (hn : h0.nx ≤ h.nx) (ho : noLp h0 h = true) {R R' : Nat → Loop} (ha : Ag h0.nx R R') : toH R' h = toH R h := by
  unfold toH
  congr 1
  funext i
  by_cases hi : i < h0.nx
  · rw [ha i hi]
  · by_cases hj : i < h.nx
    · have := noLp_at ho (k := h.nx - 1 - i) (by omega)
      rw [← at_lt hj] at this
      revert this
      cases h.at i with
      | none => intro _; rfl
      | some e => cases e with
        | ob o => intro _; rfl
        | lp st pd => intro h; cases h
    · rw [at_ge hj]; rfl
theorem effF_ok (hO : OrcOK P orc) (hN : RCok P noY b R0 rcN) {d : Option Nat} {s : SL} {h : Hp} {r : Res} {q : SL × Hp} (hb : b ≤ h.nx) (he : effF orc rcN d s h r = some q) :
    r ≠ .no ∧ h.nx ≤ q.2.nx ∧ ∀ R K, Ag b R0 R → K (sGet q.1) (toH R q.2) → effK P d (sGet s) (toH R h) r K := by
  cases r with
  | v x =>
    simp only [effF] at he
    split at he
    · rename_i s' hs'
      injection he with he; subst he
      exact ⟨by simp, Nat.le_refl _, fun R K hR hk => by rw [putS_ok hs'] at hk; exact hk⟩
    · cases he
  | new pb o =>
    simp only [effF] at he
    split at he
    · rename_i s' hs'
      injection he with he; subst he
      exact ⟨by simp, Nat.le_succ _, fun R K hR hk => by rw [putS_ok hs', toH_new] at hk; exact hk⟩
    · cases he
  | st i o =>
    simp only [effF] at he
    split at he
    · rename_i s' h' hs' hh'
      injection he with he; subst he
      exact ⟨by simp, by rw [(put_at hh').1]; exact Nat.le_refl _, fun R K hR hk => by rw [putS_ok hs', toH_put hh'] at hk; exact hk⟩
    · cases he
  | app i o =>
    simp only [effF] at he
    split at he
    · rename_i s' h' hs' hh'
      injection he with he; subst he
      exact ⟨by simp, by simp only [Hp.new, (put_at hh').1]; omega, fun R K hR hk => by rw [putS_ok hs', toH_new, toH_del hh'] at hk; exact hk⟩
    · cases he
  | apf i o y =>
    simp only [effF] at he
    split at he
    · rename_i s' h' hs' hh'
      injection he with he; subst he
      exact ⟨by simp, (toH_apf (Rf := R0) (o := o) hh').2, fun R K hR hk => by rw [putS_ok hs', (toH_apf (o := o) hh').1] at hk; exact hk⟩
    · cases he
  | call f args =>
    simp only [effF] at he
    split at he
    · rename_i y hy
      split at he
      · rename_i s' hs'
        injection he with he; subst he
        exact ⟨by simp, Nat.le_refl _, fun R K hR hk => by rw [putS_ok hs'] at hk; exact ⟨y, hO _ _ _ hy, hk⟩⟩
      · cases he
    · cases he
  | callH f args =>
    simp only [effF] at he
    split at he
    · rename_i z hz
      obtain ⟨k1, k2⟩ := hN.call f args h _ hb hz
      have k1 := k1 z (by simp)
      cases hl : noLp h z.2 with
      | false => rw [hl] at he; cases he
      | true =>
        rw [hl] at he
        simp only [cond_true] at he
        split at he
        · rename_i s' hs'
          injection he with he; subst he
          refine ⟨by simp, k1, fun R K hR hk => ⟨z.1, toH R z.2, (k2 R hR).post ?_, fun _ => toH_wf _ _, by rw [putS_ok hs'] at hk; exact hk⟩⟩
          rintro r H' ⟨o, ho, R', hag, rfl, rfl⟩
          simp only [List.mem_singleton] at ho; subst ho
          exact ⟨rfl, noLp_ok k1 hl hag⟩
        · cases he
    · cases he
  | callN f args =>
    simp only [effF] at he
    split at he
    · rename_i z hz
      obtain ⟨k1, k2⟩ := hN.call f args h _ hb hz
      have k1 := k1 z (by simp)
      cases hl : (noLp h z.2 && oldOK h z.2) with
      | false => rw [hl] at he; cases he
      | true =>
        rw [hl] at he
        simp only [Bool.and_eq_true] at hl
        simp only [cond_true] at he
        split at he
        · rename_i s' hs'
          injection he with he; subst he
          refine ⟨by simp, k1, fun R K hR hk => ⟨z.1, toH R z.2, (k2 R hR).post ?_, fun _ => toH_wf _ _, k1, oldOK_ok k1 hl.2 R, by rw [putS_ok hs'] at hk; exact hk⟩⟩
          rintro r H' ⟨o, ho, R', hag, rfl, rfl⟩
          simp only [List.mem_singleton] at ho; subst ho
          exact ⟨rfl, noLp_ok k1 hl.1 hag⟩
        · cases he
    · cases he
  | _ => cases he
theorem evDraw_ok (hO : OrcOK P orc) (hN : RCok P noY b R0 rcN) : ∀ {l : List AOp} {s : SL} {h : Hp} {q : SL × Hp}, b ≤ h.nx → evDraw P orc rcN l s h = some q →
    h.nx ≤ q.2.nx ∧ ∀ R K, Ag b R0 R → K (sGet q.1) (toH R q.2) → drawK P l (sGet s) (toH R h) K := by
  intro l
  induction l with
  | nil => intro s h q hb he; injection he with he; subst he; exact ⟨Nat.le_refl _, fun R K hR hk => hk⟩
  | cons o l ih =>
    intro s h q hb he
    have go : (match effF orc rcN o.dst s h (semF P o.k (o.xs.map (AS.ev (sGet s))) (hH h)) with | some q => evDraw P orc rcN l q.1 q.2 | none => none) = some q →
        h.nx ≤ q.2.nx ∧ ∀ R K, Ag b R0 R → K (sGet q.1) (toH R q.2) → effK P o.dst (sGet s) (toH R h) (sem P o.k (o.xs.map (AS.ev (sGet s))) (toH R h)) fun s' H' => drawK P l s' H' K := by
      intro he
      split at he
      · rename_i z hz
        obtain ⟨h0, h1, h2⟩ := effF_ok hO hN hb hz
        obtain ⟨k1, k2⟩ := ih (Nat.le_trans hb h1) he
        refine ⟨Nat.le_trans h1 k1, fun R K hR hk => ?_⟩
        rw [semF_eq] at h0 h2; rw [sem_mono (hH_sub R h) h0]
        exact h2 R _ hR (k2 R K hR hk)
      · cases he
    have he : drStep P orc rcN (evDraw P orc rcN l) s h o = some q := he
    unfold drStep at he
    unfold drawK
    cases hg : o.guard with
    | none => rw [hg] at he; exact go he
    | some gw =>
      obtain ⟨g, want⟩ := gw
      rw [hg] at he
      dsimp only at he ⊢
      cases hgb : gb want (sGet s g) with
      | none => rw [hgb] at he; cases he
      | some c =>
        rw [hgb] at he
        dsimp only at he ⊢
        cases hcw : (c == want) with
        | true =>
          rw [hcw] at he
          have e : c = want := by simpa using hcw
          obtain ⟨h1, h2⟩ := go he
          exact ⟨h1, fun R K hR hk => by rw [if_pos e]; exact h2 R K hR hk⟩
        | false =>
          rw [hcw] at he
          have e : ¬ c = want := by simpa using hcw
          simp only [cond_false] at he
          split at he
          · rename_i s' hs'
            obtain ⟨k1, k2⟩ := ih hb he
            refine ⟨k1, fun R K hR hk => ?_⟩
            rw [if_neg e, ← putS_ok hs']
            exact k2 R K hR hk
          · cases he
end
end Bh
namespace Bh
open Go
section
variable {P : Program} {Y : YS} {b : Nat} {R0 : Nat → Loop} {rc rcN : RC} {orc : Nat → List PV → Option PV} {n : Nat} {code : Cod}
theorem ev_ok (hO : OrcOK P orc) (hrc : RCok P Y b R0 rc) (hN : RCok P noY b R0 rcN) : ∀ (c : AC) (s : SL) (h : Hp) (os : List Out), b ≤ h.nx → ev P orc rc rcN n c s h = some os →
    (∀ o ∈ os, h.nx ≤ o.h.nx) ∧ ∀ R Q, Ag b R0 R → (∀ o ∈ os, ∀ R', Ag h.nx R R' → Q o.x.e (sGet o.s) (toH R' o.h)) → awp P Y n c (sGet s) (toH R h) Q := by
  intro c
  induction c with
  | skip =>
    intro s h os hb he
    injection he with he; subst he
    exact ⟨fun o ho => by simp only [List.mem_singleton] at ho; subst ho; exact Nat.le_refl _, fun R Q hR hk => hk ⟨.nrm, s, h⟩ (by simp) R (Ag.refl _ _)⟩
  | exit id =>
    intro s h os hb he
    injection he with he; subst he
    exact ⟨fun o ho => by simp only [List.mem_singleton] at ho; subst ho; exact Nat.le_refl _, fun R Q hR hk => hk ⟨.ext id, s, h⟩ (by simp) R (Ag.refl _ _)⟩
  | ret =>
    intro s h os hb he
    injection he with he; subst he
    exact ⟨fun o ho => by simp only [List.mem_singleton] at ho; subst ho; exact Nat.le_refl _, fun R Q hR hk => hk ⟨.ret, s, h⟩ (by simp) R (Ag.refl _ _)⟩
  | ops l =>
    intro s h os hb he
    have he : (match evOps P orc rc n l s h with | some l => some (l.map nrmO) | none => none) = some os := he
    split at he
    · rename_i m hm
      injection he with he; subst he
      obtain ⟨h1, h2⟩ := evOps_ok hO hrc hb hm
      refine ⟨fun o ho => ?_, fun R Q hR hk => h2 R _ hR fun q hq R' hR' => hk (nrmO q) (List.mem_map_of_mem hq) R' hR'⟩
      obtain ⟨q, hq, rfl⟩ := List.mem_map.1 ho
      exact h1 q hq
    · cases he
  | draw l =>
    intro s h os hb he
    have he : (match evDraw P orc rcN l s h with | some q => some [nrmO q] | none => none) = some os := he
    split at he
    · rename_i q hq
      injection he with he; subst he
      obtain ⟨h1, h2⟩ := evDraw_ok hO hN hb hq
      exact ⟨fun o ho => by simp only [List.mem_singleton] at ho; subst ho; exact h1, fun R Q hR hk => h2 R _ hR (hk (nrmO q) (by simp) R (Ag.refl _ _))⟩
    · cases he
  | seq x y ihx ihy =>
    intro s h os hb he
    have he : (match ev P orc rc rcN n x s h with | some l => onL (seqK (ev P orc rc rcN n y)) l | none => none) = some os := he
    split at he
    · rename_i l hl
      obtain ⟨h1, h2⟩ := ihx s h l hb hl
      refine ⟨fun o ho => ?_, fun R Q hR hk => ?_⟩
      · obtain ⟨q, hq, a, e1, e2⟩ := onL_mem he o ho
        have hq1 := h1 q hq
        unfold seqK at e1
        split at e1
        · exact Nat.le_trans hq1 ((ihy _ _ _ (Nat.le_trans hb hq1) e1).1 o e2)
        · injection e1 with e1; subst e1
          simp only [List.mem_singleton] at e2; subst e2
          exact hq1
      · refine h2 R _ hR fun q hq R' hR' => ?_
        obtain ⟨a, e1, e2⟩ := onL_ok he q hq
        have hq1 := h1 q hq
        obtain ⟨qx, qs, qh⟩ := q
        cases qx with
        | nrm => exact (ihy _ _ _ (Nat.le_trans hb hq1) e1).2 R' Q (hR.trans hb hR') fun o ho R'' hR'' => hk o (e2 o ho) R'' (hR'.trans hq1 hR'')
        | ext id => injection e1 with e1; subst e1; exact hk _ (e2 _ (by simp)) R' hR'
        | ret => injection e1 with e1; subst e1; exact hk _ (e2 _ (by simp)) R' hR'
    · cases he
  | cond c x y ihx ihy =>
    intro s h os hb he
    have he : (bif OkO n c then (match AS.ev (sGet s) c with | .p (.v (.bool t)) => bif t then ev P orc rc rcN n x s h else ev P orc rc rcN n y s h | _ => none) else none) = some os := he
    cases hc : OkO n c with
    | false => rw [hc] at he; cases he
    | true =>
      rw [hc] at he
      simp only [cond_true] at he
      split at he
      · rename_i t ht
        cases t with
        | true =>
          obtain ⟨h1, h2⟩ := ihx s h os hb he
          exact ⟨h1, fun R Q hR hk => ⟨hc, by rw [ht]; exact ⟨fun _ => h2 R Q hR hk, fun e => nomatch e⟩⟩⟩
        | false =>
          obtain ⟨h1, h2⟩ := ihy s h os hb he
          exact ⟨h1, fun R Q hR hk => ⟨hc, by rw [ht]; exact ⟨fun e => (nomatch e), fun _ => h2 R Q hR hk⟩⟩⟩
      · cases he
  | block id x ih =>
    intro s h os hb he
    have he : (match ev P orc rc rcN n x s h with | some l => some (l.map (blkO id)) | none => none) = some os := he
    split at he
    · rename_i l hl
      injection he with he; subst he
      obtain ⟨h1, h2⟩ := ih s h l hb hl
      have hnx : ∀ o : Out, (blkO id o).h = o.h := fun o => by
        obtain ⟨x, s, h⟩ := o
        cases x <;> try rfl
        simp only [blkO]; cases Nat.beq _ id <;> rfl
      refine ⟨fun o ho => ?_, fun R Q hR hk => h2 R _ hR fun o ho R' hR' => ?_⟩
      · obtain ⟨q, hq, rfl⟩ := List.mem_map.1 ho
        rw [hnx]; exact h1 q hq
      · have := hk (blkO id o) (List.mem_map_of_mem ho) R' hR'
        obtain ⟨ox, os, oh⟩ := o
        cases ox with
        | nrm => exact this
        | ret => exact this
        | ext i =>
          simp only [blkO] at this
          cases hi : Nat.beq i id with
          | true => rw [hi] at this; have e := Nat.eq_of_beq_eq_true hi; show (if i = id then _ else _); rw [if_pos e]; exact this
          | false => rw [hi] at this; have e : ¬ i = id := Nat.ne_of_beq_eq_false hi; show (if i = id then _ else _); rw [if_neg e]; exact this
    · cases he
  | loop x ih => intro s h os hb he; exact hrc.loop n x s h os hb he
  | scope x ih =>
    intro s h os hb he
    obtain ⟨h1, h2⟩ := ih s h os hb he
    refine ⟨h1, fun R Q hR hk => h2 R _ hR fun o ho R' hR' => ?_⟩
    have := hk o ho R' hR'
    obtain ⟨ox, os, oh⟩ := o
    cases ox <;> exact this
  | rf f ps x y ihx ihy => intro s h os hb he; exact hrc.rf n f ps x y s h os hb he
theorem res_ext {s : AS} {H H1 : AHeap} (hs : SubG H H1) {rs : List (Nat × Option (Bool × Nat))} (h : resOK s H rs = true) : resOK s H1 rs = true ∧ rs.map (resV s H1) = rs.map (resV s H) := by
  simp only [resOK, List.all_eq_true] at h
  have key : ∀ q ∈ rs, (match q.2 with | none => true | some am => (semLoad H1 am.1 am.2 (s q.1)).isSome) = true ∧ resV s H1 q = resV s H q := by
    intro q hq
    have := h q hq
    obtain ⟨t, o⟩ := q
    cases o with
    | none => exact ⟨rfl, rfl⟩
    | some am =>
      obtain ⟨agg, m⟩ := am
      simp only [resV] at this ⊢
      cases hl : semLoad H agg m (s t) with
      | none => rw [hl] at this; cases this
      | some z => rw [load_at (subg_pts hs _) hl]; exact ⟨rfl, rfl⟩
  exact ⟨by simp only [resOK, List.all_eq_true]; exact fun q hq => (key q hq).1, List.map_congr_left fun q hq => (key q hq).2⟩
theorem gc_ok {h0 h h' : Hp} (hn : h0.nx ≤ h.nx) (hg : gc h0 h = some h') {R R' : Nat → Loop} (ha : Ag h0.nx R R') :
    h'.nx = h0.nx ∧ ∀ i o, (toH R' h').get i = some o → (toH R' h).get i = some o ∧ ∃ o0, (toH R h0).get i = some o0 ∧ (o = o0 ∨ o.pers = true) := by
  unfold gc at hg
  cases hc : all2 gcE (h.os.drop (h.nx - h0.nx)) h0.os with
  | false => rw [hc] at hg; cases hg
  | true =>
    rw [hc] at hg
    simp only [cond_true, Option.some.injEq] at hg; subst hg
    refine ⟨rfl, fun i o ho => ?_⟩
    by_cases hi : i < h0.nx
    · have e1 : (⟨h0.nx, h.os.drop (h.nx - h0.nx)⟩ : Hp).at i = h.at i := by
        rw [at_lt (show i < (⟨h0.nx, h.os.drop (h.nx - h0.nx)⟩ : Hp).nx from hi)]
        exact at_drop hn hi
      simp only [toH] at ho ⊢
      rw [e1] at ho
      refine ⟨ho, ?_⟩
      have := all2_at hc (h0.nx - 1 - i)
      rw [at_drop hn hi, ← at_lt hi] at this
      rw [ha i hi] at ho
      rcases this with ⟨e, _⟩ | e
      · rw [e] at ho; cases ho
      · unfold gcE at e
        split at e
        · rename_i e'; rw [e'] at ho; cases ho
        · rename_i a a0 ea ea0
          rw [ea] at ho; rw [ea0]
          injection ho with ho; subst ho
          refine ⟨a0, rfl, ?_⟩
          simp only [Bool.or_eq_true] at e
          rcases e with e | e
          · exact .inr e
          · exact .inl (sameO_ok e)
        · rename_i st pd st0 pd0 ea ea0
          rw [ea] at ho; rw [ea0]
          simp only [Bool.and_eq_true] at e
          injection ho with ho; subst ho
          refine ⟨_, rfl, .inl ?_⟩
          rw [sameS_ok e.1.1, noC_ok e.1.2, noC_ok e.2]
        · cases e
    · simp only [toH] at ho
      rw [at_ge (show ¬ i < (⟨h0.nx, h.os.drop (h.nx - h0.nx)⟩ : Hp).nx from hi)] at ho
      cases ho
theorem evCall_ok (hm : P.follows .mixedOrders = true) (hO : OrcOK P orc) (hC : CodOK P code) (hrc : RCok P Y b R0 rc) (hN : RCok P noY b R0 rcN) {f : Nat} {args : List AV} {h : Hp} {os : List (AV × Hp)} (hb : b ≤ h.nx) (he : evCall P orc code rc rcN f args h = some os) :
    (∀ o ∈ os, h.nx ≤ o.2.nx) ∧ ∀ R, Ag b R0 R → HCall P Y f args (toH R h) (OneOf h R os) := by
  unfold evCall at he
  split at he
  · rename_i ac n rs hc
    obtain ⟨hint, hl⟩ := hC _ _ hc
    cases hlen : Nat.ble args.length n with
    | false => rw [hlen] at he; cases he
    | true =>
      rw [hlen] at he
      have hlen : args.length ≤ n := Nat.le_of_ble_eq_true hlen
      simp only [cond_true] at he
      split at he
      · cases he
      rename_i s0 hpad
      split at he
      · rename_i outs ho
        obtain ⟨h1, h2⟩ := ev_ok hO hrc hN _ _ _ _ hb ho
        split at he
        · rename_i l hfl
          injection he with he; subst he
          have key : ∀ o ∈ outs, ∃ y h', (o.x = .nrm ∨ o.x = .ret) ∧ resOK (sGet o.s) (hH o.h) rs = true ∧ resAV (rs.map (resV (sGet o.s) (hH o.h))) = .p y ∧ gc h o.h = some h' ∧ (AV.p y, h') ∈ l := by
            intro o ho
            obtain ⟨a, e1, e2⟩ := onL_ok hfl o ho
            obtain ⟨ox, os, oh⟩ := o
            have : ∀ x, (x = .nrm ∨ x = .ret) → finB rs h ⟨x, os, oh⟩ = some a → ∃ y h', resOK (sGet os) (hH oh) rs = true ∧ resAV (rs.map (resV (sGet os) (hH oh))) = .p y ∧ gc h oh = some h' ∧ (AV.p y, h') ∈ l := by
              intro x hx e1
              have e1 : (bif resOK (sGet os) (hH oh) rs then (match resAV (rs.map (resV (sGet os) (hH oh))) with | .p y => (match gc h oh with | some h' => some [(.p y, h')] | none => none) | _ => none) else none) = some a := by rcases hx with rfl | rfl <;> exact e1
              cases hr : resOK (sGet os) (hH oh) rs with
              | false => rw [hr] at e1; cases e1
              | true =>
                rw [hr] at e1
                simp only [cond_true] at e1
                split at e1
                · rename_i y hy
                  split at e1
                  · rename_i h' hg
                    injection e1 with e1; subst e1
                    exact ⟨y, h', rfl, hy, hg, e2 _ (by simp)⟩
                  · cases e1
                · cases e1
            cases ox with
            | nrm => obtain ⟨y, h', k⟩ := this _ (.inl rfl) e1; exact ⟨y, h', .inl rfl, k⟩
            | ret => obtain ⟨y, h', k⟩ := this _ (.inr rfl) e1; exact ⟨y, h', .inr rfl, k⟩
            | ext id => cases e1
          have key2 : ∀ q ∈ l, h.nx ≤ q.2.nx := by
            intro q hq
            obtain ⟨o, ho, a, e1, e2⟩ := onL_mem hfl q hq
            obtain ⟨y, h', k1, k2, k3, k4, k5⟩ := key o ho
            have : q.2.nx = h.nx := by
              obtain ⟨ox, os, oh⟩ := o
              have : (bif resOK (sGet os) (hH oh) rs then (match resAV (rs.map (resV (sGet os) (hH oh))) with | .p y => (match gc h oh with | some h' => some [(.p y, h')] | none => none) | _ => none) else none) = some a := by rcases k1 with h | h <;> (simp only at h; subst h; exact e1)
              simp only at k2 k3 k4
              rw [k2, k3, k4] at this
              injection this with this; subst this
              simp only [List.mem_singleton] at e2; subst e2
              exact (gc_ok (h1 _ ho) k4 (Ag.refl _ R0)).1
            omega
          refine ⟨fun o ho => ?_, fun R hR => hcall0 hm hl hlen fun _ => .inr ⟨fun y H' => OneOf h R (dd l) (.p y) H', fun y H' h => h, ?_⟩⟩
          · have : o ∈ l := by
              have sub : ∀ {l : List (AV × Hp)} {o : AV × Hp}, o ∈ dd l → o ∈ l := by
                intro l
                induction l with
                | nil => intro o h; exact h
                | cons x l ih =>
                  intro o h
                  unfold dd at h
                  cases l with
                  | nil => exact h
                  | cons y m =>
                    dsimp only at h
                    cases hc : (dd (y :: m)).any (fun y => sameA x.1 y.1 && sameH x.2 y.2) with
                    | true => rw [hc] at h; exact List.mem_cons_of_mem _ (ih h)
                    | false =>
                      rw [hc] at h
                      rcases List.mem_cons.1 h with rfl | h
                      · simp
                      · exact List.mem_cons_of_mem _ (ih h)
              exact sub ho
            exact key2 o this
          · rw [← padS_ok hpad]
            refine h2 R _ hR fun o ho R' hR' => ?_
            obtain ⟨y, h', k1, k2, k3, k4, k5⟩ := key o ho
            obtain ⟨r1, r2⟩ := res_ext (hH_sub R' o.h) k2
            obtain ⟨g1, g2⟩ := gc_ok (h1 o ho) k4 hR'
            have : resOK (sGet o.s) (toH R' o.h) rs = true ∧ ∃ y H2, OneOf h R (dd l) (.p y) H2 ∧ WkA (resAV (rs.map (resV (sGet o.s) (toH R' o.h)))) (.p y) ∧ H2.nx = (toH R h).nx ∧ ∀ i x, H2.get i = some x → (toH R' o.h).get i = some x ∧ ∃ o0, (toH R h).get i = some o0 ∧ (x = o0 ∨ x.pers = true) :=
              ⟨r1, y, toH R' h', ⟨_, mem_dd k5, R', hR', rfl, rfl⟩, by rw [r2, k3]; exact .refl _, g1, g2⟩
            rcases k1 with e | e <;> (rw [e]; exact this)
        · split at he
          · rename_i l hfl
            injection he with he; subst he
            have key : ∀ o ∈ outs, (o.x = .nrm ∨ o.x = .ret) ∧ resOK (sGet o.s) (hH o.h) rs = true ∧ (resAV (rs.map (resV (sGet o.s) (hH o.h))), o.h) ∈ l := by
              intro o ho
              obtain ⟨a, e1, e2⟩ := onL_ok hfl o ho
              obtain ⟨ox, os, oh⟩ := o
              have : ∀ x, (x = .nrm ∨ x = .ret) → finQ rs ⟨x, os, oh⟩ = some a → resOK (sGet os) (hH oh) rs = true ∧ (resAV (rs.map (resV (sGet os) (hH oh))), oh) ∈ l := by
                intro x hx e1
                have e1 : (bif resOK (sGet os) (hH oh) rs then some [(resAV (rs.map (resV (sGet os) (hH oh))), oh)] else none) = some a := by rcases hx with rfl | rfl <;> exact e1
                cases hr : resOK (sGet os) (hH oh) rs with
                | false => rw [hr] at e1; cases e1
                | true => rw [hr] at e1; injection e1 with e1; subst e1; exact ⟨rfl, e2 _ (by simp)⟩
              cases ox with
              | nrm => exact ⟨.inl rfl, this _ (.inl rfl) e1⟩
              | ret => exact ⟨.inr rfl, this _ (.inr rfl) e1⟩
              | ext id => cases e1
            have sub : ∀ {l : List (AV × Hp)} {o : AV × Hp}, o ∈ dd l → o ∈ l := by
              intro l
              induction l with
              | nil => intro o h; exact h
              | cons x l ih =>
                intro o h
                unfold dd at h
                cases l with
                | nil => exact h
                | cons y m =>
                  dsimp only at h
                  cases hc : (dd (y :: m)).any (fun y => sameA x.1 y.1 && sameH x.2 y.2) with
                  | true => rw [hc] at h; exact List.mem_cons_of_mem _ (ih h)
                  | false =>
                    rw [hc] at h
                    rcases List.mem_cons.1 h with rfl | h
                    · simp
                    · exact List.mem_cons_of_mem _ (ih h)
            refine ⟨fun q hq => ?_, fun R hR => hcall0 hm hl hlen fun _ => .inl ?_⟩
            · obtain ⟨o, ho, a, e1, e2⟩ := onL_mem hfl q (sub hq)
              obtain ⟨ox, os, oh⟩ := o
              obtain ⟨k1, k2, k3⟩ := key _ ho
              have : (bif resOK (sGet os) (hH oh) rs then some [(resAV (rs.map (resV (sGet os) (hH oh))), oh)] else none) = some a := by rcases k1 with h | h <;> (simp only at h; subst h; exact e1)
              simp only at k2
              rw [k2] at this
              injection this with this; subst this
              simp only [List.mem_singleton] at e2; subst e2
              exact h1 _ ho
            · rw [← padS_ok hpad]
              refine h2 R _ hR fun o ho R' hR' => ?_
              obtain ⟨k1, k2, k3⟩ := key o ho
              obtain ⟨r1, r2⟩ := res_ext (hH_sub R' o.h) k2
              have : resOK (sGet o.s) (toH R' o.h) rs = true ∧ ∃ r H2, OneOf h R (dd l) r H2 ∧ WkA (resAV (rs.map (resV (sGet o.s) (toH R' o.h)))) r ∧ H2.nx = (toH R' o.h).nx ∧ ∀ i x, H2.get i = some x → (toH R' o.h).get i = some x :=
                ⟨r1, _, toH R' o.h, ⟨_, mem_dd k3, R', hR', rfl, rfl⟩, by rw [r2]; exact .refl _, rfl, fun i x h => h⟩
              rcases k1 with e | e <;> (rw [e]; exact this)
          · cases he
      · cases he
  · cases he
end
end Bh
namespace Bh
open Go
section
variable {P : Program} {orc : Nat → List PV → Option PV} {code : Cod}
theorem enters_code {h : Hint} {f : FuncId} {x : AC × Nat × List (Nat × Option (Bool × Nat))} (hl : look1 P h f = some x) : Enters P f := by
  unfold look1 at hl
  split at hl
  · rename_i fn hf
    unfold lookF at hl
    split at hl
    · cases hl
    · rename_i hname
      split at hl
      · rename_i c hb
        exact enters_of hf (by simpa using hname) hb
      · cases hl
  · cases hl
def YldOK (P : Program) (Y : YS) (b : Nat) (R0 : Nat → Loop) (rc : RC) : Prop := ∀ i xs h os, b ≤ h.nx → rc.yld i xs h = some os → (∀ o ∈ os, h.nx ≤ o.2.nx) ∧ ∀ R, Ag b R0 R → Y i xs (toH R h) (OneOf h R os)
theorem yld_nil {Y : YS} {b : Nat} {R0 : Nat → Loop} (j : Nat) : YldOK P Y b R0 (run P orc code j .nil) := by
  intro i xs h os hb he
  cases j with
  | zero => cases he
  | succ j => cases he
theorem isLp_ok {st : LoopState} {e : Option EO} (h : isLp st e = true) : e = some (.lp st none) := by
  unfold isLp at h
  split at h
  · rw [sameS_ok h]
  · cases h
theorem isLp_get {st : LoopState} {h : Hp} {i : Nat} {R : Nat → Loop} (e : isLp st (h.at i) = true) : (toH R h).get i = some (.loop (R i) st none) := by
  simp only [toH]; rw [isLp_ok e]; rfl
theorem round_yld (hO : OrcOK P orc) {Y Y' : YS} {b : Nat} {R0 : Nat → Loop} {rc rcN : RC} (hrc : RCok P Y b R0 rc) (hN : RCok P noY b R0 rcN) {n i : Nat} {ps : List Nat} {x y : AC} {s s' : SL} {xs : List AV} {h : Hp} {l : List Out} {os : List (AV × Hp)}
    (hb : b ≤ h.nx) (hi : i < h.nx) (hr : isLp .ready (h.at i) = true) (hs : setL s ps xs = some s') (hl : ev P orc rc rcN n x s' h = some l) (ho : onL (midY P orc rc rcN n y i) l = some os) :
    (∀ o ∈ os, h.nx ≤ o.2.nx) ∧ ∀ R Rl, Ag b R0 R → R i = Rl →
      (∀ xs H1 Pt, xs.length = ps.length → H1.get i = some (.loop Rl .ready none) → awp P Y n x (setS (sGet s) ps xs) H1 (thenQ (fun s' H' => H'.get i = some (.loop Rl .ready none) ∧ awp P Y n y s' (H'.set i (.loop Rl .busy none)) (rndQ i Rl Pt)) noQ) → Y' i xs H1 Pt) →
      Y' i xs (toH R h) (OneOf h R os) := by
  obtain ⟨h1, h2⟩ := ev_ok hO hrc hN _ _ _ _ hb hl
  -- what comes of a round's second piece
  have mid : ∀ o ∈ l, ∃ hq l2, o.x = .nrm ∧ isLp .ready (o.h.at i) = true ∧ o.h.put i (some (.lp .busy none)) = some hq ∧ ev P orc rc rcN n y o.s hq = some l2 ∧ ∃ a, onL (endY i) l2 = some a ∧ (∀ z ∈ a, z ∈ os) := by
    intro o hol
    obtain ⟨a, e1, e2⟩ := onL_ok ho o hol
    obtain ⟨ox, oss, oh⟩ := o
    cases ox with
    | nrm =>
      simp only [midY] at e1
      cases hc : isLp .ready (oh.at i) with
      | false => rw [hc] at e1; cases e1
      | true =>
        rw [hc] at e1
        simp only [cond_true] at e1
        split at e1
        · rename_i hq hhq
          split at e1
          · rename_i l2 hl2
            exact ⟨hq, l2, rfl, rfl, hhq, hl2, a, e1, e2⟩
          · cases e1
        · cases e1
    | _ => cases e1
  have endY_ok : ∀ {o : Out} {a : List (AV × Hp)}, endY i o = some a → ∃ h', a = [(.p (.v (.bool (match o.x with | .nrm => true | _ => false))), h')] ∧ isLp .busy (o.h.at i) = true ∧ o.h.put i (some (match o.x with | .nrm => .lp .ready none | .ret => .lp .done (some .ret) | .ext id => .lp .done (some (.exit id)))) = some h' := by
    intro o a e
    obtain ⟨ox, oss, oh⟩ := o
    cases ox <;>
    · simp only [endY] at e
      cases hc : isLp .busy (oh.at i) with
      | false => rw [hc] at e; cases e
      | true =>
        rw [hc] at e
        simp only [cond_true] at e
        split at e
        · rename_i h' hh'
          injection e with e; subst e
          exact ⟨h', rfl, rfl, hh'⟩
        · cases e
  refine ⟨fun z hz => ?_, fun R Rl hR hRi hrule => ?_⟩
  · obtain ⟨o, hol, a, e1, e2⟩ := onL_mem ho z hz
    obtain ⟨hq, l2, k1, k2, k3, k4, a', k5, k6⟩ := mid o hol
    have : onL (endY i) l2 = some a := by
      obtain ⟨ox, oss, oh⟩ := o
      simp only at k1; subst k1
      simp only [midY] at e1
      simp only at k2 k3 k4
      rw [k2, k3] at e1
      simp only [cond_true] at e1
      rw [k4] at e1
      exact e1
    obtain ⟨o2, ho2, a2, f1, f2⟩ := onL_mem this z e2
    obtain ⟨h', rfl, g2, g3⟩ := endY_ok f1
    simp only [List.mem_singleton] at f2; subst f2
    have n1 := h1 o hol
    have n2 := (put_at k3).1
    have n3 := (ev_ok hO hrc hN _ _ _ _ (by rw [n2]; omega) k4).1 o2 ho2
    have n4 := (put_at g3).1
    simp only
    omega
  · refine hrule xs _ _ (setL_ok hs).2 (by rw [isLp_get hr, hRi]) ?_
    rw [← (setL_ok hs).1]
    refine h2 R _ hR fun o hol R1 hR1 => ?_
    obtain ⟨hq, l2, k1, k2, k3, k4, a, k5, k6⟩ := mid o hol
    have n1 := h1 o hol
    have n2 := (put_at k3).1
    have hR1i : R1 i = Rl := by rw [hR1 i hi, hRi]
    rw [k1]
    refine ⟨by rw [isLp_get k2, hR1i], ?_⟩
    have e1 : (toH R1 o.h).set i (.loop Rl .busy none) = toH R1 hq := by rw [toH_putL k3, hR1i]
    rw [e1]
    obtain ⟨m1, m2⟩ := ev_ok hO hrc hN _ _ _ _ (by rw [n2]; omega) k4
    refine m2 R1 _ (hR.trans hb hR1) fun o2 ho2 R2 hR2 => ?_
    have n3 := m1 o2 ho2
    have hR2i : R2 i = Rl := by rw [hR2 i (by omega), hR1i]
    have hag : Ag h.nx R R2 := hR1.trans (show h.nx ≤ hq.nx by omega) hR2
    obtain ⟨a2, f1, f2⟩ := onL_ok k5 o2 ho2
    obtain ⟨h', rfl, g2, g3⟩ := endY_ok f1
    have hmem := k6 _ (f2 _ (List.mem_singleton.2 rfl))
    have hget : (toH R2 o2.h).get i = some (.loop Rl .busy none) := by rw [isLp_get g2, hR2i]
    obtain ⟨ox, oss, oh⟩ := o2
    cases ox with
    | nrm => exact ⟨hget, _, hmem, R2, hag, rfl, by show _ = toH R2 h'; rw [toH_putL g3, hR2i]⟩
    | ret => exact ⟨hget, _, hmem, R2, hag, rfl, by show _ = toH R2 h'; rw [toH_putL g3, hR2i]⟩
    | ext id => exact ⟨hget, _, hmem, R2, hag, rfl, by show _ = toH R2 h'; rw [toH_putL g3, hR2i]⟩
theorem run_ok (hm : P.follows .mixedOrders = true) (hO : OrcOK P orc) (hC : CodOK P code) : ∀ (k : Nat) (env : Env) (Y : YS) (b : Nat) (R0 : Nat → Loop), (∀ j, j ≤ k → YldOK P Y b R0 (run P orc code j env)) → RCok P Y b R0 (run P orc code k env) := by
  intro k
  induction k using Nat.strongRecOn with
  | _ k ih =>
  intro env Y b R0 hy
  cases k with
  | zero => exact ⟨fun _ _ _ _ _ h => (nomatch h), fun _ _ _ _ _ h => (nomatch h), fun _ _ _ _ _ _ h => (nomatch h), fun _ _ _ _ _ _ _ _ _ h => (nomatch h)⟩
  | succ k =>
    have hE : ∀ j, j ≤ k → RCok P Y b R0 (run P orc code j env) := fun j hj => ih j (by omega) env Y b R0 fun j' hj' => hy j' (by omega)
    have hN : ∀ j, j ≤ k → ∀ b R0, RCok P noY b R0 (run P orc code j .nil) := fun j hj b R0 => ih j (by omega) .nil noY b R0 fun j' _ => yld_nil j'
    refine ⟨?_, fun i xs h os hb he => hy (k + 1) (Nat.le_refl _) i xs h os hb he, ?_, ?_⟩
    · intro f args h os hb he
      have direct : evCall P orc code (run P orc code k env) (run P orc code k .nil) f args h = some os → (∀ o ∈ os, h.nx ≤ o.2.nx) ∧ ∀ R, Ag b R0 R → HCall P Y f args (toH R h) (OneOf h R os) :=
        fun he => evCall_ok hm hO hC (hE k (Nat.le_refl _)) (hN k (Nat.le_refl _) b R0) hb he
      simp only [run] at he
      split at he
      · rename_i ps hps
        split at he
        · rename_i y hy'
          injection he with he; subst he
          refine ⟨fun o ho => by simp only [List.mem_singleton] at ho; subst ho; exact Nat.le_refl _, fun R hR => ?_⟩
          rw [allP_get hps]
          refine ((hO _ _ _ hy' (toH R h)).noY).post ?_
          rintro r H' ⟨rfl, rfl⟩
          exact ⟨(.p y, h), by simp, R, Ag.refl _ _, rfl, rfl⟩
        · exact direct he
      · exact direct he
    · intro n a s h os hb he
      refine ⟨?_, fun R Q hR hk => ?_⟩
      · simp only [run] at he
        split at he
        · rename_i l hl
          obtain ⟨h1, h2⟩ := ev_ok hO (hE k (Nat.le_refl _)) (hN k (Nat.le_refl _) b R0) _ _ _ _ hb hl
          intro o ho
          obtain ⟨q, hq, a', e1, e2⟩ := onL_mem he o ho
          have hq1 := h1 q hq
          split at e1
          · exact Nat.le_trans hq1 (((hE k (Nat.le_refl _)).loop _ _ _ _ _ (Nat.le_trans hb hq1) e1).1 o e2)
          · injection e1 with e1; subst e1
            simp only [List.mem_singleton] at e2; subst e2
            exact hq1
        · cases he
      · refine ⟨fun j s' H' => ∃ l h os R, j ≤ k + 1 ∧ b ≤ h.nx ∧ Ag b R0 R ∧ s' = sGet l ∧ H' = toH R h ∧ (run P orc code j env).loop n a l h = some os ∧ ∀ o ∈ os, ∀ R', Ag h.nx R R' → Q o.x.e (sGet o.s) (toH R' o.h), k + 1,
          ⟨s, h, os, R, Nat.le_refl _, hb, hR, rfl, rfl, he, hk⟩, ?_⟩
        rintro j s' H' ⟨l, h', os', R', hj, hb', hR', rfl, rfl, he', hk'⟩
        cases j with
        | zero => cases he'
        | succ j =>
          simp only [run] at he'
          split at he'
          · rename_i m hml
            obtain ⟨h1, h2⟩ := ev_ok hO (hE j (by omega)) (hN j (by omega) b R0) _ _ _ _ hb' hml
            refine h2 R' _ hR' fun o ho R'' hR'' => ?_
            obtain ⟨a', e1, e2⟩ := onL_ok he' o ho
            have hq1 := h1 o ho
            obtain ⟨ox, oss, oh⟩ := o
            cases ox with
            | nrm => exact ⟨j, Nat.lt_succ_self _, oss, oh, a', R'', by omega, Nat.le_trans hb' hq1, hR'.trans hb' hR'', rfl, rfl, e1, fun o ho R3 hR3 => hk' o (e2 o ho) R3 (hR''.trans hq1 hR3)⟩
            | ext id => injection e1 with e1; subst e1; exact hk' _ (e2 _ (by simp)) R'' hR''
            | ret => injection e1 with e1; subst e1; exact hk' _ (e2 _ (by simp)) R'' hR''
          · cases he'
    · intro n f ps x y s h os hb he
      simp only [run] at he
      cases hf : OkO n f with
      | false => rw [hf] at he; cases he
      | true =>
        rw [hf] at he
        simp only [cond_true] at he
        split at he
        · rename_i g caps hclo
          split at he
          · rename_i l hl
            -- the evaluator's loops and calls within the iterator
            have inner : ∀ (Y' : YS) (R : Nat → Loop) (Rl : Loop), Ag b R0 R → (∀ i xs H1 Pt, Y i xs H1 Pt → Y' i xs H1 Pt) →
                (∀ xs H1 Pt, xs.length = ps.length → H1.get h.nx = some (.loop Rl .ready none) → awp P Y n x (setS (sGet s) ps xs) H1 (thenQ (fun s' H' => H'.get h.nx = some (.loop Rl .ready none) ∧ awp P Y n y s' (H'.set h.nx (.loop Rl .busy none)) (rndQ h.nx Rl Pt)) noQ) → Y' h.nx xs H1 Pt) →
                RCok P Y' (h.nx + 1) (fun j => if j = h.nx then Rl else R j) (run P orc code k (.cons h.nx ps x y n s env env)) := by
              intro Y' R Rl hR hle hrule
              refine ih k (by omega) _ Y' _ _ fun j hj => ?_
              intro i xs hh os' hb' he'
              cases j with
              | zero => cases he'
              | succ j =>
                have hj' : j ≤ k := by omega
                cases hi : Nat.beq h.nx i with
                | true =>
                  have ei := Nat.eq_of_beq_eq_true hi
                  subst ei
                  simp only [run, Env.find, hi, cond_true] at he'
                  cases hlp : isLp .ready (hh.at h.nx) with
                  | false => rw [hlp] at he'; cases he'
                  | true =>
                    rw [hlp] at he'
                    simp only [cond_true] at he'
                    split at he'
                    · rename_i s' hs'
                      split at he'
                      · rename_i l1 hl1
                        obtain ⟨r1, r2⟩ := round_yld (Y' := Y') hO (hE j hj') (hN j hj' b R0) (show b ≤ hh.nx by omega) (show h.nx < hh.nx by omega) hlp hs' hl1 he'
                        refine ⟨r1, fun R3 hR3 => r2 R3 Rl (fun u hu => ?_) ?_ hrule⟩
                        · rw [hR3 u (by omega)]
                          show (if u = h.nx then Rl else R u) = _
                          rw [if_neg (by omega), hR u hu]
                        · rw [hR3 h.nx (by omega)]
                          show (if h.nx = h.nx then Rl else R h.nx) = _
                          rw [if_pos rfl]
                      · cases he'
                    · cases he'
                | false =>
                  have he2 : (run P orc code (j + 1) env).yld i xs hh = some os' := by
                    simp only [run, Env.find, hi, cond_false] at he' ⊢
                    exact he'
                  obtain ⟨k1, k2⟩ := hy (j + 1) (by omega) i xs hh os' (by omega) he2
                  refine ⟨k1, fun R3 hR3 => hle _ _ _ _ (k2 R3 fun u hu => ?_)⟩
                  rw [hR3 u (by omega)]
                  show (if u = h.nx then Rl else R u) = _
                  rw [if_neg (by omega), hR u hu]
            have endR_ok : ∀ {q : AV × Hp} {a : List Out}, endR s h.nx q = some a → ∃ st pd h', q.2.at h.nx = some (.lp st pd) ∧ st ≠ .busy ∧ q.2.put h.nx (some (.lp .exhausted pd)) = some h' ∧
                ((pd = none ∧ a = [⟨.nrm, s, h'⟩]) ∨ (pd = some .ret ∧ a = [⟨.ret, s, h'⟩]) ∨ ∃ id, pd = some (.exit id) ∧ a = [⟨.ext id, s, h'⟩]) := by
              intro q a e
              unfold endR at e
              split at e
              · cases e
              · rename_i st pd hst hat
                split at e
                · rename_i h' hh'
                  refine ⟨st, pd, h', hat, fun eb => ?_, hh', ?_⟩
                  · exact hst eb
                  · split at e
                    · injection e with e; subst e; exact .inl ⟨rfl, rfl⟩
                    · injection e with e; subst e; exact .inr (.inl ⟨rfl, rfl⟩)
                    · injection e with e; subst e; exact .inr (.inr ⟨_, rfl, rfl⟩)
                    · cases e
                · cases e
              · cases e
            have mono : ∀ q ∈ l, h.nx + 1 ≤ q.2.nx := (evCall_ok hm hO hC (inner (fun _ _ _ _ => True) R0 (R0 0) (Ag.refl _ _) (fun _ _ _ _ _ => trivial) (fun _ _ _ _ _ _ => trivial)) (hN k (Nat.le_refl _) _ _) (show h.nx + 1 ≤ (h.new (some (.lp .ready none))).nx from Nat.le_refl _) hl).1
            refine ⟨fun o ho => ?_, fun R Q hR hk => ?_⟩
            · obtain ⟨q, hq, a, e1, e2⟩ := onL_mem he o ho
              obtain ⟨st, pd, h', k1, k2, k3, k4⟩ := endR_ok e1
              have n1 := mono q hq
              have n2 := (put_at k3).1
              rcases k4 with ⟨_, rfl⟩ | ⟨_, rfl⟩ | ⟨id, _, rfl⟩ <;>
              · simp only [List.mem_singleton] at e2; subst e2
                simp only
                omega
            · refine ⟨hf, g, caps, hclo, ?_, fun Rl => ⟨OneOf (h.new (some (.lp .ready none))) (fun j => if j = h.nx then Rl else R j) l, fun Y' hle hrule => ?_, ?_⟩⟩
              · unfold evCall at hl
                split at hl
                · rename_i ac n' rs hc
                  obtain ⟨hint, hl'⟩ := hC _ _ hc
                  exact enters_code hl'
                · cases hl
              · have e1 : toH (fun j => if j = h.nx then Rl else R j) (h.new (some (.lp .ready none))) = (toH R h).new (.loop Rl .ready none) := by
                  rw [toH_newL, toH_ag (R := R) (R' := fun j => if j = h.nx then Rl else R j) (fun i hi => by show (if i = h.nx then Rl else R i) = R i; rw [if_neg (by omega)])]
                  simp only [if_true]
                have := (evCall_ok hm hO hC (inner Y' R Rl hR hle hrule) (hN k (Nat.le_refl _) _ _) (show h.nx + 1 ≤ (h.new (some (.lp .ready none))).nx from Nat.le_refl _) hl).2 _ (Ag.refl _ _)
                rw [e1] at this
                exact this
              · rintro r H3 ⟨q, hq, R3, hR3, rfl, rfl⟩
                obtain ⟨a, e1, e2⟩ := onL_ok he q hq
                obtain ⟨st, pd, h', k1, k2, k3, k4⟩ := endR_ok e1
                have hRl : R3 h.nx = Rl := by
                  rw [hR3 h.nx (Nat.lt_succ_self _)]
                  show (if h.nx = h.nx then Rl else R h.nx) = _
                  rw [if_pos rfl]
                have hag : Ag h.nx R R3 := fun u hu => by
                  rw [hR3 u (Nat.lt_succ_of_lt hu)]
                  show (if u = h.nx then Rl else R u) = _
                  rw [if_neg (by omega)]
                refine ⟨st, pd, ?_, k2, ?_⟩
                · show eoR (R3 h.nx) (q.2.at h.nx) = _
                  rw [k1, hRl]; rfl
                · have e3 : (toH R3 q.2).set (toH R h).nx (.loop Rl .exhausted pd) = toH R3 h' := by rw [toH_putL k3, hRl]; rfl
                  rw [e3]
                  rcases k4 with ⟨rfl, rfl⟩ | ⟨rfl, rfl⟩ | ⟨id, rfl, rfl⟩
                  · exact hk ⟨.nrm, s, h'⟩ (e2 _ (List.mem_singleton.2 rfl)) R3 hag
                  · exact hk ⟨.ret, s, h'⟩ (e2 _ (List.mem_singleton.2 rfl)) R3 hag
                  · exact hk ⟨.ext id, s, h'⟩ (e2 _ (List.mem_singleton.2 rfl)) R3 hag
          · cases he
        · cases he
def mt : Hp := ⟨0, []⟩
def lone : List (AV × Hp) → Option PV
  | [(.p y, _)] => some y
  | _ => none
noncomputable def runAt (P : Program) (orc : Nat → List PV → Option PV) (code : Cod) (k f : Nat) (args : List PV) : Option PV := match (run P orc code k .nil).call f (args.map .p) mt with
  | some l => lone l
  | none => none
theorem hcall_run (hm : P.follows .mixedOrders = true) (hO : OrcOK P orc) (hC : CodOK P code) {k f : Nat} {args : List PV} {y : PV} (h : runAt P orc code k f args = some y) {Y : YS} (H : AHeap) :
    HCall P Y f (args.map .p) H fun r H' => r = .p y ∧ H' = ⟨fun _ => none, H.nx⟩ := by
  unfold runAt at h
  split at h
  · rename_i l hl
    have hl2 : ∃ h', l = [(.p y, h')] := by
      unfold lone at h
      split at h
      · injection h with h; subst h; exact ⟨_, rfl⟩
      · cases h
    obtain ⟨h', rfl⟩ := hl2
    have R0 : Nat → Loop := fun _ => default
    have hk := ((run_ok hm hO hC k .nil noY 0 R0 (fun j _ => yld_nil j)).call f _ mt _ (Nat.le_refl _) hl).2 R0 (Ag.refl _ _)
    refine ⟨hk.1, fun γ Per w vs hY hH hv => ?_⟩
    have hH0 : HRep (fun _ => none) Per (toH R0 mt) w := {
      obj := fun i o hi => by simp only [toH] at hi; rw [at_ge (show ¬ i < mt.nx from Nat.not_lt_zero i)] at hi; cases hi
      lt := fun i v hi => by cases hi
      own := fun i o v b h1 h2 => by cases h2
      inj := fun i j o o' v v' b h1 h2 h3 => by cases h3
      per := hH.per
      glob := hH.glob }
    refine (hk.2 (fun _ => none) Per w vs (oky_no _ _ _ _) hH0 hv.ps.ar).mono ?_
    rintro e w' ⟨v, r, H', γ', Per', h1, ⟨o, ho, R', _, rfl, rfl⟩, h3, h4, h5⟩
    simp only [List.mem_singleton] at ho; subst ho
    refine ⟨v, .p y, ⟨fun _ => none, H.nx⟩, γ, Per', h1, ⟨rfl, rfl⟩, .p _ _ h3.pv, ?_, ⟨fun _ _ h => h, h5.per, h5.heap, h5.size, h5.os, h5.tape, h5.output⟩⟩
    exact {
      obj := fun i o hi => by cases hi
      lt := hH.lt
      own := fun i o v b h1 h2 => by cases h1
      inj := fun i j o o' v v' b h1 h2 h3 => by cases h1
      per := h4.per
      glob := h4.glob }
  · cases h
end
end Bh
namespace Bh
open Go
def W32 : Nat := 4294967296
def natD (x : Nat) : List Nat := if h : x = 0 then [] else x % W32 :: natD (x / W32)
termination_by x
decreasing_by exact Nat.div_lt_self (by omega) (by decide)
def val : List Nat → Nat
  | [] => 0
  | d :: ds => d + W32 * val ds
theorem natD_0 : natD 0 = [] := by rw [natD]; simp
theorem natD_pos {x : Nat} (h : x ≠ 0) : natD x = x % W32 :: natD (x / W32) := by rw [natD]; simp [h]
theorem val_natD (x : Nat) : val (natD x) = x := by
  induction x using Nat.strongRecOn with
  | _ x ih =>
    by_cases h : x = 0
    · subst h; rw [natD_0]; rfl
    · rw [natD_pos h, val, ih _ (Nat.div_lt_self (by omega) (by decide))]
      exact Nat.mod_add_div x W32
theorem natD_lt (x : Nat) : ∀ d ∈ natD x, d < W32 := by
  induction x using Nat.strongRecOn with
  | _ x ih =>
    by_cases h : x = 0
    · subst h; rw [natD_0]; simp
    · rw [natD_pos h]
      intro d hd
      rcases List.mem_cons.1 hd with hd | hd
      · subst hd; exact Nat.mod_lt _ (by decide)
      · exact ih _ (Nat.div_lt_self (by omega) (by decide)) d hd
theorem val_append (a b : List Nat) : val (a ++ b) = val a + W32 ^ a.length * val b := by
  induction a with
  | nil => simp [val]
  | cons x a ih =>
    simp only [List.cons_append, val, ih, List.length_cons, Nat.pow_succ]
    rw [Nat.mul_add, ← Nat.add_assoc, ← Nat.mul_assoc, Nat.mul_comm W32 (W32 ^ a.length)]
theorem val_lt : ∀ {ds : List Nat}, (∀ d ∈ ds, d < W32) → val ds < W32 ^ ds.length
  | [], _ => by simp [val]
  | d :: ds, h => by
    have h1 := h d (by simp)
    have h2 := val_lt (ds := ds) fun e he => h e (by simp [he])
    simp only [val, List.length_cons, Nat.pow_succ]
    have : W32 * (val ds + 1) ≤ W32 * W32 ^ ds.length := Nat.mul_le_mul_left _ h2
    rw [Nat.mul_add] at this
    rw [Nat.mul_comm (W32 ^ ds.length)]
    omega
theorem natD_val : ∀ {ds : List Nat}, (∀ d ∈ ds, d < W32) → (∀ d, ds.getLast? = some d → d ≠ 0) → natD (val ds) = ds
  | [], _, _ => natD_0
  | d :: ds, h, hl => by
    have h1 := h d (by simp)
    have hds : natD (val ds) = ds := natD_val (fun e he => h e (by simp [he])) (fun e he => hl e (by
      cases ds with
      | nil => simp at he
      | cons a l => rw [List.getLast?_cons_cons]; exact he))
    have hne : val (d :: ds) ≠ 0 := by
      simp only [val]
      cases ds with
      | nil =>
        have := hl d (by simp)
        omega
      | cons a l =>
        intro e
        have h0 : val (a :: l) = 0 := by
          have : W32 * val (a :: l) = 0 := by omega
          rcases Nat.mul_eq_zero.1 this with h | h
          · simp [W32] at h
          · exact h
        rw [h0, natD_0] at hds
        cases hds
    rw [natD_pos hne]
    simp only [val]
    have e1 : (d + W32 * val ds) % W32 = d := by rw [Nat.add_mul_mod_self_left]; exact Nat.mod_eq_of_lt h1
    have e2 : (d + W32 * val ds) / W32 = val ds := by
      rw [Nat.add_mul_div_left _ _ (by decide), Nat.div_eq_of_lt h1, Nat.zero_add]
    rw [e1, e2, hds]
theorem natD_last (x : Nat) : ∀ d, (natD x).getLast? = some d → d ≠ 0 := by
  induction x using Nat.strongRecOn with
  | _ x ih =>
    by_cases h : x = 0
    · subst h; rw [natD_0]; simp
    · rw [natD_pos h]
      intro d hd
      by_cases h2 : x / W32 = 0
      · rw [h2, natD_0] at hd
        simp at hd
        subst hd
        have hlt : x < W32 := by
          rcases Nat.lt_or_ge x W32 with h | h
          · exact h
          · have := Nat.div_pos h (by decide : 0 < W32); omega
        rw [Nat.mod_eq_of_lt hlt]; exact h
      · have hne := natD_pos h2
        rw [hne, List.getLast?_cons_cons, ← hne] at hd
        exact ih _ (Nat.div_lt_self (by omega) (by decide)) d hd
theorem natD_len {x k : Nat} : (natD x).length ≤ k ↔ x < W32 ^ k := by
  constructor
  · intro h
    have h1 := val_lt (natD_lt x)
    rw [val_natD] at h1
    exact Nat.lt_of_lt_of_le h1 (Nat.pow_le_pow_right (by decide) h)
  · intro h
    induction k generalizing x with
    | zero => have : x = 0 := by simpa using h
              subst this; rw [natD_0]; simp
    | succ k ih =>
      by_cases h0 : x = 0
      · subst h0; rw [natD_0]; simp
      · rw [natD_pos h0, List.length_cons]
        have : x / W32 < W32 ^ k := by
          rw [Nat.div_lt_iff_lt_mul (by decide)]
          rw [Nat.pow_succ] at h; exact h
        have := ih this
        omega
def nv (x : Nat) : PV := .sl ((natD x).map fun d => .v (.int .u32 (d : Nat)))
def cmpI (x y : Nat) : Int := if x < y then -1 else if x = y then 0 else 1
theorem cmp_len {x y : Nat} (h : (natD x).length < (natD y).length) : x < y := by
  rcases Nat.lt_or_ge x y with h1 | h1
  · exact h1
  · exfalso
    have h2 := natD_len.1 (Nat.le_refl (natD x).length)
    have h3 : y < W32 ^ (natD x).length := Nat.lt_of_le_of_lt h1 h2
    have := natD_len.2 h3
    omega
theorem cmp_dig {a b : List Nat} (hl : a.length = b.length) (ha : ∀ d ∈ a, d < W32) (hb : ∀ d ∈ b, d < W32) {k : Nat} (hk : k < a.length) (hk' : k < b.length) (hd : a.drop (k + 1) = b.drop (k + 1)) (h : a[k] < b[k]) : val a < val b := by
  have e1 : a = a.take k ++ a[k] :: a.drop (k + 1) := by rw [← List.drop_eq_getElem_cons hk, List.take_append_drop]
  have e2 : b = b.take k ++ b[k] :: b.drop (k + 1) := by rw [← List.drop_eq_getElem_cons hk', List.take_append_drop]
  rw [e1, e2, val_append, val_append, hd]
  simp only [val]
  have l1 : (a.take k).length = k := by simp; omega
  have l2 : (b.take k).length = k := by simp; omega
  rw [l1, l2]
  have v1 : val (a.take k) < W32 ^ k := by have := val_lt (ds := a.take k) fun d hd => ha d (List.mem_of_mem_take hd); rwa [l1] at this
  have : W32 ^ k * (a[k] + W32 * val (b.drop (k + 1)) + 1) ≤ W32 ^ k * (b[k] + W32 * val (b.drop (k + 1))) := Nat.mul_le_mul_left _ (by omega)
  rw [Nat.mul_add] at this
  omega
def dg (ds : List Nat) (i : Nat) : Nat := ds.getD i 0
theorem val_take (ds : List Nat) (i : Nat) : val (ds.take (i + 1)) = val (ds.take i) + W32 ^ i * dg ds i := by
  by_cases h : i < ds.length
  · rw [List.take_succ_eq_append_getElem h, val_append]
    have : (ds.take i).length = i := by simp; omega
    rw [this]; simp [val, dg, h]
  · have h' : ds.length ≤ i := by omega
    rw [List.take_of_length_le h', List.take_of_length_le (by omega)]
    simp [dg, h']
theorem dg_lt {ds : List Nat} (h : ∀ d ∈ ds, d < W32) (i : Nat) : dg ds i < W32 := by
  unfold dg
  rw [List.getD_eq_getElem?_getD]
  cases e : ds[i]? with
  | none => simp [W32]
  | some d => simpa using h d (List.mem_of_getElem? e)
theorem val_set {l : List Nat} {i : Nat} (h : i < l.length) (d : Nat) : val ((l.set i d).take (i + 1)) = val (l.take i) + W32 ^ i * d := by
  rw [val_take, List.take_set_of_le (Nat.le_refl i)]
  congr 2
  simp [dg, h]
structure AddI (a b l : List Nat) (i c m : Nat) : Prop where
  len : l.length = m
  dig : ∀ d ∈ l, d < W32
  c1 : c ≤ 1
  eq : val (l.take i) + W32 ^ i * c = val (a.take i) + val (b.take i)
theorem AddI.step {a b l : List Nat} {i c m : Nat} (h : AddI a b l i c m) (hi : i < m) (ha : ∀ d ∈ a, d < W32) (hb : ∀ d ∈ b, d < W32) : AddI a b (l.set i ((c + dg a i + dg b i) % W32)) (i + 1) ((c + dg a i + dg b i) / W32) m := by
  have h1 := dg_lt ha i
  have h2 := dg_lt hb i
  have h3 := h.c1
  refine ⟨by simp [h.len], fun d hd => ?_, ?_, ?_⟩
  · rcases List.mem_or_eq_of_mem_set hd with hd | hd
    · exact h.dig d hd
    · subst hd; exact Nat.mod_lt _ (by decide)
  · have : c + dg a i + dg b i < 2 * W32 := by omega
    have := Nat.div_lt_of_lt_mul (show c + dg a i + dg b i < W32 * 2 by omega)
    omega
  · rw [val_set (by rw [h.len]; exact hi), val_take a, val_take b, Nat.pow_succ]
    have e := h.eq
    have hm := Nat.mod_add_div (c + dg a i + dg b i) W32
    have : W32 ^ i * ((c + dg a i + dg b i) % W32) + W32 ^ i * W32 * ((c + dg a i + dg b i) / W32) = W32 ^ i * c + W32 ^ i * dg a i + W32 ^ i * dg b i := by
      rw [Nat.mul_assoc, ← Nat.mul_add, hm, Nat.mul_add, Nat.mul_add]
    omega
theorem done_arith {B W x y v c : Nat} (hx : x < B) (hy : y < B) (two : 2 ≤ W) (e : v + B * W * c = x + y) : v = x + y := by
  rcases Nat.eq_zero_or_pos c with h0 | h0
  · subst h0; simpa using e
  · exfalso
    have h1 : B * W * 1 ≤ B * W * c := Nat.mul_le_mul_left _ h0
    have h2 : B * 2 ≤ B * W := Nat.mul_le_mul_left _ two
    omega
theorem two_W32 : 2 ≤ W32 := by unfold W32; omega
theorem AddI.done {x y k : Nat} {l : List Nat} {c : Nat} (h : AddI (natD x) (natD y) l (k + 1) c (k + 1)) (hx : (natD x).length ≤ k) (hy : (natD y).length ≤ k) : val l = x + y := by
  have e := h.eq
  rw [List.take_of_length_le (Nat.le_of_eq h.len), List.take_of_length_le (Nat.le_succ_of_le hx), List.take_of_length_le (Nat.le_succ_of_le hy), val_natD, val_natD, Nat.pow_succ] at e
  exact done_arith (natD_len.1 hx) (natD_len.1 hy) two_W32 e
theorem AddI.init (a b : List Nat) (m : Nat) : AddI a b (List.replicate m 0) 0 0 m := by
  refine ⟨by simp, fun d hd => ?_, by omega, by simp [val]⟩
  have := List.eq_of_mem_replicate hd
  subst this; simp [W32]
end Bh
namespace Bh
open Go Go.Proofs
theorem mixed : Tryz.prog.follows .mixedOrders = true := by kernel_rfl
def c169 : AC := (.seq (.ops [.op ⟨some 2, none, .mv, [.const (.slice none 0 0)]⟩]) (.seq (.seq (.ops [.op ⟨some 3, none, .mv, [.tmp 0]⟩, .op ⟨some 4, none, (.eqn false), [.tmp 3]⟩]) (.cond (.tmp 4) (.seq (.ops [.op ⟨some 2, none, .mv, [.const (.slice none 0 0)]⟩]) .ret) .skip)) (.seq (.ops [.op ⟨some 5, none, (.bsl true 171 1), []⟩, .op ⟨some 6, none, .mv, [.tmp 0]⟩, .op ⟨some 7, none, .app 171 1 4, [.tmp 5, .tmp 6]⟩, .op ⟨some 2, none, .mv, [.tmp 7]⟩, (.gh (.frz 2))]) .ret)))
theorem k169 : look1 Tryz.prog ⟨[5], [], [], [], [], [(3, 4, .frz 2)]⟩ 169 = some (c169, 8, [(2, none)]) := by kernel_rfl
def c122 : AC := (.seq (.ops [.op ⟨some 2, none, .mv, [.const (.slice none 0 0)]⟩]) (.seq (.seq (.ops [.op ⟨some 3, none, .mv, [.tmp 0]⟩, .op ⟨some 4, none, (.eqn false), [.tmp 3]⟩]) (.cond (.tmp 4) (.seq (.ops [.op ⟨some 2, none, .mv, [.const (.slice none 0 0)]⟩]) .ret) .skip)) (.seq (.ops [.op ⟨some 5, none, (.bsl true 171 1), []⟩, .op ⟨some 6, none, .mv, [.tmp 0]⟩, .op ⟨some 7, none, .app 171 1 4, [.tmp 5, .tmp 6]⟩, .op ⟨some 2, none, .mv, [.tmp 7]⟩, (.gh (.frz 2))]) .ret)))
theorem k122 : look1 Tryz.prog ⟨[5], [], [], [], [], [(3, 4, .frz 2)]⟩ 122 = some (c122, 8, [(2, none)]) := by kernel_rfl
def c122h : AC := (.seq (.ops [.op ⟨some 2, none, .mv, [.const (.slice none 0 0)]⟩]) (.seq (.seq (.ops [.op ⟨some 3, none, .mv, [.tmp 0]⟩, .op ⟨some 4, none, (.eqn false), [.tmp 3]⟩]) (.cond (.tmp 4) (.seq (.ops [.op ⟨some 2, none, .mv, [.const (.slice none 0 0)]⟩, (.gh (.nilr 2 171 1))]) .ret) .skip)) (.seq (.ops [.op ⟨some 5, none, (.bsl true 171 1), []⟩, .op ⟨some 6, none, .mv, [.tmp 0]⟩, .op ⟨some 7, none, .app 171 1 4, [.tmp 5, .tmp 6]⟩, .op ⟨some 2, none, .mv, [.tmp 7]⟩]) .ret)))
theorem k122h : look1 Tryz.prog ⟨[5], [], [], [], [], [(2, 1, .nilr 2 171 1)]⟩ 122 = some (c122h, 8, [(2, none)]) := by kernel_rfl
def c126l0 : AC := (.seq (.seq (.ops [.op ⟨some 6, none, .mv, [.tmp 3]⟩, .op ⟨some 7, none, .bin .gtr, [.tmp 6, .const (.int .i64 0)]⟩, .op ⟨some 8, none, .mv, [.tmp 7]⟩, .op ⟨some 9, (some (8, true)), .mv, [.tmp 0]⟩, .op ⟨some 10, (some (8, true)), .mv, [.tmp 3]⟩, .op ⟨some 11, (some (8, true)), .bin .sub, [.tmp 10, .const (.int .i64 1)]⟩, .op ⟨some 12, (some (8, true)), (.idx 1), [.tmp 9, .tmp 11]⟩, .op ⟨some 13, (some (8, true)), .load false 1, [.tmp 12]⟩, .op ⟨some 14, (some (8, true)), .bin .eql, [.tmp 13, .const (.int .u32 0)]⟩, .op ⟨some 15, none, .pick, [.tmp 8, .tmp 14, .const (.bool false)]⟩]) (.cond (.tmp 15) .skip (.exit 0))) (.block 1 (.ops [.op ⟨some 16, none, .mv, [.tmp 3]⟩, .op ⟨some 17, none, .bin .sub, [.tmp 16, .const (.int .i64 1)]⟩, .op ⟨some 3, none, .mv, [.tmp 17]⟩])))
def c126 : AC := (.seq (.ops [.op ⟨some 2, none, .mv, [.const (.slice none 0 0)]⟩]) (.seq (.ops [.op ⟨some 4, none, .mv, [.tmp 0]⟩, .op ⟨some 5, none, .len false, [.tmp 4]⟩, .op ⟨some 3, none, .mv, [.tmp 5]⟩]) (.seq (.block 0 (.loop c126l0)) (.seq (.ops [.op ⟨some 18, none, .mv, [.tmp 0]⟩, .op ⟨some 19, none, .mv, [.tmp 3]⟩, .op ⟨some 20, none, .slice 1 false true, [.tmp 18, .tmp 19]⟩, .op ⟨some 21, none, .call false, [.func 169, .tmp 20]⟩, .op ⟨some 2, none, .mv, [.tmp 21]⟩]) .ret))))
theorem k126 : look1 Tryz.prog ⟨[], [], [], [], [], []⟩ 126 = some (c126, 22, [(2, none)]) := by kernel_rfl
def c121 : AC := (.seq (.ops [.op ⟨some 2, none, .mv, [.const (.slice none 0 0)]⟩]) (.seq (.ops [.op ⟨some 3, none, .mv, [.tmp 0]⟩, .op ⟨some 4, none, .conv .u32, [.tmp 3]⟩, .op ⟨some 5, none, .mv, [.tmp 0]⟩, .op ⟨some 6, none, .bin .shr, [.tmp 5, .const (.int .u64 32)]⟩, .op ⟨some 7, none, .conv .u32, [.tmp 6]⟩, .op ⟨some 8, none, (.bsl false 171 1), [.tmp 4, .tmp 7]⟩, .op ⟨some 9, none, .call false, [.func 126, .tmp 8]⟩, .op ⟨some 2, none, .mv, [.tmp 9]⟩]) .ret))
theorem k121 : look1 Tryz.prog ⟨[], [], [], [], [], []⟩ 121 = some (c121, 10, [(2, none)]) := by kernel_rfl
def c123l0 : AC := (.seq (.seq (.ops [.op ⟨some 19, none, .mv, [.tmp 5]⟩, .op ⟨some 20, none, .bin .geq, [.tmp 19, .const (.int .i64 0)]⟩]) (.cond (.tmp 20) .skip (.exit 0))) (.seq (.block 1 (.seq (.draw [⟨some 23, none, .mv, [.tmp 0]⟩, ⟨some 24, none, .mv, [.tmp 5]⟩, ⟨some 25, none, (.idx 1), [.tmp 23, .tmp 24]⟩, ⟨some 26, none, .load false 1, [.tmp 25]⟩, ⟨some 27, none, .mv, [.tmp 1]⟩, ⟨some 28, none, .mv, [.tmp 5]⟩, ⟨some 29, none, (.idx 1), [.tmp 27, .tmp 28]⟩, ⟨some 30, none, .load false 1, [.tmp 29]⟩, ⟨some 31, none, .bin .neq, [.tmp 26, .tmp 30]⟩]) (.cond (.tmp 31) (.seq (.seq (.draw [⟨some 32, none, .mv, [.tmp 0]⟩, ⟨some 33, none, .mv, [.tmp 5]⟩, ⟨some 34, none, (.idx 1), [.tmp 32, .tmp 33]⟩, ⟨some 35, none, .load false 1, [.tmp 34]⟩, ⟨some 36, none, .mv, [.tmp 1]⟩, ⟨some 37, none, .mv, [.tmp 5]⟩, ⟨some 38, none, (.idx 1), [.tmp 36, .tmp 37]⟩, ⟨some 39, none, .load false 1, [.tmp 38]⟩, ⟨some 40, none, .bin .lss, [.tmp 35, .tmp 39]⟩]) (.cond (.tmp 40) (.seq (.ops [.op ⟨some 4, none, .mv, [(.const (.int .i64 (-1)))]⟩]) .ret) .skip)) (.seq (.ops [.op ⟨some 4, none, .mv, [.const (.int .i64 1)]⟩]) .ret)) .skip))) (.ops [.op ⟨some 21, none, .mv, [.tmp 5]⟩, .op ⟨some 22, none, .bin .sub, [.tmp 21, .const (.int .i64 1)]⟩, .op ⟨some 5, none, .mv, [.tmp 22]⟩])))
def c123 : AC := (.seq (.ops [.op ⟨some 4, none, .mv, [.const (.int .i64 0)]⟩]) (.seq (.seq (.ops [.op ⟨some 6, none, .mv, [.tmp 0]⟩, .op ⟨some 7, none, .len false, [.tmp 6]⟩, .op ⟨some 8, none, .mv, [.tmp 1]⟩, .op ⟨some 9, none, .len false, [.tmp 8]⟩, .op ⟨some 10, none, .bin .neq, [.tmp 7, .tmp 9]⟩]) (.cond (.tmp 10) (.seq (.seq (.ops [.op ⟨some 11, none, .mv, [.tmp 0]⟩, .op ⟨some 12, none, .len false, [.tmp 11]⟩, .op ⟨some 13, none, .mv, [.tmp 1]⟩, .op ⟨some 14, none, .len false, [.tmp 13]⟩, .op ⟨some 15, none, .bin .lss, [.tmp 12, .tmp 14]⟩]) (.cond (.tmp 15) (.seq (.ops [.op ⟨some 4, none, .mv, [(.const (.int .i64 (-1)))]⟩]) .ret) .skip)) (.seq (.ops [.op ⟨some 4, none, .mv, [.const (.int .i64 1)]⟩]) .ret)) .skip)) (.seq (.seq (.ops [.op ⟨some 16, none, .mv, [.tmp 0]⟩, .op ⟨some 17, none, .len false, [.tmp 16]⟩, .op ⟨some 18, none, .bin .sub, [.tmp 17, .const (.int .i64 1)]⟩, .op ⟨some 5, none, .mv, [.tmp 18]⟩]) (.block 0 (.loop c123l0))) (.seq (.ops [.op ⟨some 4, none, .mv, [.const (.int .i64 0)]⟩]) .ret))))
theorem k123 : look1 Tryz.prog ⟨[], [], [], [], [], []⟩ 123 = some (c123, 41, [(4, none)]) := by kernel_rfl
def c129l0 : AC := (.seq (.ops [.op ⟨some 18, none, .bin .lss, [.tmp 17, .tmp 16]⟩]) (.seq (.cond (.tmp 18) .skip (.exit 0)) (.seq (.block 1 (.seq (.ops [.op ⟨some 19, none, .mv, [.tmp 17]⟩, .op ⟨some 7, none, .mv, [.tmp 19]⟩]) (.seq (.seq (.ops [.op ⟨some 20, none, .mv, [.tmp 7]⟩, .op ⟨some 21, none, .mv, [.tmp 0]⟩, .op ⟨some 22, none, .len false, [.tmp 21]⟩, .op ⟨some 23, none, .bin .lss, [.tmp 20, .tmp 22]⟩]) (.cond (.tmp 23) (.ops [.op ⟨some 24, none, .mv, [.tmp 6]⟩, .op ⟨some 25, none, .mv, [.tmp 0]⟩, .op ⟨some 26, none, .mv, [.tmp 7]⟩, .op ⟨some 27, none, (.idx 1), [.tmp 25, .tmp 26]⟩, .op ⟨some 28, none, .load false 1, [.tmp 27]⟩, .op ⟨some 29, none, .conv .u64, [.tmp 28]⟩, .op ⟨some 30, none, .bin .add, [.tmp 24, .tmp 29]⟩, .op ⟨some 6, none, .mv, [.tmp 30]⟩]) .skip)) (.seq (.seq (.ops [.op ⟨some 31, none, .mv, [.tmp 7]⟩, .op ⟨some 32, none, .mv, [.tmp 1]⟩, .op ⟨some 33, none, .len false, [.tmp 32]⟩, .op ⟨some 34, none, .bin .lss, [.tmp 31, .tmp 33]⟩]) (.cond (.tmp 34) (.ops [.op ⟨some 35, none, .mv, [.tmp 6]⟩, .op ⟨some 36, none, .mv, [.tmp 1]⟩, .op ⟨some 37, none, .mv, [.tmp 7]⟩, .op ⟨some 38, none, (.idx 1), [.tmp 36, .tmp 37]⟩, .op ⟨some 39, none, .load false 1, [.tmp 38]⟩, .op ⟨some 40, none, .conv .u64, [.tmp 39]⟩, .op ⟨some 41, none, .bin .add, [.tmp 35, .tmp 40]⟩, .op ⟨some 6, none, .mv, [.tmp 41]⟩]) .skip)) (.seq (.ops [.op ⟨some 42, none, .mv, [.tmp 5]⟩, .op ⟨some 43, none, .mv, [.tmp 7]⟩, .op ⟨some 44, none, .mv, [.tmp 6]⟩, .op ⟨some 45, none, .conv .u32, [.tmp 44]⟩, .op ⟨some 46, none, (.idx 1), [.tmp 42, .tmp 43]⟩, .op ⟨none, none, .store 1, [.tmp 46, .tmp 45]⟩]) (.ops [.op ⟨some 47, none, .mv, [.tmp 6]⟩, .op ⟨some 48, none, .bin .shr, [.tmp 47, .const (.int .u64 32)]⟩, .op ⟨some 6, none, .mv, [.tmp 48]⟩])))))) (.ops [.op ⟨some 49, none, .bin .add, [.tmp 17, .const (.int .i64 1)]⟩, .op ⟨some 17, none, .mv, [.tmp 49]⟩]))))
def c129 : AC := (.seq (.ops [.op ⟨some 4, none, .mv, [.const (.slice none 0 0)]⟩]) (.seq (.ops [.op ⟨some 8, none, .mv, [.tmp 0]⟩, .op ⟨some 9, none, .len false, [.tmp 8]⟩, .op ⟨some 10, none, .mv, [.tmp 1]⟩, .op ⟨some 11, none, .len false, [.tmp 10]⟩, .op ⟨some 12, none, .mx, [.tmp 9, .tmp 11]⟩, .op ⟨some 13, none, .bin .add, [.tmp 12, .const (.int .i64 1)]⟩, .op ⟨some 14, none, (.mks 171 1 4), [.tmp 13, .tmp 13]⟩, .op ⟨some 5, none, .mv, [.tmp 14]⟩]) (.seq (.ops [.op ⟨some 6, none, .mv, [.const (.int .u64 0)]⟩]) (.seq (.seq (.ops [.op ⟨some 15, none, .mv, [.tmp 5]⟩, .op ⟨some 16, none, .len false, [.tmp 15]⟩, .op ⟨some 17, none, .mv, [.const (.int .i64 0)]⟩]) (.block 0 (.loop c129l0))) (.seq (.ops [(.gh (.frz 5)), .op ⟨some 50, none, .mv, [.tmp 5]⟩, .op ⟨some 51, none, .call false, [.func 126, .tmp 50]⟩, .op ⟨some 4, none, .mv, [.tmp 51]⟩]) .ret)))))
theorem k129 : look1 Tryz.prog ⟨[], [], [], [], [], [(13, 0, .frz 5)]⟩ 129 = some (c129, 52, [(4, none)]) := by kernel_rfl
def c130l0 : AC := (.seq (.ops [.op ⟨some 15, none, .bin .lss, [.tmp 14, .tmp 13]⟩]) (.seq (.cond (.tmp 15) .skip (.exit 0)) (.seq (.block 1 (.seq (.ops [.op ⟨some 16, none, .mv, [.tmp 14]⟩, .op ⟨some 7, none, .mv, [.tmp 16]⟩]) (.seq (.ops [.op ⟨some 17, none, .mv, [.tmp 5]⟩, .op ⟨some 18, none, .mv, [.tmp 7]⟩, .op ⟨some 19, none, (.idx 1), [.tmp 17, .tmp 18]⟩, .op ⟨some 20, none, .load false 1, [.tmp 19]⟩, .op ⟨some 21, none, .conv .u64, [.tmp 20]⟩, .op ⟨some 8, none, .mv, [.tmp 21]⟩]) (.seq (.ops [.op ⟨some 22, none, .mv, [.tmp 6]⟩, .op ⟨some 9, none, .mv, [.tmp 22]⟩]) (.seq (.seq (.ops [.op ⟨some 23, none, .mv, [.tmp 7]⟩, .op ⟨some 24, none, .mv, [.tmp 1]⟩, .op ⟨some 25, none, .len false, [.tmp 24]⟩, .op ⟨some 26, none, .bin .lss, [.tmp 23, .tmp 25]⟩]) (.cond (.tmp 26) (.ops [.op ⟨some 27, none, .mv, [.tmp 9]⟩, .op ⟨some 28, none, .mv, [.tmp 1]⟩, .op ⟨some 29, none, .mv, [.tmp 7]⟩, .op ⟨some 30, none, (.idx 1), [.tmp 28, .tmp 29]⟩, .op ⟨some 31, none, .load false 1, [.tmp 30]⟩, .op ⟨some 32, none, .conv .u64, [.tmp 31]⟩, .op ⟨some 33, none, .bin .add, [.tmp 27, .tmp 32]⟩, .op ⟨some 9, none, .mv, [.tmp 33]⟩]) .skip)) (.seq (.ops [.op ⟨some 6, none, .mv, [.const (.int .u64 0)]⟩]) (.seq (.seq (.ops [.op ⟨some 34, none, .mv, [.tmp 8]⟩, .op ⟨some 35, none, .mv, [.tmp 9]⟩, .op ⟨some 36, none, .bin .lss, [.tmp 34, .tmp 35]⟩]) (.cond (.tmp 36) (.seq (.ops [.op ⟨some 37, none, .mv, [.tmp 8]⟩, .op ⟨some 38, none, .bin .add, [.tmp 37, .const (.int .u64 4294967296)]⟩, .op ⟨some 8, none, .mv, [.tmp 38]⟩]) (.ops [.op ⟨some 6, none, .mv, [.const (.int .u64 1)]⟩])) .skip)) (.ops [.op ⟨some 39, none, .mv, [.tmp 5]⟩, .op ⟨some 40, none, .mv, [.tmp 7]⟩, .op ⟨some 41, none, .mv, [.tmp 8]⟩, .op ⟨some 42, none, .mv, [.tmp 9]⟩, .op ⟨some 43, none, .bin .sub, [.tmp 41, .tmp 42]⟩, .op ⟨some 44, none, .conv .u32, [.tmp 43]⟩, .op ⟨some 45, none, (.idx 1), [.tmp 39, .tmp 40]⟩, .op ⟨none, none, .store 1, [.tmp 45, .tmp 44]⟩])))))))) (.ops [.op ⟨some 46, none, .bin .add, [.tmp 14, .const (.int .i64 1)]⟩, .op ⟨some 14, none, .mv, [.tmp 46]⟩]))))
def c130 : AC := (.seq (.ops [.op ⟨some 4, none, .mv, [.const (.slice none 0 0)]⟩]) (.seq (.ops [.op ⟨some 10, none, .mv, [.tmp 0]⟩, .op ⟨some 11, none, .call true, [.func 122, .tmp 10]⟩, .op ⟨some 5, none, .mv, [.tmp 11]⟩]) (.seq (.ops [.op ⟨some 6, none, .mv, [.const (.int .u64 0)]⟩]) (.seq (.seq (.ops [.op ⟨some 12, none, .mv, [.tmp 5]⟩, .op ⟨some 13, none, .len false, [.tmp 12]⟩, .op ⟨some 14, none, .mv, [.const (.int .i64 0)]⟩]) (.block 0 (.loop c130l0))) (.seq (.ops [(.gh (.frz 5)), .op ⟨some 47, none, .mv, [.tmp 5]⟩, .op ⟨some 48, none, .call false, [.func 126, .tmp 47]⟩, .op ⟨some 4, none, .mv, [.tmp 48]⟩]) .ret)))))
theorem k130 : look1 Tryz.prog ⟨[], [], [11], [], [], [(16, 0, .frz 5)]⟩ 130 = some (c130, 49, [(4, none)]) := by kernel_rfl
def c128l0 : AC := (.seq (.ops [.op ⟨some 27, none, .bin .lss, [.tmp 26, .tmp 25]⟩]) (.seq (.cond (.tmp 27) .skip (.exit 2)) (.seq (.block 3 (.seq (.ops [.op ⟨some 28, none, .mv, [.tmp 26]⟩, .op ⟨some 29, none, (.idx 1), [.tmp 24, .tmp 26]⟩, .op ⟨some 30, none, .load false 1, [.tmp 29]⟩, .op ⟨some 9, none, .mv, [.tmp 28]⟩, .op ⟨some 10, none, .mv, [.tmp 30]⟩]) (.seq (.ops [.op ⟨some 31, none, .mv, [.tmp 8]⟩, .op ⟨some 32, none, .mv, [.tmp 7]⟩, .op ⟨some 33, none, .conv .u64, [.tmp 32]⟩, .op ⟨some 34, none, .mv, [.tmp 10]⟩, .op ⟨some 35, none, .conv .u64, [.tmp 34]⟩, .op ⟨some 36, none, .bin .mul, [.tmp 33, .tmp 35]⟩, .op ⟨some 37, none, .mv, [.tmp 5]⟩, .op ⟨some 38, none, .mv, [.tmp 6]⟩, .op ⟨some 39, none, .mv, [.tmp 9]⟩, .op ⟨some 40, none, .bin .add, [.tmp 38, .tmp 39]⟩, .op ⟨some 41, none, (.idx 1), [.tmp 37, .tmp 40]⟩, .op ⟨some 42, none, .load false 1, [.tmp 41]⟩, .op ⟨some 43, none, .conv .u64, [.tmp 42]⟩, .op ⟨some 44, none, .bin .add, [.tmp 36, .tmp 43]⟩, .op ⟨some 45, none, .bin .add, [.tmp 31, .tmp 44]⟩, .op ⟨some 8, none, .mv, [.tmp 45]⟩]) (.seq (.ops [.op ⟨some 46, none, .mv, [.tmp 5]⟩, .op ⟨some 47, none, .mv, [.tmp 6]⟩, .op ⟨some 48, none, .mv, [.tmp 9]⟩, .op ⟨some 49, none, .bin .add, [.tmp 47, .tmp 48]⟩, .op ⟨some 50, none, .mv, [.tmp 8]⟩, .op ⟨some 51, none, .conv .u32, [.tmp 50]⟩, .op ⟨some 52, none, (.idx 1), [.tmp 46, .tmp 49]⟩, .op ⟨none, none, .store 1, [.tmp 52, .tmp 51]⟩]) (.ops [.op ⟨some 53, none, .mv, [.tmp 8]⟩, .op ⟨some 54, none, .bin .shr, [.tmp 53, .const (.int .u64 32)]⟩, .op ⟨some 8, none, .mv, [.tmp 54]⟩]))))) (.ops [.op ⟨some 55, none, .bin .add, [.tmp 26, .const (.int .i64 1)]⟩, .op ⟨some 26, none, .mv, [.tmp 55]⟩]))))
def c128l1 : AC := (.seq (.ops [.op ⟨some 20, none, .bin .lss, [.tmp 19, .tmp 18]⟩]) (.seq (.cond (.tmp 20) .skip (.exit 0)) (.seq (.block 1 (.seq (.ops [.op ⟨some 21, none, .mv, [.tmp 19]⟩, .op ⟨some 22, none, (.idx 1), [.tmp 17, .tmp 19]⟩, .op ⟨some 23, none, .load false 1, [.tmp 22]⟩, .op ⟨some 6, none, .mv, [.tmp 21]⟩, .op ⟨some 7, none, .mv, [.tmp 23]⟩]) (.seq (.ops [.op ⟨some 8, none, .mv, [.const (.int .u64 0)]⟩]) (.seq (.seq (.ops [.op ⟨some 24, none, .mv, [.tmp 1]⟩, .op ⟨some 25, none, .len false, [.tmp 24]⟩, .op ⟨some 26, none, .mv, [.const (.int .i64 0)]⟩]) (.block 2 (.loop c128l0))) (.ops [.op ⟨some 56, none, .mv, [.tmp 5]⟩, .op ⟨some 57, none, .mv, [.tmp 6]⟩, .op ⟨some 58, none, .mv, [.tmp 1]⟩, .op ⟨some 59, none, .len false, [.tmp 58]⟩, .op ⟨some 60, none, .bin .add, [.tmp 57, .tmp 59]⟩, .op ⟨some 61, none, .mv, [.tmp 8]⟩, .op ⟨some 62, none, .conv .u32, [.tmp 61]⟩, .op ⟨some 63, none, (.idx 1), [.tmp 56, .tmp 60]⟩, .op ⟨none, none, .store 1, [.tmp 63, .tmp 62]⟩]))))) (.ops [.op ⟨some 64, none, .bin .add, [.tmp 19, .const (.int .i64 1)]⟩, .op ⟨some 19, none, .mv, [.tmp 64]⟩]))))
def c128 : AC := (.seq (.ops [.op ⟨some 4, none, .mv, [.const (.slice none 0 0)]⟩]) (.seq (.ops [.op ⟨some 11, none, .mv, [.tmp 0]⟩, .op ⟨some 12, none, .len false, [.tmp 11]⟩, .op ⟨some 13, none, .mv, [.tmp 1]⟩, .op ⟨some 14, none, .len false, [.tmp 13]⟩, .op ⟨some 15, none, .bin .add, [.tmp 12, .tmp 14]⟩, .op ⟨some 16, none, (.mks 171 1 4), [.tmp 15, .tmp 15]⟩, .op ⟨some 5, none, .mv, [.tmp 16]⟩]) (.seq (.seq (.ops [.op ⟨some 17, none, .mv, [.tmp 0]⟩, .op ⟨some 18, none, .len false, [.tmp 17]⟩, .op ⟨some 19, none, .mv, [.const (.int .i64 0)]⟩]) (.block 0 (.loop c128l1))) (.seq (.ops [(.gh (.frz 5)), .op ⟨some 65, none, .mv, [.tmp 5]⟩, .op ⟨some 66, none, .call false, [.func 126, .tmp 65]⟩, .op ⟨some 4, none, .mv, [.tmp 66]⟩]) .ret))))
theorem k128 : look1 Tryz.prog ⟨[], [], [], [], [], [(15, 0, .frz 5)]⟩ 128 = some (c128, 67, [(4, none)]) := by kernel_rfl
def c199l0 : AC := (.seq (.ops [.op ⟨some 15, none, .bin .lss, [.tmp 14, .tmp 13]⟩]) (.seq (.cond (.tmp 15) .skip (.exit 0)) (.seq (.block 1 (.seq (.ops [.op ⟨some 16, none, .mv, [.tmp 14]⟩, .op ⟨some 17, none, (.idx 1), [.tmp 12, .tmp 14]⟩, .op ⟨some 18, none, .load false 1, [.tmp 17]⟩, .op ⟨some 6, none, .mv, [.tmp 16]⟩, .op ⟨some 7, none, .mv, [.tmp 18]⟩]) (.seq (.draw [⟨some 19, none, .mv, [.tmp 5]⟩, ⟨some 20, none, .mv, [.tmp 6]⟩, ⟨some 21, none, (.idx 1), [.tmp 19, .tmp 20]⟩, ⟨some 22, none, .load false 1, [.tmp 21]⟩, ⟨some 23, none, .mv, [.tmp 7]⟩, ⟨some 24, none, .mv, [.tmp 1]⟩, ⟨some 25, none, .bin .shl, [.tmp 23, .tmp 24]⟩, ⟨some 26, none, .bin .or, [.tmp 22, .tmp 25]⟩, ⟨some 27, none, (.idx 1), [.tmp 19, .tmp 20]⟩, ⟨none, none, .store 1, [.tmp 27, .tmp 26]⟩]) (.ops [.op ⟨some 28, none, .mv, [.tmp 5]⟩, .op ⟨some 29, none, .mv, [.tmp 6]⟩, .op ⟨some 30, none, .bin .add, [.tmp 29, .const (.int .i64 1)]⟩, .op ⟨some 31, none, .mv, [.tmp 7]⟩, .op ⟨some 32, none, .conv .u64, [.tmp 31]⟩, .op ⟨some 33, none, .mv, [.tmp 1]⟩, .op ⟨some 34, none, .bin .sub, [.const (.int .i64 32), .tmp 33]⟩, .op ⟨some 35, none, .bin .shr, [.tmp 32, .tmp 34]⟩, .op ⟨some 36, none, .conv .u32, [.tmp 35]⟩, .op ⟨some 37, none, (.idx 1), [.tmp 28, .tmp 30]⟩, .op ⟨none, none, .store 1, [.tmp 37, .tmp 36]⟩])))) (.ops [.op ⟨some 38, none, .bin .add, [.tmp 14, .const (.int .i64 1)]⟩, .op ⟨some 14, none, .mv, [.tmp 38]⟩]))))
def c199 : AC := (.seq (.ops [.op ⟨some 4, none, .mv, [.const (.slice none 0 0)]⟩]) (.seq (.ops [.op ⟨some 8, none, .mv, [.tmp 0]⟩, .op ⟨some 9, none, .len false, [.tmp 8]⟩, .op ⟨some 10, none, .bin .add, [.tmp 9, .const (.int .i64 1)]⟩, .op ⟨some 11, none, (.mks 171 1 4), [.tmp 10, .tmp 10]⟩, .op ⟨some 5, none, .mv, [.tmp 11]⟩]) (.seq (.seq (.ops [.op ⟨some 12, none, .mv, [.tmp 0]⟩, .op ⟨some 13, none, .len false, [.tmp 12]⟩, .op ⟨some 14, none, .mv, [.const (.int .i64 0)]⟩]) (.block 0 (.loop c199l0))) (.seq (.ops [(.gh (.frz 5)), .op ⟨some 39, none, .mv, [.tmp 5]⟩, .op ⟨some 40, none, .call false, [.func 126, .tmp 39]⟩, .op ⟨some 4, none, .mv, [.tmp 40]⟩]) .ret))))
theorem k199 : look1 Tryz.prog ⟨[], [], [], [], [], [(8, 0, .frz 5)]⟩ 199 = some (c199, 41, [(4, none)]) := by kernel_rfl
def c197l0 : AC := (.seq (.seq (.ops [.op ⟨some 15, none, .mv, [.tmp 8]⟩, .op ⟨some 16, none, .bin .geq, [.tmp 15, .const (.int .i64 0)]⟩]) (.cond (.tmp 16) .skip (.exit 0))) (.seq (.block 1 (.seq (.ops [.op ⟨some 19, none, .mv, [.tmp 7]⟩, .op ⟨some 20, none, .bin .shl, [.tmp 19, .const (.int .u64 32)]⟩, .op ⟨some 21, none, .mv, [.tmp 0]⟩, .op ⟨some 22, none, .mv, [.tmp 8]⟩, .op ⟨some 23, none, (.idx 1), [.tmp 21, .tmp 22]⟩, .op ⟨some 24, none, .load false 1, [.tmp 23]⟩, .op ⟨some 25, none, .conv .u64, [.tmp 24]⟩, .op ⟨some 26, none, .bin .or, [.tmp 20, .tmp 25]⟩, .op ⟨some 7, none, .mv, [.tmp 26]⟩]) (.seq (.ops [.op ⟨some 27, none, .mv, [.tmp 6]⟩, .op ⟨some 28, none, .mv, [.tmp 8]⟩, .op ⟨some 29, none, .mv, [.tmp 7]⟩, .op ⟨some 30, none, .mv, [.tmp 1]⟩, .op ⟨some 31, none, .conv .u64, [.tmp 30]⟩, .op ⟨some 32, none, .bin .quo, [.tmp 29, .tmp 31]⟩, .op ⟨some 33, none, .conv .u32, [.tmp 32]⟩, .op ⟨some 34, none, (.idx 1), [.tmp 27, .tmp 28]⟩, .op ⟨none, none, .store 1, [.tmp 34, .tmp 33]⟩]) (.ops [.op ⟨some 35, none, .mv, [.tmp 7]⟩, .op ⟨some 36, none, .mv, [.tmp 1]⟩, .op ⟨some 37, none, .conv .u64, [.tmp 36]⟩, .op ⟨some 38, none, .bin .rem, [.tmp 35, .tmp 37]⟩, .op ⟨some 7, none, .mv, [.tmp 38]⟩])))) (.ops [.op ⟨some 17, none, .mv, [.tmp 8]⟩, .op ⟨some 18, none, .bin .sub, [.tmp 17, .const (.int .i64 1)]⟩, .op ⟨some 8, none, .mv, [.tmp 18]⟩])))
def c197 : AC := (.seq (.ops [.op ⟨some 4, none, .mv, [.const (.slice none 0 0)]⟩, .op ⟨some 5, none, .mv, [.const (.int .u32 0)]⟩]) (.seq (.ops [.op ⟨some 9, none, .mv, [.tmp 0]⟩, .op ⟨some 10, none, .len false, [.tmp 9]⟩, .op ⟨some 11, none, (.mks 171 1 4), [.tmp 10, .tmp 10]⟩, .op ⟨some 6, none, .mv, [.tmp 11]⟩]) (.seq (.ops [.op ⟨some 7, none, .mv, [.const (.int .u64 0)]⟩]) (.seq (.seq (.ops [.op ⟨some 12, none, .mv, [.tmp 0]⟩, .op ⟨some 13, none, .len false, [.tmp 12]⟩, .op ⟨some 14, none, .bin .sub, [.tmp 13, .const (.int .i64 1)]⟩, .op ⟨some 8, none, .mv, [.tmp 14]⟩]) (.block 0 (.loop c197l0))) (.seq (.ops [(.gh (.frz 6)), .op ⟨some 39, none, .mv, [.tmp 6]⟩, .op ⟨some 40, none, .call false, [.func 126, .tmp 39]⟩, .op ⟨some 41, none, .mv, [.tmp 7]⟩, .op ⟨some 42, none, .conv .u32, [.tmp 41]⟩, .op ⟨some 4, none, .mv, [.tmp 40]⟩, .op ⟨some 5, none, .mv, [.tmp 42]⟩]) .ret)))))
theorem k197 : look1 Tryz.prog ⟨[], [], [], [], [], [(9, 0, .frz 6)]⟩ 197 = some (c197, 43, [(4, none), (5, none)]) := by kernel_rfl
def c202l0 : AC := (.seq (.ops [.op ⟨some 13, none, .bin .lss, [.tmp 12, .tmp 11]⟩]) (.seq (.cond (.tmp 13) .skip (.exit 0)) (.seq (.block 1 (.seq (.ops [.op ⟨some 14, none, .mv, [.tmp 12]⟩, .op ⟨some 6, none, .mv, [.tmp 14]⟩]) (.ops [.op ⟨some 15, none, .mv, [.tmp 5]⟩, .op ⟨some 16, none, .mv, [.tmp 6]⟩, .op ⟨some 17, none, .mv, [.tmp 0]⟩, .op ⟨some 18, none, .mv, [.tmp 6]⟩, .op ⟨some 19, none, .call false, [.func 200, .tmp 17, .tmp 18]⟩, .op ⟨some 20, none, .mv, [.tmp 0]⟩, .op ⟨some 21, none, .mv, [.tmp 6]⟩, .op ⟨some 22, none, .bin .add, [.tmp 21, .const (.int .i64 1)]⟩, .op ⟨some 23, none, .call false, [.func 200, .tmp 20, .tmp 22]⟩, .op ⟨some 24, none, .bin .shl, [.tmp 23, .const (.int .u64 32)]⟩, .op ⟨some 25, none, .bin .or, [.tmp 19, .tmp 24]⟩, .op ⟨some 26, none, .mv, [.tmp 1]⟩, .op ⟨some 27, none, .bin .shr, [.tmp 25, .tmp 26]⟩, .op ⟨some 28, none, .conv .u32, [.tmp 27]⟩, .op ⟨some 29, none, (.idx 1), [.tmp 15, .tmp 16]⟩, .op ⟨none, none, .store 1, [.tmp 29, .tmp 28]⟩]))) (.ops [.op ⟨some 30, none, .bin .add, [.tmp 12, .const (.int .i64 1)]⟩, .op ⟨some 12, none, .mv, [.tmp 30]⟩]))))
def c202 : AC := (.seq (.ops [.op ⟨some 4, none, .mv, [.const (.slice none 0 0)]⟩]) (.seq (.ops [.op ⟨some 7, none, .mv, [.tmp 0]⟩, .op ⟨some 8, none, .len false, [.tmp 7]⟩, .op ⟨some 9, none, (.mks 171 1 4), [.tmp 8, .tmp 8]⟩, .op ⟨some 5, none, .mv, [.tmp 9]⟩]) (.seq (.seq (.ops [.op ⟨some 10, none, .mv, [.tmp 0]⟩, .op ⟨some 11, none, .len false, [.tmp 10]⟩, .op ⟨some 12, none, .mv, [.const (.int .i64 0)]⟩]) (.block 0 (.loop c202l0))) (.seq (.ops [(.gh (.frz 5)), .op ⟨some 31, none, .mv, [.tmp 5]⟩, .op ⟨some 32, none, .call false, [.func 126, .tmp 31]⟩, .op ⟨some 4, none, .mv, [.tmp 32]⟩]) .ret))))
theorem k202 : look1 Tryz.prog ⟨[], [], [], [], [], [(7, 0, .frz 5)]⟩ 202 = some (c202, 33, [(4, none)]) := by kernel_rfl
def c201 : AC := (.seq (.ops [.op ⟨some 4, none, .mv, [.const (.slice none 0 0)]⟩]) (.seq (.seq (.ops [.op ⟨some 5, none, .mv, [.tmp 0]⟩, .op ⟨some 6, none, .len false, [.tmp 5]⟩, .op ⟨some 7, none, .bin .eql, [.tmp 6, .const (.int .i64 0)]⟩]) (.cond (.tmp 7) (.seq (.ops [.op ⟨some 4, none, .mv, [.const (.slice none 0 0)]⟩]) .ret) .skip)) (.seq (.ops [.op ⟨some 8, none, .mv, [.tmp 1]⟩, .op ⟨some 9, none, (.mks 171 1 4), [.tmp 8, .tmp 8]⟩, .op ⟨some 10, none, .mv, [.tmp 0]⟩, .op ⟨some 11, none, .app 171 1 4, [.tmp 9, .tmp 10]⟩, .op ⟨some 4, none, .mv, [.tmp 11]⟩, (.gh (.frz 4))]) .ret)))
theorem k201 : look1 Tryz.prog ⟨[], [], [], [], [], [(3, 5, .frz 4)]⟩ 201 = some (c201, 12, [(4, none)]) := by kernel_rfl
def c200 : AC := (.seq (.ops [.op ⟨some 4, none, .mv, [.const (.int .u64 0)]⟩]) (.seq (.seq (.ops [.op ⟨some 5, none, .mv, [.tmp 1]⟩, .op ⟨some 6, none, .bin .lss, [.tmp 5, .const (.int .i64 0)]⟩, .op ⟨some 7, none, .mv, [.tmp 6]⟩, .op ⟨some 8, (some (7, false)), .mv, [.tmp 1]⟩, .op ⟨some 9, (some (7, false)), .mv, [.tmp 0]⟩, .op ⟨some 10, (some (7, false)), .len false, [.tmp 9]⟩, .op ⟨some 11, (some (7, false)), .bin .geq, [.tmp 8, .tmp 10]⟩, .op ⟨some 12, none, .pick, [.tmp 7, .const (.bool true), .tmp 11]⟩]) (.cond (.tmp 12) (.seq (.ops [.op ⟨some 4, none, .mv, [.const (.int .u64 0)]⟩]) .ret) .skip)) (.seq (.ops [.op ⟨some 13, none, .mv, [.tmp 0]⟩, .op ⟨some 14, none, .mv, [.tmp 1]⟩, .op ⟨some 15, none, (.idx 1), [.tmp 13, .tmp 14]⟩, .op ⟨some 16, none, .load false 1, [.tmp 15]⟩, .op ⟨some 17, none, .conv .u64, [.tmp 16]⟩, .op ⟨some 4, none, .mv, [.tmp 17]⟩]) .ret)))
theorem k200 : look1 Tryz.prog ⟨[], [], [], [], [], []⟩ 200 = some (c200, 18, [(4, none)]) := by kernel_rfl
def c170l0 : AC := (.seq (.seq (.ops [.op ⟨some 91, none, .mv, [.tmp 16]⟩, .op ⟨some 92, none, .bin .gtr, [.tmp 91, .const (.int .u64 0)]⟩]) (.cond (.tmp 92) .skip (.exit 2))) (.seq (.block 3 (.seq (.ops [.op ⟨some 95, none, .mv, [.tmp 10]⟩, .op ⟨some 96, none, .mv, [.tmp 16]⟩, .op ⟨some 97, none, .call false, [.func 121, .tmp 96]⟩, .op ⟨some 98, none, .call false, [.func 128, .tmp 95, .tmp 97]⟩, .op ⟨some 99, none, .mv, [.tmp 14]⟩, .op ⟨some 100, none, .call false, [.func 201, .tmp 98, .tmp 99]⟩, .op ⟨some 17, none, .mv, [.tmp 100]⟩]) (.seq (.seq (.ops [.op ⟨some 101, none, .mv, [.tmp 17]⟩, .op ⟨some 102, none, .mv, [.tmp 13]⟩, .op ⟨some 103, none, .call false, [.func 123, .tmp 101, .tmp 102]⟩, .op ⟨some 104, none, .bin .gtr, [.tmp 103, .const (.int .i64 0)]⟩]) (.cond (.tmp 104) (.exit 3) .skip)) (.seq (.ops [.op ⟨some 105, none, .mv, [.tmp 13]⟩, .op ⟨some 106, none, .mv, [.tmp 17]⟩, .op ⟨some 107, none, .call false, [.func 130, .tmp 105, .tmp 106]⟩, .op ⟨some 13, none, .mv, [.tmp 107]⟩]) (.seq (.ops [.op ⟨some 108, none, .mv, [.tmp 12]⟩, .op ⟨some 109, none, .mv, [.tmp 14]⟩, .op ⟨some 110, none, .mv, [.tmp 16]⟩, .op ⟨some 111, none, .conv .u32, [.tmp 110]⟩, .op ⟨some 112, none, (.idx 1), [.tmp 108, .tmp 109]⟩, .op ⟨none, none, .store 1, [.tmp 112, .tmp 111]⟩]) (.exit 1)))))) (.ops [.op ⟨some 93, none, .mv, [.tmp 16]⟩, .op ⟨some 94, none, .bin .sub, [.tmp 93, .const (.int .u64 1)]⟩, .op ⟨some 16, none, .mv, [.tmp 94]⟩])))
def c170l1 : AC := (.seq (.seq (.ops [.op ⟨some 65, none, .mv, [.tmp 14]⟩, .op ⟨some 66, none, .bin .geq, [.tmp 65, .const (.int .i64 0)]⟩]) (.cond (.tmp 66) .skip (.exit 0))) (.seq (.block 1 (.seq (.ops [.op ⟨some 69, none, .mv, [.tmp 13]⟩, .op ⟨some 70, none, .mv, [.tmp 14]⟩, .op ⟨some 71, none, .mv, [.tmp 11]⟩, .op ⟨some 72, none, .bin .add, [.tmp 70, .tmp 71]⟩, .op ⟨some 73, none, .call false, [.func 200, .tmp 69, .tmp 72]⟩, .op ⟨some 74, none, .bin .shl, [.tmp 73, .const (.int .u64 32)]⟩, .op ⟨some 75, none, .mv, [.tmp 13]⟩, .op ⟨some 76, none, .mv, [.tmp 14]⟩, .op ⟨some 77, none, .mv, [.tmp 11]⟩, .op ⟨some 78, none, .bin .add, [.tmp 76, .tmp 77]⟩, .op ⟨some 79, none, .bin .sub, [.tmp 78, .const (.int .i64 1)]⟩, .op ⟨some 80, none, .call false, [.func 200, .tmp 75, .tmp 79]⟩, .op ⟨some 81, none, .bin .or, [.tmp 74, .tmp 80]⟩, .op ⟨some 15, none, .mv, [.tmp 81]⟩]) (.seq (.ops [.op ⟨some 82, none, .mv, [.tmp 15]⟩, .op ⟨some 83, none, .mv, [.tmp 10]⟩, .op ⟨some 84, none, .mv, [.tmp 11]⟩, .op ⟨some 85, none, .bin .sub, [.tmp 84, .const (.int .i64 1)]⟩, .op ⟨some 86, none, (.idx 1), [.tmp 83, .tmp 85]⟩, .op ⟨some 87, none, .load false 1, [.tmp 86]⟩, .op ⟨some 88, none, .conv .u64, [.tmp 87]⟩, .op ⟨some 89, none, .bin .quo, [.tmp 82, .tmp 88]⟩, .op ⟨some 90, none, .mn, [.tmp 89, .const (.int .u64 4294967295)]⟩, .op ⟨some 16, none, .mv, [.tmp 90]⟩]) (.block 2 (.loop c170l0))))) (.ops [.op ⟨some 67, none, .mv, [.tmp 14]⟩, .op ⟨some 68, none, .bin .sub, [.tmp 67, .const (.int .i64 1)]⟩, .op ⟨some 14, none, .mv, [.tmp 68]⟩])))
def c170 : AC := (.seq (.ops [.op ⟨some 4, none, .mv, [.const (.slice none 0 0)]⟩, .op ⟨some 5, none, .mv, [.const (.slice none 0 0)]⟩]) (.scope (.seq (.seq (.ops [.op ⟨some 18, none, .mv, [.tmp 0]⟩, .op ⟨some 19, none, .mv, [.tmp 1]⟩, .op ⟨some 20, none, .call false, [.func 123, .tmp 18, .tmp 19]⟩, .op ⟨some 21, none, .bin .lss, [.tmp 20, .const (.int .i64 0)]⟩]) (.cond (.tmp 21) (.seq (.ops [.op ⟨some 22, none, .mv, [.tmp 0]⟩, .op ⟨some 23, none, .call false, [.func 122, .tmp 22]⟩, .op ⟨some 4, none, .mv, [.const (.slice none 0 0)]⟩, .op ⟨some 5, none, .mv, [.tmp 23]⟩]) .ret) .skip)) (.seq (.seq (.ops [.op ⟨some 24, none, .mv, [.tmp 1]⟩, .op ⟨some 25, none, .len false, [.tmp 24]⟩, .op ⟨some 26, none, .bin .eql, [.tmp 25, .const (.int .i64 1)]⟩]) (.cond (.tmp 26) (.seq (.ops [.op ⟨some 28, none, .mv, [.tmp 0]⟩, .op ⟨some 29, none, .mv, [.tmp 1]⟩, .op ⟨some 30, none, (.idx 1), [.tmp 29, .const (.int .i64 0)]⟩, .op ⟨some 31, none, .load false 1, [.tmp 30]⟩, .op ⟨some 32, none, .call false, [.func 197, .tmp 28, .tmp 31]⟩, .op ⟨some 27, none, .mv, [.tmp 32]⟩, .op ⟨some 33, none, .ext 0, [.tmp 27]⟩, .op ⟨some 34, none, .ext 1, [.tmp 27]⟩, .op ⟨some 6, none, .mv, [.tmp 33]⟩, .op ⟨some 7, none, .mv, [.tmp 34]⟩]) (.seq (.ops [.op ⟨some 35, none, .mv, [.tmp 6]⟩, .op ⟨some 36, none, .mv, [.tmp 7]⟩, .op ⟨some 37, none, .conv .u64, [.tmp 36]⟩, .op ⟨some 38, none, .call false, [.func 121, .tmp 37]⟩, .op ⟨some 4, none, .mv, [.tmp 35]⟩, .op ⟨some 5, none, .mv, [.tmp 38]⟩]) .ret)) .skip)) (.seq (.ops [.op ⟨some 39, none, .mv, [.tmp 1]⟩, .op ⟨some 40, none, .mv, [.tmp 1]⟩, .op ⟨some 41, none, .len false, [.tmp 40]⟩, .op ⟨some 42, none, .bin .sub, [.tmp 41, .const (.int .i64 1)]⟩, .op ⟨some 43, none, (.idx 1), [.tmp 39, .tmp 42]⟩, .op ⟨some 44, none, .load false 1, [.tmp 43]⟩, .op ⟨some 45, none, .call false, [.func 198, .tmp 44]⟩, .op ⟨some 8, none, .mv, [.tmp 45]⟩]) (.seq (.ops [.op ⟨some 46, none, .mv, [.tmp 0]⟩, .op ⟨some 47, none, .mv, [.tmp 8]⟩, .op ⟨some 48, none, .call false, [.func 199, .tmp 46, .tmp 47]⟩, .op ⟨some 49, none, .mv, [.tmp 1]⟩, .op ⟨some 50, none, .mv, [.tmp 8]⟩, .op ⟨some 51, none, .call false, [.func 199, .tmp 49, .tmp 50]⟩, .op ⟨some 9, none, .mv, [.tmp 48]⟩, .op ⟨some 10, none, .mv, [.tmp 51]⟩]) (.seq (.ops [.op ⟨some 52, none, .mv, [.tmp 10]⟩, .op ⟨some 53, none, .len false, [.tmp 52]⟩, .op ⟨some 11, none, .mv, [.tmp 53]⟩]) (.seq (.ops [.op ⟨some 54, none, .mv, [.tmp 9]⟩, .op ⟨some 55, none, .len false, [.tmp 54]⟩, .op ⟨some 56, none, .mv, [.tmp 11]⟩, .op ⟨some 57, none, .bin .sub, [.tmp 55, .tmp 56]⟩, .op ⟨some 58, none, .bin .add, [.tmp 57, .const (.int .i64 1)]⟩, .op ⟨some 59, none, (.mks 171 1 4), [.tmp 58, .tmp 58]⟩, .op ⟨some 12, none, .mv, [.tmp 59]⟩]) (.seq (.ops [.op ⟨some 60, none, .mv, [.tmp 9]⟩, .op ⟨some 61, none, .call false, [.func 122, .tmp 60]⟩, .op ⟨some 13, none, .mv, [.tmp 61]⟩]) (.seq .skip (.seq (.seq (.ops [.op ⟨some 62, none, .mv, [.tmp 12]⟩, .op ⟨some 63, none, .len false, [.tmp 62]⟩, .op ⟨some 64, none, .bin .sub, [.tmp 63, .const (.int .i64 1)]⟩, .op ⟨some 14, none, .mv, [.tmp 64]⟩]) (.block 0 (.loop c170l1))) (.seq (.ops [(.gh (.frz 12)), .op ⟨some 113, none, .mv, [.tmp 12]⟩, .op ⟨some 114, none, .call false, [.func 126, .tmp 113]⟩, .op ⟨some 115, none, .mv, [.tmp 13]⟩, .op ⟨some 116, none, .mv, [.tmp 8]⟩, .op ⟨some 117, none, .call false, [.func 202, .tmp 115, .tmp 116]⟩, .op ⟨some 4, none, .mv, [.tmp 114]⟩, .op ⟨some 5, none, .mv, [.tmp 117]⟩]) .ret))))))))))))
theorem k170 : look1 Tryz.prog ⟨[], [], [], [], [], [(22, 0, .frz 12)]⟩ 170 = some (c170, 118, [(4, none), (5, none)]) := by kernel_rfl
def c142l0 : AC := (.seq (.seq (.ops [.op ⟨some 7, none, .mv, [.tmp 1]⟩, .op ⟨some 8, none, .len false, [.tmp 7]⟩, .op ⟨some 9, none, .bin .gtr, [.tmp 8, .const (.int .i64 0)]⟩]) (.cond (.tmp 9) .skip (.exit 0))) (.block 1 (.seq (.ops [.op ⟨some 11, none, .mv, [.tmp 0]⟩, .op ⟨some 12, none, .mv, [.tmp 1]⟩, .op ⟨some 13, none, .call false, [.func 170, .tmp 11, .tmp 12]⟩, .op ⟨some 10, none, .mv, [.tmp 13]⟩, .op ⟨some 14, none, .ext 0, [.tmp 10]⟩, .op ⟨some 15, none, .ext 1, [.tmp 10]⟩, .op ⟨some 5, none, .mv, [.tmp 14]⟩, .op ⟨some 6, none, .mv, [.tmp 15]⟩]) (.ops [.op ⟨some 16, none, .mv, [.tmp 1]⟩, .op ⟨some 17, none, .mv, [.tmp 6]⟩, .op ⟨some 0, none, .mv, [.tmp 16]⟩, .op ⟨some 1, none, .mv, [.tmp 17]⟩]))))
def c142 : AC := (.seq (.ops [.op ⟨some 4, none, .mv, [.const (.slice none 0 0)]⟩]) (.seq (.block 0 (.loop c142l0)) (.seq (.ops [.op ⟨some 18, none, .mv, [.tmp 0]⟩, .op ⟨some 4, none, .mv, [.tmp 18]⟩]) .ret)))
theorem k142 : look1 Tryz.prog ⟨[], [], [], [], [], []⟩ 142 = some (c142, 19, [(4, none)]) := by kernel_rfl
def c127 : AC := (.seq (.ops [.op ⟨some 6, none, .alloc 112, []⟩]) (.seq (.ops [.op ⟨some 8, none, .mv, [.tmp 1]⟩, .op ⟨some 9, none, .mv, [.tmp 2]⟩, .op ⟨some 10, none, .call false, [.func 142, .tmp 8, .tmp 9]⟩, .op ⟨some 7, none, .mv, [.tmp 10]⟩]) (.seq (.ops [.op ⟨some 12, none, .mv, [.tmp 1]⟩, .op ⟨some 13, none, .mv, [.tmp 7]⟩, .op ⟨some 14, none, .call false, [.func 170, .tmp 12, .tmp 13]⟩, .op ⟨some 11, none, .mv, [.tmp 14]⟩, .op ⟨some 15, none, .ext 0, [.tmp 11]⟩, .op ⟨some 16, none, .ext 1, [.tmp 11]⟩, .op ⟨some 1, none, .mv, [.tmp 15]⟩]) (.seq (.ops [.op ⟨some 18, none, .mv, [.tmp 2]⟩, .op ⟨some 19, none, .mv, [.tmp 7]⟩, .op ⟨some 20, none, .call false, [.func 170, .tmp 18, .tmp 19]⟩, .op ⟨some 17, none, .mv, [.tmp 20]⟩, .op ⟨some 21, none, .ext 0, [.tmp 17]⟩, .op ⟨some 22, none, .ext 1, [.tmp 17]⟩, .op ⟨some 2, none, .mv, [.tmp 21]⟩]) (.seq (.ops [.op ⟨some 23, none, .mv, [.tmp 0]⟩, .op ⟨some 24, none, .mv, [.tmp 23]⟩, .op ⟨some 25, (some (24, true)), .mv, [.tmp 1]⟩, .op ⟨some 26, (some (24, true)), .len false, [.tmp 25]⟩, .op ⟨some 27, (some (24, true)), .bin .gtr, [.tmp 26, .const (.int .i64 0)]⟩, .op ⟨some 28, none, .pick, [.tmp 24, .tmp 27, .const (.bool false)]⟩, .op ⟨some 29, none, .mv, [.tmp 1]⟩, .op ⟨some 30, none, .mv, [.tmp 2]⟩, .op ⟨some 31, none, (.build 112 [(0, (0, 1)), (1, (1, 1)), (2, (2, 1))]), [.tmp 28, .tmp 29, .tmp 30]⟩, .op ⟨none, none, .store 3, [.tmp 6, .tmp 31]⟩]) .ret)))))
theorem k127 : look1 Tryz.prog ⟨[], [], [], [], [], []⟩ 127 = some (c127, 32, [(6, (some (true, 3)))]) := by kernel_rfl
def c65 : AC := (.seq (.ops [.op ⟨some 1, none, .box true 32, [.tmp 0]⟩, .op ⟨some 2, none, .alloc 112, []⟩]) (.seq (.ops [.op ⟨some 4, none, .fld 2 false 1, [.tmp 1]⟩, .op ⟨some 5, none, .load false 1, [.tmp 4]⟩, .op ⟨some 6, none, .call false, [.func 126, .tmp 5]⟩, .op ⟨some 3, none, .mv, [.tmp 6]⟩]) (.seq (.seq (.ops [.op ⟨some 7, none, .mv, [.tmp 3]⟩, .op ⟨some 8, none, .len false, [.tmp 7]⟩, .op ⟨some 9, none, .bin .eql, [.tmp 8, .const (.int .i64 0)]⟩]) (.cond (.tmp 9) (.ops [.op ⟨some 10, none, .call false, [.func 121, .const (.int .u64 1)]⟩, .op ⟨some 3, none, .mv, [.tmp 10]⟩]) .skip)) (.seq (.draw [⟨some 11, none, .fld 0 false 1, [.tmp 1]⟩, ⟨some 12, none, .load false 1, [.tmp 11]⟩, ⟨some 13, none, .fld 1 false 1, [.tmp 1]⟩, ⟨some 14, none, .load false 1, [.tmp 13]⟩, ⟨some 15, none, .call false, [.func 126, .tmp 14]⟩, ⟨some 16, none, .mv, [.tmp 3]⟩, ⟨some 17, none, .call false, [.func 127, .tmp 12, .tmp 15, .tmp 16]⟩, ⟨none, none, .store 3, [.tmp 2, .tmp 17]⟩]) .ret))))
theorem k65 : look1 Tryz.prog ⟨[], [], [], [], [], []⟩ 65 = some (c65, 18, [(2, (some (true, 3)))]) := by kernel_rfl
def c62 : AC := (.seq (.ops [.op ⟨some 1, none, .box true 112, [.tmp 0]⟩, .op ⟨some 2, none, .alloc 32, []⟩]) (.seq (.draw [⟨some 3, none, .alloc 32, []⟩, ⟨some 4, none, .fld 0 false 1, [.tmp 1]⟩, ⟨some 5, none, .load false 1, [.tmp 4]⟩, ⟨some 6, none, .fld 1 false 1, [.tmp 1]⟩, ⟨some 7, none, .load false 1, [.tmp 6]⟩, ⟨some 8, none, .call false, [.func 122, .tmp 7]⟩, ⟨some 9, none, (.build 32 [(0, (0, 1)), (1, (1, 1))]), [.tmp 5, .tmp 8]⟩, ⟨none, none, .store 3, [.tmp 3, .tmp 9]⟩]) (.seq (.seq (.draw [⟨some 10, none, .fld 2 false 1, [.tmp 1]⟩, ⟨some 11, none, .load false 1, [.tmp 10]⟩, ⟨some 12, none, .call false, [.func 121, .const (.int .u64 1)]⟩, ⟨some 13, none, .call false, [.func 123, .tmp 11, .tmp 12]⟩, ⟨some 14, none, .bin .neq, [.tmp 13, .const (.int .i64 0)]⟩]) (.cond (.tmp 14) (.ops [.op ⟨some 15, none, .fld 2 false 1, [.tmp 1]⟩, .op ⟨some 16, none, .load false 1, [.tmp 15]⟩, .op ⟨some 17, none, .call false, [.func 122, .tmp 16]⟩, .op ⟨some 18, none, .fld 2 false 1, [.tmp 3]⟩, .op ⟨none, none, .store 1, [.tmp 18, .tmp 17]⟩]) .skip)) (.seq (.ops [.op ⟨some 19, none, .load true 3, [.tmp 3]⟩, .op ⟨none, none, .store 3, [.tmp 2, .tmp 19]⟩]) .ret))))
theorem k62 : look1 Tryz.prog ⟨[], [], [], [], [], []⟩ 62 = some (c62, 20, [(2, (some (true, 3)))]) := by kernel_rfl
def c61 : AC := (.seq (.ops [.op ⟨some 2, none, .alloc 112, []⟩]) (.seq (.seq (.ops [.op ⟨some 3, none, .mv, [.tmp 0]⟩, .op ⟨some 4, none, .bin .lss, [.tmp 3, .const (.int .i64 0)]⟩]) (.cond (.tmp 4) (.seq (.ops [.op ⟨some 5, none, .mv, [.tmp 0]⟩, .op ⟨some 6, none, .bin .add, [.tmp 5, .const (.int .i64 1)]⟩, .op ⟨some 7, none, .un .neg, [.tmp 6]⟩, .op ⟨some 8, none, .conv .u64, [.tmp 7]⟩, .op ⟨some 9, none, .bin .add, [.tmp 8, .const (.int .u64 1)]⟩, .op ⟨some 10, none, .call false, [.func 121, .tmp 9]⟩, .op ⟨some 11, none, .call false, [.func 121, .const (.int .u64 1)]⟩, .op ⟨some 12, none, (.build 112 [(0, (0, 1)), (1, (1, 1)), (2, (2, 1))]), [.const (.bool true), .tmp 10, .tmp 11]⟩, .op ⟨none, none, .store 3, [.tmp 2, .tmp 12]⟩]) .ret) .skip)) (.seq (.ops [.op ⟨some 13, none, .mv, [.tmp 0]⟩, .op ⟨some 14, none, .conv .u64, [.tmp 13]⟩, .op ⟨some 15, none, .call false, [.func 121, .tmp 14]⟩, .op ⟨some 16, none, .call false, [.func 121, .const (.int .u64 1)]⟩, .op ⟨some 17, none, (.build 112 [(0, (0, 1)), (1, (1, 1)), (2, (2, 1))]), [.const (.bool false), .tmp 15, .tmp 16]⟩, .op ⟨none, none, .store 3, [.tmp 2, .tmp 17]⟩]) .ret)))
theorem k61 : look1 Tryz.prog ⟨[], [], [], [], [], []⟩ 61 = some (c61, 18, [(2, (some (true, 3)))]) := by kernel_rfl
def c66 : AC := (.seq (.ops [.op ⟨some 2, none, .box true 112, [.tmp 0]⟩, .op ⟨some 3, none, .box true 112, [.tmp 1]⟩, .op ⟨some 4, none, .alloc 112, []⟩]) (.seq (.draw [⟨some 8, none, .fld 1 false 1, [.tmp 2]⟩, ⟨some 9, none, .load false 1, [.tmp 8]⟩, ⟨some 10, none, .fld 2 false 1, [.tmp 3]⟩, ⟨some 11, none, .load false 1, [.tmp 10]⟩, ⟨some 12, none, .call false, [.func 128, .tmp 9, .tmp 11]⟩, ⟨some 13, none, .fld 1 false 1, [.tmp 3]⟩, ⟨some 14, none, .load false 1, [.tmp 13]⟩, ⟨some 15, none, .fld 2 false 1, [.tmp 2]⟩, ⟨some 16, none, .load false 1, [.tmp 15]⟩, ⟨some 17, none, .call false, [.func 128, .tmp 14, .tmp 16]⟩, ⟨some 18, none, .fld 2 false 1, [.tmp 2]⟩, ⟨some 19, none, .load false 1, [.tmp 18]⟩, ⟨some 20, none, .fld 2 false 1, [.tmp 3]⟩, ⟨some 21, none, .load false 1, [.tmp 20]⟩, ⟨some 22, none, .call false, [.func 128, .tmp 19, .tmp 21]⟩, ⟨some 5, none, .mv, [.tmp 12]⟩, ⟨some 6, none, .mv, [.tmp 17]⟩, ⟨some 7, none, .mv, [.tmp 22]⟩]) (.seq (.seq (.ops [.op ⟨some 23, none, .fld 0 false 1, [.tmp 2]⟩, .op ⟨some 24, none, .load false 1, [.tmp 23]⟩, .op ⟨some 25, none, .fld 0 false 1, [.tmp 3]⟩, .op ⟨some 26, none, .load false 1, [.tmp 25]⟩, .op ⟨some 27, none, (.eqb false), [.tmp 24, .tmp 26]⟩]) (.cond (.tmp 27) (.seq (.draw [⟨some 28, none, .fld 0 false 1, [.tmp 2]⟩, ⟨some 29, none, .load false 1, [.tmp 28]⟩, ⟨some 30, none, .mv, [.tmp 5]⟩, ⟨some 31, none, .mv, [.tmp 6]⟩, ⟨some 32, none, .call false, [.func 129, .tmp 30, .tmp 31]⟩, ⟨some 33, none, .mv, [.tmp 7]⟩, ⟨some 34, none, .call false, [.func 127, .tmp 29, .tmp 32, .tmp 33]⟩, ⟨none, none, .store 3, [.tmp 4, .tmp 34]⟩]) .ret) .skip)) (.seq (.seq (.ops [.op ⟨some 35, none, .mv, [.tmp 5]⟩, .op ⟨some 36, none, .mv, [.tmp 6]⟩, .op ⟨some 37, none, .call false, [.func 123, .tmp 35, .tmp 36]⟩, .op ⟨some 38, none, .bin .lss, [.tmp 37, .const (.int .i64 0)]⟩]) (.cond (.tmp 38) (.seq (.draw [⟨some 39, none, .fld 0 false 1, [.tmp 3]⟩, ⟨some 40, none, .load false 1, [.tmp 39]⟩, ⟨some 41, none, .mv, [.tmp 6]⟩, ⟨some 42, none, .mv, [.tmp 5]⟩, ⟨some 43, none, .call false, [.func 130, .tmp 41, .tmp 42]⟩, ⟨some 44, none, .mv, [.tmp 7]⟩, ⟨some 45, none, .call false, [.func 127, .tmp 40, .tmp 43, .tmp 44]⟩, ⟨none, none, .store 3, [.tmp 4, .tmp 45]⟩]) .ret) .skip)) (.seq (.draw [⟨some 46, none, .fld 0 false 1, [.tmp 2]⟩, ⟨some 47, none, .load false 1, [.tmp 46]⟩, ⟨some 48, none, .mv, [.tmp 5]⟩, ⟨some 49, none, .mv, [.tmp 6]⟩, ⟨some 50, none, .call false, [.func 130, .tmp 48, .tmp 49]⟩, ⟨some 51, none, .mv, [.tmp 7]⟩, ⟨some 52, none, .call false, [.func 127, .tmp 47, .tmp 50, .tmp 51]⟩, ⟨none, none, .store 3, [.tmp 4, .tmp 52]⟩]) .ret)))))
theorem k66 : look1 Tryz.prog ⟨[], [], [], [], [], []⟩ 66 = some (c66, 53, [(4, (some (true, 3)))]) := by kernel_rfl
def c67 : AC := (.seq (.ops [.op ⟨some 1, none, .box true 112, [.tmp 0]⟩, .op ⟨some 2, none, .alloc 112, []⟩]) (.seq (.ops [.op ⟨some 3, none, .fld 0 false 1, [.tmp 1]⟩, .op ⟨some 4, none, .load false 1, [.tmp 3]⟩, .op ⟨some 5, none, .un .not, [.tmp 4]⟩, .op ⟨some 6, none, .mv, [.tmp 5]⟩, .op ⟨some 7, (some (6, true)), .fld 1 false 1, [.tmp 1]⟩, .op ⟨some 8, (some (6, true)), .load false 1, [.tmp 7]⟩, .op ⟨some 9, (some (6, true)), .len false, [.tmp 8]⟩, .op ⟨some 10, (some (6, true)), .bin .gtr, [.tmp 9, .const (.int .i64 0)]⟩, .op ⟨some 11, none, .pick, [.tmp 6, .tmp 10, .const (.bool false)]⟩, .op ⟨some 12, none, .fld 1 false 1, [.tmp 1]⟩, .op ⟨some 13, none, .load false 1, [.tmp 12]⟩, .op ⟨some 14, none, .fld 2 false 1, [.tmp 1]⟩, .op ⟨some 15, none, .load false 1, [.tmp 14]⟩, .op ⟨some 16, none, (.build 112 [(0, (0, 1)), (1, (1, 1)), (2, (2, 1))]), [.tmp 11, .tmp 13, .tmp 15]⟩, .op ⟨none, none, .store 3, [.tmp 2, .tmp 16]⟩]) .ret))
theorem k67 : look1 Tryz.prog ⟨[], [], [], [], [], []⟩ 67 = some (c67, 17, [(2, (some (true, 3)))]) := by kernel_rfl
def c68 : AC := (.seq (.ops [.op ⟨some 1, none, .box true 112, [.tmp 0]⟩, .op ⟨some 2, none, .mv, [.const (.int .i64 0)]⟩]) (.seq (.block 0 (.seq (.ops [.op ⟨some 4, none, .load true 3, [.tmp 1]⟩, .op ⟨some 5, none, .call false, [.func 131, .tmp 4]⟩, .op ⟨some 3, none, .mv, [.tmp 5]⟩]) (.cond (.tmp 3) (.seq (.ops [.op ⟨some 2, none, .mv, [.const (.int .i64 0)]⟩]) .ret) (.seq (.ops [.op ⟨some 7, none, .fld 0 false 1, [.tmp 1]⟩, .op ⟨some 8, none, .load false 1, [.tmp 7]⟩, .op ⟨some 6, none, .mv, [.tmp 8]⟩]) (.cond (.tmp 6) (.seq (.ops [.op ⟨some 2, none, .mv, [(.const (.int .i64 (-1)))]⟩]) .ret) .skip))))) (.seq (.ops [.op ⟨some 2, none, .mv, [.const (.int .i64 1)]⟩]) .ret)))
theorem k68 : look1 Tryz.prog ⟨[], [], [], [], [], []⟩ 68 = some (c68, 9, [(2, none)]) := by kernel_rfl
def c131 : AC := (.seq (.ops [.op ⟨some 1, none, .box true 112, [.tmp 0]⟩, .op ⟨some 2, none, .mv, [.const (.bool false)]⟩]) (.seq (.ops [.op ⟨some 3, none, .fld 1 false 1, [.tmp 1]⟩, .op ⟨some 4, none, .load false 1, [.tmp 3]⟩, .op ⟨some 5, none, .len false, [.tmp 4]⟩, .op ⟨some 6, none, .bin .eql, [.tmp 5, .const (.int .i64 0)]⟩, .op ⟨some 2, none, .mv, [.tmp 6]⟩]) .ret))
theorem k131 : look1 Tryz.prog ⟨[], [], [], [], [], []⟩ 131 = some (c131, 7, [(2, none)]) := by kernel_rfl
def c125 : AC := (.seq (.ops [.op ⟨some 2, none, .box true 112, [.tmp 0]⟩, .op ⟨some 3, none, .box true 112, [.tmp 1]⟩, .op ⟨some 4, none, .alloc 112, []⟩]) (.seq (.draw [⟨some 5, none, .fld 0 false 1, [.tmp 2]⟩, ⟨some 6, none, .load false 1, [.tmp 5]⟩, ⟨some 7, none, .fld 0 false 1, [.tmp 3]⟩, ⟨some 8, none, .load false 1, [.tmp 7]⟩, ⟨some 9, none, (.eqb true), [.tmp 6, .tmp 8]⟩, ⟨some 10, none, .fld 1 false 1, [.tmp 2]⟩, ⟨some 11, none, .load false 1, [.tmp 10]⟩, ⟨some 12, none, .fld 1 false 1, [.tmp 3]⟩, ⟨some 13, none, .load false 1, [.tmp 12]⟩, ⟨some 14, none, .call false, [.func 128, .tmp 11, .tmp 13]⟩, ⟨some 15, none, .fld 2 false 1, [.tmp 2]⟩, ⟨some 16, none, .load false 1, [.tmp 15]⟩, ⟨some 17, none, .fld 2 false 1, [.tmp 3]⟩, ⟨some 18, none, .load false 1, [.tmp 17]⟩, ⟨some 19, none, .call false, [.func 128, .tmp 16, .tmp 18]⟩, ⟨some 20, none, .call false, [.func 127, .tmp 9, .tmp 14, .tmp 19]⟩, ⟨none, none, .store 3, [.tmp 4, .tmp 20]⟩]) .ret))
theorem k125 : look1 Tryz.prog ⟨[], [], [], [], [], []⟩ 125 = some (c125, 21, [(4, (some (true, 3)))]) := by kernel_rfl
def c157 : AC := (.seq (.ops [.op ⟨some 1, none, .box true 112, [.tmp 0]⟩, .op ⟨some 2, none, .alloc 112, []⟩]) (.seq (.ops [.op ⟨some 3, none, .fld 0 false 1, [.tmp 1]⟩, .op ⟨some 4, none, .load false 1, [.tmp 3]⟩, .op ⟨some 5, none, .fld 2 false 1, [.tmp 1]⟩, .op ⟨some 6, none, .load false 1, [.tmp 5]⟩, .op ⟨some 7, none, .fld 1 false 1, [.tmp 1]⟩, .op ⟨some 8, none, .load false 1, [.tmp 7]⟩, .op ⟨some 9, none, (.build 112 [(0, (0, 1)), (1, (1, 1)), (2, (2, 1))]), [.tmp 4, .tmp 6, .tmp 8]⟩, .op ⟨none, none, .store 3, [.tmp 2, .tmp 9]⟩]) .ret))
theorem k157 : look1 Tryz.prog ⟨[], [], [], [], [], []⟩ 157 = some (c157, 10, [(2, (some (true, 3)))]) := by kernel_rfl
def c124l0 : AC := (.seq (.ops [.op ⟨some 12, none, .bin .lss, [.tmp 11, .tmp 10]⟩]) (.seq (.cond (.tmp 12) .skip (.exit 0)) (.seq (.block 1 (.seq (.ops [.op ⟨some 13, none, (.idx 3), [.tmp 9, .tmp 11]⟩, .op ⟨some 14, none, .load true 3, [.tmp 13]⟩, .op ⟨some 8, none, .alloc 32, []⟩, .op ⟨none, none, .store 3, [.tmp 8, .tmp 14]⟩]) (.draw [⟨some 15, none, .mv, [.tmp 1]⟩, ⟨some 16, none, .load true 3, [.tmp 3]⟩, ⟨some 17, none, .load true 3, [.tmp 8]⟩, ⟨some 18, none, .call false, [.func 65, .tmp 17]⟩, ⟨some 19, none, .call false, [.tmp 15, .tmp 16, .tmp 18]⟩, ⟨none, none, .store 3, [.tmp 3, .tmp 19]⟩]))) (.ops [.op ⟨some 20, none, .bin .add, [.tmp 11, .const (.int .i64 1)]⟩, .op ⟨some 11, none, .mv, [.tmp 20]⟩]))))
def c124 : AC := (.seq (.ops [.op ⟨some 3, none, .box false 112, [.tmp 0]⟩, .op ⟨some 6, none, .alloc 112, []⟩]) (.seq (.seq (.ops [.op ⟨some 9, none, .mv, [.tmp 2]⟩, .op ⟨some 10, none, .len false, [.tmp 9]⟩, .op ⟨some 11, none, .mv, [.const (.int .i64 0)]⟩]) (.block 0 (.loop c124l0))) (.seq (.ops [.op ⟨some 21, none, .load true 3, [.tmp 3]⟩, .op ⟨none, none, .store 3, [.tmp 6, .tmp 21]⟩]) .ret)))
theorem k124 : look1 Tryz.prog ⟨[], [3], [], [], [], []⟩ 124 = some (c124, 22, [(6, (some (true, 3)))]) := by kernel_rfl
def c63 : AC := (.seq (.ops [.op ⟨some 2, none, .alloc 32, []⟩]) (.seq (.ops [.op ⟨some 3, none, .call false, [.func 61, .const (.int .i64 0)]⟩, .op ⟨some 4, none, .mv, [.tmp 0]⟩, .op ⟨some 5, none, .call false, [.func 124, .tmp 3, .func 66, .tmp 4]⟩, .op ⟨some 6, none, .call false, [.func 62, .tmp 5]⟩, .op ⟨none, none, .store 3, [.tmp 2, .tmp 6]⟩]) .ret))
theorem k63 : look1 Tryz.prog ⟨[], [], [], [], [], []⟩ 63 = some (c63, 7, [(2, (some (true, 3)))]) := by kernel_rfl
def c64 : AC := (.seq (.ops [.op ⟨some 2, none, .alloc 32, []⟩]) (.seq (.ops [.op ⟨some 3, none, .call false, [.func 61, .const (.int .i64 1)]⟩, .op ⟨some 4, none, .mv, [.tmp 0]⟩, .op ⟨some 5, none, .call false, [.func 124, .tmp 3, .func 125, .tmp 4]⟩, .op ⟨some 6, none, .call false, [.func 62, .tmp 5]⟩, .op ⟨none, none, .store 3, [.tmp 2, .tmp 6]⟩]) .ret))
theorem k64 : look1 Tryz.prog ⟨[], [], [], [], [], []⟩ 64 = some (c64, 7, [(2, (some (true, 3)))]) := by kernel_rfl
def c20 : AC := (.seq (.ops [.op ⟨some 2, none, .alloc 32, []⟩]) (.seq (.ops [.op ⟨some 3, none, .mv, [.tmp 0]⟩, .op ⟨some 4, none, .call false, [.func 61, .tmp 3]⟩, .op ⟨some 5, none, .call false, [.func 62, .tmp 4]⟩, .op ⟨none, none, .store 3, [.tmp 2, .tmp 5]⟩]) .ret))
theorem k20 : look1 Tryz.prog ⟨[], [], [], [], [], []⟩ 20 = some (c20, 6, [(2, (some (true, 3)))]) := by kernel_rfl
def c21 : AC := (.seq (.ops [.op ⟨some 2, none, .box true 32, [.tmp 0]⟩, .op ⟨some 3, none, .box true 32, [.tmp 1]⟩, .op ⟨some 4, none, .alloc 32, []⟩]) (.seq (.ops [.op ⟨some 5, none, .load true 3, [.tmp 2]⟩, .op ⟨some 6, none, .load true 3, [.tmp 3]⟩, .op ⟨some 7, none, (.bsl false 32 3), [.tmp 5, .tmp 6]⟩, .op ⟨some 8, none, .call false, [.func 63, .tmp 7]⟩, .op ⟨none, none, .store 3, [.tmp 4, .tmp 8]⟩]) .ret))
theorem k21 : look1 Tryz.prog ⟨[], [], [], [], [], []⟩ 21 = some (c21, 9, [(4, (some (true, 3)))]) := by kernel_rfl
def c22 : AC := (.seq (.ops [.op ⟨some 2, none, .box true 32, [.tmp 0]⟩, .op ⟨some 3, none, .box true 32, [.tmp 1]⟩, .op ⟨some 4, none, .alloc 32, []⟩]) (.seq (.ops [.op ⟨some 5, none, .load true 3, [.tmp 2]⟩, .op ⟨some 6, none, .load true 3, [.tmp 3]⟩, .op ⟨some 7, none, (.bsl false 32 3), [.tmp 5, .tmp 6]⟩, .op ⟨some 8, none, .call false, [.func 64, .tmp 7]⟩, .op ⟨none, none, .store 3, [.tmp 4, .tmp 8]⟩]) .ret))
theorem k22 : look1 Tryz.prog ⟨[], [], [], [], [], []⟩ 22 = some (c22, 9, [(4, (some (true, 3)))]) := by kernel_rfl
def c23 : AC := (.seq (.ops [.op ⟨some 2, none, .box true 32, [.tmp 0]⟩, .op ⟨some 3, none, .box true 32, [.tmp 1]⟩, .op ⟨some 4, none, .mv, [.const (.int .i64 0)]⟩]) (.seq (.draw [⟨some 5, none, .load true 3, [.tmp 2]⟩, ⟨some 6, none, .call false, [.func 65, .tmp 5]⟩, ⟨some 7, none, .load true 3, [.tmp 3]⟩, ⟨some 8, none, .call false, [.func 65, .tmp 7]⟩, ⟨some 9, none, .call false, [.func 67, .tmp 8]⟩, ⟨some 10, none, .call false, [.func 66, .tmp 6, .tmp 9]⟩, ⟨some 11, none, .call false, [.func 68, .tmp 10]⟩, ⟨some 4, none, .mv, [.tmp 11]⟩]) .ret))
theorem k23 : look1 Tryz.prog ⟨[], [], [], [], [], []⟩ 23 = some (c23, 12, [(4, none)]) := by kernel_rfl
def c32 : AC := (.seq (.ops [.op ⟨some 1, none, .box true 32, [.tmp 0]⟩, .op ⟨some 2, none, .mv, [.const (.int .i64 0)]⟩]) (.seq (.ops [.op ⟨some 3, none, .load true 3, [.tmp 1]⟩, .op ⟨some 4, none, .call false, [.func 65, .tmp 3]⟩, .op ⟨some 5, none, .call false, [.func 68, .tmp 4]⟩, .op ⟨some 2, none, .mv, [.tmp 5]⟩]) .ret))
theorem k32 : look1 Tryz.prog ⟨[], [], [], [], [], []⟩ 32 = some (c32, 6, [(2, none)]) := by kernel_rfl
def c81 : AC := (.seq (.ops [.op ⟨some 1, none, .box true 32, [.tmp 0]⟩, .op ⟨some 2, none, .mv, [.const (.bool false)]⟩]) (.seq (.draw [⟨some 5, none, .fld 1 false 1, [.tmp 1]⟩, ⟨some 6, none, .load false 1, [.tmp 5]⟩, ⟨some 7, none, .call false, [.func 126, .tmp 6]⟩, ⟨some 8, none, .fld 2 false 1, [.tmp 1]⟩, ⟨some 9, none, .load false 1, [.tmp 8]⟩, ⟨some 10, none, .call false, [.func 126, .tmp 9]⟩, ⟨some 3, none, .mv, [.tmp 7]⟩, ⟨some 4, none, .mv, [.tmp 10]⟩]) (.seq (.seq (.ops [.op ⟨some 11, none, .mv, [.tmp 3]⟩, .op ⟨some 12, none, .len false, [.tmp 11]⟩, .op ⟨some 13, none, .fld 1 false 1, [.tmp 1]⟩, .op ⟨some 14, none, .load false 1, [.tmp 13]⟩, .op ⟨some 15, none, .len false, [.tmp 14]⟩, .op ⟨some 16, none, .bin .neq, [.tmp 12, .tmp 15]⟩, .op ⟨some 17, none, .mv, [.tmp 16]⟩, .op ⟨some 18, (some (17, false)), .mv, [.tmp 4]⟩, .op ⟨some 19, (some (17, false)), .len false, [.tmp 18]⟩, .op ⟨some 20, (some (17, false)), .fld 2 false 1, [.tmp 1]⟩, .op ⟨some 21, (some (17, false)), .load false 1, [.tmp 20]⟩, .op ⟨some 22, (some (17, false)), .len false, [.tmp 21]⟩, .op ⟨some 23, (some (17, false)), .bin .neq, [.tmp 19, .tmp 22]⟩, .op ⟨some 24, none, .pick, [.tmp 17, .const (.bool true), .tmp 23]⟩, .op ⟨some 25, none, .mv, [.tmp 24]⟩, .op ⟨some 26, (some (25, false)), .mv, [.tmp 4]⟩, .op ⟨some 27, (some (25, false)), .len false, [.tmp 26]⟩, .op ⟨some 28, (some (25, false)), .bin .eql, [.tmp 27, .const (.int .i64 1)]⟩, .op ⟨some 29, (some (25, false)), .mv, [.tmp 28]⟩, .op ⟨some 30, (some (29, true)), .mv, [.tmp 4]⟩, .op ⟨some 31, (some (29, true)), (.idx 1), [.tmp 30, .const (.int .i64 0)]⟩, .op ⟨some 32, (some (29, true)), .load false 1, [.tmp 31]⟩, .op ⟨some 33, (some (29, true)), .bin .eql, [.tmp 32, .const (.int .u32 1)]⟩, .op ⟨some 34, (some (25, false)), .pick, [.tmp 29, .tmp 33, .const (.bool false)]⟩, .op ⟨some 35, none, .pick, [.tmp 25, .const (.bool true), .tmp 34]⟩]) (.cond (.tmp 35) (.seq (.ops [.op ⟨some 2, none, .mv, [.const (.bool false)]⟩]) .ret) .skip)) (.seq (.seq (.ops [.op ⟨some 36, none, .mv, [.tmp 3]⟩, .op ⟨some 37, none, .len false, [.tmp 36]⟩, .op ⟨some 38, none, .bin .eql, [.tmp 37, .const (.int .i64 0)]⟩]) (.cond (.tmp 38) (.seq (.ops [.op ⟨some 39, none, .mv, [.tmp 4]⟩, .op ⟨some 40, none, .len false, [.tmp 39]⟩, .op ⟨some 41, none, .bin .eql, [.tmp 40, .const (.int .i64 0)]⟩, .op ⟨some 42, none, .mv, [.tmp 41]⟩, .op ⟨some 43, (some (42, true)), .fld 0 false 1, [.tmp 1]⟩, .op ⟨some 44, (some (42, true)), .load false 1, [.tmp 43]⟩, .op ⟨some 45, (some (42, true)), .un .not, [.tmp 44]⟩, .op ⟨some 46, none, .pick, [.tmp 42, .tmp 45, .const (.bool false)]⟩, .op ⟨some 2, none, .mv, [.tmp 46]⟩]) .ret) .skip)) (.seq (.ops [.op ⟨some 47, none, .mv, [.tmp 4]⟩, .op ⟨some 48, none, .len false, [.tmp 47]⟩, .op ⟨some 49, none, .bin .eql, [.tmp 48, .const (.int .i64 0)]⟩, .op ⟨some 50, none, .mv, [.tmp 49]⟩, .op ⟨some 51, (some (50, false)), .mv, [.tmp 3]⟩, .op ⟨some 52, (some (50, false)), .mv, [.tmp 4]⟩, .op ⟨some 53, (some (50, false)), .call false, [.func 142, .tmp 51, .tmp 52]⟩, .op ⟨some 54, (some (50, false)), .call false, [.func 121, .const (.int .u64 1)]⟩, .op ⟨some 55, (some (50, false)), .call false, [.func 123, .tmp 53, .tmp 54]⟩, .op ⟨some 56, (some (50, false)), .bin .eql, [.tmp 55, .const (.int .i64 0)]⟩, .op ⟨some 57, none, .pick, [.tmp 50, .const (.bool true), .tmp 56]⟩, .op ⟨some 2, none, .mv, [.tmp 57]⟩]) .ret)))))
theorem k81 : look1 Tryz.prog ⟨[], [], [], [], [], []⟩ 81 = some (c81, 58, [(2, none)]) := by kernel_rfl
def c91 : AC := (.seq (.ops [.op ⟨some 1, none, .box true 32, [.tmp 0]⟩, .op ⟨some 2, none, .alloc 32, []⟩]) (.seq (.ops [.op ⟨some 3, none, .load true 3, [.tmp 1]⟩, .op ⟨some 4, none, .call false, [.func 65, .tmp 3]⟩, .op ⟨some 5, none, .call false, [.func 62, .tmp 4]⟩, .op ⟨none, none, .store 3, [.tmp 2, .tmp 5]⟩]) .ret))
theorem k91 : look1 Tryz.prog ⟨[], [], [], [], [], []⟩ 91 = some (c91, 6, [(2, (some (true, 3)))]) := by kernel_rfl
def c107 : AC := (.seq (.ops [.op ⟨some 2, none, .box true 32, [.tmp 0]⟩, .op ⟨some 3, none, .box true 32, [.tmp 1]⟩, .op ⟨some 4, none, .alloc 32, []⟩, .op ⟨some 5, none, .mv, [.const (.int .i64 0)]⟩]) (.seq (.ops [.op ⟨some 7, none, .load true 3, [.tmp 3]⟩, .op ⟨some 8, none, .call false, [.func 65, .tmp 7]⟩, .op ⟨some 6, none, .alloc 112, []⟩, .op ⟨none, none, .store 3, [.tmp 6, .tmp 8]⟩]) (.seq (.seq (.ops [.op ⟨some 9, none, .load true 3, [.tmp 6]⟩, .op ⟨some 10, none, .call false, [.func 131, .tmp 9]⟩]) (.cond (.tmp 10) (.seq (.ops [.op ⟨some 11, none, (.build 32 []), []⟩, .op ⟨none, none, .store 3, [.tmp 4, .tmp 11]⟩, .op ⟨some 5, none, .mv, [.const (.int .i64 3)]⟩]) .ret) .skip)) (.seq (.draw [⟨some 12, none, .load true 3, [.tmp 2]⟩, ⟨some 13, none, .call false, [.func 65, .tmp 12]⟩, ⟨some 14, none, .load true 3, [.tmp 6]⟩, ⟨some 15, none, .call false, [.func 157, .tmp 14]⟩, ⟨some 16, none, .call false, [.func 125, .tmp 13, .tmp 15]⟩, ⟨some 17, none, .call false, [.func 62, .tmp 16]⟩, ⟨none, none, .store 3, [.tmp 4, .tmp 17]⟩, ⟨some 5, none, .mv, [.const (.int .i64 0)]⟩]) .ret))))
theorem k107 : look1 Tryz.prog ⟨[], [], [], [], [], []⟩ 107 = some (c107, 18, [(4, (some (true, 3))), (5, none)]) := by kernel_rfl
def c168 : AC := (.seq (.ops [.op ⟨some 2, none, .box true 32, [.tmp 0]⟩, .op ⟨some 3, none, .box true 32, [.tmp 1]⟩, .op ⟨some 4, none, .alloc 32, []⟩]) (.seq (.draw [⟨some 5, none, .load true 3, [.tmp 2]⟩, ⟨some 6, none, .call false, [.func 65, .tmp 5]⟩, ⟨some 7, none, .load true 3, [.tmp 3]⟩, ⟨some 8, none, .call false, [.func 65, .tmp 7]⟩, ⟨some 9, none, .call false, [.func 67, .tmp 8]⟩, ⟨some 10, none, .call false, [.func 66, .tmp 6, .tmp 9]⟩, ⟨some 11, none, .call false, [.func 62, .tmp 10]⟩, ⟨none, none, .store 3, [.tmp 4, .tmp 11]⟩]) .ret))
theorem k168 : look1 Tryz.prog ⟨[], [], [], [], [], []⟩ 168 = some (c168, 12, [(4, (some (true, 3)))]) := by kernel_rfl
end Bh
namespace Bh
open Go Go.Proofs
def c166l0 : AC := (.seq (.ops [.op ⟨some 9, none, .bin .lss, [.tmp 8, .tmp 7]⟩]) (.seq (.cond (.tmp 9) .skip (.exit 0)) (.seq (.block 1 (.seq (.ops [.op ⟨some 10, none, .mv, [.tmp 8]⟩, .op ⟨some 5, none, .mv, [.tmp 10]⟩]) (.seq (.ops [.op ⟨some 11, none, .mv, [.tmp 1]⟩, .op ⟨some 12, none, .mv, [.tmp 0]⟩, .op ⟨some 13, none, .mv, [.tmp 5]⟩, .op ⟨some 14, none, (.idx 1), [.tmp 12, .tmp 13]⟩, .op ⟨some 15, none, .load false 1, [.tmp 14]⟩, .op ⟨some 16, none, .call false, [.tmp 11, .tmp 15]⟩]) (.cond (.tmp 16) (.seq (.ops [.op ⟨some 17, none, .mv, [.tmp 5]⟩, .op ⟨some 4, none, .mv, [.tmp 17]⟩]) .ret) .skip)))) (.ops [.op ⟨some 18, none, .bin .add, [.tmp 8, .const (.int .i64 1)]⟩, .op ⟨some 8, none, .mv, [.tmp 18]⟩]))))
def c166 : AC := (.seq (.ops [.op ⟨some 4, none, .mv, [.const (.int .i64 0)]⟩]) (.seq (.seq (.ops [.op ⟨some 6, none, .mv, [.tmp 0]⟩, .op ⟨some 7, none, .len false, [.tmp 6]⟩, .op ⟨some 8, none, .mv, [.const (.int .i64 0)]⟩]) (.block 0 (.loop c166l0))) (.seq (.ops [.op ⟨some 4, none, .mv, [(.const (.int .i64 (-1)))]⟩]) .ret)))
theorem k166 : look1 Tryz.prog ⟨[], [], [], [], [], []⟩ 166 = some (c166, 19, [(4, none)]) := by kernel_rfl
def c146l0 : AC := (.seq (.ops [.op ⟨some 9, none, .bin .lss, [.tmp 8, .tmp 7]⟩]) (.seq (.cond (.tmp 9) .skip (.exit 0)) (.seq (.block 1 (.seq (.ops [.op ⟨some 10, none, .mv, [.tmp 8]⟩, .op ⟨some 5, none, .mv, [.tmp 10]⟩]) (.seq (.ops [.op ⟨some 11, none, .mv, [.tmp 1]⟩, .op ⟨some 12, none, .mv, [.tmp 0]⟩, .op ⟨some 13, none, .mv, [.tmp 5]⟩, .op ⟨some 14, none, (.idx 5), [.tmp 12, .tmp 13]⟩, .op ⟨some 15, none, .load true 5, [.tmp 14]⟩, .op ⟨some 16, none, .call false, [.tmp 11, .tmp 15]⟩]) (.cond (.tmp 16) (.seq (.ops [.op ⟨some 17, none, .mv, [.tmp 5]⟩, .op ⟨some 4, none, .mv, [.tmp 17]⟩]) .ret) .skip)))) (.ops [.op ⟨some 18, none, .bin .add, [.tmp 8, .const (.int .i64 1)]⟩, .op ⟨some 8, none, .mv, [.tmp 18]⟩]))))
def c146 : AC := (.seq (.ops [.op ⟨some 4, none, .mv, [.const (.int .i64 0)]⟩]) (.seq (.seq (.ops [.op ⟨some 6, none, .mv, [.tmp 0]⟩, .op ⟨some 7, none, .len false, [.tmp 6]⟩, .op ⟨some 8, none, .mv, [.const (.int .i64 0)]⟩]) (.block 0 (.loop c146l0))) (.seq (.ops [.op ⟨some 4, none, .mv, [(.const (.int .i64 (-1)))]⟩]) .ret)))
theorem k146 : look1 Tryz.prog ⟨[], [], [], [], [], []⟩ 146 = some (c146, 19, [(4, none)]) := by kernel_rfl
def c165l0 : AC := (.seq (.ops [.op ⟨some 9, none, .bin .lss, [.tmp 8, .tmp 7]⟩]) (.seq (.cond (.tmp 9) .skip (.exit 0)) (.seq (.block 1 (.seq (.ops [.op ⟨some 10, none, .mv, [.tmp 8]⟩, .op ⟨some 5, none, .mv, [.tmp 10]⟩]) (.seq (.ops [.op ⟨some 11, none, .mv, [.tmp 1]⟩, .op ⟨some 12, none, .mv, [.tmp 0]⟩, .op ⟨some 13, none, .mv, [.tmp 5]⟩, .op ⟨some 14, none, (.idx 7), [.tmp 12, .tmp 13]⟩, .op ⟨some 15, none, .load true 7, [.tmp 14]⟩, .op ⟨some 16, none, .call false, [.tmp 11, .tmp 15]⟩]) (.cond (.tmp 16) (.seq (.ops [.op ⟨some 17, none, .mv, [.tmp 5]⟩, .op ⟨some 4, none, .mv, [.tmp 17]⟩]) .ret) .skip)))) (.ops [.op ⟨some 18, none, .bin .add, [.tmp 8, .const (.int .i64 1)]⟩, .op ⟨some 8, none, .mv, [.tmp 18]⟩]))))
def c165 : AC := (.seq (.ops [.op ⟨some 4, none, .mv, [.const (.int .i64 0)]⟩]) (.seq (.seq (.ops [.op ⟨some 6, none, .mv, [.tmp 0]⟩, .op ⟨some 7, none, .len false, [.tmp 6]⟩, .op ⟨some 8, none, .mv, [.const (.int .i64 0)]⟩]) (.block 0 (.loop c165l0))) (.seq (.ops [.op ⟨some 4, none, .mv, [(.const (.int .i64 (-1)))]⟩]) .ret)))
theorem k165 : look1 Tryz.prog ⟨[], [], [], [], [], []⟩ 165 = some (c165, 19, [(4, none)]) := by kernel_rfl
def c115 : AC := (.seq (.ops [.op ⟨some 4, none, .mv, [.const (.bool false)]⟩]) (.seq (.ops [.op ⟨some 5, none, .mv, [.tmp 0]⟩, .op ⟨some 6, none, .mv, [.tmp 1]⟩, .op ⟨some 7, none, .call false, [.func 166, .tmp 5, .tmp 6]⟩, .op ⟨some 8, none, .bin .geq, [.tmp 7, .const (.int .i64 0)]⟩, .op ⟨some 4, none, .mv, [.tmp 8]⟩]) .ret))
theorem k115 : look1 Tryz.prog ⟨[], [], [], [], [], []⟩ 115 = some (c115, 9, [(4, none)]) := by kernel_rfl
def c111 : AC := (.seq (.ops [.op ⟨some 4, none, .mv, [.const (.bool false)]⟩]) (.seq (.ops [.op ⟨some 5, none, .mv, [.tmp 0]⟩, .op ⟨some 6, none, .mv, [.tmp 1]⟩, .op ⟨some 7, none, .call false, [.func 165, .tmp 5, .tmp 6]⟩, .op ⟨some 8, none, .bin .geq, [.tmp 7, .const (.int .i64 0)]⟩, .op ⟨some 4, none, .mv, [.tmp 8]⟩]) .ret))
theorem k111 : look1 Tryz.prog ⟨[], [], [], [], [], []⟩ 111 = some (c111, 9, [(4, none)]) := by kernel_rfl
def c116 : AC := (.seq (.ops [.op ⟨some 2, none, .mv, [.const (.bool false)]⟩]) (.seq (.ops [.op ⟨some 3, none, .mv, [.tmp 0]⟩, .op ⟨some 4, none, .bin .lss, [.tmp 3, .const (.int .i64 1)]⟩, .op ⟨some 5, none, .mv, [.tmp 4]⟩, .op ⟨some 6, (some (5, false)), .mv, [.tmp 0]⟩, .op ⟨some 7, (some (5, false)), .bin .gtr, [.tmp 6, .const (.int .i64 200)]⟩, .op ⟨some 8, none, .pick, [.tmp 5, .const (.bool true), .tmp 7]⟩, .op ⟨some 2, none, .mv, [.tmp 8]⟩]) .ret))
theorem k116 : look1 Tryz.prog ⟨[], [], [], [], [], []⟩ 116 = some (c116, 9, [(2, none)]) := by kernel_rfl
def c55 : AC := (.seq (.ops [.op ⟨some 4, none, .mv, [.const (.bool false)]⟩]) (.seq (.ops [.op ⟨some 5, none, .mv, [.tmp 0]⟩, .op ⟨some 6, none, .len false, [.tmp 5]⟩, .op ⟨some 7, none, .mv, [.tmp 1]⟩, .op ⟨some 8, none, .bin .leq, [.tmp 6, .tmp 7]⟩, .op ⟨some 9, none, .mv, [.tmp 8]⟩, .op ⟨some 10, (some (9, true)), .mv, [.tmp 0]⟩, .op ⟨some 11, (some (9, true)), .call false, [.func 115, .tmp 10, .func 116]⟩, .op ⟨some 12, (some (9, true)), .un .not, [.tmp 11]⟩, .op ⟨some 13, none, .pick, [.tmp 9, .tmp 12, .const (.bool false)]⟩, .op ⟨some 4, none, .mv, [.tmp 13]⟩]) .ret))
theorem k55 : look1 Tryz.prog ⟨[], [], [], [], [], []⟩ 55 = some (c55, 14, [(4, none)]) := by kernel_rfl
def c82l0 : AC := (.seq (.ops [.op ⟨some 7, none, .bin .lss, [.tmp 6, .tmp 5]⟩]) (.seq (.cond (.tmp 7) .skip (.exit 0)) (.seq (.block 1 (.seq (.ops [.op ⟨some 8, none, .mv, [.tmp 6]⟩, .op ⟨some 3, none, .mv, [.tmp 8]⟩]) (.seq (.ops [.op ⟨some 9, none, .mv, [.tmp 0]⟩, .op ⟨some 10, none, .mv, [.tmp 3]⟩, .op ⟨some 11, none, .sidx, [.tmp 9, .tmp 10]⟩, .op ⟨some 12, none, .bin .lss, [.tmp 11, .const (.int .u8 33)]⟩, .op ⟨some 13, none, .mv, [.tmp 12]⟩, .op ⟨some 14, (some (13, false)), .mv, [.tmp 0]⟩, .op ⟨some 15, (some (13, false)), .mv, [.tmp 3]⟩, .op ⟨some 16, (some (13, false)), .sidx, [.tmp 14, .tmp 15]⟩, .op ⟨some 17, (some (13, false)), .bin .gtr, [.tmp 16, .const (.int .u8 126)]⟩, .op ⟨some 18, none, .pick, [.tmp 13, .const (.bool true), .tmp 17]⟩]) (.cond (.tmp 18) (.seq (.ops [.op ⟨some 2, none, .mv, [.const (.bool false)]⟩]) .ret) .skip)))) (.ops [.op ⟨some 19, none, .bin .add, [.tmp 6, .const (.int .i64 1)]⟩, .op ⟨some 6, none, .mv, [.tmp 19]⟩]))))
def c82 : AC := (.seq (.ops [.op ⟨some 2, none, .mv, [.const (.bool false)]⟩]) (.seq (.seq (.ops [.op ⟨some 4, none, .mv, [.tmp 0]⟩, .op ⟨some 5, none, .len true, [.tmp 4]⟩, .op ⟨some 6, none, .mv, [.const (.int .i64 0)]⟩]) (.block 0 (.loop c82l0))) (.seq (.ops [.op ⟨some 20, none, .mv, [.tmp 0]⟩, .op ⟨some 21, none, .len true, [.tmp 20]⟩, .op ⟨some 22, none, .bin .geq, [.tmp 21, .const (.int .i64 1)]⟩, .op ⟨some 23, none, .mv, [.tmp 22]⟩, .op ⟨some 24, (some (23, true)), .mv, [.tmp 0]⟩, .op ⟨some 25, (some (23, true)), .len true, [.tmp 24]⟩, .op ⟨some 26, (some (23, true)), .bin .leq, [.tmp 25, .const (.int .i64 40)]⟩, .op ⟨some 27, none, .pick, [.tmp 23, .tmp 26, .const (.bool false)]⟩, .op ⟨some 2, none, .mv, [.tmp 27]⟩]) .ret)))
theorem k82 : look1 Tryz.prog ⟨[], [], [], [], [], []⟩ 82 = some (c82, 28, [(2, none)]) := by kernel_rfl
def c83 : AC := (.seq (.ops [.op ⟨some 1, none, .box true 32, [.tmp 0]⟩, .op ⟨some 2, none, .mv, [.const (.bool false)]⟩]) (.seq (.draw [⟨some 3, none, .load true 3, [.tmp 1]⟩, ⟨some 4, none, .call false, [.func 32, .tmp 3]⟩, ⟨some 5, none, .bin .gtr, [.tmp 4, .const (.int .i64 0)]⟩, ⟨some 6, none, .mv, [.tmp 5]⟩, ⟨some 7, (some (6, true)), .load true 3, [.tmp 1]⟩, ⟨some 8, (some (6, true)), .call false, [.func 20, .const (.int .i64 1)]⟩, ⟨some 9, (some (6, true)), .call false, [.func 23, .tmp 7, .tmp 8]⟩, ⟨some 10, (some (6, true)), .bin .leq, [.tmp 9, .const (.int .i64 0)]⟩, ⟨some 11, none, .pick, [.tmp 6, .tmp 10, .const (.bool false)]⟩, ⟨some 2, none, .mv, [.tmp 11]⟩]) .ret))
theorem k83 : look1 Tryz.prog ⟨[], [], [], [], [], []⟩ 83 = some (c83, 12, [(2, none)]) := by kernel_rfl
def c84 : AC := (.seq (.ops [.op ⟨some 2, none, .box true 87, [.tmp 0]⟩, .op ⟨some 3, none, .box true 87, [.tmp 1]⟩, .op ⟨some 4, none, .mv, [.const (.int .i64 0)]⟩]) (.seq (.seq (.ops [.op ⟨some 6, none, .fld 0 false 1, [.tmp 2]⟩, .op ⟨some 7, none, .load false 1, [.tmp 6]⟩, .op ⟨some 8, none, .fld 0 false 1, [.tmp 3]⟩, .op ⟨some 9, none, .load false 1, [.tmp 8]⟩, .op ⟨some 10, none, .call false, [.func 143, .tmp 7, .tmp 9]⟩, .op ⟨some 5, none, .mv, [.tmp 10]⟩]) (.seq (.ops [.op ⟨some 11, none, .mv, [.tmp 5]⟩, .op ⟨some 12, none, .bin .neq, [.tmp 11, .const (.int .i64 0)]⟩]) (.cond (.tmp 12) (.seq (.ops [.op ⟨some 13, none, .mv, [.tmp 5]⟩, .op ⟨some 4, none, .mv, [.tmp 13]⟩]) .ret) .skip))) (.seq (.ops [.op ⟨some 14, none, .fld 1 false 1, [.tmp 2]⟩, .op ⟨some 15, none, .load false 1, [.tmp 14]⟩, .op ⟨some 16, none, .fld 1 false 1, [.tmp 3]⟩, .op ⟨some 17, none, .load false 1, [.tmp 16]⟩, .op ⟨some 18, none, .call false, [.func 105, .tmp 15, .tmp 17]⟩, .op ⟨some 4, none, .mv, [.tmp 18]⟩]) .ret)))
theorem k84 : look1 Tryz.prog ⟨[], [], [], [], [], []⟩ 84 = some (c84, 19, [(4, none)]) := by kernel_rfl
def c143 : AC := (.seq (.ops [.op ⟨some 4, none, .mv, [.const (.int .i64 0)]⟩]) (.seq (.ops [.op ⟨some 5, none, .mv, [.tmp 0]⟩, .op ⟨some 6, none, .mv, [.tmp 1]⟩, .op ⟨some 7, none, .call false, [.func 187, .tmp 5, .tmp 6]⟩, .op ⟨some 4, none, .mv, [.tmp 7]⟩]) .ret))
theorem k143 : look1 Tryz.prog ⟨[], [], [], [], [], []⟩ 143 = some (c143, 8, [(4, none)]) := by kernel_rfl
def c187 : AC := (.seq (.ops [.op ⟨some 4, none, .mv, [.const (.int .i64 0)]⟩]) (.seq (.ops [.op ⟨some 5, none, .mv, [.tmp 0]⟩, .op ⟨some 6, none, .mv, [.tmp 1]⟩, .op ⟨some 7, none, .call false, [.func 209, .tmp 5, .tmp 6]⟩, .op ⟨some 4, none, .mv, [.tmp 7]⟩]) .ret))
theorem k187 : look1 Tryz.prog ⟨[], [], [], [], [], []⟩ 187 = some (c187, 8, [(4, none)]) := by kernel_rfl
def c105l0 : AC := (.seq (.ops [.op ⟨some 13, none, .bin .lss, [.tmp 12, .tmp 11]⟩]) (.seq (.cond (.tmp 13) .skip (.exit 0)) (.seq (.block 1 (.seq (.ops [.op ⟨some 14, none, .mv, [.tmp 12]⟩, .op ⟨some 5, none, .mv, [.tmp 14]⟩]) (.seq (.draw [⟨some 15, none, .mv, [.tmp 0]⟩, ⟨some 16, none, .mv, [.tmp 5]⟩, ⟨some 17, none, (.idx 1), [.tmp 15, .tmp 16]⟩, ⟨some 18, none, .load false 1, [.tmp 17]⟩, ⟨some 19, none, .mv, [.tmp 1]⟩, ⟨some 20, none, .mv, [.tmp 5]⟩, ⟨some 21, none, (.idx 1), [.tmp 19, .tmp 20]⟩, ⟨some 22, none, .load false 1, [.tmp 21]⟩, ⟨some 23, none, .call false, [.func 137, .tmp 18, .tmp 22]⟩, ⟨some 6, none, .mv, [.tmp 23]⟩]) (.seq (.ops [.op ⟨some 24, none, .mv, [.tmp 6]⟩, .op ⟨some 25, none, .bin .neq, [.tmp 24, .const (.int .i64 0)]⟩]) (.cond (.tmp 25) (.seq (.ops [.op ⟨some 26, none, .mv, [.tmp 6]⟩, .op ⟨some 4, none, .mv, [.tmp 26]⟩]) .ret) .skip))))) (.ops [.op ⟨some 27, none, .bin .add, [.tmp 12, .const (.int .i64 1)]⟩, .op ⟨some 12, none, .mv, [.tmp 27]⟩]))))
def c105 : AC := (.seq (.ops [.op ⟨some 4, none, .mv, [.const (.int .i64 0)]⟩]) (.seq (.seq (.ops [.op ⟨some 7, none, .mv, [.tmp 0]⟩, .op ⟨some 8, none, .len false, [.tmp 7]⟩, .op ⟨some 9, none, .mv, [.tmp 1]⟩, .op ⟨some 10, none, .len false, [.tmp 9]⟩, .op ⟨some 11, none, .mn, [.tmp 8, .tmp 10]⟩, .op ⟨some 12, none, .mv, [.const (.int .i64 0)]⟩]) (.block 0 (.loop c105l0))) (.seq (.ops [.op ⟨some 28, none, .mv, [.tmp 0]⟩, .op ⟨some 29, none, .len false, [.tmp 28]⟩, .op ⟨some 30, none, .mv, [.tmp 1]⟩, .op ⟨some 31, none, .len false, [.tmp 30]⟩, .op ⟨some 32, none, .call false, [.func 137, .tmp 29, .tmp 31]⟩, .op ⟨some 4, none, .mv, [.tmp 32]⟩]) .ret)))
theorem k105 : look1 Tryz.prog ⟨[], [], [], [], [], []⟩ 105 = some (c105, 33, [(4, none)]) := by kernel_rfl
def c136 : AC := (.seq (.ops [.op ⟨some 4, none, .mv, [.const (.int .i64 0)]⟩]) (.seq (.ops [.op ⟨some 7, none, .mv, [.tmp 0]⟩, .op ⟨some 8, none, .call false, [.func 182, .tmp 7]⟩, .op ⟨some 5, none, .mv, [.tmp 8]⟩]) (.seq (.ops [.op ⟨some 9, none, .mv, [.tmp 1]⟩, .op ⟨some 10, none, .call false, [.func 182, .tmp 9]⟩, .op ⟨some 6, none, .mv, [.tmp 10]⟩]) (.seq (.seq (.ops [.op ⟨some 11, none, .mv, [.tmp 5]⟩]) (.cond (.tmp 11) (.seq (.seq (.ops [.op ⟨some 12, none, .mv, [.tmp 6]⟩]) (.cond (.tmp 12) (.seq (.ops [.op ⟨some 4, none, .mv, [.const (.int .i64 0)]⟩]) .ret) .skip)) (.seq (.ops [.op ⟨some 4, none, .mv, [(.const (.int .i64 (-1)))]⟩]) .ret)) .skip)) (.seq (.seq (.ops [.op ⟨some 13, none, .mv, [.tmp 6]⟩]) (.cond (.tmp 13) (.seq (.ops [.op ⟨some 4, none, .mv, [.const (.int .i64 1)]⟩]) .ret) .skip)) (.seq (.seq (.ops [.op ⟨some 14, none, .mv, [.tmp 0]⟩, .op ⟨some 15, none, .mv, [.tmp 1]⟩, .op ⟨some 16, none, .bin .lss, [.tmp 14, .tmp 15]⟩]) (.cond (.tmp 16) (.seq (.ops [.op ⟨some 4, none, .mv, [(.const (.int .i64 (-1)))]⟩]) .ret) .skip)) (.seq (.seq (.ops [.op ⟨some 17, none, .mv, [.tmp 0]⟩, .op ⟨some 18, none, .mv, [.tmp 1]⟩, .op ⟨some 19, none, .bin .gtr, [.tmp 17, .tmp 18]⟩]) (.cond (.tmp 19) (.seq (.ops [.op ⟨some 4, none, .mv, [.const (.int .i64 1)]⟩]) .ret) .skip)) (.seq (.ops [.op ⟨some 4, none, .mv, [.const (.int .i64 0)]⟩]) .ret))))))))
theorem k136 : look1 Tryz.prog ⟨[], [], [], [], [], []⟩ 136 = some (c136, 20, [(4, none)]) := by kernel_rfl
def c137 : AC := (.seq (.ops [.op ⟨some 4, none, .mv, [.const (.int .i64 0)]⟩]) (.seq (.ops [.op ⟨some 7, none, .mv, [.tmp 0]⟩, .op ⟨some 8, none, .call false, [.func 183, .tmp 7]⟩, .op ⟨some 5, none, .mv, [.tmp 8]⟩]) (.seq (.ops [.op ⟨some 9, none, .mv, [.tmp 1]⟩, .op ⟨some 10, none, .call false, [.func 183, .tmp 9]⟩, .op ⟨some 6, none, .mv, [.tmp 10]⟩]) (.seq (.seq (.ops [.op ⟨some 11, none, .mv, [.tmp 5]⟩]) (.cond (.tmp 11) (.seq (.seq (.ops [.op ⟨some 12, none, .mv, [.tmp 6]⟩]) (.cond (.tmp 12) (.seq (.ops [.op ⟨some 4, none, .mv, [.const (.int .i64 0)]⟩]) .ret) .skip)) (.seq (.ops [.op ⟨some 4, none, .mv, [(.const (.int .i64 (-1)))]⟩]) .ret)) .skip)) (.seq (.seq (.ops [.op ⟨some 13, none, .mv, [.tmp 6]⟩]) (.cond (.tmp 13) (.seq (.ops [.op ⟨some 4, none, .mv, [.const (.int .i64 1)]⟩]) .ret) .skip)) (.seq (.seq (.ops [.op ⟨some 14, none, .mv, [.tmp 0]⟩, .op ⟨some 15, none, .mv, [.tmp 1]⟩, .op ⟨some 16, none, .bin .lss, [.tmp 14, .tmp 15]⟩]) (.cond (.tmp 16) (.seq (.ops [.op ⟨some 4, none, .mv, [(.const (.int .i64 (-1)))]⟩]) .ret) .skip)) (.seq (.seq (.ops [.op ⟨some 17, none, .mv, [.tmp 0]⟩, .op ⟨some 18, none, .mv, [.tmp 1]⟩, .op ⟨some 19, none, .bin .gtr, [.tmp 17, .tmp 18]⟩]) (.cond (.tmp 19) (.seq (.ops [.op ⟨some 4, none, .mv, [.const (.int .i64 1)]⟩]) .ret) .skip)) (.seq (.ops [.op ⟨some 4, none, .mv, [.const (.int .i64 0)]⟩]) .ret))))))))
theorem k137 : look1 Tryz.prog ⟨[], [], [], [], [], []⟩ 137 = some (c137, 20, [(4, none)]) := by kernel_rfl
def c182 : AC := (.seq (.ops [.op ⟨some 2, none, .mv, [.const (.bool false)]⟩]) (.seq (.ops [.op ⟨some 3, none, .mv, [.tmp 0]⟩, .op ⟨some 4, none, .mv, [.tmp 0]⟩, .op ⟨some 5, none, .bin .neq, [.tmp 3, .tmp 4]⟩, .op ⟨some 2, none, .mv, [.tmp 5]⟩]) .ret))
theorem k182 : look1 Tryz.prog ⟨[], [], [], [], [], []⟩ 182 = some (c182, 6, [(2, none)]) := by kernel_rfl
def c183 : AC := (.seq (.ops [.op ⟨some 2, none, .mv, [.const (.bool false)]⟩]) (.seq (.ops [.op ⟨some 3, none, .mv, [.tmp 0]⟩, .op ⟨some 4, none, .mv, [.tmp 0]⟩, .op ⟨some 5, none, .bin .neq, [.tmp 3, .tmp 4]⟩, .op ⟨some 2, none, .mv, [.tmp 5]⟩]) .ret))
theorem k183 : look1 Tryz.prog ⟨[], [], [], [], [], []⟩ 183 = some (c183, 6, [(2, none)]) := by kernel_rfl
def c34l0 : AC := (.seq (.seq (.ops [.op ⟨some 63, none, .mv, [.tmp 5]⟩, .op ⟨some 64, none, .fld 0 false 1, [.tmp 1]⟩, .op ⟨some 65, none, .load false 1, [.tmp 64]⟩, .op ⟨some 66, none, .len false, [.tmp 65]⟩, .op ⟨some 67, none, .bin .lss, [.tmp 63, .tmp 66]⟩, .op ⟨some 68, none, .mv, [.tmp 67]⟩, .op ⟨some 69, (some (68, true)), .fld 0 false 1, [.tmp 1]⟩, .op ⟨some 70, (some (68, true)), .load false 1, [.tmp 69]⟩, .op ⟨some 71, (some (68, true)), .mv, [.tmp 5]⟩, .op ⟨some 72, (some (68, true)), (.idx 5), [.tmp 70, .tmp 71]⟩, .op ⟨some 73, (some (68, true)), .fld 0 false 1, [.tmp 72]⟩, .op ⟨some 74, (some (68, true)), .load false 1, [.tmp 73]⟩, .op ⟨some 75, (some (68, true)), .mv, [.tmp 7]⟩, .op ⟨some 76, (some (68, true)), .bin .eql, [.tmp 74, .tmp 75]⟩, .op ⟨some 77, none, .pick, [.tmp 68, .tmp 76, .const (.bool false)]⟩]) (.cond (.tmp 77) .skip (.exit 4))) (.seq (.block 5 (.draw [⟨some 80, none, .load true 3, [.tmp 6]⟩, ⟨some 81, none, .fld 0 false 1, [.tmp 1]⟩, ⟨some 82, none, .load false 1, [.tmp 81]⟩, ⟨some 83, none, .mv, [.tmp 5]⟩, ⟨some 84, none, (.idx 5), [.tmp 82, .tmp 83]⟩, ⟨some 85, none, .fld 2 true 3, [.tmp 84]⟩, ⟨some 86, none, .load true 3, [.tmp 85]⟩, ⟨some 87, none, .call false, [.func 21, .tmp 80, .tmp 86]⟩, ⟨none, none, .store 3, [.tmp 6, .tmp 87]⟩])) (.ops [.op ⟨some 78, none, .mv, [.tmp 5]⟩, .op ⟨some 79, none, .bin .add, [.tmp 78, .const (.int .i64 1)]⟩, .op ⟨some 5, none, .mv, [.tmp 79]⟩])))
def c34l1 : AC := (.seq (.seq (.ops [.op ⟨some 52, none, .mv, [.tmp 5]⟩, .op ⟨some 53, none, .fld 0 false 1, [.tmp 1]⟩, .op ⟨some 54, none, .load false 1, [.tmp 53]⟩, .op ⟨some 55, none, .len false, [.tmp 54]⟩, .op ⟨some 56, none, .bin .lss, [.tmp 52, .tmp 55]⟩]) (.cond (.tmp 56) .skip (.exit 2))) (.block 3 (.seq (.ops [.op ⟨some 6, none, .alloc 32, []⟩]) (.seq (.ops [.op ⟨some 57, none, .fld 0 false 1, [.tmp 1]⟩, .op ⟨some 58, none, .load false 1, [.tmp 57]⟩, .op ⟨some 59, none, .mv, [.tmp 5]⟩, .op ⟨some 60, none, (.idx 5), [.tmp 58, .tmp 59]⟩, .op ⟨some 61, none, .fld 0 false 1, [.tmp 60]⟩, .op ⟨some 62, none, .load false 1, [.tmp 61]⟩, .op ⟨some 7, none, .mv, [.tmp 62]⟩]) (.seq (.block 4 (.loop c34l0)) (.seq (.draw [⟨some 88, none, .load true 3, [.tmp 6]⟩, ⟨some 89, none, .call false, [.func 20, .const (.int .i64 1)]⟩, ⟨some 90, none, .call false, [.func 23, .tmp 88, .tmp 89]⟩, ⟨some 91, none, .bin .neq, [.tmp 90, .const (.int .i64 0)]⟩]) (.cond (.tmp 91) (.seq (.ops [.op ⟨some 2, none, .mv, [.const (.bool false)]⟩]) .ret) .skip)))))))
def c34l2 : AC := (.seq (.ops [.op ⟨some 16, none, .bin .lss, [.tmp 15, .tmp 14]⟩]) (.seq (.cond (.tmp 16) .skip (.exit 0)) (.seq (.block 1 (.seq (.ops [.op ⟨some 17, none, .mv, [.tmp 15]⟩, .op ⟨some 18, none, (.idx 5), [.tmp 13, .tmp 15]⟩, .op ⟨some 19, none, .load true 5, [.tmp 18]⟩, .op ⟨some 4, none, .alloc 87, []⟩, .op ⟨some 3, none, .mv, [.tmp 17]⟩, .op ⟨none, none, .store 5, [.tmp 4, .tmp 19]⟩]) (.seq (.draw [⟨some 20, none, .fld 0 false 1, [.tmp 4]⟩, ⟨some 21, none, .load false 1, [.tmp 20]⟩, ⟨some 22, none, .call false, [.func 82, .tmp 21]⟩, ⟨some 23, none, .un .not, [.tmp 22]⟩, ⟨some 24, none, .mv, [.tmp 23]⟩, ⟨some 25, (some (24, false)), .fld 1 false 1, [.tmp 4]⟩, ⟨some 26, (some (24, false)), .load false 1, [.tmp 25]⟩, ⟨some 27, (some (24, false)), .call false, [.func 55, .tmp 26, .const (.int .i64 40)]⟩, ⟨some 28, (some (24, false)), .un .not, [.tmp 27]⟩, ⟨some 29, none, .pick, [.tmp 24, .const (.bool true), .tmp 28]⟩, ⟨some 30, none, .mv, [.tmp 29]⟩, ⟨some 31, (some (30, false)), .fld 2 true 3, [.tmp 4]⟩, ⟨some 32, (some (30, false)), .load true 3, [.tmp 31]⟩, ⟨some 33, (some (30, false)), .call false, [.func 83, .tmp 32]⟩, ⟨some 34, (some (30, false)), .un .not, [.tmp 33]⟩, ⟨some 35, none, .pick, [.tmp 30, .const (.bool true), .tmp 34]⟩, ⟨some 36, none, .mv, [.tmp 35]⟩, ⟨some 37, (some (36, false)), .mv, [.tmp 3]⟩, ⟨some 38, (some (36, false)), .bin .gtr, [.tmp 37, .const (.int .i64 0)]⟩, ⟨some 39, (some (36, false)), .mv, [.tmp 38]⟩, ⟨some 40, (some (39, true)), .fld 0 false 1, [.tmp 1]⟩, ⟨some 41, (some (39, true)), .load false 1, [.tmp 40]⟩, ⟨some 42, (some (39, true)), .mv, [.tmp 3]⟩, ⟨some 43, (some (39, true)), .bin .sub, [.tmp 42, .const (.int .i64 1)]⟩, ⟨some 44, (some (39, true)), (.idx 5), [.tmp 41, .tmp 43]⟩, ⟨some 45, (some (39, true)), .load true 5, [.tmp 44]⟩, ⟨some 46, (some (39, true)), .load true 5, [.tmp 4]⟩, ⟨some 47, (some (39, true)), .call false, [.func 84, .tmp 45, .tmp 46]⟩, ⟨some 48, (some (39, true)), .bin .geq, [.tmp 47, .const (.int .i64 0)]⟩, ⟨some 49, (some (36, false)), .pick, [.tmp 39, .tmp 48, .const (.bool false)]⟩, ⟨some 50, none, .pick, [.tmp 36, .const (.bool true), .tmp 49]⟩]) (.cond (.tmp 50) (.seq (.ops [.op ⟨some 2, none, .mv, [.const (.bool false)]⟩]) .ret) .skip)))) (.ops [.op ⟨some 51, none, .bin .add, [.tmp 15, .const (.int .i64 1)]⟩, .op ⟨some 15, none, .mv, [.tmp 51]⟩]))))
def c34 : AC := (.seq (.ops [.op ⟨some 1, none, .box true 24, [.tmp 0]⟩, .op ⟨some 2, none, .mv, [.const (.bool false)]⟩]) (.seq (.seq (.ops [.op ⟨some 8, none, .fld 0 false 1, [.tmp 1]⟩, .op ⟨some 9, none, .load false 1, [.tmp 8]⟩, .op ⟨some 10, none, .len false, [.tmp 9]⟩, .op ⟨some 11, none, .bin .gtr, [.tmp 10, .const (.int .i64 1000)]⟩]) (.cond (.tmp 11) (.seq (.ops [.op ⟨some 2, none, .mv, [.const (.bool false)]⟩]) .ret) .skip)) (.seq (.seq (.ops [.op ⟨some 12, none, .fld 0 false 1, [.tmp 1]⟩, .op ⟨some 13, none, .load false 1, [.tmp 12]⟩, .op ⟨some 14, none, .len false, [.tmp 13]⟩, .op ⟨some 15, none, .mv, [.const (.int .i64 0)]⟩]) (.block 0 (.loop c34l2))) (.seq (.seq (.ops [.op ⟨some 5, none, .mv, [.const (.int .i64 0)]⟩]) (.block 2 (.loop c34l1))) (.seq (.ops [.op ⟨some 2, none, .mv, [.const (.bool true)]⟩]) .ret)))))
theorem k34 : look1 Tryz.prog ⟨[], [], [], [], [], []⟩ 34 = some (c34, 92, [(2, none)]) := by kernel_rfl
def c112 : AC := (.seq (.ops [.op ⟨some 1, none, .box true 59, [.tmp 0]⟩, .op ⟨some 2, none, .mv, [.const (.bool false)]⟩]) (.seq (.ops [.op ⟨some 3, none, .fld 0 false 1, [.tmp 1]⟩, .op ⟨some 4, none, .load false 1, [.tmp 3]⟩, .op ⟨some 5, none, .len false, [.tmp 4]⟩, .op ⟨some 6, none, .bin .lss, [.tmp 5, .const (.int .i64 1)]⟩, .op ⟨some 7, none, .mv, [.tmp 6]⟩, .op ⟨some 8, (some (7, false)), .fld 0 false 1, [.tmp 1]⟩, .op ⟨some 9, (some (7, false)), .load false 1, [.tmp 8]⟩, .op ⟨some 10, (some (7, false)), .call false, [.func 55, .tmp 9, .const (.int .i64 4)]⟩, .op ⟨some 11, (some (7, false)), .un .not, [.tmp 10]⟩, .op ⟨some 12, none, .pick, [.tmp 7, .const (.bool true), .tmp 11]⟩, .op ⟨some 13, none, .mv, [.tmp 12]⟩, .op ⟨some 14, (some (13, false)), .fld 1 false 1, [.tmp 1]⟩, .op ⟨some 15, (some (13, false)), .load false 1, [.tmp 14]⟩, .op ⟨some 16, (some (13, false)), .call false, [.func 55, .tmp 15, .const (.int .i64 4)]⟩, .op ⟨some 17, (some (13, false)), .un .not, [.tmp 16]⟩, .op ⟨some 18, none, .pick, [.tmp 13, .const (.bool true), .tmp 17]⟩, .op ⟨some 19, none, .mv, [.tmp 18]⟩, .op ⟨some 20, (some (19, false)), .fld 2 false 1, [.tmp 1]⟩, .op ⟨some 21, (some (19, false)), .load false 1, [.tmp 20]⟩, .op ⟨some 22, (some (19, false)), .call false, [.func 113, .tmp 21]⟩, .op ⟨some 23, (some (19, false)), .un .not, [.tmp 22]⟩, .op ⟨some 24, none, .pick, [.tmp 19, .const (.bool true), .tmp 23]⟩, .op ⟨some 25, none, .mv, [.tmp 24]⟩, .op ⟨some 26, (some (25, false)), .fld 3 false 1, [.tmp 1]⟩, .op ⟨some 27, (some (25, false)), .load false 1, [.tmp 26]⟩, .op ⟨some 28, (some (25, false)), .call false, [.func 113, .tmp 27]⟩, .op ⟨some 29, (some (25, false)), .un .not, [.tmp 28]⟩, .op ⟨some 30, none, .pick, [.tmp 25, .const (.bool true), .tmp 29]⟩, .op ⟨some 31, none, .mv, [.tmp 30]⟩, .op ⟨some 32, (some (31, false)), .fld 4 true 3, [.tmp 1]⟩, .op ⟨some 33, (some (31, false)), .load true 3, [.tmp 32]⟩, .op ⟨some 34, (some (31, false)), .call false, [.func 83, .tmp 33]⟩, .op ⟨some 35, (some (31, false)), .un .not, [.tmp 34]⟩, .op ⟨some 36, none, .pick, [.tmp 31, .const (.bool true), .tmp 35]⟩, .op ⟨some 2, none, .mv, [.tmp 36]⟩]) .ret))
theorem k112 : look1 Tryz.prog ⟨[], [], [], [], [], []⟩ 112 = some (c112, 37, [(2, none)]) := by kernel_rfl
def c113l0 : AC := (.seq (.ops [.op ⟨some 8, none, .bin .lss, [.tmp 7, .tmp 6]⟩]) (.seq (.cond (.tmp 8) .skip (.exit 0)) (.seq (.block 1 (.seq (.ops [.op ⟨some 9, none, .mv, [.tmp 7]⟩, .op ⟨some 10, none, (.idx 1), [.tmp 5, .tmp 7]⟩, .op ⟨some 11, none, .load false 1, [.tmp 10]⟩, .op ⟨some 3, none, .mv, [.tmp 9]⟩, .op ⟨some 4, none, .mv, [.tmp 11]⟩]) (.seq (.ops [.op ⟨some 12, none, .mv, [.tmp 4]⟩, .op ⟨some 13, none, .bin .lss, [.tmp 12, .const (.int .i64 0)]⟩, .op ⟨some 14, none, .mv, [.tmp 13]⟩, .op ⟨some 15, (some (14, false)), .mv, [.tmp 4]⟩, .op ⟨some 16, (some (14, false)), .bin .gtr, [.tmp 15, .const (.int .i64 200)]⟩, .op ⟨some 17, none, .pick, [.tmp 14, .const (.bool true), .tmp 16]⟩, .op ⟨some 18, none, .mv, [.tmp 17]⟩, .op ⟨some 19, (some (18, false)), .mv, [.tmp 3]⟩, .op ⟨some 20, (some (18, false)), .bin .gtr, [.tmp 19, .const (.int .i64 0)]⟩, .op ⟨some 21, (some (18, false)), .mv, [.tmp 20]⟩, .op ⟨some 22, (some (21, true)), .mv, [.tmp 4]⟩, .op ⟨some 23, (some (21, true)), .mv, [.tmp 0]⟩, .op ⟨some 24, (some (21, true)), .mv, [.tmp 3]⟩, .op ⟨some 25, (some (21, true)), .bin .sub, [.tmp 24, .const (.int .i64 1)]⟩, .op ⟨some 26, (some (21, true)), (.idx 1), [.tmp 23, .tmp 25]⟩, .op ⟨some 27, (some (21, true)), .load false 1, [.tmp 26]⟩, .op ⟨some 28, (some (21, true)), .bin .leq, [.tmp 22, .tmp 27]⟩, .op ⟨some 29, (some (18, false)), .pick, [.tmp 21, .tmp 28, .const (.bool false)]⟩, .op ⟨some 30, none, .pick, [.tmp 18, .const (.bool true), .tmp 29]⟩]) (.cond (.tmp 30) (.seq (.ops [.op ⟨some 2, none, .mv, [.const (.bool false)]⟩]) .ret) .skip)))) (.ops [.op ⟨some 31, none, .bin .add, [.tmp 7, .const (.int .i64 1)]⟩, .op ⟨some 7, none, .mv, [.tmp 31]⟩]))))
def c113 : AC := (.seq (.ops [.op ⟨some 2, none, .mv, [.const (.bool false)]⟩]) (.seq (.seq (.ops [.op ⟨some 5, none, .mv, [.tmp 0]⟩, .op ⟨some 6, none, .len false, [.tmp 5]⟩, .op ⟨some 7, none, .mv, [.const (.int .i64 0)]⟩]) (.block 0 (.loop c113l0))) (.seq (.ops [.op ⟨some 32, none, .mv, [.tmp 0]⟩, .op ⟨some 33, none, .len false, [.tmp 32]⟩, .op ⟨some 34, none, .bin .leq, [.tmp 33, .const (.int .i64 200)]⟩, .op ⟨some 2, none, .mv, [.tmp 34]⟩]) .ret)))
theorem k113 : look1 Tryz.prog ⟨[], [], [], [], [], []⟩ 113 = some (c113, 35, [(2, none)]) := by kernel_rfl
def c53 : AC := (.seq (.ops [.op ⟨some 2, none, .mv, [.const (.bool false)]⟩]) (.seq (.ops [.op ⟨some 3, none, .mv, [.tmp 0]⟩, .op ⟨some 4, none, .len false, [.tmp 3]⟩, .op ⟨some 5, none, .bin .leq, [.tmp 4, .const (.int .i64 50)]⟩, .op ⟨some 6, none, .mv, [.tmp 5]⟩, .op ⟨some 7, (some (6, true)), .mv, [.tmp 0]⟩, .op ⟨some 8, (some (6, true)), .call false, [.func 111, .tmp 7, .func 112]⟩, .op ⟨some 9, (some (6, true)), .un .not, [.tmp 8]⟩, .op ⟨some 10, none, .pick, [.tmp 6, .tmp 9, .const (.bool false)]⟩, .op ⟨some 2, none, .mv, [.tmp 10]⟩]) .ret))
theorem k53 : look1 Tryz.prog ⟨[], [], [], [], [], []⟩ 53 = some (c53, 11, [(2, none)]) := by kernel_rfl
def c76l0 : AC := (.seq (.ops [.op ⟨some 13, none, .bin .lss, [.tmp 12, .tmp 11]⟩]) (.seq (.cond (.tmp 13) .skip (.exit 0)) (.seq (.block 1 (.seq (.ops [.op ⟨some 14, none, .mv, [.tmp 12]⟩, .op ⟨some 5, none, .mv, [.tmp 14]⟩]) (.seq (.draw [⟨some 15, none, .mv, [.tmp 0]⟩, ⟨some 16, none, .mv, [.tmp 5]⟩, ⟨some 17, none, (.idx 1), [.tmp 15, .tmp 16]⟩, ⟨some 18, none, .load false 1, [.tmp 17]⟩, ⟨some 19, none, .mv, [.tmp 1]⟩, ⟨some 20, none, .mv, [.tmp 5]⟩, ⟨some 21, none, (.idx 1), [.tmp 19, .tmp 20]⟩, ⟨some 22, none, .load false 1, [.tmp 21]⟩, ⟨some 23, none, .call false, [.func 136, .tmp 18, .tmp 22]⟩, ⟨some 6, none, .mv, [.tmp 23]⟩]) (.seq (.ops [.op ⟨some 24, none, .mv, [.tmp 6]⟩, .op ⟨some 25, none, .bin .neq, [.tmp 24, .const (.int .i64 0)]⟩]) (.cond (.tmp 25) (.seq (.ops [.op ⟨some 26, none, .mv, [.tmp 6]⟩, .op ⟨some 4, none, .mv, [.tmp 26]⟩]) .ret) .skip))))) (.ops [.op ⟨some 27, none, .bin .add, [.tmp 12, .const (.int .i64 1)]⟩, .op ⟨some 12, none, .mv, [.tmp 27]⟩]))))
def c76 : AC := (.seq (.ops [.op ⟨some 4, none, .mv, [.const (.int .i64 0)]⟩]) (.seq (.seq (.ops [.op ⟨some 7, none, .mv, [.tmp 0]⟩, .op ⟨some 8, none, .len false, [.tmp 7]⟩, .op ⟨some 9, none, .mv, [.tmp 1]⟩, .op ⟨some 10, none, .len false, [.tmp 9]⟩, .op ⟨some 11, none, .mn, [.tmp 8, .tmp 10]⟩, .op ⟨some 12, none, .mv, [.const (.int .i64 0)]⟩]) (.block 0 (.loop c76l0))) (.seq (.ops [.op ⟨some 28, none, .mv, [.tmp 0]⟩, .op ⟨some 29, none, .len false, [.tmp 28]⟩, .op ⟨some 30, none, .mv, [.tmp 1]⟩, .op ⟨some 31, none, .len false, [.tmp 30]⟩, .op ⟨some 32, none, .call false, [.func 137, .tmp 29, .tmp 31]⟩, .op ⟨some 4, none, .mv, [.tmp 32]⟩]) .ret)))
theorem k76 : look1 Tryz.prog ⟨[], [], [], [], [], []⟩ 76 = some (c76, 33, [(4, none)]) := by kernel_rfl
end Bh
namespace Bh
open Go Go.Proofs
def c147 : AC := (.seq (.ops [.op ⟨some 2, none, .box true 87, [.tmp 0]⟩, .op ⟨some 3, none, .mv, [.const (.bool false)]⟩]) (.seq (.ops [.op ⟨some 4, none, .fld 0 false 1, [.tmp 2]⟩, .op ⟨some 5, none, .load false 1, [.tmp 4]⟩, .op ⟨some 6, none, .load false 1, [.tmp 1]⟩, .op ⟨some 7, none, .bin .eql, [.tmp 5, .tmp 6]⟩, .op ⟨some 3, none, .mv, [.tmp 7]⟩]) .ret))
theorem k147 : look1 Tryz.prog ⟨[], [], [], [], [], []⟩ 147 = some (c147, 8, [(3, none)]) := by kernel_rfl
def c89l0 : AC := (.seq (.seq (.draw [⟨some 14, none, .mv, [.tmp 6]⟩, ⟨some 15, none, .fld 0 false 1, [.tmp 2]⟩, ⟨some 16, none, .load false 1, [.tmp 15]⟩, ⟨some 17, none, .len false, [.tmp 16]⟩, ⟨some 18, none, .bin .lss, [.tmp 14, .tmp 17]⟩, ⟨some 19, none, .mv, [.tmp 18]⟩, ⟨some 20, (some (19, true)), .fld 0 false 1, [.tmp 2]⟩, ⟨some 21, (some (19, true)), .load false 1, [.tmp 20]⟩, ⟨some 22, (some (19, true)), .mv, [.tmp 6]⟩, ⟨some 23, (some (19, true)), (.idx 5), [.tmp 21, .tmp 22]⟩, ⟨some 24, (some (19, true)), .fld 0 false 1, [.tmp 23]⟩, ⟨some 25, (some (19, true)), .load false 1, [.tmp 24]⟩, ⟨some 26, (some (19, true)), .load false 1, [.tmp 3]⟩, ⟨some 27, (some (19, true)), .bin .eql, [.tmp 25, .tmp 26]⟩, ⟨some 28, none, .pick, [.tmp 19, .tmp 27, .const (.bool false)]⟩]) (.cond (.tmp 28) .skip (.exit 0))) (.block 1 (.ops [.op ⟨some 29, none, .mv, [.tmp 6]⟩, .op ⟨some 30, none, .bin .add, [.tmp 29, .const (.int .i64 1)]⟩, .op ⟨some 6, none, .mv, [.tmp 30]⟩])))
def c89 : AC := (.seq (.ops [.op ⟨some 2, none, .box true 24, [.tmp 0]⟩, .op ⟨some 3, none, .box true 9, [.tmp 1]⟩, .op ⟨some 4, none, .mv, [.const (.slice none 0 0)]⟩]) (.seq (.ops [.op ⟨some 7, none, .fld 0 false 1, [.tmp 2]⟩, .op ⟨some 8, none, .load false 1, [.tmp 7]⟩, .op ⟨some 9, none, (.mkf 147), [.tmp 3]⟩, .op ⟨some 10, none, .call false, [.func 146, .tmp 8, .tmp 9]⟩, .op ⟨some 5, none, .mv, [.tmp 10]⟩]) (.seq (.seq (.ops [.op ⟨some 11, none, .mv, [.tmp 5]⟩, .op ⟨some 12, none, .bin .lss, [.tmp 11, .const (.int .i64 0)]⟩]) (.cond (.tmp 12) (.seq (.ops [.op ⟨some 4, none, .mv, [.const (.slice none 0 0)]⟩]) .ret) .skip)) (.seq (.ops [.op ⟨some 13, none, .mv, [.tmp 5]⟩, .op ⟨some 6, none, .mv, [.tmp 13]⟩]) (.seq (.block 0 (.loop c89l0)) (.seq (.ops [.op ⟨some 31, none, .fld 0 false 1, [.tmp 2]⟩, .op ⟨some 32, none, .load false 1, [.tmp 31]⟩, .op ⟨some 33, none, .mv, [.tmp 5]⟩, .op ⟨some 34, none, .mv, [.tmp 6]⟩, .op ⟨some 35, none, .slice 5 true true, [.tmp 32, .tmp 33, .tmp 34]⟩, .op ⟨some 4, none, .mv, [.tmp 35]⟩]) .ret))))))
theorem k89 : look1 Tryz.prog ⟨[], [], [], [], [], []⟩ 89 = some (c89, 36, [(4, none)]) := by kernel_rfl
def c56l0 : AC := (.seq (.ops [.op ⟨some 50, none, .bin .lss, [.tmp 49, .tmp 48]⟩]) (.seq (.cond (.tmp 50) .skip (.exit 4)) (.seq (.block 5 (.seq (.ops [.op ⟨some 51, none, (.idx 5), [.tmp 47, .tmp 49]⟩, .op ⟨some 52, none, .load true 5, [.tmp 51]⟩, .op ⟨some 18, none, .alloc 87, []⟩, .op ⟨none, none, .store 5, [.tmp 18, .tmp 52]⟩]) (.ops [.op ⟨some 53, none, .mv, [.tmp 16]⟩, .op ⟨some 54, none, .fld 1 false 1, [.tmp 18]⟩, .op ⟨some 55, none, .load false 1, [.tmp 54]⟩, .op ⟨some 56, none, .len false, [.tmp 55]⟩, .op ⟨some 57, none, .mx, [.tmp 53, .tmp 56]⟩, .op ⟨some 16, none, .mv, [.tmp 57]⟩]))) (.ops [.op ⟨some 58, none, .bin .add, [.tmp 49, .const (.int .i64 1)]⟩, .op ⟨some 49, none, .mv, [.tmp 58]⟩]))))
def c56l1 : AC := (.seq (.ops [.op ⟨some 39, none, .bin .lss, [.tmp 38, .tmp 37]⟩]) (.seq (.cond (.tmp 39) .skip (.exit 2)) (.seq (.block 3 (.seq (.ops [.op ⟨some 40, none, (.idx 1), [.tmp 36, .tmp 38]⟩, .op ⟨some 41, none, .load false 1, [.tmp 40]⟩, .op ⟨some 15, none, .mv, [.tmp 41]⟩]) (.seq (.ops [.op ⟨some 42, none, .mv, [.tmp 12]⟩, .op ⟨some 43, none, .mv, [.tmp 15]⟩, .op ⟨some 44, none, .len false, [.tmp 43]⟩, .op ⟨some 45, none, .bin .mul, [.tmp 42, .tmp 44]⟩, .op ⟨some 46, none, .mn, [.tmp 45, .const (.int .i64 5001)]⟩, .op ⟨some 12, none, .mv, [.tmp 46]⟩]) (.seq (.ops [.op ⟨some 16, none, .mv, [.const (.int .i64 0)]⟩]) (.seq (.seq (.ops [.op ⟨some 47, none, .mv, [.tmp 15]⟩, .op ⟨some 48, none, .len false, [.tmp 47]⟩, .op ⟨some 49, none, .mv, [.const (.int .i64 0)]⟩]) (.block 4 (.loop c56l0))) (.ops [.op ⟨some 59, none, .mv, [.tmp 13]⟩, .op ⟨some 60, none, .mv, [.tmp 16]⟩, .op ⟨some 61, none, .bin .add, [.tmp 59, .tmp 60]⟩, .op ⟨some 13, none, .mv, [.tmp 61]⟩])))))) (.ops [.op ⟨some 62, none, .bin .add, [.tmp 38, .const (.int .i64 1)]⟩, .op ⟨some 38, none, .mv, [.tmp 62]⟩]))))
def c56l2 : AC := (.seq (.ops [.op ⟨some 22, none, .bin .lss, [.tmp 21, .tmp 20]⟩]) (.seq (.cond (.tmp 22) .skip (.exit 0)) (.seq (.block 1 (.seq (.ops [.op ⟨some 23, none, (.idx 1), [.tmp 19, .tmp 21]⟩, .op ⟨some 24, none, .load false 1, [.tmp 23]⟩, .op ⟨some 10, none, .mv, [.tmp 24]⟩]) (.seq (.ops [.op ⟨some 25, none, .load true 1, [.tmp 3]⟩, .op ⟨some 26, none, .mv, [.tmp 10]⟩, .op ⟨some 27, none, .call false, [.func 89, .tmp 25, .tmp 26]⟩, .op ⟨some 11, none, .mv, [.tmp 27]⟩]) (.seq (.seq (.ops [.op ⟨some 28, none, .mv, [.tmp 11]⟩, .op ⟨some 29, none, .len false, [.tmp 28]⟩, .op ⟨some 30, none, .bin .eql, [.tmp 29, .const (.int .i64 0)]⟩]) (.cond (.tmp 30) (.seq (.ops [.op ⟨some 6, none, .mv, [.const (.slice none 0 0)]⟩, .op ⟨some 7, none, .mv, [.const (.int .i64 7)]⟩]) .ret) .skip)) (.ops [.op ⟨some 31, none, .mv, [.tmp 8]⟩, .op ⟨some 32, none, .mv, [.tmp 11]⟩, .op ⟨some 33, none, (.bsl false 22 1), [.tmp 32]⟩, .op ⟨some 34, none, .app 22 1 24, [.tmp 31, .tmp 33]⟩, .op ⟨some 8, none, .mv, [.tmp 34]⟩]))))) (.ops [.op ⟨some 35, none, .bin .add, [.tmp 21, .const (.int .i64 1)]⟩, .op ⟨some 21, none, .mv, [.tmp 35]⟩]))))
def c56 : AC := (.seq (.ops [.op ⟨some 3, none, .box true 24, [.tmp 0]⟩, .op ⟨some 6, none, .mv, [.const (.slice none 0 0)]⟩, .op ⟨some 7, none, .mv, [.const (.int .i64 0)]⟩]) (.seq (.ops [.op ⟨some 8, none, .mv, [.const (.slice none 0 0)]⟩]) (.seq (.seq (.ops [(.gh (.nilr 8 22 1)), .op ⟨some 19, none, .mv, [.tmp 2]⟩, .op ⟨some 20, none, .len false, [.tmp 19]⟩, .op ⟨some 21, none, .mv, [.const (.int .i64 0)]⟩]) (.block 0 (.loop c56l2))) (.seq (.ops [.op ⟨some 12, none, .mv, [.const (.int .i64 1)]⟩, .op ⟨some 13, none, .mv, [.const (.int .i64 0)]⟩]) (.seq (.seq (.ops [(.gh (.frz 8)), .op ⟨some 36, none, .mv, [.tmp 8]⟩, .op ⟨some 37, none, .len false, [.tmp 36]⟩, .op ⟨some 38, none, .mv, [.const (.int .i64 0)]⟩]) (.block 2 (.loop c56l1))) (.seq (.seq (.ops [.op ⟨some 63, none, .mv, [.tmp 12]⟩, .op ⟨some 64, none, .bin .gtr, [.tmp 63, .const (.int .i64 5000)]⟩, .op ⟨some 65, none, .mv, [.tmp 64]⟩, .op ⟨some 66, (some (65, false)), .mv, [.tmp 13]⟩, .op ⟨some 67, (some (65, false)), .bin .gtr, [.tmp 66, .const (.int .i64 400)]⟩, .op ⟨some 68, none, .pick, [.tmp 65, .const (.bool true), .tmp 67]⟩]) (.cond (.tmp 68) (.seq (.ops [.op ⟨some 6, none, .mv, [.const (.slice none 0 0)]⟩, .op ⟨some 7, none, .mv, [.const (.int .i64 5)]⟩]) .ret) .skip)) (.seq (.ops [.op ⟨some 69, none, .mv, [.tmp 8]⟩, .op ⟨some 6, none, .mv, [.tmp 69]⟩, .op ⟨some 7, none, .mv, [.const (.int .i64 0)]⟩]) .ret)))))))
theorem k56 : look1 Tryz.prog ⟨[], [], [], [], [], [(2, 0, .nilr 8 22 1), (11, 0, .frz 8)]⟩ 56 = some (c56, 70, [(6, none), (7, none)]) := by kernel_rfl
def c58l0 : AC := (.seq (.ops [.op ⟨some 12, none, .bin .lss, [.tmp 11, .tmp 10]⟩]) (.seq (.cond (.tmp 12) .skip (.exit 0)) (.seq (.block 1 (.seq (.ops [.op ⟨some 13, none, (.idx 5), [.tmp 9, .tmp 11]⟩, .op ⟨some 14, none, .load true 5, [.tmp 13]⟩, .op ⟨some 7, none, .alloc 87, []⟩, .op ⟨none, none, .store 5, [.tmp 7, .tmp 14]⟩]) (.seq (.ops [.op ⟨some 15, none, .mv, [.tmp 4]⟩, .op ⟨some 16, none, .fld 1 false 1, [.tmp 7]⟩, .op ⟨some 17, none, .load false 1, [.tmp 16]⟩, .op ⟨some 18, none, .app 3 1 8, [.tmp 15, .tmp 17]⟩, .op ⟨some 4, none, .mv, [.tmp 18]⟩]) (.ops [.op ⟨some 19, none, .load true 3, [.tmp 5]⟩, .op ⟨some 20, none, .fld 2 true 3, [.tmp 7]⟩, .op ⟨some 21, none, .load true 3, [.tmp 20]⟩, .op ⟨some 22, none, .call false, [.func 22, .tmp 19, .tmp 21]⟩, .op ⟨none, none, .store 3, [.tmp 5, .tmp 22]⟩])))) (.ops [.op ⟨some 23, none, .bin .add, [.tmp 11, .const (.int .i64 1)]⟩, .op ⟨some 11, none, .mv, [.tmp 23]⟩]))))
def c58 : AC := (.seq (.ops [.op ⟨some 2, none, .mv, [.const (.slice none 0 0)]⟩, .op ⟨some 3, none, .alloc 32, []⟩]) (.seq (.ops [.op ⟨some 4, none, .mv, [.const (.slice none 0 0)]⟩]) (.seq (.ops [(.gh (.nilr 4 3 1)), .op ⟨some 8, none, .call false, [.func 20, .const (.int .i64 1)]⟩, .op ⟨some 5, none, .alloc 32, []⟩, .op ⟨none, none, .store 3, [.tmp 5, .tmp 8]⟩]) (.seq (.seq (.ops [.op ⟨some 9, none, .mv, [.tmp 0]⟩, .op ⟨some 10, none, .len false, [.tmp 9]⟩, .op ⟨some 11, none, .mv, [.const (.int .i64 0)]⟩]) (.block 0 (.loop c58l0))) (.seq (.seq (.ops [(.gh (.frz 4))]) (.draw [⟨some 24, none, .mv, [.tmp 4]⟩, ⟨some 25, none, .load true 3, [.tmp 5]⟩, ⟨some 2, none, .mv, [.tmp 24]⟩, ⟨none, none, .store 3, [.tmp 3, .tmp 25]⟩])) .ret)))))
theorem k58 : look1 Tryz.prog ⟨[], [], [], [], [], [(2, 0, .nilr 4 3 1), (9, 0, .frz 4)]⟩ 58 = some (c58, 26, [(2, none), (3, (some (true, 3)))]) := by kernel_rfl
def c195 : AC := (.seq (.ops [.op ⟨some 4, none, .mv, [.const (.int .i64 0)]⟩]) (.seq (.seq (.ops [.op ⟨some 5, none, .mv, [.tmp 1]⟩, .op ⟨some 6, none, .bin .lss, [.tmp 5, .const (.int .i64 0)]⟩, .op ⟨some 7, none, .mv, [.tmp 6]⟩, .op ⟨some 8, (some (7, false)), .mv, [.tmp 1]⟩, .op ⟨some 9, (some (7, false)), .mv, [.tmp 0]⟩, .op ⟨some 10, (some (7, false)), .len false, [.tmp 9]⟩, .op ⟨some 11, (some (7, false)), .bin .geq, [.tmp 8, .tmp 10]⟩, .op ⟨some 12, none, .pick, [.tmp 7, .const (.bool true), .tmp 11]⟩]) (.cond (.tmp 12) (.seq (.ops [.op ⟨some 4, none, .mv, [.const (.int .i64 0)]⟩]) .ret) .skip)) (.seq (.ops [.op ⟨some 13, none, .mv, [.tmp 0]⟩, .op ⟨some 14, none, .mv, [.tmp 1]⟩, .op ⟨some 15, none, (.idx 1), [.tmp 13, .tmp 14]⟩, .op ⟨some 16, none, .load false 1, [.tmp 15]⟩, .op ⟨some 4, none, .mv, [.tmp 16]⟩]) .ret)))
theorem k195 : look1 Tryz.prog ⟨[], [], [], [], [], []⟩ 195 = some (c195, 17, [(4, none)]) := by kernel_rfl
def c167l0 : AC := (.seq (.ops [.op ⟨some 22, none, .bin .lss, [.tmp 21, .tmp 20]⟩]) (.seq (.cond (.tmp 22) .skip (.exit 2)) (.seq (.block 3 (.seq (.ops [.op ⟨some 23, none, .mv, [.tmp 21]⟩, .op ⟨some 24, none, (.idx 1), [.tmp 19, .tmp 21]⟩, .op ⟨some 25, none, .load false 1, [.tmp 24]⟩, .op ⟨some 9, none, .mv, [.tmp 23]⟩, .op ⟨some 10, none, .mv, [.tmp 25]⟩]) (.seq (.ops [.op ⟨some 26, none, .mv, [.tmp 1]⟩, .op ⟨some 27, none, .mv, [.tmp 2]⟩, .op ⟨some 28, none, .mv, [.tmp 9]⟩, .op ⟨some 29, none, .bin .add, [.tmp 27, .tmp 28]⟩, .op ⟨some 30, none, .call false, [.func 195, .tmp 26, .tmp 29]⟩, .op ⟨some 31, none, .mv, [.tmp 10]⟩, .op ⟨some 32, none, .bin .neq, [.tmp 30, .tmp 31]⟩]) (.cond (.tmp 32) (.exit 1) .skip)))) (.ops [.op ⟨some 33, none, .bin .add, [.tmp 21, .const (.int .i64 1)]⟩, .op ⟨some 21, none, .mv, [.tmp 33]⟩]))))
def c167l1 : AC := (.seq (.ops [.op ⟨some 14, none, .bin .lss, [.tmp 13, .tmp 12]⟩]) (.seq (.cond (.tmp 14) .skip (.exit 0)) (.seq (.block 1 (.seq (.ops [.op ⟨some 15, none, .mv, [.tmp 13]⟩, .op ⟨some 16, none, (.idx 7), [.tmp 11, .tmp 13]⟩, .op ⟨some 17, none, .load true 7, [.tmp 16]⟩, .op ⟨some 8, none, .alloc 59, []⟩, .op ⟨some 7, none, .mv, [.tmp 15]⟩, .op ⟨none, none, .store 7, [.tmp 8, .tmp 17]⟩]) (.seq (.seq (.ops [.op ⟨some 18, none, .fld 0 false 1, [.tmp 8]⟩, .op ⟨some 19, none, .load false 1, [.tmp 18]⟩, .op ⟨some 20, none, .len false, [.tmp 19]⟩, .op ⟨some 21, none, .mv, [.const (.int .i64 0)]⟩]) (.block 2 (.loop c167l0))) (.seq (.seq (.draw [⟨some 34, none, .fld 2 false 1, [.tmp 8]⟩, ⟨some 35, none, .load false 1, [.tmp 34]⟩, ⟨some 36, none, .len false, [.tmp 35]⟩, ⟨some 37, none, .bin .gtr, [.tmp 36, .const (.int .i64 0)]⟩, ⟨some 38, none, .mv, [.tmp 37]⟩, ⟨some 39, (some (38, true)), .fld 2 false 1, [.tmp 8]⟩, ⟨some 40, (some (38, true)), .load false 1, [.tmp 39]⟩, ⟨some 41, (some (38, true)), .mv, [.tmp 1]⟩, ⟨some 42, (some (38, true)), .mv, [.tmp 2]⟩, ⟨some 43, (some (38, true)), .bin .sub, [.tmp 42, .const (.int .i64 1)]⟩, ⟨some 44, (some (38, true)), .call false, [.func 195, .tmp 41, .tmp 43]⟩, ⟨some 45, (some (38, true)), .call false, [.func 196, .tmp 40, .tmp 44]⟩, ⟨some 46, (some (38, true)), .un .not, [.tmp 45]⟩, ⟨some 47, none, .pick, [.tmp 38, .tmp 46, .const (.bool false)]⟩, ⟨some 48, none, .mv, [.tmp 47]⟩, ⟨some 49, (some (48, false)), .fld 3 false 1, [.tmp 8]⟩, ⟨some 50, (some (48, false)), .load false 1, [.tmp 49]⟩, ⟨some 51, (some (48, false)), .len false, [.tmp 50]⟩, ⟨some 52, (some (48, false)), .bin .gtr, [.tmp 51, .const (.int .i64 0)]⟩, ⟨some 53, (some (48, false)), .mv, [.tmp 52]⟩, ⟨some 54, (some (53, true)), .fld 3 false 1, [.tmp 8]⟩, ⟨some 55, (some (53, true)), .load false 1, [.tmp 54]⟩, ⟨some 56, (some (53, true)), .mv, [.tmp 1]⟩, ⟨some 57, (some (53, true)), .mv, [.tmp 2]⟩, ⟨some 58, (some (53, true)), .fld 0 false 1, [.tmp 8]⟩, ⟨some 59, (some (53, true)), .load false 1, [.tmp 58]⟩, ⟨some 60, (some (53, true)), .len false, [.tmp 59]⟩, ⟨some 61, (some (53, true)), .bin .add, [.tmp 57, .tmp 60]⟩, ⟨some 62, (some (53, true)), .call false, [.func 195, .tmp 56, .tmp 61]⟩, ⟨some 63, (some (53, true)), .call false, [.func 196, .tmp 55, .tmp 62]⟩, ⟨some 64, (some (53, true)), .un .not, [.tmp 63]⟩, ⟨some 65, (some (48, false)), .pick, [.tmp 53, .tmp 64, .const (.bool false)]⟩, ⟨some 66, none, .pick, [.tmp 48, .const (.bool true), .tmp 65]⟩]) (.cond (.tmp 66) (.exit 1) .skip)) (.seq (.ops [.op ⟨some 67, none, .mv, [.tmp 7]⟩, .op ⟨some 6, none, .mv, [.tmp 67]⟩]) .ret))))) (.ops [.op ⟨some 68, none, .bin .add, [.tmp 13, .const (.int .i64 1)]⟩, .op ⟨some 13, none, .mv, [.tmp 68]⟩]))))
def c167 : AC := (.seq (.ops [.op ⟨some 6, none, .mv, [.const (.int .i64 0)]⟩]) (.scope (.seq .skip (.seq (.seq (.ops [.op ⟨some 11, none, .mv, [.tmp 0]⟩, .op ⟨some 12, none, .len false, [.tmp 11]⟩, .op ⟨some 13, none, .mv, [.const (.int .i64 0)]⟩]) (.block 0 (.loop c167l1))) (.seq (.ops [.op ⟨some 6, none, .mv, [(.const (.int .i64 (-1)))]⟩]) .ret)))))
theorem k167 : look1 Tryz.prog ⟨[], [], [], [], [], []⟩ 167 = some (c167, 69, [(6, none)]) := by kernel_rfl
def c96l0 : AC := (.seq (.ops [.op ⟨some 14, none, .bin .lss, [.tmp 13, .tmp 12]⟩]) (.seq (.cond (.tmp 14) .skip (.exit 0)) (.seq (.block 1 (.seq (.ops [.op ⟨some 15, none, .mv, [.tmp 13]⟩, .op ⟨some 5, none, .mv, [.tmp 15]⟩]) (.seq (.draw [⟨some 16, none, .mv, [.tmp 0]⟩, ⟨some 17, none, .mv, [.tmp 5]⟩, ⟨some 18, none, (.idx 1), [.tmp 16, .tmp 17]⟩, ⟨some 19, none, .load false 1, [.tmp 18]⟩, ⟨some 20, none, .mv, [.tmp 1]⟩, ⟨some 21, none, .mv, [.tmp 5]⟩, ⟨some 22, none, (.idx 1), [.tmp 20, .tmp 21]⟩, ⟨some 23, none, .load false 1, [.tmp 22]⟩, ⟨some 24, none, .bin .neq, [.tmp 19, .tmp 23]⟩]) (.cond (.tmp 24) (.seq (.ops [.op ⟨some 4, none, .mv, [.const (.bool false)]⟩]) .ret) .skip)))) (.ops [.op ⟨some 25, none, .bin .add, [.tmp 13, .const (.int .i64 1)]⟩, .op ⟨some 13, none, .mv, [.tmp 25]⟩]))))
def c96 : AC := (.seq (.ops [.op ⟨some 4, none, .mv, [.const (.bool false)]⟩]) (.seq (.seq (.ops [.op ⟨some 6, none, .mv, [.tmp 0]⟩, .op ⟨some 7, none, .len false, [.tmp 6]⟩, .op ⟨some 8, none, .mv, [.tmp 1]⟩, .op ⟨some 9, none, .len false, [.tmp 8]⟩, .op ⟨some 10, none, .bin .neq, [.tmp 7, .tmp 9]⟩]) (.cond (.tmp 10) (.seq (.ops [.op ⟨some 4, none, .mv, [.const (.bool false)]⟩]) .ret) .skip)) (.seq (.seq (.ops [.op ⟨some 11, none, .mv, [.tmp 0]⟩, .op ⟨some 12, none, .len false, [.tmp 11]⟩, .op ⟨some 13, none, .mv, [.const (.int .i64 0)]⟩]) (.block 0 (.loop c96l0))) (.seq (.ops [.op ⟨some 4, none, .mv, [.const (.bool true)]⟩]) .ret))))
theorem k96 : look1 Tryz.prog ⟨[], [], [], [], [], []⟩ 96 = some (c96, 26, [(4, none)]) := by kernel_rfl
def c196 : AC := (.seq (.ops [.op ⟨some 4, none, .mv, [.const (.bool false)]⟩]) (.seq (.ops [.op ⟨some 5, none, .mv, [.tmp 0]⟩, .op ⟨some 6, none, .mv, [.tmp 1]⟩, .op ⟨some 7, none, .call false, [.func 229, .tmp 5, .tmp 6]⟩, .op ⟨some 8, none, .bin .geq, [.tmp 7, .const (.int .i64 0)]⟩, .op ⟨some 4, none, .mv, [.tmp 8]⟩]) .ret))
theorem k196 : look1 Tryz.prog ⟨[], [], [], [], [], []⟩ 196 = some (c196, 9, [(4, none)]) := by kernel_rfl
def c229l0 : AC := (.seq (.ops [.op ⟨some 9, none, .bin .lss, [.tmp 8, .tmp 7]⟩]) (.seq (.cond (.tmp 9) .skip (.exit 0)) (.seq (.block 1 (.seq (.ops [.op ⟨some 10, none, .mv, [.tmp 8]⟩, .op ⟨some 5, none, .mv, [.tmp 10]⟩]) (.seq (.ops [.op ⟨some 11, none, .mv, [.tmp 1]⟩, .op ⟨some 12, none, .mv, [.tmp 0]⟩, .op ⟨some 13, none, .mv, [.tmp 5]⟩, .op ⟨some 14, none, (.idx 1), [.tmp 12, .tmp 13]⟩, .op ⟨some 15, none, .load false 1, [.tmp 14]⟩, .op ⟨some 16, none, .bin .eql, [.tmp 11, .tmp 15]⟩]) (.cond (.tmp 16) (.seq (.ops [.op ⟨some 17, none, .mv, [.tmp 5]⟩, .op ⟨some 4, none, .mv, [.tmp 17]⟩]) .ret) .skip)))) (.ops [.op ⟨some 18, none, .bin .add, [.tmp 8, .const (.int .i64 1)]⟩, .op ⟨some 8, none, .mv, [.tmp 18]⟩]))))
def c229 : AC := (.seq (.ops [.op ⟨some 4, none, .mv, [.const (.int .i64 0)]⟩]) (.seq (.seq (.ops [.op ⟨some 6, none, .mv, [.tmp 0]⟩, .op ⟨some 7, none, .len false, [.tmp 6]⟩, .op ⟨some 8, none, .mv, [.const (.int .i64 0)]⟩]) (.block 0 (.loop c229l0))) (.seq (.ops [.op ⟨some 4, none, .mv, [(.const (.int .i64 (-1)))]⟩]) .ret)))
theorem k229 : look1 Tryz.prog ⟨[], [], [], [], [], []⟩ 229 = some (c229, 19, [(4, none)]) := by kernel_rfl
end Bh
namespace Bh
open Go Go.Proofs
def c120 : AC := (.seq (.ops [.op ⟨some 6, none, .mv, [.const (.slice none 0 0)]⟩]) (.seq (.draw [⟨some 7, none, .alloc 170, []⟩, ⟨some 10, none, .mv, [.tmp 1]⟩, ⟨some 11, none, .mv, [.tmp 2]⟩, ⟨some 12, none, .mv, [.tmp 2]⟩, ⟨some 13, none, .bin .add, [.tmp 12, .const (.int .i64 1)]⟩, ⟨some 14, none, .slice 1 true true, [.tmp 10, .tmp 11, .tmp 13]⟩, ⟨some 15, none, .call false, [.func 20, .const (.int .i64 1)]⟩, ⟨some 16, none, (.build 170 [(0, (0, 1)), (1, (1, 1)), (2, (2, 3))]), [.tmp 14, .const (.int .i64 1), .tmp 15]⟩, ⟨none, none, .store 5, [.tmp 7, .tmp 16]⟩]) (.seq (.ops [.op ⟨some 17, none, .mv, [.tmp 0]⟩, .op ⟨some 18, none, .mv, [.tmp 1]⟩, .op ⟨some 19, none, .mv, [.tmp 2]⟩, .op ⟨some 20, none, .call false, [.func 167, .tmp 17, .tmp 18, .tmp 19]⟩, .op ⟨some 8, none, .mv, [.tmp 20]⟩]) (.seq (.seq (.ops [.op ⟨some 21, none, .mv, [.tmp 8]⟩, .op ⟨some 22, none, .bin .lss, [.tmp 21, .const (.int .i64 0)]⟩]) (.cond (.tmp 22) (.seq (.ops [.op ⟨some 23, none, .load true 5, [.tmp 7]⟩, .op ⟨some 24, none, (.bsl false 170 5), [.tmp 23]⟩, .op ⟨some 6, none, .mv, [.tmp 24]⟩]) .ret) .skip)) (.seq (.draw [⟨some 25, none, .mv, [.tmp 0]⟩, ⟨some 26, none, .mv, [.tmp 8]⟩, ⟨some 27, none, (.idx 7), [.tmp 25, .tmp 26]⟩, ⟨some 28, none, .fld 1 false 1, [.tmp 27]⟩, ⟨some 29, none, .load false 1, [.tmp 28]⟩, ⟨some 30, none, .mv, [.tmp 0]⟩, ⟨some 31, none, .mv, [.tmp 8]⟩, ⟨some 32, none, (.idx 7), [.tmp 30, .tmp 31]⟩, ⟨some 33, none, .fld 0 false 1, [.tmp 32]⟩, ⟨some 34, none, .load false 1, [.tmp 33]⟩, ⟨some 35, none, .len false, [.tmp 34]⟩, ⟨some 36, none, .mv, [.tmp 0]⟩, ⟨some 37, none, .mv, [.tmp 8]⟩, ⟨some 38, none, (.idx 7), [.tmp 36, .tmp 37]⟩, ⟨some 39, none, .fld 4 true 3, [.tmp 38]⟩, ⟨some 40, none, .load true 3, [.tmp 39]⟩, ⟨some 41, none, (.build 170 [(0, (0, 1)), (1, (1, 1)), (2, (2, 3))]), [.tmp 29, .tmp 35, .tmp 40]⟩, ⟨some 42, none, (.bsl true 170 5), [.tmp 41]⟩, ⟨some 9, none, .mv, [.tmp 42]⟩]) (.seq (.seq (.draw [⟨some 43, none, .fld 2 true 3, [.tmp 7]⟩, ⟨some 44, none, .load true 3, [.tmp 43]⟩, ⟨some 45, none, .mv, [.tmp 0]⟩, ⟨some 46, none, .mv, [.tmp 8]⟩, ⟨some 47, none, (.idx 7), [.tmp 45, .tmp 46]⟩, ⟨some 48, none, .fld 4 true 3, [.tmp 47]⟩, ⟨some 49, none, .load true 3, [.tmp 48]⟩, ⟨some 50, none, .call false, [.func 168, .tmp 44, .tmp 49]⟩, ⟨some 51, none, .fld 2 true 3, [.tmp 7]⟩, ⟨none, none, .store 3, [.tmp 51, .tmp 50]⟩]) (.seq (.ops [.op ⟨some 52, none, .fld 2 true 3, [.tmp 7]⟩, .op ⟨some 53, none, .load true 3, [.tmp 52]⟩, .op ⟨some 54, none, .call false, [.func 32, .tmp 53]⟩, .op ⟨some 55, none, .bin .gtr, [.tmp 54, .const (.int .i64 0)]⟩]) (.cond (.tmp 55) (.ops [.op ⟨some 56, none, .mv, [.tmp 9]⟩, .op ⟨some 57, none, .load true 5, [.tmp 7]⟩, .op ⟨some 58, none, (.bsl false 170 5), [.tmp 57]⟩, .op ⟨some 59, none, .app 170 5 88, [.tmp 56, .tmp 58]⟩, .op ⟨some 9, none, .mv, [.tmp 59]⟩]) .skip))) (.seq (.ops [(.gh (.frz 9)), .op ⟨some 60, none, .mv, [.tmp 9]⟩, .op ⟨some 6, none, .mv, [.tmp 60]⟩]) .ret)))))))
theorem k120 : look1 Tryz.prog ⟨[42], [], [], [], [], [(9, 0, .frz 9)]⟩ 120 = some (c120, 61, [(6, none)]) := by kernel_rfl
end Bh
namespace Bh
open Go Go.Proofs
def c59l0 : AC := (.seq (.ops [.op ⟨some 57, none, .bin .lss, [.tmp 56, .tmp 55]⟩]) (.seq (.cond (.tmp 57) .skip (.exit 6)) (.seq (.block 7 (.seq (.ops [.op ⟨some 58, none, .mv, [.tmp 56]⟩, .op ⟨some 59, none, (.idx 3), [.tmp 54, .tmp 56]⟩, .op ⟨some 60, none, .load true 3, [.tmp 59]⟩, .op ⟨some 13, none, .alloc 32, []⟩, .op ⟨some 12, none, .mv, [.tmp 58]⟩, .op ⟨none, none, .store 3, [.tmp 13, .tmp 60]⟩]) (.seq (.ops [.op ⟨some 61, none, .mv, [.tmp 12]⟩, .op ⟨some 62, none, .fld 0 false 1, [.tmp 11]⟩, .op ⟨some 63, none, .load false 1, [.tmp 62]⟩, .op ⟨some 64, none, .len false, [.tmp 63]⟩, .op ⟨some 65, none, .bin .add, [.tmp 61, .tmp 64]⟩, .op ⟨some 14, none, .mv, [.tmp 65]⟩]) (.seq (.draw [⟨some 66, none, .load true 3, [.tmp 13]⟩, ⟨some 67, none, .call false, [.func 32, .tmp 66]⟩, ⟨some 68, none, .bin .gtr, [.tmp 67, .const (.int .i64 0)]⟩, ⟨some 69, none, .mv, [.tmp 68]⟩, ⟨some 70, (some (69, true)), .mv, [.tmp 14]⟩, ⟨some 71, (some (69, true)), .mv, [.tmp 2]⟩, ⟨some 72, (some (69, true)), .len false, [.tmp 71]⟩, ⟨some 73, (some (69, true)), .bin .leq, [.tmp 70, .tmp 72]⟩, ⟨some 74, none, .pick, [.tmp 69, .tmp 73, .const (.bool false)]⟩, ⟨some 75, none, .mv, [.tmp 74]⟩, ⟨some 76, (some (75, true)), .mv, [.tmp 2]⟩, ⟨some 77, (some (75, true)), .mv, [.tmp 12]⟩, ⟨some 78, (some (75, true)), .mv, [.tmp 14]⟩, ⟨some 79, (some (75, true)), .slice 1 true true, [.tmp 76, .tmp 77, .tmp 78]⟩, ⟨some 80, (some (75, true)), .fld 0 false 1, [.tmp 11]⟩, ⟨some 81, (some (75, true)), .load false 1, [.tmp 80]⟩, ⟨some 82, (some (75, true)), .call false, [.func 96, .tmp 79, .tmp 81]⟩, ⟨some 83, none, .pick, [.tmp 75, .tmp 82, .const (.bool false)]⟩]) (.cond (.tmp 83) (.draw [⟨some 84, none, .mv, [.tmp 7]⟩, ⟨some 85, none, .mv, [.tmp 9]⟩, ⟨some 86, none, .fld 1 false 1, [.tmp 11]⟩, ⟨some 87, none, .load false 1, [.tmp 86]⟩, ⟨some 88, none, .bin .add, [.tmp 85, .tmp 87]⟩, ⟨some 89, none, (.idx 1), [.tmp 84, .tmp 88]⟩, ⟨some 90, none, .load false 1, [.tmp 89]⟩, ⟨some 91, none, .mv, [.tmp 14]⟩, ⟨some 92, none, .mv, [.tmp 7]⟩, ⟨some 93, none, .mv, [.tmp 9]⟩, ⟨some 94, none, .fld 1 false 1, [.tmp 11]⟩, ⟨some 95, none, .load false 1, [.tmp 94]⟩, ⟨some 96, none, .bin .add, [.tmp 93, .tmp 95]⟩, ⟨some 97, none, (.idx 1), [.tmp 92, .tmp 96]⟩, ⟨some 98, none, .load false 1, [.tmp 97]⟩, ⟨some 99, none, .mv, [.tmp 14]⟩, ⟨some 100, none, (.idx 3), [.tmp 98, .tmp 99]⟩, ⟨some 101, none, .load true 3, [.tmp 100]⟩, ⟨some 102, none, .load true 3, [.tmp 13]⟩, ⟨some 103, none, .fld 2 true 3, [.tmp 11]⟩, ⟨some 104, none, .load true 3, [.tmp 103]⟩, ⟨some 105, none, .call false, [.func 22, .tmp 102, .tmp 104]⟩, ⟨some 106, none, .call false, [.func 21, .tmp 101, .tmp 105]⟩, ⟨some 107, none, (.idx 3), [.tmp 90, .tmp 91]⟩, ⟨none, none, .store 3, [.tmp 107, .tmp 106]⟩]) .skip))))) (.ops [.op ⟨some 108, none, .bin .add, [.tmp 56, .const (.int .i64 1)]⟩, .op ⟨some 56, none, .mv, [.tmp 108]⟩]))))
def c59l1 : AC := (.seq (.ops [.op ⟨some 48, none, .bin .lss, [.tmp 47, .tmp 46]⟩]) (.seq (.cond (.tmp 48) .skip (.exit 4)) (.seq (.block 5 (.seq (.ops [.op ⟨some 49, none, (.idx 5), [.tmp 45, .tmp 47]⟩, .op ⟨some 50, none, .load true 5, [.tmp 49]⟩, .op ⟨some 11, none, .alloc 170, []⟩, .op ⟨none, none, .store 5, [.tmp 11, .tmp 50]⟩]) (.seq (.ops [.op ⟨some 51, none, .mv, [.tmp 7]⟩, .op ⟨some 52, none, .mv, [.tmp 9]⟩, .op ⟨some 53, none, (.idx 1), [.tmp 51, .tmp 52]⟩, .op ⟨some 54, none, .load false 1, [.tmp 53]⟩, .op ⟨some 55, none, .len false, [.tmp 54]⟩, .op ⟨some 56, none, .mv, [.const (.int .i64 0)]⟩]) (.block 6 (.loop c59l0))))) (.ops [.op ⟨some 109, none, .bin .add, [.tmp 47, .const (.int .i64 1)]⟩, .op ⟨some 47, none, .mv, [.tmp 109]⟩]))))
def c59l2 : AC := (.seq (.ops [.op ⟨some 40, none, .bin .lss, [.tmp 39, .tmp 38]⟩]) (.seq (.cond (.tmp 40) .skip (.exit 2)) (.seq (.block 3 (.seq (.ops [.op ⟨some 41, none, .mv, [.tmp 39]⟩, .op ⟨some 9, none, .mv, [.tmp 41]⟩]) (.seq (.ops [.op ⟨some 42, none, .mv, [.tmp 0]⟩, .op ⟨some 43, none, .mv, [.tmp 1]⟩, .op ⟨some 44, none, .mv, [.tmp 9]⟩, .op ⟨some 45, none, .call false, [.func 120, .tmp 42, .tmp 43, .tmp 44]⟩, .op ⟨some 46, none, .len false, [.tmp 45]⟩, .op ⟨some 47, none, .mv, [.const (.int .i64 0)]⟩]) (.block 4 (.loop c59l1))))) (.ops [.op ⟨some 110, none, .bin .add, [.tmp 39, .const (.int .i64 1)]⟩, .op ⟨some 39, none, .mv, [.tmp 110]⟩]))))
def c59l3 : AC := (.seq (.ops [.op ⟨some 22, none, .bin .lss, [.tmp 21, .tmp 20]⟩]) (.seq (.cond (.tmp 22) .skip (.exit 0)) (.seq (.block 1 (.seq (.ops [.op ⟨some 23, none, .mv, [.tmp 21]⟩, .op ⟨some 8, none, .mv, [.tmp 23]⟩]) (.ops [.op ⟨some 24, none, .mv, [.tmp 7]⟩, .op ⟨some 25, none, .mv, [.tmp 8]⟩, .op ⟨some 26, none, .mv, [.tmp 2]⟩, .op ⟨some 27, none, .len false, [.tmp 26]⟩, .op ⟨some 28, none, .bin .add, [.tmp 27, .const (.int .i64 1)]⟩, .op ⟨some 29, none, (.mks 32 3 56), [.tmp 28, .tmp 28]⟩, .op ⟨some 30, none, (.idx 1), [.tmp 24, .tmp 25]⟩, .op ⟨none, none, .store 1, [.tmp 30, .tmp 29]⟩]))) (.ops [.op ⟨some 31, none, .bin .add, [.tmp 21, .const (.int .i64 1)]⟩, .op ⟨some 21, none, .mv, [.tmp 31]⟩]))))
def c59 : AC := (.seq (.ops [.op ⟨some 6, none, .alloc 32, []⟩]) (.seq (.ops [.op ⟨some 15, none, .mv, [.tmp 1]⟩, .op ⟨some 16, none, .len false, [.tmp 15]⟩, .op ⟨some 17, none, .bin .add, [.tmp 16, .const (.int .i64 1)]⟩, .op ⟨some 18, none, (.mks 85 1 24), [.tmp 17, .tmp 17]⟩, .op ⟨some 7, none, .mv, [.tmp 18]⟩]) (.seq (.seq (.ops [.op ⟨some 19, none, .mv, [.tmp 7]⟩, .op ⟨some 20, none, .len false, [.tmp 19]⟩, .op ⟨some 21, none, .mv, [.const (.int .i64 0)]⟩]) (.block 0 (.loop c59l3))) (.seq (.draw [⟨some 32, none, .mv, [.tmp 7]⟩, ⟨some 33, none, (.idx 1), [.tmp 32, .const (.int .i64 0)]⟩, ⟨some 34, none, .load false 1, [.tmp 33]⟩, ⟨some 35, none, .call false, [.func 20, .const (.int .i64 1)]⟩, ⟨some 36, none, (.idx 3), [.tmp 34, .const (.int .i64 0)]⟩, ⟨none, none, .store 3, [.tmp 36, .tmp 35]⟩]) (.seq (.seq (.ops [.op ⟨some 37, none, .mv, [.tmp 1]⟩, .op ⟨some 38, none, .len false, [.tmp 37]⟩, .op ⟨some 39, none, .mv, [.const (.int .i64 0)]⟩]) (.block 2 (.loop c59l2))) (.seq (.ops [.op ⟨some 111, none, .mv, [.tmp 7]⟩, .op ⟨some 112, none, .mv, [.tmp 1]⟩, .op ⟨some 113, none, .len false, [.tmp 112]⟩, .op ⟨some 114, none, (.idx 1), [.tmp 111, .tmp 113]⟩, .op ⟨some 115, none, .load false 1, [.tmp 114]⟩, .op ⟨some 116, none, .mv, [.tmp 2]⟩, .op ⟨some 117, none, .len false, [.tmp 116]⟩, .op ⟨some 118, none, (.idx 3), [.tmp 115, .tmp 117]⟩, .op ⟨some 119, none, .load true 3, [.tmp 118]⟩, .op ⟨none, none, .store 3, [.tmp 6, .tmp 119]⟩]) .ret))))))
theorem k59 : look1 Tryz.prog ⟨[], [], [], [], [], []⟩ 59 = some (c59, 120, [(6, (some (true, 3)))]) := by kernel_rfl
end Bh
namespace Bh
open Go Go.Proofs
def c57 : AC := (.seq (.ops [.op ⟨some 1, none, .box true 100, [.tmp 0]⟩, .op ⟨some 2, none, .mv, [(.const .nilFunc)]⟩]) (.seq (.ops [.op ⟨some 3, none, (.mkf 117), [.tmp 1]⟩, .op ⟨some 2, none, .mv, [.tmp 3]⟩]) .ret))
theorem k57 : look1 Tryz.prog ⟨[], [], [], [], [], []⟩ 57 = some (c57, 4, [(2, none)]) := by kernel_rfl
def c117 : AC := (.seq (.ops [.op ⟨some 2, none, .box false 94, [.tmp 0]⟩]) (.seq (.ops [.op ⟨some 3, none, .alloc 94, []⟩]) (.seq (.ops [.op ⟨some 4, none, (.mkf 118), [.tmp 1, .tmp 2, .tmp 3]⟩, .op ⟨none, none, .store 1, [.tmp 3, .tmp 4]⟩]) (.ops [.op ⟨some 5, none, .load false 1, [.tmp 3]⟩, .op ⟨some 6, none, .call true, [.tmp 5, .const (.slice none 0 0)]⟩]))))
theorem k117 : look1 Tryz.prog ⟨[], [2], [6], [], [], []⟩ 117 = some (c117, 7, []) := by kernel_rfl
def c118zl0 : AC := (.seq (.ops [.op ⟨some 23, none, .bin .lss, [.tmp 22, .tmp 21]⟩]) (.seq (.cond (.tmp 23) .skip (.exit 0)) (.seq (.block 1 (.seq (.ops [.op ⟨some 24, none, (.idx 5), [.tmp 20, .tmp 22]⟩, .op ⟨some 25, none, .load true 5, [.tmp 24]⟩, .op ⟨some 7, none, .alloc 87, []⟩, .op ⟨none, none, .store 5, [.tmp 7, .tmp 25]⟩]) (.seq (.seq (.draw [⟨some 27, none, .mv, [.tmp 0]⟩, ⟨some 28, none, .calln, [.func 119, .tmp 27]⟩, ⟨some 29, none, .load true 5, [.tmp 7]⟩, ⟨some 30, none, (.bsl false 87 5), [.tmp 29]⟩, ⟨some 31, none, .app 87 5 96, [.tmp 28, .tmp 30]⟩, ⟨some 26, none, .load false 1, [.tmp 3]⟩]) (.ops [.op ⟨some 32, none, .call true, [.tmp 26, .tmp 31]⟩, .op ⟨some 33, none, .un .not, [.tmp 32]⟩])) (.cond (.tmp 33) (.seq (.ops [.op ⟨some 5, none, .mv, [.const (.bool false)]⟩]) .ret) .skip)))) (.ops [.op ⟨some 34, none, .bin .add, [.tmp 22, .const (.int .i64 1)]⟩, .op ⟨some 22, none, .mv, [.tmp 34]⟩]))))
def c118z : AC := (.seq (.ops [.op ⟨some 5, none, .mv, [.const (.bool false)]⟩]) (.seq (.seq (.ops [.op ⟨some 8, none, .mv, [.tmp 0]⟩, .op ⟨some 9, none, .len false, [.tmp 8]⟩, .op ⟨some 10, none, .load false 1, [.tmp 1]⟩, .op ⟨some 11, none, .len false, [.tmp 10]⟩, .op ⟨some 12, none, .bin .eql, [.tmp 9, .tmp 11]⟩]) (.cond (.tmp 12) (.seq (.ops [.op ⟨some 13, none, .load false 1, [.tmp 2]⟩, .op ⟨some 14, none, .mv, [.tmp 0]⟩, .op ⟨some 15, none, .call true, [.tmp 13, .tmp 14]⟩, .op ⟨some 5, none, .mv, [.tmp 15]⟩]) .ret) .skip)) (.seq (.seq (.ops [.op ⟨some 16, none, .load false 1, [.tmp 1]⟩, .op ⟨some 17, none, .mv, [.tmp 0]⟩, .op ⟨some 18, none, .len false, [.tmp 17]⟩, .op ⟨some 19, none, (.idx 1), [.tmp 16, .tmp 18]⟩, .op ⟨some 20, none, .load false 1, [.tmp 19]⟩, .op ⟨some 21, none, .len false, [.tmp 20]⟩, .op ⟨some 22, none, .mv, [.const (.int .i64 0)]⟩]) (.block 0 (.loop c118zl0))) (.seq (.ops [.op ⟨some 5, none, .mv, [.const (.bool true)]⟩]) .ret))))
theorem k118z : look1 Tryz.prog ⟨[], [], [15, 32], [32], [28], []⟩ 118 = some (c118z, 35, [(5, none)]) := by kernel_rfl
def c118fl0 : AC := (.seq (.ops [.op ⟨some 23, none, .bin .lss, [.tmp 22, .tmp 21]⟩]) (.seq (.cond (.tmp 23) .skip (.exit 0)) (.seq (.block 1 (.seq (.ops [.op ⟨some 24, none, (.idx 5), [.tmp 20, .tmp 22]⟩, .op ⟨some 25, none, .load true 5, [.tmp 24]⟩, .op ⟨some 7, none, .alloc 87, []⟩, .op ⟨none, none, .store 5, [.tmp 7, .tmp 25]⟩]) (.seq (.seq (.draw [⟨some 27, none, .mv, [.tmp 0]⟩, ⟨some 28, none, .calln, [.func 119, .tmp 27]⟩, ⟨some 29, none, .load true 5, [.tmp 7]⟩, ⟨some 30, none, (.bsl false 87 5), [.tmp 29]⟩, ⟨some 31, none, .app 87 5 96, [.tmp 28, .tmp 30]⟩, ⟨some 26, none, .load false 1, [.tmp 3]⟩]) (.ops [.op ⟨some 32, none, .call true, [.tmp 26, .tmp 31]⟩, .op ⟨some 33, none, .un .not, [.tmp 32]⟩])) (.cond (.tmp 33) (.seq (.ops [.op ⟨some 5, none, .mv, [.const (.bool false)]⟩]) .ret) .skip)))) (.ops [.op ⟨some 34, none, .bin .add, [.tmp 22, .const (.int .i64 1)]⟩, .op ⟨some 22, none, .mv, [.tmp 34]⟩]))))
def c118f : AC := (.seq (.ops [.op ⟨some 5, none, .mv, [.const (.bool false)]⟩]) (.seq (.seq (.ops [(.gh (.frz 0)), .op ⟨some 8, none, .mv, [.tmp 0]⟩, .op ⟨some 9, none, .len false, [.tmp 8]⟩, .op ⟨some 10, none, .load false 1, [.tmp 1]⟩, .op ⟨some 11, none, .len false, [.tmp 10]⟩, .op ⟨some 12, none, .bin .eql, [.tmp 9, .tmp 11]⟩]) (.cond (.tmp 12) (.seq (.ops [.op ⟨some 13, none, .load false 1, [.tmp 2]⟩, .op ⟨some 14, none, .mv, [.tmp 0]⟩, .op ⟨some 15, none, .call true, [.tmp 13, .tmp 14]⟩, .op ⟨some 5, none, .mv, [.tmp 15]⟩]) .ret) .skip)) (.seq (.seq (.ops [.op ⟨some 16, none, .load false 1, [.tmp 1]⟩, .op ⟨some 17, none, .mv, [.tmp 0]⟩, .op ⟨some 18, none, .len false, [.tmp 17]⟩, .op ⟨some 19, none, (.idx 1), [.tmp 16, .tmp 18]⟩, .op ⟨some 20, none, .load false 1, [.tmp 19]⟩, .op ⟨some 21, none, .len false, [.tmp 20]⟩, .op ⟨some 22, none, .mv, [.const (.int .i64 0)]⟩]) (.block 0 (.loop c118fl0))) (.seq (.ops [.op ⟨some 5, none, .mv, [.const (.bool true)]⟩]) .ret))))
theorem k118f : look1 Tryz.prog ⟨[], [], [15, 32], [32], [28], [(1, 0, .frz 0)]⟩ 118 = some (c118f, 35, [(5, none)]) := by kernel_rfl
def c119h : AC := (.seq (.ops [.op ⟨some 2, none, .mv, [.const (.slice none 0 0)]⟩]) (.seq (.seq (.ops [.op ⟨some 3, none, .mv, [.tmp 0]⟩, .op ⟨some 4, none, (.eqn false), [.tmp 3]⟩]) (.cond (.tmp 4) (.seq (.ops [.op ⟨some 2, none, .mv, [.const (.slice none 0 0)]⟩, (.gh (.nilr 2 87 5))]) .ret) .skip)) (.seq (.ops [.op ⟨some 5, none, (.bsl true 87 5), []⟩, .op ⟨some 6, none, .mv, [.tmp 0]⟩, .op ⟨some 7, none, .app 87 5 96, [.tmp 5, .tmp 6]⟩, .op ⟨some 2, none, .mv, [.tmp 7]⟩]) .ret)))
theorem k119h : look1 Tryz.prog ⟨[5], [], [], [], [], [(2, 1, .nilr 2 87 5)]⟩ 119 = some (c119h, 8, [(2, none)]) := by kernel_rfl
def c119n : AC := (.seq (.ops [.op ⟨some 2, none, .mv, [.const (.slice none 0 0)]⟩]) (.seq (.seq (.ops [.op ⟨some 3, none, .mv, [.tmp 0]⟩, .op ⟨some 4, none, (.eqn false), [.tmp 3]⟩]) (.cond (.tmp 4) (.seq (.ops [.op ⟨some 2, none, .mv, [.const (.slice none 0 0)]⟩]) .ret) .skip)) (.seq (.ops [.op ⟨some 5, none, (.bsl true 87 5), []⟩, .op ⟨some 6, none, .mv, [.tmp 0]⟩, .op ⟨some 7, none, .app 87 5 96, [.tmp 5, .tmp 6]⟩, .op ⟨some 2, none, .mv, [.tmp 7]⟩]) .ret)))
theorem k119n : look1 Tryz.prog ⟨[5], [], [], [], [], []⟩ 119 = some (c119n, 8, [(2, none)]) := by kernel_rfl
def c18 : AC := (.seq (.ops [.op ⟨some 4, none, .box true 24, [.tmp 0]⟩, .op ⟨some 5, none, .box true 41, [.tmp 1]⟩, .op ⟨some 7, none, .box true 26, [.tmp 3]⟩, .op ⟨some 8, none, .alloc 32, []⟩, .op ⟨some 9, none, .mv, [.const (.int .i64 0)]⟩]) (.seq (.seq (.ops [.op ⟨some 16, none, .load true 1, [.tmp 4]⟩, .op ⟨some 17, none, .call false, [.func 34, .tmp 16]⟩, .op ⟨some 18, none, .un .not, [.tmp 17]⟩, .op ⟨some 19, none, .mv, [.tmp 18]⟩, .op ⟨some 20, (some (19, false)), .load false 1, [.tmp 5]⟩, .op ⟨some 21, (some (19, false)), .call false, [.func 53, .tmp 20]⟩, .op ⟨some 22, (some (19, false)), .un .not, [.tmp 21]⟩, .op ⟨some 23, none, .pick, [.tmp 19, .const (.bool true), .tmp 22]⟩, .op ⟨some 24, none, .mv, [.tmp 23]⟩, .op ⟨some 25, (some (24, false)), .mv, [.tmp 2]⟩, .op ⟨some 26, (some (24, false)), .len false, [.tmp 25]⟩, .op ⟨some 27, (some (24, false)), .bin .gtr, [.tmp 26, .const (.int .i64 40)]⟩, .op ⟨some 28, none, .pick, [.tmp 24, .const (.bool true), .tmp 27]⟩, .op ⟨some 29, none, .mv, [.tmp 28]⟩, .op ⟨some 30, (some (29, false)), .load false 1, [.tmp 7]⟩, .op ⟨some 31, (some (29, false)), .call false, [.func 55, .tmp 30, .const (.int .i64 400)]⟩, .op ⟨some 32, (some (29, false)), .un .not, [.tmp 31]⟩, .op ⟨some 33, none, .pick, [.tmp 29, .const (.bool true), .tmp 32]⟩]) (.cond (.tmp 33) (.seq (.ops [.op ⟨some 34, none, (.build 32 []), []⟩, .op ⟨none, none, .store 3, [.tmp 8, .tmp 34]⟩, .op ⟨some 9, none, .mv, [.const (.int .i64 2)]⟩]) .ret) .skip)) (.seq (.ops [.op ⟨some 36, none, .load true 1, [.tmp 4]⟩, .op ⟨some 37, none, .load false 1, [.tmp 5]⟩, .op ⟨some 38, none, .mv, [.tmp 2]⟩, .op ⟨some 39, none, .call false, [.func 56, .tmp 36, .tmp 37, .tmp 38]⟩, .op ⟨some 35, none, .mv, [.tmp 39]⟩, .op ⟨some 40, none, .ext 0, [.tmp 35]⟩, .op ⟨some 41, none, .ext 1, [.tmp 35]⟩, .op ⟨some 10, none, .mv, [.tmp 40]⟩, .op ⟨some 11, none, .mv, [.tmp 41]⟩]) (.seq (.seq (.ops [.op ⟨some 42, none, .mv, [.tmp 11]⟩, .op ⟨some 43, none, .bin .neq, [.tmp 42, .const (.int .i64 0)]⟩]) (.cond (.tmp 43) (.seq (.ops [.op ⟨some 44, none, (.build 32 []), []⟩, .op ⟨some 45, none, .mv, [.tmp 11]⟩, .op ⟨none, none, .store 3, [.tmp 8, .tmp 44]⟩, .op ⟨some 9, none, .mv, [.tmp 45]⟩]) .ret) .skip)) (.seq (.ops [.op ⟨some 12, none, .alloc 32, []⟩]) (.seq (.seq (.ops [.op ⟨some 46, none, .mv, [.tmp 10]⟩, .op ⟨some 47, none, .call false, [.func 57, .tmp 46]⟩]) (.block 0 (.rf (.tmp 47) [48] (.ops [.op ⟨some 13, none, .mv, [.tmp 48]⟩]) (.block 1 (.seq (.ops [.op ⟨some 50, none, .mv, [.tmp 13]⟩, .op ⟨some 51, none, .call false, [.func 58, .tmp 50]⟩, .op ⟨some 49, none, .mv, [.tmp 51]⟩, .op ⟨some 52, none, .ext 0, [.tmp 49]⟩, .op ⟨some 53, none, .ext 1, [.tmp 49]⟩, .op ⟨some 15, none, .alloc 32, []⟩, .op ⟨some 14, none, .mv, [.tmp 52]⟩, .op ⟨none, none, .store 3, [.tmp 15, .tmp 53]⟩]) (.draw [⟨some 54, none, .load true 3, [.tmp 12]⟩, ⟨some 55, none, .load true 3, [.tmp 15]⟩, ⟨some 56, none, .load false 1, [.tmp 5]⟩, ⟨some 57, none, .mv, [.tmp 14]⟩, ⟨some 58, none, .load false 1, [.tmp 7]⟩, ⟨some 59, none, .call false, [.func 59, .tmp 56, .tmp 57, .tmp 58]⟩, ⟨some 60, none, .call false, [.func 22, .tmp 55, .tmp 59]⟩, ⟨some 61, none, .call false, [.func 21, .tmp 54, .tmp 60]⟩, ⟨none, none, .store 3, [.tmp 12, .tmp 61]⟩])))))) (.seq (.ops [.op ⟨some 62, none, .load true 3, [.tmp 12]⟩, .op ⟨none, none, .store 3, [.tmp 8, .tmp 62]⟩, .op ⟨some 9, none, .mv, [.const (.int .i64 0)]⟩]) .ret)))))))
theorem k18 : look1 Tryz.prog ⟨[], [], [], [], [], []⟩ 18 = some (c18, 63, [(8, (some (true, 3))), (9, none)]) := by kernel_rfl
end Bh
namespace Bh
open Go Go.Proofs
theorem sub_nd {H : AHeap} (hw : WF H) (a b : AObj) : SubG H ((((H.new a).del H.nx).new b).del (H.nx + 1)) := ((((Sub.refl H).new hw a).del hw (Nat.le_refl _)).new hw b).del hw (Nat.le_succ _) |>.g
theorem clone_call (es : List PV) (hk : es.all (fun e => e.wid == 1) = true) (hb : es.length ≤ 1000000) : PCall Tryz.prog 169 [.sl es] (.sl es) := by
  refine pcall mixed k169 (by simp) fun H s hw h => ?_
  have h0 : s 0 = .p (.sl es) := h 0 _ rfl
  unfold c169
  simp only [go_sem, h0, ↓reduceIte, Nat.reduceEqDiff, Nat.reduceLT]
  intro b hbe
  cases b
  · simp only [go_sem, h0, hk, ↓reduceIte, Nat.reduceEqDiff, Nat.reduceLT, Bool.bne_false]
    exact ⟨by omega, by omega, .refl _, sub_nd hw _ _⟩
  · simp only [go_sem, h0, ↓reduceIte, Nat.reduceEqDiff, Nat.reduceLT, Bool.bne_false]
    have : es = [] := by simpa using hbe rfl
    subst this
    exact ⟨.p _ _ .nil, subG_refl _⟩
theorem clone2_call (es : List PV) (hk : es.all (fun e => e.wid == 1) = true) (hb : es.length ≤ 1000000) : PCall Tryz.prog 122 [.sl es] (.sl es) := by
  refine pcall mixed k122 (by simp) fun H s hw h => ?_
  have h0 : s 0 = .p (.sl es) := h 0 _ rfl
  unfold c122
  simp only [go_sem, h0, ↓reduceIte, Nat.reduceEqDiff, Nat.reduceLT]
  intro b hbe
  cases b
  · simp only [go_sem, h0, hk, ↓reduceIte, Nat.reduceEqDiff, Nat.reduceLT, Bool.bne_false]
    exact ⟨by omega, by omega, .refl _, sub_nd hw _ _⟩
  · simp only [go_sem, h0, ↓reduceIte, Nat.reduceEqDiff, Nat.reduceLT, Bool.bne_false]
    have : es = [] := by simpa using hbe rfl
    subst this
    exact ⟨.p _ _ .nil, subG_refl _⟩
def natV (ds : List Nat) : PV := .sl (ds.map fun d => .v (.int .u32 (d : Nat)))
def trim (ds : List Nat) : List Nat := (ds.reverse.dropWhile (· == 0)).reverse
theorem all_dig (l : List Nat) : (l.map fun d => PV.v (.int .u32 (d : Nat))).all (fun e => e.wid == 1) = true := by simp [PV.wid]
theorem trimmed_call (ds : List Nat) (hb : ds.length ≤ 1000000) : PCall Tryz.prog 126 [natV ds] (natV (trim ds)) := by
  refine pcall mixed k126 (by simp) fun H s hw h => ?_
  have h0 : s 0 = .p (natV ds) := h 0 _ rfl
  unfold c126
  unfold natV at h0
  simp only [go_sem, h0, ↓reduceIte, Nat.reduceEqDiff, Nat.reduceLT]
  refine awp_loop (fun k s H' => H' = H ∧ k ≤ ds.length ∧ s 0 = .p (natV ds) ∧ s 3 = .p (.v (.int .i64 (k : Nat))) ∧ trim ds = trim (ds.take k)) ds.length ⟨rfl, Nat.le_refl _, ?_, ?_, ?_⟩ ?_
  · simp only [go_sem, h0, ↓reduceIte, Nat.reduceEqDiff]; rfl
  · simp only [go_sem, h0, ↓reduceIte, Nat.reduceEqDiff]
  · simp
  · rintro k s' H' ⟨rfl, hk, h0, h3, ht⟩
    unfold natV at h0
    have hcall : ∀ m, PCall Tryz.prog 169 [.sl (List.drop 0 ((ds.map fun d => PV.v (.int .u32 (d : Nat))).take m))] (natV (ds.take m)) := fun m => by
      rw [List.drop_zero, ← List.map_take]
      exact clone_call _ (all_dig _) (by simp; omega)
    have ec : ∀ m, m ≤ ds.length → slC 1 (ds.map fun d => PV.v (.int .u32 (d : Nat))) 0 m = some (.p (.sl (List.drop 0 ((ds.map fun d => PV.v (.int .u32 (d : Nat))).take m)))) := fun m hm => slC_s (Nat.zero_le _) (by simpa using hm) (all_dig _)
    unfold c126l0
    by_cases hk0 : k = 0
    · subst hk0
      have e1 : decide (0 < ((0 : Nat) : Int)) = false := by decide
      simp only [go_sem, h0, h3, e1, ec 0 (Nat.zero_le _), ↓reduceIte, Nat.reduceEqDiff, Nat.reduceLT]
      refine ⟨_, hcall 0, ?_⟩
      rw [ht]; exact ⟨.refl _, subG_refl _⟩
    · have e1 : decide (0 < ((k : Nat) : Int)) = true := by simp; omega
      have e2 : IntKind.wrap .i64 ((k : Int) - 1) = ((k - 1 : Nat) : Int) := by rw [wrap_i64] <;> omega
      have hlt : k - 1 < ds.length := by omega
      have e3 : ds[k - 1]? = some ds[k - 1] := List.getElem?_eq_getElem hlt
      have htk : ds.take k = ds.take (k - 1) ++ [ds[k - 1]] := by
        have := List.take_succ_eq_append_getElem (l := ds) hlt
        rwa [show k - 1 + 1 = k by omega] at this
      simp only [go_sem, h0, h3, e1, e2, e3, ↓reduceIte, Nat.reduceEqDiff, Nat.reduceLT]
      cases hd : ((ds[k - 1] : Int) == 0)
      · simp only [go_sem, h0, h3, e1, e2, e3, ec k hk, ↓reduceIte, Nat.reduceEqDiff, Nat.reduceLT]
        refine ⟨_, hcall k, ?_⟩
        have : trim (ds.take k) = ds.take k := by
          rw [htk]
          have h0 : (ds[k - 1] == 0) = false := by simpa using hd
          rw [trim, List.reverse_append, List.reverse_singleton, List.singleton_append, List.dropWhile_cons, h0]
          simp only [Bool.false_eq_true, if_false, List.reverse_cons, List.reverse_reverse]
        rw [ht, this]; exact ⟨.refl _, subG_refl _⟩
      · simp only [go_sem, h0, h3, e1, e2, e3, ↓reduceIte, Nat.reduceEqDiff, Nat.reduceLT]
        refine ⟨k - 1, by omega, by omega, rfl, rfl, ?_⟩
        have h0 : ds[k - 1] = 0 := by simpa using hd
        rw [ht, htk, h0]; simp [trim]
end Bh
namespace Bh
open Go Go.Proofs
theorem trim_nat : ∀ (n : Nat) {ds : List Nat}, ds.length = n → (∀ d ∈ ds, d < W32) → trim ds = natD (val ds)
  | n, ds, hn, h => by
    rcases List.eq_nil_or_concat ds with e | ⟨l, d, e⟩
    · subst e; simp [trim, val, natD_0]
    · rw [List.concat_eq_append] at e
      rw [e] at h hn ⊢
      by_cases hd : d = 0
      · subst hd
        have e1 : trim (l ++ [0]) = trim l := by simp [trim]
        have e2 : val (l ++ [0]) = val l := by rw [val_append]; simp [val]
        rw [e1, e2]
        exact trim_nat l.length rfl fun x hx => h x (by simp [hx])
      · have e1 : trim (l ++ [d]) = l ++ [d] := by
          have h0 : (d == 0) = false := by simpa using hd
          rw [trim, List.reverse_append, List.reverse_singleton, List.singleton_append, List.dropWhile_cons, h0]
          simp only [Bool.false_eq_true, if_false, List.reverse_cons, List.reverse_reverse]
        rw [e1, natD_val h (fun x hx => by simp at hx; omega)]
termination_by n => n
decreasing_by simp at hn; omega
theorem trimmed_nv {ds : List Nat} (hb : ds.length ≤ 1000000) (h : ∀ d ∈ ds, d < W32) : PCall Tryz.prog 126 [natV ds] (nv (val ds)) := by
  have := trimmed_call ds hb
  rw [trim_nat _ rfl h] at this
  exact this
theorem dig_get {l : List Nat} {i : Nat} (h : i < l.length) : (l.map fun d => PV.v (.int .u32 (d : Nat)))[i]? = some (.v (.int .u32 (l[i] : Nat))) := by
  rw [List.getElem?_map, List.getElem?_eq_getElem h]; rfl
theorem compare_call (x y : Nat) (hx : (natD x).length ≤ 1000000) (hy : (natD y).length ≤ 1000000) : PCall Tryz.prog 123 [nv x, nv y] (.v (.int .i64 (cmpI x y))) := by
  refine pcall mixed k123 (by simp) fun H s hw h => ?_
  have h0 : s 0 = .p (nv x) := h 0 _ rfl
  have h1 : s 1 = .p (nv y) := h 1 _ rfl
  unfold nv at h0 h1
  unfold c123
  simp only [go_sem, h0, h1, ↓reduceIte, Nat.reduceEqDiff, Nat.reduceLT]
  cases hne : (((natD x).length : Int) != ((natD y).length : Int))
  · have hl : (natD x).length = (natD y).length := by simp at hne; omega
    have e2 : IntKind.wrap .i64 (((natD x).length : Int) - 1) = ((natD x).length : Int) - 1 := by rw [wrap_i64] <;> omega
    simp only [go_sem, h0, h1, e2, ↓reduceIte, Nat.reduceEqDiff, Nat.reduceLT]
    refine awp_loop (fun k s H' => H' = H ∧ k ≤ (natD x).length ∧ s 0 = .p (nv x) ∧ s 1 = .p (nv y) ∧ s 5 = .p (.v (.int .i64 ((k : Int) - 1))) ∧ (natD x).drop k = (natD y).drop k) (natD x).length ⟨rfl, Nat.le_refl _, ?_, ?_, ?_, ?_⟩ ?_
    · simp only [go_sem, h0, h1, ↓reduceIte, Nat.reduceEqDiff, Nat.reduceLT, nv]
    · simp only [go_sem, h0, h1, ↓reduceIte, Nat.reduceEqDiff, Nat.reduceLT, nv]
    · simp only [go_sem, h0, h1, ↓reduceIte, Nat.reduceEqDiff, Nat.reduceLT]
    · simp [hl]
    · rintro k s' H' ⟨rfl, hk, h0, h1, h5, hd⟩
      unfold nv at h0 h1
      unfold c123l0
      simp only [go_sem, h0, h1, h5, ↓reduceIte, Nat.reduceEqDiff, Nat.reduceLT]
      cases hk0 : decide ((0 : Int) ≤ (k : Int) - 1)
      · have hk0 : k = 0 := by simp at hk0; omega
        subst hk0
        simp only [go_sem, h0, h1, h5, ↓reduceIte, Nat.reduceEqDiff, Nat.reduceLT]
        have hxy : x = y := by have : natD x = natD y := by simpa using hd
                               rw [← val_natD x, this, val_natD]
        rw [hxy]; simp [cmpI]; exact ⟨.refl _, subG_refl _⟩
      · have hk0 : 0 < k := by simp at hk0; omega
        have ek : ((k : Int) - 1) = ((k - 1 : Nat) : Int) := by omega
        have lx : k - 1 < (natD x).length := by omega
        have ly : k - 1 < (natD y).length := by omega
        have gx : (natD x)[k - 1]? = some (natD x)[k - 1] := List.getElem?_eq_getElem lx
        have gy : (natD y)[k - 1]? = some (natD y)[k - 1] := List.getElem?_eq_getElem ly
        rw [ek] at h5
        simp only [go_sem, h0, h1, h5, ek, gx, gy, ↓reduceIte, Nat.reduceEqDiff, Nat.reduceLT]
        cases hb : (((natD x)[k - 1] : Int) != ((natD y)[k - 1] : Int))
        · have e3 : IntKind.wrap .i64 (((k - 1 : Nat) : Int) - 1) = ((k - 1 : Nat) : Int) - 1 := by rw [wrap_i64] <;> omega
          simp only [go_sem, h0, h1, h5, e3, ↓reduceIte, Nat.reduceEqDiff, Nat.reduceLT]
          refine ⟨k - 1, by omega, by omega, rfl, rfl, rfl, ?_⟩
          have hb : (natD x)[k - 1] = (natD y)[k - 1] := by simp at hb; omega
          rw [List.drop_eq_getElem_cons lx, List.drop_eq_getElem_cons ly, show k - 1 + 1 = k by omega, hb, hd]
        · simp only [go_sem, h0, h1, h5, gx, gy, ↓reduceIte, Nat.reduceEqDiff, Nat.reduceLT]
          have hd' : (natD x).drop (k - 1 + 1) = (natD y).drop (k - 1 + 1) := by rw [show k - 1 + 1 = k by omega]; exact hd
          cases hc : decide (((natD x)[k - 1] : Int) < ((natD y)[k - 1] : Int))
          · simp only [go_sem, ↓reduceIte, Nat.reduceEqDiff, Nat.reduceLT]
            have := cmp_dig hl.symm (natD_lt y) (natD_lt x) ly lx hd'.symm (by simp at hc hb; omega)
            rw [val_natD, val_natD] at this
            have e : cmpI x y = 1 := by unfold cmpI; rw [if_neg (by omega), if_neg (by omega)]
            rw [e]; exact ⟨.refl _, subG_refl _⟩
          · simp only [go_sem, ↓reduceIte, Nat.reduceEqDiff, Nat.reduceLT]
            have := cmp_dig hl (natD_lt x) (natD_lt y) lx ly hd' (by simp at hc; omega)
            rw [val_natD, val_natD] at this
            have e : cmpI x y = -1 := by unfold cmpI; rw [if_pos (by omega)]
            rw [e]; exact ⟨.refl _, subG_refl _⟩
  · simp only [go_sem, h0, h1, ↓reduceIte, Nat.reduceEqDiff, Nat.reduceLT]
    cases hlt : decide (((natD x).length : Int) < ((natD y).length : Int))
    · simp only [go_sem, h0, h1, ↓reduceIte, Nat.reduceEqDiff, Nat.reduceLT]
      have : y < x := cmp_len (by simp at hlt hne; omega)
      have e : cmpI x y = 1 := by unfold cmpI; rw [if_neg (by omega), if_neg (by omega)]
      rw [e]; exact ⟨.refl _, subG_refl _⟩
    · simp only [go_sem, h0, h1, ↓reduceIte, Nat.reduceEqDiff, Nat.reduceLT]
      have : x < y := cmp_len (by simp at hlt; omega)
      have e : cmpI x y = -1 := by unfold cmpI; rw [if_pos (by omega)]
      rw [e]; exact ⟨.refl _, subG_refl _⟩
theorem small_call (n : Nat) (hn : n < 2 ^ 64) : PCall Tryz.prog 121 [.v (.int .u64 (n : Nat))] (nv n) := by
  refine pcall mixed k121 (by simp) fun H s hw h => ?_
  have h0 : s 0 = .p (.v (.int .u64 (n : Nat))) := h 0 _ rfl
  unfold c121
  simp only [go_sem, h0, ↓reduceIte, Nat.reduceEqDiff, Nat.reduceLT]
  have e1 : IntKind.wrap .u32 (n : Int) = ((n % W32 : Nat) : Int) := by simp [IntKind.wrap, IntKind.bits, IntKind.signed, W32]
  have e2 : binV .shr (.int .u64 (n : Int)) (.int .u64 32) = some (.int .u64 ((n / W32 : Nat) : Int)) := by
    rw [bin_shr (by omega)]
    have : ((n : Int)).fdiv (2 ^ min (32 : Int).toNat IntKind.u64.bits) = ((n / W32 : Nat) : Int) := by
      rw [Int.fdiv_eq_ediv_of_nonneg _ (by decide)]; rfl
    rw [this]
  have e3 : IntKind.wrap .u32 ((n / W32 : Nat) : Int) = ((n / W32 : Nat) : Int) := by
    have : n / W32 < 4294967296 := Nat.div_lt_of_lt_mul (by simpa [W32] using hn)
    exact wrap_u32 (Int.natCast_nonneg _) (by omega)
  simp only [go_sem, h0, e1, e2, e3, ↓reduceIte, Nat.reduceEqDiff, Nat.reduceLT]
  have hc := trimmed_nv (ds := [n % W32, n / W32]) (by simp) (by
    intro d hd
    have : n / W32 < W32 := Nat.div_lt_of_lt_mul (by simpa [W32] using hn)
    have : n % W32 < W32 := Nat.mod_lt _ (by decide)
    rcases List.mem_cons.1 hd with hd | hd
    · omega
    · simp at hd; omega)
  have hv : val [n % W32, n / W32] = n := by simp only [val]; have := Nat.mod_add_div n W32; omega
  rw [hv] at hc
  exact ⟨rfl, by omega, _, hc, .refl _, subG_refl _⟩
end Bh
namespace Bh
open Go Go.Proofs
theorem new_set {H : AHeap} {o o' : AObj} : (H.new o).set H.nx o' = H.new o' := by
  simp only [AHeap.new, AHeap.set, AHeap.mk.injEq, and_true]
  funext j
  by_cases e : j = H.nx <;> simp [e]
theorem new_del {H : AHeap} (hw : WF H) {o : AObj} : SubG H ((H.new o).del H.nx) := (((Sub.refl H).new hw o).del hw (Nat.le_refl _)).g
attribute [go_sem] new_set
def dv (d : Nat) : PV := .v (.int .u32 (d : Nat))
def rowD (l : List Nat) : List AV := l.map fun d => .p (dv d)
theorem z171 : zeroT Tryz.prog 171 = .v (.int .u32 0) := by kernel_rfl
theorem rowD_zero (m : Nat) : List.replicate m (AV.p (.v (.int .u32 0))) = rowD (List.replicate m 0) := by simp [rowD, dv]
theorem rowD_len (l : List Nat) : (rowD l).length = l.length := by simp [rowD]
theorem allP_rowD (l : List Nat) : allP (rowD l) = some (l.map dv) := by
  have := allP_map (l := l.map dv)
  rwa [List.map_map] at this
theorem u32_nat (a : Nat) : IntKind.wrap .u32 (a : Int) = ((a % W32 : Nat) : Int) := by simp [IntKind.wrap, IntKind.bits, IntKind.signed, W32]
theorem shr32 {k : IntKind} (n : Nat) : binV .shr (.int .u64 (n : Int)) (.int k 32) = some (.int .u64 ((n / W32 : Nat) : Int)) := by
  rw [bin_shr (by omega)]
  have : ((n : Int)).fdiv (2 ^ min (32 : Int).toNat IntKind.u64.bits) = ((n / W32 : Nat) : Int) := by
    rw [Int.fdiv_eq_ediv_of_nonneg _ (by decide)]; rfl
  rw [this]
theorem add_call (x y : Nat) (hx : (natD x).length ≤ 900000) (hy : (natD y).length ≤ 900000) : PCall Tryz.prog 129 [nv x, nv y] (nv (x + y)) := by
  refine pcall mixed k129 (by simp) fun H s hw h => ?_
  have h0 : s 0 = .p (nv x) := h 0 _ rfl
  have h1 : s 1 = .p (nv y) := h 1 _ rfl
  unfold nv at h0 h1
  unfold c129
  have e1 : IntKind.wrap .i64 (((max (natD x).length (natD y).length : Nat) : Int) + 1) = ((max (natD x).length (natD y).length + 1 : Nat) : Int) := by rw [wrap_i64] <;> omega
  simp only [go_sem, h0, h1, max_nat, e1, z171, ↓reduceIte, Nat.reduceEqDiff, Nat.reduceLT]
  refine ⟨by omega, by omega, ?_⟩
  generalize hm : max (natD x).length (natD y).length + 1 = m at *
  have hmb : m ≤ 900001 := by omega
  refine awp_loop (fun k s H' => ∃ i l c, i + k = m ∧ H' = H.new (.row 171 1 (rowD l)) ∧ AddI (natD x) (natD y) l i c m ∧ s 0 = .p (nv x) ∧ s 1 = .p (nv y) ∧ s 5 = .hd H.nx ∧ s 6 = .p (.v (.int .u64 (c : Nat))) ∧
    s 16 = .p (.v (.int .i64 (m : Nat))) ∧ s 17 = .p (.v (.int .i64 (i : Nat)))) m ⟨0, List.replicate m 0, 0, by omega, ?_, AddI.init _ _ _, ?_⟩ ?_
  · rw [rowD_zero]
  · simp only [go_sem, h0, h1, max_nat, e1, z171, ↓reduceIte, Nat.reduceEqDiff, Nat.reduceLT, rowD_zero]
    refine ⟨rfl, rfl, rfl, by rw [rowD_len, List.length_replicate], rfl⟩
  · rintro k s' H' ⟨i, l, c, hik, rfl, hA, h0, h1, h5, h6, h16, h17⟩
    unfold nv at h0 h1
    unfold c129l0
    by_cases him : i < m
    · have ei := lt_t him
      have hl : i < l.length := by rw [hA.len]; exact him
      have gl : (rowD l)[i]? = some (.p (dv l[i])) := by simp [rowD, hl]
      have gi : ixR H.nx i 1 (some (.row 171 1 (rowD l))) = some (.pe H.nx i 1 0) := ixR_s (by rw [rowD_len]; exact hl)
      have st : ∀ t : Nat, (rowD l).set i (.p (.v (.int .u32 ((t % W32 : Nat) : Int)))) = rowD (l.set i (t % W32)) := fun t => by simp [rowD, List.map_set, dv]
      have c1 := hA.c1
      have dx := dg_lt (natD_lt x) i
      have dy := dg_lt (natD_lt y) i
      have w32 : W32 = 4294967296 := rfl
      have ei1 : IntKind.wrap .i64 ((i : Int) + 1) = ((i + 1 : Nat) : Int) := addwi1 (by omega)
      have close : ∀ t, t = c + dg (natD x) i + dg (natD y) i → k - 1 < k ∧ i + 1 + (k - 1) = m ∧ AddI (natD x) (natD y) (l.set i (t % W32)) (i + 1) (t / W32) m := fun t ht =>
        ⟨by omega, by omega, by rw [ht]; exact hA.step him (natD_lt x) (natD_lt y)⟩
      by_cases hxi : i < (natD x).length <;> by_cases hyi : i < (natD y).length
      · have ex := lt_t hxi
        have ey := lt_t hyi
        have gx : (natD x)[i]? = some (dg (natD x) i) := by simp [dg, hxi]
        have gy : (natD y)[i]? = some (dg (natD y) i) := by simp [dg, hyi]
        have a1 := u64_nat (a := dg (natD x) i) (by omega)
        have a2 := u64_nat (a := dg (natD y) i) (by omega)
        have a3 := addw64 (a := c) (b := dg (natD x) i) (by omega)
        have a4 := addw64 (a := c + dg (natD x) i) (b := dg (natD y) i) (by omega)
        simp only [go_sem, h0, h1, h5, h6, h16, h17, ei, ex, ey, gx, gy, a1, a2, a3, a4, u32_nat, gl, gi, st, shr32, ei1, ↓reduceIte, Nat.reduceEqDiff, Nat.reduceLT, dv]
        exact ⟨k - 1, by omega, i + 1, _, _, by omega, rfl, hA.step him (natD_lt x) (natD_lt y), rfl, rfl, rfl, rfl⟩
      · have ex := lt_t hxi
        have ey := lt_f hyi
        have gx : (natD x)[i]? = some (dg (natD x) i) := by simp [dg, hxi]
        have dy0 : dg (natD y) i = 0 := by simp [dg, Nat.le_of_not_lt hyi]
        have a1 := u64_nat (a := dg (natD x) i) (by omega)
        have a3 := addw64 (a := c) (b := dg (natD x) i) (by omega)
        have hs := hA.step him (natD_lt x) (natD_lt y)
        rw [dy0, Nat.add_zero] at hs
        simp only [go_sem, h0, h1, h5, h6, h16, h17, ei, ex, ey, gx, a1, a3, u32_nat, gl, gi, st, shr32, ei1, ↓reduceIte, Nat.reduceEqDiff, Nat.reduceLT, dv]
        exact ⟨k - 1, by omega, i + 1, _, _, by omega, rfl, hs, rfl, rfl, rfl, rfl⟩
      · have ex := lt_f hxi
        have ey := lt_t hyi
        have gy : (natD y)[i]? = some (dg (natD y) i) := by simp [dg, hyi]
        have dx0 : dg (natD x) i = 0 := by simp [dg, Nat.le_of_not_lt hxi]
        have a1 := u64_nat (a := dg (natD y) i) (by omega)
        have a3 := addw64 (a := c) (b := dg (natD y) i) (by omega)
        have hs := hA.step him (natD_lt x) (natD_lt y)
        rw [dx0, Nat.add_zero] at hs
        simp only [go_sem, h0, h1, h5, h6, h16, h17, ei, ex, ey, gy, a1, a3, u32_nat, gl, gi, st, shr32, ei1, ↓reduceIte, Nat.reduceEqDiff, Nat.reduceLT, dv]
        exact ⟨k - 1, by omega, i + 1, _, _, by omega, rfl, hs, rfl, rfl, rfl, rfl⟩
      · have ex := lt_f hxi
        have ey := lt_f hyi
        have dx0 : dg (natD x) i = 0 := by simp [dg, Nat.le_of_not_lt hxi]
        have dy0 : dg (natD y) i = 0 := by simp [dg, Nat.le_of_not_lt hyi]
        have hs := hA.step him (natD_lt x) (natD_lt y)
        rw [dx0, dy0, Nat.add_zero, Nat.add_zero] at hs
        simp only [go_sem, h0, h1, h5, h6, h16, h17, ei, ex, ey, u32_nat, gl, gi, st, shr32, ei1, ↓reduceIte, Nat.reduceEqDiff, Nat.reduceLT, dv]
        exact ⟨k - 1, by omega, i + 1, _, _, by omega, rfl, hs, rfl, rfl, rfl, rfl⟩
    · have ei := lt_f him
      simp only [go_sem, h0, h1, h5, h6, h16, h17, ei, allP_rowD, ↓reduceIte, Nat.reduceEqDiff, Nat.reduceLT]
      have hi : i = m := by omega
      subst hi
      obtain ⟨k', rfl⟩ : ∃ k', i = k' + 1 := ⟨max (natD x).length (natD y).length, hm.symm⟩
      have hv := hA.done (by omega) (by omega)
      have hc := trimmed_nv (ds := l) (by rw [hA.len]; omega) hA.dig
      rw [hv] at hc
      exact ⟨_, hc, .refl _, new_del hw⟩
end Bh
namespace Bh
open Go
theorem w32_pos : 0 < W32 := by decide
theorem w32_eq : W32 = 4294967296 := rfl
theorem natD_len_mono {x y : Nat} (h : x ≤ y) : (natD x).length ≤ (natD y).length := natD_len.2 (Nat.lt_of_le_of_lt h (natD_len.1 (Nat.le_refl _)))
theorem natD_lt_pow (x : Nat) : x < W32 ^ (natD x).length := natD_len.1 (Nat.le_refl _)
theorem natD_nil {x : Nat} : natD x = [] ↔ x = 0 := by
  constructor
  · intro h; have := val_natD x; rw [h] at this; simpa [val] using this.symm
  · intro h; rw [h, natD_0]
theorem natD_len0 {x : Nat} : (natD x).length = 0 ↔ x = 0 := by rw [List.length_eq_zero_iff, natD_nil]
theorem dg_nat (x i : Nat) : dg (natD x) i = x / W32 ^ i % W32 := by
  induction i generalizing x with
  | zero =>
    by_cases h : x = 0
    · subst h; simp [dg, natD_0]
    · simp [dg, natD_pos h]
  | succ i ih =>
    by_cases h : x = 0
    · subst h; simp [dg, natD_0]
    · have := ih (x / W32)
      simp only [dg, natD_pos h, List.getD_cons_succ] at this ⊢
      rw [this, Nat.div_div_eq_div_mul, Nat.pow_succ, Nat.mul_comm W32]
theorem val_set_at {l : List Nat} : ∀ {i : Nat}, i < l.length → ∀ d, val (l.set i d) + W32 ^ i * dg l i = val l + W32 ^ i * d := by
  induction l with
  | nil => intro i h; simp at h
  | cons a l ih =>
    intro i h d
    cases i with
    | zero => simp [val, dg]; omega
    | succ i =>
      have := ih (i := i) (by simpa using h) d
      simp only [List.set_cons_succ, val, dg, List.getD_cons_succ] at this ⊢
      rw [Nat.pow_succ, Nat.mul_comm (W32 ^ i) W32, Nat.mul_assoc, Nat.mul_assoc]
      have e : W32 * (val (l.set i d) + W32 ^ i * l.getD i 0) = W32 * (val l + W32 ^ i * d) := by rw [this]
      rw [Nat.mul_add, Nat.mul_add] at e
      omega
theorem dg_set_same {l : List Nat} {i d : Nat} (h : i < l.length) : dg (l.set i d) i = d := by simp [dg, h]
theorem dg_set_ne {l : List Nat} {i j d : Nat} (h : i ≠ j) : dg (l.set i d) j = dg l j := by simp [dg, List.getElem?_set_ne h]
theorem lt_set {l : List Nat} {i d : Nat} (hl : ∀ x ∈ l, x < W32) (hd : d < W32) : ∀ x ∈ l.set i d, x < W32 := fun x hx => by
  rcases List.mem_or_eq_of_mem_set hx with hx | hx
  · exact hl x hx
  · subst hx; exact hd
theorem val_repl (n : Nat) : val (List.replicate n 0) = 0 := by
  induction n with
  | zero => rfl
  | succ n ih => simp [List.replicate_succ, val, ih]
theorem dg_repl (n i : Nat) : dg (List.replicate n 0) i = 0 := by
  simp only [dg, List.getD_eq_getElem?_getD, List.getElem?_replicate]
  split <;> rfl
theorem lt_repl (n : Nat) : ∀ x ∈ List.replicate n 0, x < W32 := fun x hx => by rw [List.eq_of_mem_replicate hx]; decide
structure SubI (a b l : List Nat) (i br : Nat) : Prop where
  len : l.length = a.length
  dig : ∀ d ∈ l, d < W32
  br1 : br ≤ 1
  rest : ∀ k, i ≤ k → dg l k = dg a k
  eq : val (l.take i) + val (b.take i) = val (a.take i) + W32 ^ i * br
theorem SubI.init (a b : List Nat) (h : ∀ d ∈ a, d < W32) : SubI a b a 0 0 := ⟨rfl, h, by omega, fun _ _ => rfl, by simp [val]⟩
theorem SubI.step {a b l : List Nat} {i br br' d : Nat} (h : SubI a b l i br) (hi : i < a.length) (hd : d < W32) (hb' : br' ≤ 1) (e : d + (br + dg b i) = dg a i + W32 * br') : SubI a b (l.set i d) (i + 1) br' := by
  refine ⟨by simp [h.len], lt_set h.dig hd, hb', fun k hk => by rw [dg_set_ne (by omega)]; exact h.rest k (by omega), ?_⟩
  rw [val_set (by rw [h.len]; exact hi), val_take a, val_take b, Nat.pow_succ]
  have e1 := h.eq
  have e2 : W32 ^ i * (d + (br + dg b i)) = W32 ^ i * (dg a i + W32 * br') := by rw [e]
  simp only [Nat.mul_add] at e2
  rw [← Nat.mul_assoc] at e2
  omega
theorem SubI.done {x y : Nat} {l : List Nat} {br : Nat} (h : SubI (natD x) (natD y) l (natD x).length br) (hxy : y ≤ x) : val l = x - y := by
  have e := h.eq
  rw [List.take_of_length_le (Nat.le_of_eq h.len), List.take_of_length_le (natD_len_mono hxy), List.take_of_length_le (Nat.le_refl _), val_natD, val_natD] at e
  have h1 := val_lt h.dig
  rw [h.len] at h1
  have h2 := h.br1
  rcases Nat.eq_zero_or_pos br with h0 | h0
  · subst h0; omega
  · have : br = 1 := by omega
    subst this; omega
structure MulI (a b l : List Nat) (i : Nat) : Prop where
  len : l.length = a.length + b.length
  dig : ∀ d ∈ l, d < W32
  zero : ∀ k, i + b.length ≤ k → dg l k = 0
  eq : val l = val (a.take i) * val b
structure MulJ (a b l : List Nat) (i j c v : Nat) : Prop where
  len : l.length = a.length + b.length
  dig : ∀ d ∈ l, d < W32
  zero : ∀ k, i + b.length ≤ k → dg l k = 0
  c1 : c < W32
  eq : val l + W32 ^ (i + j) * c = v + W32 ^ i * dg a i * val (b.take j)
theorem MulI.init (a b : List Nat) : MulI a b (List.replicate (a.length + b.length) 0) 0 := ⟨by simp, lt_repl _, fun k _ => dg_repl _ _, by simp [val_repl, val]⟩
theorem MulI.inner {a b l : List Nat} {i : Nat} (h : MulI a b l i) : MulJ a b l i 0 0 (val l) := ⟨h.len, h.dig, h.zero, by decide, by simp [val]⟩
theorem mul_fits {a b c d : Nat} (ha : a < W32) (hb : b < W32) (hc : c < W32) (hd : d < W32) : c + (a * b + d) < W32 * W32 := by
  have h1 : a * b ≤ (W32 - 1) * (W32 - 1) := Nat.mul_le_mul (by omega) (by omega)
  have h2 : (W32 - 1) * (W32 - 1) + (W32 - 1) + (W32 - 1) < W32 * W32 := by decide
  omega
theorem MulJ.step {a b l : List Nat} {i j c v : Nat} (h : MulJ a b l i j c v) (hi : i < a.length) (hj : j < b.length) (ha : ∀ d ∈ a, d < W32) (hb : ∀ d ∈ b, d < W32) :
    MulJ a b (l.set (i + j) ((c + (dg a i * dg b j + dg l (i + j))) % W32)) i (j + 1) ((c + (dg a i * dg b j + dg l (i + j))) / W32) v := by
  have hf := mul_fits (dg_lt ha i) (dg_lt hb j) h.c1 (dg_lt h.dig (i + j))
  have hl : i + j < l.length := by rw [h.len]; omega
  refine ⟨by simp [h.len], lt_set h.dig (Nat.mod_lt _ w32_pos), fun k hk => by rw [dg_set_ne (by omega)]; exact h.zero k hk, Nat.div_lt_of_lt_mul hf, ?_⟩
  have e1 := val_set_at hl ((c + (dg a i * dg b j + dg l (i + j))) % W32)
  have e2 := h.eq
  rw [val_take b]
  have e3 := Nat.mod_add_div (c + (dg a i * dg b j + dg l (i + j))) W32
  generalize (c + (dg a i * dg b j + dg l (i + j))) % W32 = r at *
  generalize (c + (dg a i * dg b j + dg l (i + j))) / W32 = q at *
  have e4 : W32 ^ (i + j) * (r + W32 * q) = W32 ^ (i + j) * (c + (dg a i * dg b j + dg l (i + j))) := by rw [e3]
  have e5 : W32 ^ (i + (j + 1)) * q = W32 ^ (i + j) * (W32 * q) := by rw [← Nat.add_assoc, Nat.pow_succ, Nat.mul_assoc]
  have e6 : W32 ^ i * dg a i * (W32 ^ j * dg b j) = W32 ^ (i + j) * (dg a i * dg b j) := by rw [Nat.pow_add]; ac_rfl
  rw [e5, Nat.mul_add (W32 ^ i * dg a i), e6]
  simp only [Nat.mul_add] at e4
  omega
theorem MulJ.done {a b l : List Nat} {i c : Nat} {l0 : List Nat} (h0 : MulI a b l0 i) (h : MulJ a b l i b.length c (val l0)) (hi : i < a.length) : MulI a b (l.set (i + b.length) c) (i + 1) := by
  have hl : i + b.length < l.length := by rw [h.len]; omega
  refine ⟨by simp [h.len], lt_set h.dig h.c1, fun k hk => by rw [dg_set_ne (by omega)]; exact h.zero k (by omega), ?_⟩
  have e1 := val_set_at hl c
  rw [h.zero _ (Nat.le_refl _)] at e1
  have e2 := h.eq
  rw [List.take_of_length_le (Nat.le_refl _), h0.eq] at e2
  rw [val_take a, Nat.add_mul]
  omega
theorem MulI.done {x y : Nat} {l : List Nat} (h : MulI (natD x) (natD y) l (natD x).length) : val l = x * y := by
  rw [h.eq, List.take_of_length_le (Nat.le_refl _), val_natD, val_natD]
structure ShI (a l : List Nat) (by_ i : Nat) : Prop where
  len : l.length = a.length + 1
  dig : ∀ d ∈ l, d < W32
  hi : dg l i < 2 ^ by_
  zero : ∀ k, i < k → dg l k = 0
  eq : val l = val (a.take i) * 2 ^ by_
theorem ShI.init (a : List Nat) (b : Nat) : ShI a (List.replicate (a.length + 1) 0) b 0 := ⟨by simp, lt_repl _, by rw [dg_repl]; exact Nat.two_pow_pos b, fun k _ => dg_repl _ _, by simp [val_repl, val]⟩
theorem pow_split {b : Nat} (hb : b ≤ 32) : 2 ^ b * 2 ^ (32 - b) = W32 := by rw [← Nat.pow_add, show b + (32 - b) = 32 by omega]; rfl
theorem sh_low {x b : Nat} (hb : b ≤ 32) : x * 2 ^ b % W32 = (x % 2 ^ (32 - b)) * 2 ^ b := by
  rw [← pow_split hb, Nat.mul_comm (2 ^ b), Nat.mul_mod_mul_right]
theorem sh_high {x b : Nat} (hb : b ≤ 32) : x * 2 ^ b / W32 = x / 2 ^ (32 - b) := by
  rw [← pow_split hb, Nat.mul_comm (2 ^ b), Nat.mul_div_mul_right _ _ (Nat.two_pow_pos b)]
theorem or_add {x h b : Nat} (hh : h < 2 ^ b) : h ||| (x * 2 ^ b) = h + x * 2 ^ b := by
  have := Nat.two_pow_add_eq_or_of_lt hh x
  rw [Nat.or_comm, Nat.mul_comm x, ← this, Nat.add_comm]
theorem ShI.step {a l : List Nat} {b i : Nat} (h : ShI a l b i) (hb : b < 32) (hi : i < a.length) (ha : ∀ d ∈ a, d < W32) :
    dg l i ||| (dg a i * 2 ^ b % W32) < W32 ∧ dg a i / 2 ^ (32 - b) < W32 ∧ ShI a ((l.set i (dg l i ||| (dg a i * 2 ^ b % W32))).set (i + 1) (dg a i / 2 ^ (32 - b))) b (i + 1) := by
  have hd := dg_lt ha i
  have hl : i < l.length := by rw [h.len]; omega
  have e0 : dg l i ||| (dg a i * 2 ^ b % W32) = dg l i + dg a i * 2 ^ b % W32 := by rw [sh_low (by omega)]; exact or_add h.hi
  have hps := pow_split (Nat.le_of_lt hb)
  have hq : dg a i / 2 ^ (32 - b) < 2 ^ b := by rw [Nat.div_lt_iff_lt_mul (Nat.two_pow_pos _), hps]; exact hd
  have hbw : 2 ^ b < W32 := by
    have := Nat.pow_lt_pow_right (show 1 < 2 by omega) hb
    simpa [W32] using this
  have hlow : dg l i + dg a i * 2 ^ b % W32 < W32 := by
    rw [sh_low (by omega)]
    have h1 : dg a i % 2 ^ (32 - b) + 1 ≤ 2 ^ (32 - b) := Nat.mod_lt _ (Nat.two_pow_pos _)
    have h2 : (dg a i % 2 ^ (32 - b) + 1) * 2 ^ b ≤ 2 ^ (32 - b) * 2 ^ b := Nat.mul_le_mul_right _ h1
    rw [Nat.mul_comm (2 ^ (32 - b)), hps, Nat.add_mul] at h2
    have := h.hi
    omega
  refine ⟨by rw [e0]; exact hlow, Nat.lt_trans hq hbw, by simp [h.len], lt_set (lt_set h.dig (by rw [e0]; exact hlow)) (Nat.lt_trans hq hbw), ?_, fun k hk => ?_, ?_⟩
  · rw [dg_set_same (by simp [h.len]; omega)]; exact hq
  · rw [dg_set_ne (by omega), dg_set_ne (by omega)]; exact h.zero k (by omega)
  · have e1 := val_set_at hl (dg l i ||| (dg a i * 2 ^ b % W32))
    have e2 := val_set_at (l := l.set i (dg l i ||| (dg a i * 2 ^ b % W32))) (i := i + 1) (by simp [h.len]; omega) (dg a i / 2 ^ (32 - b))
    rw [dg_set_ne (by omega), h.zero (i + 1) (by omega)] at e2
    rw [val_take a, Nat.add_mul, ← h.eq]
    rw [e0] at e1 e2 ⊢
    have hm := Nat.mod_add_div (dg a i * 2 ^ b) W32
    rw [sh_high (Nat.le_of_lt hb)] at hm
    have e3 : W32 ^ i * (dg a i * 2 ^ b % W32 + W32 * (dg a i / 2 ^ (32 - b))) = W32 ^ i * (dg a i * 2 ^ b) := by rw [hm]
    rw [Nat.mul_add, ← Nat.mul_assoc (W32 ^ i) W32, ← Nat.pow_succ, ← Nat.mul_assoc (W32 ^ i) (dg a i)] at e3
    rw [Nat.mul_add] at e1
    simp only [Nat.succ_eq_add_one] at e3
    omega
theorem ShI.done {x b : Nat} {l : List Nat} (h : ShI (natD x) l b (natD x).length) : val l = x * 2 ^ b := by
  rw [h.eq, List.take_of_length_le (Nat.le_refl _), val_natD]
structure OvI (a l : List Nat) (d i r : Nat) : Prop where
  len : l.length = a.length
  dig : ∀ x ∈ l, x < W32
  r1 : r < d
  eq : val (a.drop i) = val (l.drop i) * d + r
theorem OvI.init (a : List Nat) {d : Nat} (hd : 0 < d) : OvI a (List.replicate a.length 0) d a.length 0 := ⟨by simp, lt_repl _, hd, by simp [val]⟩
theorem val_drop (ds : List Nat) {i : Nat} (h : i < ds.length) : val (ds.drop i) = dg ds i + W32 * val (ds.drop (i + 1)) := by
  rw [List.drop_eq_getElem_cons h]; simp [val, dg, h]
theorem OvI.step {a l : List Nat} {d i r : Nat} (h : OvI a l d (i + 1) r) (hi : i < a.length) (hdw : d ≤ W32) (ha : ∀ x ∈ a, x < W32) :
    (r * W32 + dg a i) / d < W32 ∧ OvI a (l.set i ((r * W32 + dg a i) / d)) d i ((r * W32 + dg a i) % d) := by
  have hx := dg_lt ha i
  have hr := h.r1
  have hq : (r * W32 + dg a i) / d < W32 := by
    apply Nat.div_lt_of_lt_mul
    have : (r + 1) * W32 ≤ d * W32 := Nat.mul_le_mul_right _ hr
    rw [Nat.add_mul] at this; omega
  refine ⟨hq, by simp [h.len], lt_set h.dig hq, Nat.mod_lt _ (by omega), ?_⟩
  rw [val_drop a hi, val_drop (l.set i ((r * W32 + dg a i) / d)) (by simp [h.len]; exact hi), dg_set_same (by rw [h.len]; exact hi), List.drop_set_of_lt (by omega), h.eq]
  have := Nat.div_add_mod (r * W32 + dg a i) d
  generalize (r * W32 + dg a i) / d = q at *
  generalize (r * W32 + dg a i) % d = m at *
  rw [Nat.add_mul, Nat.mul_add, Nat.mul_assoc W32, Nat.mul_comm q d, Nat.mul_comm W32 r]
  omega
theorem OvI.done {x d r : Nat} {l : List Nat} (h : OvI (natD x) l d 0 r) : val l = x / d ∧ r = x % d := by
  have e := h.eq
  simp only [List.drop_zero, val_natD] at e
  have hr := h.r1
  have hd : 0 < d := by omega
  rw [e]
  exact ⟨by rw [Nat.mul_comm, Nat.mul_add_div hd, Nat.div_eq_of_lt hr]; rfl, by rw [Nat.mul_comm, Nat.mul_add_mod, Nat.mod_eq_of_lt hr]⟩
structure DnI (x b : Nat) (l : List Nat) (i m : Nat) : Prop where
  len : l.length = m
  dig : ∀ d ∈ l, d < W32
  at_ : ∀ k, k < i → dg l k = x / 2 ^ b / W32 ^ k % W32
theorem DnI.init (x b m : Nat) : DnI x b (List.replicate m 0) 0 m := ⟨by simp, lt_repl _, fun k h => absurd h (by omega)⟩
theorem dn_dig {x b i : Nat} (hb : b < 32) : ((x / W32 ^ i % W32) + (x / W32 ^ (i + 1) % W32) * W32) / 2 ^ b % W32 = x / 2 ^ b / W32 ^ i % W32 := by
  have e1 : x / W32 ^ (i + 1) = x / W32 ^ i / W32 := by rw [Nat.pow_succ, Nat.div_div_eq_div_mul]
  rw [e1]
  generalize hy : x / W32 ^ i = y
  have e2 : y % W32 + y / W32 % W32 * W32 = y % (W32 * W32) := by
    rw [Nat.mod_mul, Nat.mul_comm W32]
  rw [e2, Nat.div_div_eq_div_mul x, Nat.mul_comm (2 ^ b), ← Nat.div_div_eq_div_mul, hy]
  have hps := pow_split (Nat.le_of_lt hb)
  -- y % W² / 2^b % W = y / 2^b % W
  have e3 : y % (W32 * W32) / 2 ^ b = y / 2 ^ b % (2 ^ (32 - b) * W32) := by
    rw [show W32 * W32 = 2 ^ b * (2 ^ (32 - b) * W32) by rw [← Nat.mul_assoc, hps]]
    exact Nat.mod_mul_right_div_self y (2 ^ b) (2 ^ (32 - b) * W32)
  rw [e3, Nat.mul_comm (2 ^ (32 - b)), Nat.mod_mul_right_mod]
theorem DnI.step {x b i m : Nat} {l : List Nat} (h : DnI x b l i m) (hi : i < m) {d : Nat} (hd : d = x / 2 ^ b / W32 ^ i % W32) : DnI x b (l.set i d) (i + 1) m := by
  refine ⟨by simp [h.len], lt_set h.dig (by rw [hd]; exact Nat.mod_lt _ w32_pos), fun k hk => ?_⟩
  by_cases e : k = i
  · subst e; rw [dg_set_same (by rw [h.len]; exact hi), hd]
  · rw [dg_set_ne (Ne.symm e)]; exact h.at_ k (by omega)
theorem val_ext {a b : List Nat} (hl : a.length = b.length) (h : ∀ k, k < a.length → dg a k = dg b k) : a = b := by
  apply List.ext_getElem hl
  intro i h1 h2
  have := h i h1
  simpa [dg, h1, h2] using this
theorem val_digs {z : Nat} : ∀ {l : List Nat}, z < W32 ^ l.length → (∀ k, k < l.length → dg l k = z / W32 ^ k % W32) → val l = z := by
  intro l
  induction l generalizing z with
  | nil => intro h _; simp at h; simp [val, h]
  | cons a l ih =>
    intro h hk
    have h0 := hk 0 (by simp)
    simp [dg] at h0
    have := ih (z := z / W32) (by rw [Nat.div_lt_iff_lt_mul w32_pos]; rw [List.length_cons, Nat.pow_succ] at h; exact h) (fun k hkl => by
      have := hk (k + 1) (by simpa using hkl)
      simp only [dg, List.getD_cons_succ] at this ⊢
      rw [this, Nat.pow_succ, Nat.mul_comm (W32 ^ k), Nat.div_div_eq_div_mul])
    simp only [val]
    rw [this, h0]; exact Nat.mod_add_div z W32
theorem DnI.done {x b : Nat} {l : List Nat} (h : DnI x b l (natD x).length (natD x).length) : val l = x / 2 ^ b :=
  val_digs (by rw [h.len]; exact Nat.lt_of_le_of_lt (Nat.div_le_self _ _) (natD_lt_pow x)) fun k hk => h.at_ k (by rw [← h.len]; exact hk)
end Bh
