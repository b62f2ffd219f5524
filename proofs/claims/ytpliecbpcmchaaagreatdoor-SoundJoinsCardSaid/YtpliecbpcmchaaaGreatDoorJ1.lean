/- Texts on the way, 1 of 9. -/
import Derived.Calls
import Derived.Orders
import Derived.OrdersIn
import Derived.RangeFuncLeaves
import Derived.RangeFuncSeq
import Derived.Laws.AppendOwn
import Derived.Laws.OwnMore
import Derived.Laws.MakeOwn
import Derived.Maps.AppendAt
import Derived.Maps.RangeRun
import Derived.WalkKit
import Derived.KernelRfl
set_option linter.unusedVariables false
set_option linter.unusedSimpArgs false
namespace Bh
open Go
def u64s (l : List Int) : List Value := l.map (.int .u64)
def u8s (l : List Int) : List Value := l.map (.int .u8)
def globs : List (Nat × List Value) :=
  [(1, u64s [1, 10, 100, 1000, 10000, 100000, 1000000, 10000000, 100000000, 1000000000, 10000000000, 100000000000, 1000000000000, 10000000000000, 100000000000000, 1000000000000000, 10000000000000000, 100000000000000000, 1000000000000000000, 10000000000000000000])]
end Bh
namespace Bh
open Go
inductive PV where
  | v (x : Value)
  | sl (es : List PV)
  | agg (cs : List PV)
  | ref (x : PV)
  | clo (f : FuncId) (cs : List PV)
  | tup (xs : List PV)
  | any
  deriving Inhabited
def PV.isAgg : PV → Bool
  | .agg _ => true
  | _ => false
def PV.wid : PV → Nat
  | .agg cs => cs.length
  | _ => 1
def packN (isAgg : Bool) (k : Nat) (f : Nat → Value) (o : Nat) : Value :=
  if isAgg then .agg ((List.range k).map fun j => f (o + j)).toArray else f o
def one (x : Value) : Prop := x.oneCell' = true
inductive VP (Per : Nat → Prop) (w : World) : PV → Value → Prop where
  | v (x : Value) : VP Per w (.v x) x
  | any (x : Value) : VP Per w .any x
  | agg (cs : List PV) (xs : List Value) (hs : xs.length = cs.length) (hone : ∀ x ∈ xs, one x)
      (he : ∀ j c, cs[j]? = some c → VP Per w c (xs.getD j undef)) : VP Per w (.agg cs) (.agg xs.toArray)
  | sl (es : List PV) (a : Option Addr) (cap k : Nat) (f : Nat → Value) (hcap : es.length ≤ cap) (hmax : cap ≤ maxLen)
      (hc : ∀ j, j < es.length * k → ∃ ad, a = some ad ∧ Per ad.block ∧ one (f j) ∧ w.cell? (ad.add j) = some (f j))
      (hk : ∀ e ∈ es, e.wid = k) (hp : 0 < k ∨ es = [])
      (he : ∀ i e, es[i]? = some e → VP Per w e (packN e.isAgg e.wid f (i * k))) : VP Per w (.sl es) (.slice a es.length cap)
  | ref (x : PV) (a : Addr) (f : Nat → Value)
      (hc : ∀ j, j < x.wid → Per a.block ∧ one (f j) ∧ w.cell? (a.add j) = some (f j))
      (he : VP Per w x (packN x.isAgg x.wid f 0)) : VP Per w (.ref x) (.pointer (some a))
  | clo (f : FuncId) (cs : List PV) (xs : List Value) (hs : xs.length = cs.length)
      (he : ∀ j c, cs[j]? = some c → VP Per w c (xs.getD j undef)) : VP Per w (.clo f cs) (.func (.func f) #[] xs.toArray)
  | tup (cs : List PV) (xs : List Value) (hs : xs.length = cs.length)
      (he : ∀ j c, cs[j]? = some c → VP Per w c (xs.getD j undef)) : VP Per w (.tup cs) (.tuple xs.toArray)
inductive AV where
  | un
  | p (x : PV)
  | ag (cs : List AV)
  | tp (xs : List AV)
  | cl (f : FuncId) (cs : List AV)
  | hd (i : Nat)
  | pb (i o : Nat)
  | pe (i n k o : Nat)
  | ss (i o n k : Nat)
  deriving Inhabited
def AV.isAgg : AV → Bool
  | .ag _ => true
  | .p x => x.isAgg
  | _ => false
def AV.wid : AV → Nat
  | .ag cs => cs.length
  | .p x => x.wid
  | _ => 1
abbrev Han := Nat → Option Value
inductive AR (γ : Han) (Per : Nat → Prop) (w : World) : AV → Value → Prop where
  | un (x : Value) : AR γ Per w .un x
  | p (x : PV) (v : Value) (h : VP Per w x v) : AR γ Per w (.p x) v
  | ag (cs : List AV) (xs : List Value) (hs : xs.length = cs.length) (hone : ∀ x ∈ xs, one x)
      (he : ∀ j c, cs[j]? = some c → AR γ Per w c (xs.getD j undef)) : AR γ Per w (.ag cs) (.agg xs.toArray)
  | tp (cs : List AV) (xs : List Value) (hs : xs.length = cs.length)
      (he : ∀ j c, cs[j]? = some c → AR γ Per w c (xs.getD j undef)) : AR γ Per w (.tp cs) (.tuple xs.toArray)
  | cl (f : FuncId) (cs : List AV) (xs : List Value) (hs : xs.length = cs.length)
      (he : ∀ j c, cs[j]? = some c → AR γ Per w c (xs.getD j undef)) : AR γ Per w (.cl f cs) (.func (.func f) #[] xs.toArray)
  | hd (i : Nat) (x : Value) (h : γ i = some x) (h1 : one x) : AR γ Per w (.hd i) x
  | pb (i o b : Nat) (h : γ i = some (.pointer (some ⟨b, 0, none⟩))) : AR γ Per w (.pb i o) (.pointer (some ⟨b, o, none⟩))
  | pe (i n k o b len cap : Nat) (h : γ i = some (.slice (some ⟨b, 0, none⟩) len cap)) : AR γ Per w (.pe i n k o) (.pointer (some ⟨b, n * k + o, none⟩))
  | ss (i o n k len cap c : Nat) (ad a : Option Addr) (h : γ i = some (.slice ad len cap)) (hl : n ≤ c) (hc : o + c ≤ cap) (ha : 0 < c → ∃ b, ad = some ⟨b, 0, none⟩ ∧ a = some ⟨b, o * k, none⟩) : AR γ Per w (.ss i o n k) (.slice a n c)
structure More (γ : Han) (Per : Nat → Prop) (w : World) (γ' : Han) (Per' : Nat → Prop) (w' : World) : Prop where
  han : ∀ i v, γ i = some v → γ' i = some v
  per : ∀ b, Per b → Per' b
  heap : ∀ b, Per b → w'.heap[b]? = w.heap[b]?
  size : w.heap.size ≤ w'.heap.size
  os : w'.os = w.os
  tape : w'.tape = w.tape
  output : w'.output = w.output
theorem More.refl (γ : Han) (Per : Nat → Prop) (w : World) : More γ Per w γ Per w := ⟨fun _ _ h => h, fun _ h => h, fun _ _ => rfl, Nat.le_refl _, rfl, rfl, rfl⟩
theorem More.trans {γ γ' γ'' : Han} {Per Per' Per'' : Nat → Prop} {w w' w'' : World} (h : More γ Per w γ' Per' w') (k : More γ' Per' w' γ'' Per'' w'') : More γ Per w γ'' Per'' w'' :=
  ⟨fun i v e => k.han i v (h.han i v e), fun b e => k.per b (h.per b e), fun b e => (k.heap b (h.per b e)).trans (h.heap b e), Nat.le_trans h.size k.size, k.os.trans h.os, k.tape.trans h.tape, k.output.trans h.output⟩
theorem add_block (a : Addr) (j : Nat) : (a.add j).block = a.block := by unfold Addr.add; split <;> rfl
theorem add_add (a : Addr) (i j : Nat) : (a.add i).add j = a.add (i + j) := by
  unfold Addr.add
  by_cases h1 : i = 0 <;> by_cases h2 : j = 0 <;> simp [h1, h2, Nat.add_assoc]
theorem add_plain (b j i : Nat) : (⟨b, j, none⟩ : Addr).add i = ⟨b, j + i, none⟩ := by unfold Addr.add; split <;> simp_all
theorem VP.mono' {Per Per' : Nat → Prop} {w w' : World} (hP : ∀ b, Per b → Per' b) (hw : ∀ b, Per b → w'.heap[b]? = w.heap[b]?)
    {x : PV} {v : Value} (h : VP Per w x v) : VP Per' w' x v := by
  induction h with
  | v x => exact .v x
  | any x => exact .any x
  | agg cs xs hs hone _ ih => exact .agg cs xs hs hone ih
  | sl es a cap k f hcap hmax hc hk hp _ ih =>
    refine .sl es a cap k f hcap hmax (fun j hj => ?_) hk hp ih
    obtain ⟨ad, h1, h2, h3, h4⟩ := hc j hj
    refine ⟨ad, h1, hP _ h2, h3, ?_⟩
    exact (World.cell?_of_block (w := w) (w' := w') (by rw [add_block]; exact hw _ h2)).trans h4
  | ref x a f hc _ ih =>
    refine .ref x a f (fun j hj => ?_) ih
    obtain ⟨h2, h3, h4⟩ := hc j hj
    refine ⟨hP _ h2, h3, ?_⟩
    exact (World.cell?_of_block (w := w) (w' := w') (by rw [add_block]; exact hw _ h2)).trans h4
  | clo f cs xs hs _ ih => exact .clo f cs xs hs ih
  | tup cs xs hs _ ih => exact .tup cs xs hs ih
theorem VP.mono {γ γ' : Han} {Per Per' : Nat → Prop} {w w' : World} (hm : More γ Per w γ' Per' w') {x : PV} {v : Value} (h : VP Per w x v) : VP Per' w' x v := h.mono' hm.per hm.heap
theorem AR.mono {γ γ' : Han} {Per Per' : Nat → Prop} {w w' : World} (hm : More γ Per w γ' Per' w') {x : AV} {v : Value} (h : AR γ Per w x v) : AR γ' Per' w' x v := by
  induction h with
  | un x => exact .un x
  | p x v h => exact .p x v (h.mono hm)
  | ag cs xs hs hone _ ih => exact .ag cs xs hs hone ih
  | tp cs xs hs _ ih => exact .tp cs xs hs ih
  | cl f cs xs hs _ ih => exact .cl f cs xs hs ih
  | hd i x h h1 => exact .hd i x (hm.han _ _ h) h1
  | pb i o b h => exact .pb i o b (hm.han _ _ h)
  | pe i n k o b len cap h => exact .pe i n k o b len cap (hm.han _ _ h)
  | ss i o n k len cap c ad a h hl hc ha => exact .ss i o n k len cap c ad a (hm.han _ _ h) hl hc ha
theorem AR.back {γ γ' : Han} {Per Per' : Nat → Prop} {w w' : World} (hg : ∀ i v, γ i = some v → γ' i = some v) {x : AV} {v v' : Value} (h : AR γ Per w x v) : AR γ' Per' w' x v' → AR γ Per' w' x v' := by
  induction h generalizing v' with
  | un x => intro _; exact .un _
  | p x v _ => intro h; cases h with | p _ _ h => exact .p x v' h
  | ag cs xs hs hone he ih =>
    intro h; cases h with
    | ag _ ys hs' hone' he' => exact .ag cs ys hs' hone' (fun j c hc => ih j c hc (he' j c hc))
  | tp cs xs hs he ih =>
    intro h; cases h with
    | tp _ ys hs' he' => exact .tp cs ys hs' (fun j c hc => ih j c hc (he' j c hc))
  | cl f cs xs hs he ih =>
    intro h; cases h with
    | cl _ _ ys hs' he' => exact .cl f cs ys hs' (fun j c hc => ih j c hc (he' j c hc))
  | hd i x h h1 => intro k; cases k with | hd _ _ h' h1' => rw [hg _ _ h] at h'; injection h' with h'; subst h'; exact .hd i _ h h1
  | pb i o b h => intro k; cases k with | pb _ _ b' h' => rw [hg _ _ h] at h'; injection h' with h'; injection h' with h'; injection h' with h'; injection h' with h'; subst h'; exact .pb i o _ h
  | pe i n k o b len cap h => intro k; cases k with | pe _ _ _ _ b' len' cap' h' => rw [hg _ _ h] at h'; injection h' with h'; injection h' with h1 h2 h3; injection h1 with h1; injection h1 with h1; subst h1; exact .pe i n k o _ len cap h
  | ss i o n k len cap c ad a h hl hc ha => intro k; cases k with | ss _ _ _ _ len' cap' c' ad' a' h' hl' hc' ha' => rw [hg _ _ h] at h'; injection h' with h'; injection h' with h1 h2 h3; subst h1; subst h3; exact .ss i o n k len cap c' ad a' h hl' hc' ha'
inductive AObj where
  | row (E k : Nat) (es : List AV)
  | box (T : Nat) (c : AV)
  | map (m : List (ByteArray × PV))
  | iter (m : Nat) (seen : List Nat) (n : Nat)
  | raw (o : Obj)
  | loop (R : Loop) (st : LoopState) (pend : Option Code)
  deriving Inhabited
structure AHeap where
  get : Nat → Option AObj
  nx : Nat
def AHeap.set (H : AHeap) (i : Nat) (o : AObj) : AHeap := { get := fun j => if j = i then some o else H.get j, nx := H.nx }
def AHeap.del (H : AHeap) (i : Nat) : AHeap := { get := fun j => if j = i then none else H.get j, nx := H.nx }
def AHeap.new (H : AHeap) (o : AObj) : AHeap := { get := fun j => if j = H.nx then some o else H.get j, nx := H.nx + 1 }
def hblk : Value → Option Nat
  | .slice (some a) _ _ => some a.block
  | .pointer (some a) => some a.block
  | .map (some r) => some r
  | .func (.yield l) _ _ => some l
  | _ => none
def keysOf (es : Array MapEntry) : List Value := es.toList.map (·.key)
inductive OR (γ : Han) (Per : Nat → Prop) (w : World) : AObj → Value → Prop where
  | row (E k : Nat) (es : List AV) (v : Value) (xs : List Value) (hown : w.ownsRow 0 E k v es.length xs) (hone : ∀ x ∈ xs, one x) (hk : ∀ e ∈ es, e.wid = k) (hp : 0 < k)
      (he : ∀ i e, es[i]? = some e → AR γ Per w e (packN e.isAgg e.wid (fun j => xs.getD j undef) (i * k))) : OR γ Per w (.row E k es) v
  | box (T : Nat) (c : AV) (b : Nat) (cs : List Value) (hh : w.heap[b]? = some (.cells cs.toArray T (0, 0))) (hone : ∀ x ∈ cs, one x) (hk : cs.length = c.wid)
      (he : AR γ Per w c (packN c.isAgg c.wid (fun j => cs.getD j undef) 0)) : OR γ Per w (.box T c) (.pointer (some ⟨b, 0, none⟩))
  | map (m : List (ByteArray × PV)) (b : Nat) (es : Array MapEntry) (hh : w.heap[b]? = some (.map es es.size)) (hl : es.size = m.length)
      (hborn : ∀ (i : Nat) (e : MapEntry), es[i]? = some e → e.born = i) (hks : ∀ (i : Nat) (e : MapEntry) (y : ByteArray × PV), es[i]? = some e → m[i]? = some y → e.key = .string y.1 ∧ VP Per w y.2 e.val)
      : OR γ Per w (.map m) (.map (some b))
  | iter (mi : Nat) (seen : List Nat) (n b bm : Nat) (hh : w.heap[b]? = some (.mapIter (some bm) n seen.toArray n)) (hm : γ mi = some (.map (some bm))) (hs : ∀ i ∈ seen, i < n)
      : OR γ Per w (.iter mi seen n) (.pointer (some ⟨b, 0, none⟩))
  | raw (o : Obj) (v : Value) (b : Nat) (hv : hblk v = some b) (hh : w.heap[b]? = some o) : OR γ Per w (.raw o) v
  | loop (R : Loop) (st : LoopState) (pend : Option Code) (l : Nat) (hh : w.heap[l]? = some (.loop { R with state := st, pending := pend })) : OR γ Per w (.loop R st pend) (.func (.yield l) #[] #[])
structure HRep (γ : Han) (Per : Nat → Prop) (H : AHeap) (w : World) : Prop where
  obj : ∀ i o, H.get i = some o → ∃ v, γ i = some v ∧ OR γ Per w o v
  lt : ∀ i v, γ i = some v → i < H.nx
  own : ∀ i o v b, H.get i = some o → γ i = some v → hblk v = some b → b < w.heap.size ∧ ¬ Per b
  inj : ∀ i j o o' v v' b, H.get i = some o → H.get j = some o' → γ i = some v → γ j = some v' → hblk v = some b → hblk v' = some b → i = j
  per : ∀ b, Per b → b < w.heap.size
  glob : ∀ q ∈ globs, Per q.1 ∧ ∃ T fr, w.heap[q.1]? = some (.cells q.2.toArray T fr)
theorem glob_keep {γ γ' : Han} {Per Per' : Nat → Prop} {w w' : World} (hm : More γ Per w γ' Per' w') (h : ∀ q ∈ globs, Per q.1 ∧ ∃ T fr, w.heap[q.1]? = some (.cells q.2.toArray T fr)) :
    ∀ q ∈ globs, Per' q.1 ∧ ∃ T fr, w'.heap[q.1]? = some (.cells q.2.toArray T fr) :=
  fun q hq => ⟨hm.per _ (h q hq).1, by rw [hm.heap _ (h q hq).1]; exact (h q hq).2⟩
abbrev AS := Nat → AV
def AS.upd (s : AS) (t : Nat) (x : AV) : AS := fun u => if u = t then x else s u
structure St (n : Nat) (γ : Han) (Per : Nat → Prop) (s : AS) (H : AHeap) (a : Act) (w : World) : Prop where
  size : a.tmps.size = n
  slots : ∀ t, t < n → AR γ Per w (s t) (a.tmps.getD t undef)
  heap : HRep γ Per H w
theorem OR.keep {γ γ' : Han} {Per Per' : Nat → Prop} {w w' : World} (hm : More γ Per w γ' Per' w') {o : AObj} {v : Value} (h : OR γ Per w o v) (hb : ∀ b, hblk v = some b → w'.heap[b]? = w.heap[b]?) : OR γ' Per' w' o v := by
  cases h with
  | row E k es _ xs hown hone hk hp he =>
    refine .row E k es v xs ?_ hone hk hp (fun i e h => (he i e h).mono hm)
    refine ⟨hown.1, ?_⟩
    rcases hown.2 with h1 | ⟨g, cap, cur, rfl, h0, hh, rest⟩
    · exact .inl h1
    · exact .inr ⟨g, cap, cur, rfl, h0, by rw [hb g rfl]; exact hh, rest⟩
  | box T c b cs hh hone hk he => exact .box T c b cs (by rw [hb b rfl]; exact hh) hone hk (he.mono hm)
  | map m b es hh hl hborn hks => exact .map m b es (by rw [hb b rfl]; exact hh) hl hborn (fun i e y h1 h2 => ⟨(hks i e y h1 h2).1, (hks i e y h1 h2).2.mono hm⟩)
  | iter mi seen n b bm hh hm' hs => exact .iter mi seen n b bm (by rw [hb b rfl]; exact hh) (hm.han _ _ hm') hs
  | raw o v b hv hh => exact .raw o v b hv (by rw [hb b hv]; exact hh)
  | loop R st pend l hh => exact .loop R st pend l (by rw [hb l rfl]; exact hh)
theorem OR.back {γ γ' : Han} {Per Per' : Nat → Prop} {w w' : World} (hg : ∀ i v, γ i = some v → γ' i = some v) {o : AObj} {v v' : Value} (h : OR γ Per w o v) (k : OR γ' Per' w' o v') : OR γ Per' w' o v' := by
  cases h with
  | row E k' es _ xs hown hone hk hp he => cases k with | row _ _ _ _ xs' hown' hone' hk' hp' he' => exact .row E k' es v' xs' hown' hone' hk' hp' (fun i e h => (he i e h).back hg (he' i e h))
  | box T c b cs hh hone hk he => cases k with | box _ _ b' cs' hh' hone' hk' he' => exact .box T c b' cs' hh' hone' hk' (he.back hg he')
  | map m b es hh hl hborn hks => cases k with | map _ b' es' hh' hl' hborn' hks' => exact .map m b' es' hh' hl' hborn' hks'
  | iter mi seen n b bm hh hm' hs => cases k with | iter _ _ _ b' bm' hh' hm'' hs' => rw [hg _ _ hm'] at hm''; injection hm'' with e; injection e with e; injection e with e; subst e; exact .iter mi seen n b' _ hh' hm' hs'
  | raw o v b hv hh => cases k with | raw _ _ b' hv' hh' => exact .raw o v' b' hv' hh'
  | loop R st pend l hh => cases k with | loop _ _ _ l' hh' => exact .loop R st pend l' hh'
theorem Act.put_size (a : Act) (dst : Option Tmp) (v : Value) : (a.put dst v).tmps.size = a.tmps.size := by cases dst <;> simp [Act.put]
theorem Act.put_same (a : Act) (d : Nat) (v : Value) (h : d < a.tmps.size) : (a.put (some d) v).tmps.getD d undef = v := by
  simp [Act.put, Array.getD, h]
theorem Act.put_ne (a : Act) (d t : Nat) (v : Value) (h : t ≠ d) : (a.put (some d) v).tmps.getD t undef = a.tmps.getD t undef := by
  simp only [Act.put, Array.getD_eq_getD_getElem?, Array.getElem?_setIfInBounds_ne (Ne.symm h)]
section
variable {n : Nat} {γ γ' : Han} {Per Per' : Nat → Prop} {s : AS} {H H' : AHeap} {a a' : Act} {w w' : World}
theorem St.put (h : St n γ Per s H a w) (d : Nat) (hm : More γ Per w γ' Per' w') (hH : HRep γ' Per' H' w') {x : AV} {v : Value} (new : AR γ' Per' w' x v) :
    St n γ' Per' (s.upd d x) H' (a.put (some d) v) w' where
  size := by rw [Act.put_size]; exact h.size
  slots := fun t ht => by
    by_cases e : t = d
    · subst e; simp only [AS.upd, if_true]; rw [Act.put_same a t v (by rw [h.size]; exact ht)]; exact new
    · simp only [AS.upd, if_neg e]; rw [Act.put_ne a d t v e]; exact (h.slots t ht).mono hm
  heap := hH
theorem St.more (h : St n γ Per s H a w) (hm : More γ Per w γ' Per' w') (hH : HRep γ' Per' H' w') : St n γ' Per' s H' a w' where
  size := h.size
  slots := fun t ht => (h.slots t ht).mono hm
  heap := hH
structure ExtW (w w' : World) : Prop where
  heap : ∀ b, b < w.heap.size → w'.heap[b]? = w.heap[b]?
  sz : w.heap.size ≤ w'.heap.size
  os : w'.os = w.os
  tape : w'.tape = w.tape
  output : w'.output = w.output
theorem ExtW.refl (w : World) : ExtW w w := ⟨fun _ _ => rfl, Nat.le_refl _, rfl, rfl, rfl⟩
theorem ExtW.alloc (w : World) (o : Obj) : ExtW w (w.alloc o) :=
  ⟨fun b hb => by simp only [World.alloc, Array.getElem?_push]; rw [if_neg (by omega)], by simp, rfl, rfl, rfl⟩
theorem ExtW.more (hx : ExtW w w') (hH : HRep γ Per H w) (hP : ∀ b, Per b → Per' b) : More γ Per w γ Per' w' :=
  ⟨fun _ _ h => h, hP, fun b hb => hx.heap b (hH.per b hb), hx.sz, hx.os, hx.tape, hx.output⟩
theorem HRep.ext (h : HRep γ Per H w) (hx : ExtW w w') (hP : ∀ b, Per b → Per' b) (hP' : ∀ b, Per' b → Per b ∨ (w.heap.size ≤ b ∧ b < w'.heap.size)) : HRep γ Per' H w' where
  obj := fun i o hi => by
    obtain ⟨v, h1, h2⟩ := h.obj i o hi
    exact ⟨v, h1, h2.keep (hx.more h hP) (fun b hb => hx.heap b (h.own i o v b hi h1 hb).1)⟩
  lt := h.lt
  own := fun i o v b h1 h2 h3 => ⟨Nat.lt_of_lt_of_le (h.own i o v b h1 h2 h3).1 hx.sz, fun hp => (hP' b hp).elim (h.own i o v b h1 h2 h3).2 (fun hh => absurd (h.own i o v b h1 h2 h3).1 (by omega))⟩
  inj := h.inj
  per := fun b hb => (hP' b hb).elim (fun hp => Nat.lt_of_lt_of_le (h.per b hp) hx.sz) (·.2)
  glob := glob_keep (hx.more h hP) h.glob
theorem HRep.upd (h : HRep γ Per H w) {i : Nat} {o o' : AObj} {v : Value} {b : Nat} (hi : H.get i = some o) (hv : γ i = some v) (hb : hblk v = some b) (hw : ∀ k, k ≠ b → w'.heap[k]? = w.heap[k]?) (sz : w.heap.size ≤ w'.heap.size)
    (hm : More γ Per w γ Per w') (new : OR γ Per w' o' v) : HRep γ Per (H.set i o') w' where
  obj := fun j oj hj => by
    simp only [AHeap.set] at hj
    by_cases e : j = i
    · subst e; rw [if_pos rfl] at hj; injection hj with hj; subst hj; exact ⟨v, hv, new⟩
    · rw [if_neg e] at hj
      obtain ⟨vj, h1, h2⟩ := h.obj j oj hj
      exact ⟨vj, h1, h2.keep hm (fun k hk => hw k (fun ek => e (h.inj j i oj o vj v b hj hi h1 hv (ek ▸ hk) hb)))⟩
  lt := h.lt
  own := fun j oj vj k hj h1 h2 => by
    simp only [AHeap.set] at hj
    by_cases e : j = i
    · subst e; rw [hv] at h1; injection h1 with h1; subst h1
      exact ⟨Nat.lt_of_lt_of_le (h.own j o v k hi hv h2).1 sz, (h.own j o v k hi hv h2).2⟩
    · rw [if_neg e] at hj; exact ⟨Nat.lt_of_lt_of_le (h.own j oj vj k hj h1 h2).1 sz, (h.own j oj vj k hj h1 h2).2⟩
  inj := fun j j' oj oj' vj vj' k hj hj' h1 h1' h2 h2' => by
    simp only [AHeap.set] at hj hj'
    have e1 : ∃ p, H.get j = some p := by by_cases e : j = i; exact ⟨o, e ▸ hi⟩; rw [if_neg e] at hj; exact ⟨_, hj⟩
    have e2 : ∃ p, H.get j' = some p := by by_cases e : j' = i; exact ⟨o, e ▸ hi⟩; rw [if_neg e] at hj'; exact ⟨_, hj'⟩
    obtain ⟨p, e1⟩ := e1
    obtain ⟨p', e2⟩ := e2
    exact h.inj j j' p p' vj vj' k e1 e2 h1 h1' h2 h2'
  per := fun b hb => Nat.lt_of_lt_of_le (h.per b hb) sz
  glob := glob_keep hm h.glob
theorem HRep.less (h : HRep γ Per H w) {H' : AHeap} (hg : ∀ i o, H'.get i = some o → H.get i = some o) (hn : ∀ i v, γ i = some v → i < H'.nx) : HRep γ Per H' w where
  obj := fun i o hi => h.obj i o (hg i o hi)
  lt := hn
  own := fun i o v b hi => h.own i o v b (hg i o hi)
  inj := fun i j o o' v v' b hi hj => h.inj i j o o' v v' b (hg i o hi) (hg j o' hj)
  per := h.per
  glob := h.glob
theorem HRep.del (h : HRep γ Per H w) (i : Nat) : HRep γ Per (H.del i) w :=
  h.less (fun j o hj => by simp only [AHeap.del] at hj; split at hj; cases hj; exact hj) h.lt
def newHan (γ : Han) (i : Nat) (v : Value) : Han := fun j => if j = i then some v else γ j
theorem HRep.new (h : HRep γ Per H w) {o : AObj} {v : Value} (hm : More γ Per w γ Per w') (hx : ∀ i o v b, H.get i = some o → γ i = some v → hblk v = some b → w'.heap[b]? = w.heap[b]?)
    (hb : ∀ b, hblk v = some b → b < w'.heap.size ∧ ¬ Per b ∧ ∀ i o v', H.get i = some o → γ i = some v' → hblk v' ≠ some b) (new : OR (newHan γ H.nx v) Per w' o v) :
    HRep (newHan γ H.nx v) Per (H.new o) w' ∧ More γ Per w (newHan γ H.nx v) Per w' := by
  have hM : More γ Per w (newHan γ H.nx v) Per w' := ⟨fun i x hx => by simp only [newHan]; rw [if_neg (fun e => absurd (h.lt i x hx) (by omega))]; exact hx, fun _ h => h, hm.heap, hm.size, hm.os, hm.tape, hm.output⟩
  have old : ∀ i o', i ≠ H.nx → (H.new o).get i = some o' → H.get i = some o' ∧ newHan γ H.nx v i = γ i := by
    intro i o' e hi
    simp only [AHeap.new, if_neg e] at hi
    exact ⟨hi, by simp [newHan, e]⟩
  refine ⟨⟨fun i oi hi => ?_, fun i x hx => ?_, fun i oi vi b hi h1 h2 => ?_, fun i j oi oj vi vj b hi hj h1 h1' h2 h2' => ?_, fun b hb => Nat.lt_of_lt_of_le (h.per b hb) hm.size, glob_keep hM h.glob⟩, hM⟩
  · by_cases e : i = H.nx
    · subst e
      simp only [AHeap.new, if_true, Option.some.injEq] at hi; subst hi
      exact ⟨v, by simp [newHan], new⟩
    · obtain ⟨h1, h2⟩ := old i oi e hi
      obtain ⟨vi, h3, h4⟩ := h.obj i oi h1
      exact ⟨vi, by rw [h2]; exact h3, h4.keep hM (fun b hb => hx i oi vi b h1 h3 hb)⟩
  · simp only [newHan] at hx
    show i < H.nx + 1
    split at hx
    · omega
    · have := h.lt i x hx; omega
  · by_cases e : i = H.nx
    · subst e
      simp only [newHan, if_true, Option.some.injEq] at h1; subst h1
      exact ⟨(hb b h2).1, (hb b h2).2.1⟩
    · obtain ⟨h3, h4⟩ := old i oi e hi
      rw [h4] at h1
      have := h.own i oi vi b h3 h1 h2
      exact ⟨Nat.lt_of_lt_of_le this.1 hm.size, this.2⟩
  · by_cases e : i = H.nx <;> by_cases e' : j = H.nx
    · rw [e, e']
    · subst e
      obtain ⟨h3, h4⟩ := old j oj e' hj
      rw [h4] at h1'
      simp only [newHan, if_true, Option.some.injEq] at h1; subst h1
      exact absurd h2' ((hb b h2).2.2 j oj vj h3 h1')
    · subst e'
      obtain ⟨h3, h4⟩ := old i oi e hi
      rw [h4] at h1
      simp only [newHan, if_true, Option.some.injEq] at h1'; subst h1'
      exact absurd h2 ((hb b h2').2.2 i oi vi h3 h1)
    · obtain ⟨h3, h4⟩ := old i oi e hi
      obtain ⟨h5, h6⟩ := old j oj e' hj
      rw [h4] at h1; rw [h6] at h1'
      exact h.inj i j oi oj vi vj b h3 h5 h1 h1' h2 h2'
end
end Bh
namespace Bh
open Go
def PV.sub (y : PV) (off : Nat) (agg : Bool) (m : Nat) : Option PV :=
  if off = 0 ∧ y.isAgg = agg ∧ y.wid = m then some y else
  match y with
  | .agg cs => if agg then (if off + m ≤ cs.length then some (.agg ((cs.drop off).take m)) else none) else if m = 1 then cs[off]? else none
  | _ => none
def tAgg (P : Program) (t : TypeId) : Option Bool :=
  match P.underlying t with
  | some (.struct _) | some (.array _ _) => some true
  | some _ => some false
  | none => none
def tSize (P : Program) (t : TypeId) : Option Nat := (P.info? t).map (·.size)
theorem run_isAgg {P : Program} {t : TypeId} {b : Bool} (h : tAgg P t = some b) (w : World) : (isAgg t).run P w = .ok b w := by
  unfold tAgg at h
  unfold isAgg
  cases hu : P.underlying t with
  | none => simp [hu] at h
  | some d =>
    simp only [Sem.run_bind, run_underlying hu, Result.andThen_ok]
    rw [hu] at h
    cases d <;> simp_all
theorem run_size {P : Program} {t : TypeId} {m : Nat} (h : tSize P t = some m) (w : World) : (Go.sizeOf t).run P w = .ok m w := by
  unfold tSize at h
  cases hi : P.info? t with
  | none => simp [hi] at h
  | some i =>
    have hm : i.size = m := by simpa [hi] using h
    simp [Go.sizeOf, typeInfo, hi, hm]
theorem run_loadVar {P : Program} {t : TypeId} {agg : Bool} {m : Nat} (ha : tAgg P t = some agg) (hm : tSize P t = some m) (w : World) (a : Addr) (f : Nat → Value)
    (hc : ∀ j, j < m → w.cell? (a.add j) = some (f j)) (h1 : agg = false → 0 < m) : (loadVar t a).run P w = .ok (packN agg m f 0) w := by
  unfold loadVar
  simp only [Sem.run_bind, run_isAgg ha, Result.andThen_ok]
  cases agg with
  | true =>
    simp only [if_true, Sem.run_bind, run_size hm, Result.andThen_ok, run_loadCells w a m f hc, Sem.run_pure]
    simp [packN]
  | false =>
    have h0 := hc 0 (h1 rfl)
    have : a.add 0 = a := by simp [Addr.add]
    rw [this] at h0
    simp only [Bool.false_eq_true, if_false, run_load, h0, packN]
theorem packN_off (agg : Bool) (m : Nat) (f : Nat → Value) (off : Nat) : packN agg m (fun j => f (off + j)) 0 = packN agg m f off := by
  unfold packN; simp
theorem VP.sub {Per : Nat → Prop} {w : World} {y z : PV} {f : Nat → Value} {off : Nat} {agg : Bool} {m : Nat} (h : VP Per w y (packN y.isAgg y.wid f 0))
    (hs : y.sub off agg m = some z) (hone : ∀ j, j < y.wid → one (f j)) : VP Per w z (packN agg m f off) ∧ off + m ≤ y.wid := by
  unfold PV.sub at hs
  split at hs
  · rename_i h0
    obtain ⟨rfl, rfl, rfl⟩ := h0
    cases hs
    exact ⟨h, by omega⟩
  · cases y with
    | agg cs =>
      simp only [PV.isAgg, PV.wid, packN, if_true, Nat.zero_add] at h hone ⊢
      generalize hxs : (((List.range cs.length).map fun j => f j).toArray) = arr at h
      cases h with
      | agg _ xs hlen hone' he =>
        have hx : xs = (List.range cs.length).map fun j => f j := by
          have := congrArg Array.toList hxs; simpa using this.symm
        subst hx
        dsimp only at hs
        by_cases hagg : agg = true
        · subst hagg
          simp only [if_true] at hs
          split at hs
          · rename_i hle
            cases hs
            refine ⟨?_, hle⟩
            simp only [if_true]
            refine .agg _ _ (by simp; omega) ?_ ?_
            · intro x hx
              simp only [List.mem_map, List.mem_range] at hx
              obtain ⟨j, hj, rfl⟩ := hx
              exact hone _ (by omega)
            · intro j c hc
              rw [List.getElem?_take] at hc
              split at hc
              · rename_i hj
                rw [List.getElem?_drop] at hc
                have := he (off + j) c hc
                simp only [List.getD_eq_getElem?_getD, List.getElem?_map] at this ⊢
                rw [List.getElem?_range (by omega)] at this
                rw [List.getElem?_range hj]
                exact this
              · cases hc
          · cases hs
        · have hagg' : agg = false := by simpa using hagg
          subst hagg'
          simp only [Bool.false_eq_true, if_false] at hs
          split at hs
          · rename_i hm1
            subst hm1
            have hlt : off < cs.length := by
              rcases Nat.lt_or_ge off cs.length with hh | hh
              · exact hh
              · rw [List.getElem?_eq_none hh] at hs; cases hs
            refine ⟨?_, by omega⟩
            have := he off z hs
            simp only [List.getD_eq_getElem?_getD, List.getElem?_map, List.getElem?_range hlt, Option.map_some, Option.getD_some] at this
            simpa using this
          · cases hs
    | _ => cases hs
def PV.cells : PV → List PV
  | .agg cs => cs
  | y => [y]
def PV.ok1 : PV → Bool
  | .v x => x.oneCell'
  | .sl _ | .ref _ | .clo .. | .agg _ => true
  | _ => false
theorem VP.cellsV {Per : Nat → Prop} {w : World} {y : PV} {v : Value} (h : VP Per w y v) (h1 : y.ok1 = true) :
    v.cells.toList.length = y.wid ∧ packN y.isAgg y.wid (fun j => v.cells.toList.getD j undef) 0 = v ∧ (∀ x ∈ v.cells.toList, one x) := by
  cases h with
  | v =>
    have : v.cells = #[v] := by cases v <;> simp_all [PV.ok1, Value.cells, Value.oneCell']
    simp only [this]
    exact ⟨rfl, rfl, fun y hy => by simp at hy; subst hy; exact h1⟩
  | agg cs xs hs hone he =>
    refine ⟨by simpa [Value.cells, PV.wid] using hs, ?_, by simpa [Value.cells] using hone⟩
    simp only [packN, PV.isAgg, if_true, PV.wid, Value.cells, Nat.zero_add]
    congr 2
    apply List.ext_getElem?
    intro j
    by_cases hj : j < cs.length
    · simp [List.getElem?_range hj, List.getD, List.getElem?_eq_getElem (show j < xs.length by omega)]
    · simp [List.getElem?_eq_none (show (List.range cs.length).length ≤ j by simp; omega), List.getElem?_eq_none (show xs.length ≤ j by omega)]
  | sl es a cap k f => exact ⟨rfl, rfl, fun y hy => by simp [Value.cells] at hy; subst hy; rfl⟩
  | ref x a f => exact ⟨rfl, rfl, fun y hy => by simp [Value.cells] at hy; subst hy; rfl⟩
  | clo f cs xs => exact ⟨rfl, rfl, fun y hy => by simp [Value.cells] at hy; subst hy; rfl⟩
  | any => simp [PV.ok1] at h1
  | tup => simp [PV.ok1] at h1
theorem VP.cell {Per : Nat → Prop} {w : World} {y : PV} {v : Value} (h : VP Per w y v) (h1 : y.ok1 = true) (j : Nat) (c : PV) (hc : y.cells[j]? = some c) :
    VP Per w c (v.cells.toList.getD j undef) := by
  cases h with
  | agg cs xs hs hone he =>
    have := he j c hc
    simpa [Value.cells] using this
  | v =>
    have hx : v.cells = #[v] := by cases v <;> simp_all [PV.ok1, Value.cells, Value.oneCell']
    simp only [PV.cells] at hc
    cases j with
    | zero => simp at hc; subst hc; simp [hx]; exact .v v
    | succ j => simp at hc
  | sl es a cap k f a1 a2 a3 a4 a5 a6 =>
    simp only [PV.cells] at hc
    cases j with
    | zero => simp at hc; subst hc; exact .sl es a cap k f a1 a2 a3 a4 a5 a6
    | succ j => simp at hc
  | ref x a f a1 a2 =>
    simp only [PV.cells] at hc
    cases j with
    | zero => simp at hc; subst hc; exact .ref x a f a1 a2
    | succ j => simp at hc
  | clo f cs xs a1 a2 =>
    simp only [PV.cells] at hc
    cases j with
    | zero => simp at hc; subst hc; exact .clo f cs xs a1 a2
    | succ j => simp at hc
  | any => simp [PV.ok1] at h1
  | tup => simp [PV.ok1] at h1
theorem cells_length (y : PV) : y.cells.length = y.wid := by cases y <;> rfl
def spl {α : Type} (cs : List α) (off : Nat) (p : List α) : List α := cs.take off ++ p ++ cs.drop (off + p.length)
theorem spl_length {α : Type} (cs : List α) (off : Nat) (p : List α) (h : off + p.length ≤ cs.length) : (spl cs off p).length = cs.length := by
  simp [spl]; omega
theorem spl_get {α : Type} (cs : List α) (off : Nat) (p : List α) (h : off + p.length ≤ cs.length) (j : Nat) :
    (spl cs off p)[j]? = if off ≤ j ∧ j < off + p.length then p[j - off]? else cs[j]? := by
  unfold spl
  by_cases h1 : j < off
  · rw [List.append_assoc, List.getElem?_append_left (by simp; omega), List.getElem?_take, if_pos h1, if_neg (by omega)]
  · by_cases h2 : j < off + p.length
    · rw [List.getElem?_append_left (by simp; omega), List.getElem?_append_right (by simp; omega), if_pos ⟨by omega, h2⟩]
      simp [Nat.min_eq_left (show off ≤ cs.length by omega)]
    · rw [List.getElem?_append_right (by simp; omega), if_neg (by omega), List.getElem?_drop]
      congr 1
      simp
      omega
theorem range_get (f : Nat → Value) (n j : Nat) (h : j < n) : ((List.range n).map f).getD j undef = f j := by
  simp [List.getD, List.getElem?_range h]
theorem packN_congr {agg : Bool} {k o : Nat} {f g : Nat → Value} (h : ∀ j, j < k → f (o + j) = g (o + j)) (h0 : agg = false → 0 < k) : packN agg k f o = packN agg k g o := by
  unfold packN
  cases agg with
  | true =>
    simp only [if_true]
    congr 2
    exact List.map_congr_left fun j hj => h j (List.mem_range.1 hj)
  | false => simpa using h 0 (h0 rfl)
theorem pv_wid_pos {y : PV} (h : y.isAgg = false) : 0 < y.wid := by cases y <;> simp_all [PV.isAgg, PV.wid]
def allP : List AV → Option (List PV)
  | [] => some []
  | .p x :: r => (allP r).map (x :: ·)
  | _ :: _ => none
theorem allP_get {l : List AV} {ps : List PV} (h : allP l = some ps) : l = ps.map .p := by
  induction l generalizing ps with
  | nil => simp [allP] at h; subst h; rfl
  | cons x l ih =>
    cases x with
    | p y =>
      simp only [allP, Option.map_eq_some_iff] at h
      obtain ⟨q, hq, rfl⟩ := h
      simp [ih hq]
    | _ => simp [allP] at h
def mkAg (cs : List AV) : AV := match allP cs with | some ps => .p (.agg ps) | none => .ag cs
def AV.cells : AV → List AV
  | .p y => y.cells.map .p
  | .ag cs => cs
  | y => [y]
def AV.ok1 : AV → Bool
  | .p y => y.ok1
  | .un | .tp _ => false
  | _ => true
def AV.sub (c : AV) (off : Nat) (agg : Bool) (m : Nat) : Option AV :=
  match c with
  | .p y => (y.sub off agg m).map .p
  | .ag cs => if agg then (if off + m ≤ cs.length then some (mkAg ((cs.drop off).take m)) else none) else if m = 1 then cs[off]? else none
  | e => if off = 0 ∧ agg = false ∧ m = 1 then some e else none
def AV.wr (c : AV) (off : Nat) (y : AV) : Option AV :=
  if off = 0 ∧ c.isAgg = y.isAgg ∧ c.wid = y.wid then some y else
  if c.isAgg = true ∧ off + y.wid ≤ c.wid then some (mkAg (spl c.cells off y.cells)) else none
section
variable {γ : Han} {Per : Nat → Prop} {w : World}
theorem acells_length (y : AV) : y.cells.length = y.wid := by cases y <;> simp [AV.cells, AV.wid, cells_length]
theorem av_wid_pos {y : AV} (h : y.isAgg = false) : 0 < y.wid := by
  cases y <;> simp_all [AV.isAgg, AV.wid]
  exact pv_wid_pos h
theorem AR.cellsV {y : AV} {v : Value} (h : AR γ Per w y v) (h1 : y.ok1 = true) :
    v.cells.toList.length = y.wid ∧ packN y.isAgg y.wid (fun j => v.cells.toList.getD j undef) 0 = v ∧ (∀ x ∈ v.cells.toList, one x) := by
  have sc : ∀ {v : Value}, one v → v.cells.toList.length = 1 ∧ packN false 1 (fun j => v.cells.toList.getD j undef) 0 = v ∧ (∀ x ∈ v.cells.toList, one x) := by
    intro v h1
    have : v.cells = #[v] := by cases v <;> simp_all [one, Value.cells, Value.oneCell']
    simp only [this]
    exact ⟨rfl, rfl, fun y hy => by simp at hy; subst hy; exact h1⟩
  cases h with
  | un => simp [AV.ok1] at h1
  | p x _ h => exact h.cellsV h1
  | ag cs xs hs hone he =>
    refine ⟨by simpa [Value.cells, AV.wid] using hs, ?_, by simpa [Value.cells] using hone⟩
    simp only [packN, AV.isAgg, if_true, AV.wid, Value.cells, Nat.zero_add]
    congr 2
    apply List.ext_getElem?
    intro j
    by_cases hj : j < cs.length
    · simp [List.getElem?_range hj, List.getD, List.getElem?_eq_getElem (show j < xs.length by omega)]
    · simp [List.getElem?_eq_none (show (List.range cs.length).length ≤ j by simp; omega), List.getElem?_eq_none (show xs.length ≤ j by omega)]
  | tp => simp [AV.ok1] at h1
  | cl f cs xs => exact sc rfl
  | hd i _ h h1' => exact sc h1'
  | pb i o b h => exact sc rfl
  | pe i n k o b len cap h => exact sc rfl
  | ss i o n k len cap c ad a h hl hc ha => exact sc rfl
theorem AR.cell {y : AV} {v : Value} (h : AR γ Per w y v) (h1 : y.ok1 = true) (j : Nat) (c : AV) (hc : y.cells[j]? = some c) : AR γ Per w c (v.cells.toList.getD j undef) := by
  have sc : ∀ {v : Value} {y : AV}, one v → AR γ Per w y v → [y][j]? = some c → AR γ Per w c (v.cells.toList.getD j undef) := by
    intro v y h1 h2 h3
    have : v.cells = #[v] := by cases v <;> simp_all [one, Value.cells, Value.oneCell']
    cases j with
    | zero => simp at h3; subst h3; simpa [this] using h2
    | succ j => simp at h3
  cases h with
  | un => simp [AV.ok1] at h1
  | p x _ h =>
    simp only [AV.cells, List.getElem?_map, Option.map_eq_some_iff] at hc
    obtain ⟨d, hd, rfl⟩ := hc
    exact .p _ _ (h.cell h1 j d hd)
  | ag cs xs hs hone he => simpa [Value.cells] using he j c hc
  | tp => simp [AV.ok1] at h1
  | cl f cs xs hs he => exact sc rfl (.cl f cs xs hs he) hc
  | hd i _ h h1' => exact sc h1' (.hd i _ h h1') hc
  | pb i o b h => exact sc rfl (.pb i o b h) hc
  | pe i n k o b len cap h => exact sc rfl (.pe i n k o b len cap h) hc
  | ss i o n k len cap c' ad a h hl hc' ha => exact sc rfl (.ss i o n k len cap c' ad a h hl hc' ha) hc
theorem AR.cellM {c : AV} {f : Nat → Value} (hc : c.isAgg = true) (h : AR γ Per w c (packN true c.wid f 0)) (j : Nat) (e : AV) (he : c.cells[j]? = some e) : AR γ Per w e (f j) := by
  have hj : j < c.wid := by rw [← acells_length]; exact (List.getElem?_eq_some_iff.1 he).1
  have h1 : c.ok1 = true := by cases c <;> simp_all [AV.isAgg, AV.ok1]; rename_i x; cases x <;> simp_all [PV.isAgg, PV.ok1]
  have := h.cell h1 j e he
  simpa [packN, Value.cells, List.getD, List.getElem?_range hj] using this
theorem AR.mk {cs : List AV} {g : Nat → Value} (hone : ∀ j, j < cs.length → one (g j)) (he : ∀ j e, cs[j]? = some e → AR γ Per w e (g j)) : AR γ Per w (mkAg cs) (packN true cs.length g 0) := by
  have hones : ∀ x ∈ (List.range cs.length).map fun j => g (0 + j), one x := by
    intro x hx
    simp only [List.mem_map, List.mem_range, Nat.zero_add] at hx
    obtain ⟨j, hj, rfl⟩ := hx
    exact hone j hj
  have lt : ∀ {α : Type} {l : List α} {j : Nat} {e : α}, l[j]? = some e → j < l.length := fun h => (List.getElem?_eq_some_iff.1 h).1
  unfold mkAg
  cases ha : allP cs with
  | none =>
    simp only [packN, if_true]
    refine .ag cs _ (by simp) hones (fun j c hc => ?_)
    rw [range_get _ _ _ (lt hc), Nat.zero_add]; exact he j c hc
  | some ps =>
    have e := allP_get ha
    simp only [packN, if_true]
    refine .p _ _ (.agg ps _ (by simp [e]) hones (fun j c hc => ?_))
    have hc' : cs[j]? = some (.p c) := by rw [e, List.getElem?_map, hc]; rfl
    rw [range_get _ _ _ (lt hc'), Nat.zero_add]
    have := he j _ hc'
    cases this with | p _ _ h => exact h
theorem mkAg_shape (cs : List AV) : (mkAg cs).isAgg = true ∧ (mkAg cs).wid = cs.length := by
  unfold mkAg
  cases ha : allP cs with
  | none => exact ⟨rfl, rfl⟩
  | some ps => refine ⟨rfl, ?_⟩; rw [allP_get ha]; simp [AV.wid, PV.wid]
theorem AR.sub {y z : AV} {f : Nat → Value} {off : Nat} {agg : Bool} {m : Nat} (h : AR γ Per w y (packN y.isAgg y.wid f 0))
    (hs : y.sub off agg m = some z) (hone : ∀ j, j < y.wid → one (f j)) : AR γ Per w z (packN agg m f off) ∧ off + m ≤ y.wid ∧ (agg = false → 0 < m) := by
  cases y with
  | p x =>
    simp only [AV.sub, Option.map_eq_some_iff] at hs
    obtain ⟨q, hq, rfl⟩ := hs
    cases h with
    | p _ _ h =>
      obtain ⟨h1, h2⟩ := h.sub hq hone
      refine ⟨.p _ _ h1, h2, fun hf => ?_⟩
      subst hf
      unfold PV.sub at hq
      split at hq
      · rename_i h0; rw [← h0.2.2]; exact pv_wid_pos h0.2.1
      · cases x <;> simp at hq
        omega
  | ag cs =>
    have hc := fun j e he => AR.cellM (c := .ag cs) rfl h j e he
    simp only [AV.sub] at hs
    cases agg with
    | true =>
      simp only [if_true] at hs
      split at hs
      · rename_i hle
        injection hs with hs; subst hs
        refine ⟨?_, hle, fun h => by cases h⟩
        have hl : ((cs.drop off).take m).length = m := by simp; omega
        have := AR.mk (γ := γ) (Per := Per) (w := w) (cs := (cs.drop off).take m) (g := fun j => f (off + j)) (fun j hj => hone _ (by show off + j < cs.length; omega)) (fun j e he => by
          rw [List.getElem?_take] at he
          split at he
          · rw [List.getElem?_drop] at he; exact hc _ e he
          · cases he)
        rw [hl, packN_off] at this
        exact this
      · cases hs
    | false =>
      simp only [Bool.false_eq_true, if_false] at hs
      split at hs
      · rename_i hm; subst hm
        exact ⟨hc off z hs, (List.getElem?_eq_some_iff.1 hs).1, fun _ => Nat.one_pos⟩
      · cases hs
  | _ =>
    simp only [AV.sub] at hs
    split at hs
    · rename_i h0
      obtain ⟨rfl, rfl, rfl⟩ := h0
      injection hs with hs; subst hs
      exact ⟨h, Nat.le_refl _, fun _ => Nat.one_pos⟩
    · cases hs
theorem awr_ok {c c' : AV} {y : AV} {f : Nat → Value} {v : Value} {off : Nat}
    (h : AR γ Per w c (packN c.isAgg c.wid f 0)) (hone : ∀ j, j < c.wid → one (f j)) (hv : AR γ Per w y v) (h1 : y.ok1 = true) (hr : c.wr off y = some c') :
    off + y.wid ≤ c.wid ∧ c'.isAgg = c.isAgg ∧ c'.wid = c.wid ∧
      AR γ Per w c' (packN c'.isAgg c'.wid (fun j => if off ≤ j ∧ j < off + y.wid then v.cells.toList.getD (j - off) undef else f j) 0) ∧
      (∀ j, j < c.wid → one ((fun j => if off ≤ j ∧ j < off + y.wid then v.cells.toList.getD (j - off) undef else f j) j)) := by
  obtain ⟨hl, hp, ho⟩ := hv.cellsV h1
  have hones : ∀ j, j < c.wid → one ((fun j => if off ≤ j ∧ j < off + y.wid then v.cells.toList.getD (j - off) undef else f j) j) := by
    intro j hj
    dsimp only
    split
    · rename_i hh
      have hlt : j - off < v.cells.toList.length := by omega
      rw [List.getD, List.getElem?_eq_getElem hlt]
      exact ho _ (List.getElem_mem hlt)
    · exact hone j hj
  unfold AV.wr at hr
  split at hr
  · rename_i h0
    obtain ⟨rfl, e1, e2⟩ := h0
    injection hr with hr
    subst hr
    refine ⟨by omega, e1.symm, e2.symm, ?_, hones⟩
    have : packN y.isAgg y.wid (fun j => if 0 ≤ j ∧ j < 0 + y.wid then v.cells.toList.getD (j - 0) undef else f j) 0 = v := by
      refine Eq.trans ?_ hp
      refine packN_congr (fun j hj => ?_) (fun hf => av_wid_pos hf)
      simp [show j < y.wid from hj]
    rw [this]; exact hv
  · split at hr
    · rename_i h2
      obtain ⟨hag, hle⟩ := h2
      injection hr with hr; subst hr
      have hlen : (spl c.cells off y.cells).length = c.wid := by rw [spl_length _ _ _ (by rw [acells_length, acells_length]; exact hle), acells_length]
      obtain ⟨s1, s2⟩ := mkAg_shape (spl c.cells off y.cells)
      refine ⟨hle, by rw [s1, hag], by rw [s2, hlen], ?_, hones⟩
      rw [s1, s2]
      rw [hag] at h
      refine AR.mk (fun j hj => hones j (by omega)) (fun j e he => ?_)
      rw [spl_get _ _ _ (by rw [acells_length, acells_length]; exact hle), acells_length] at he
      split at he
      · rename_i hin
        rw [if_pos hin]; exact hv.cell h1 _ _ he
      · rename_i hin
        rw [if_neg hin]; exact h.cellM hag j e he
    · cases hr
end
end Bh
namespace Bh
open Go
def AS.ev (s : AS) : Operand → AV
  | .tmp t => s t
  | .const v => .p (.v v)
  | .func f => .p (.clo f [])
  | .global _ => .un
def OkO (n : Nat) : Operand → Bool
  | .tmp t => decide (t < n)
  | _ => true
theorem St.ev {n : Nat} {γ : Han} {Per : Nat → Prop} {s : AS} {H : AHeap} {a : Act} {w : World} (h : St n γ Per s H a w) {x : Operand} (hx : OkO n x = true) : AR γ Per w (s.ev x) (a.eval x) := by
  cases x with
  | tmp t => exact h.slots t (by simpa [OkO] using hx)
  | const v => exact .p _ _ (.v v)
  | func f => exact .p _ _ (.clo f [] [] rfl (fun j c hc => by simp at hc))
  | global g => exact .un _
def ARs (γ : Han) (Per : Nat → Prop) (w : World) (ys : List AV) (vs : List Value) : Prop := vs.length = ys.length ∧ ∀ j y, ys[j]? = some y → AR γ Per w y (vs.getD j undef)
theorem St.evs {n : Nat} {γ : Han} {Per : Nat → Prop} {s : AS} {H : AHeap} {a : Act} {w : World} (h : St n γ Per s H a w) {xs : List Operand} (hx : ∀ x ∈ xs, OkO n x = true) : ARs γ Per w (xs.map s.ev) (xs.map a.eval) := by
  refine ⟨by simp, fun j y hy => ?_⟩
  rw [List.getElem?_map, Option.map_eq_some_iff] at hy
  obtain ⟨x, hx', rfl⟩ := hy
  simp only [List.getD, List.getElem?_map, hx', Option.map_some, Option.getD_some]
  exact h.ev (hx x (List.mem_of_getElem? hx'))
theorem ARs.get {γ : Han} {Per : Nat → Prop} {w : World} {ys : List AV} {vs : List Value} (h : ARs γ Per w ys vs) {j : Nat} {v : Value} (hv : vs[j]? = some v) : ∃ y, ys[j]? = some y ∧ AR γ Per w y v := by
  have hl : j < vs.length := (List.getElem?_eq_some_iff.1 hv).1
  have hy : ys[j]? = some (ys[j]'(by rw [← h.1]; exact hl)) := List.getElem?_eq_getElem _
  refine ⟨_, hy, ?_⟩
  have := h.2 j _ hy
  simpa [List.getD, hv] using this
theorem ARs.cons {γ : Han} {Per : Nat → Prop} {w : World} {y : AV} {ys : List AV} {vs : List Value} (h : ARs γ Per w (y :: ys) vs) : ∃ v vs', vs = v :: vs' ∧ AR γ Per w y v ∧ ARs γ Per w ys vs' := by
  cases vs with
  | nil => have := h.1; simp at this
  | cons v vs =>
    refine ⟨v, vs, rfl, by simpa using h.2 0 y rfl, by simpa using h.1, fun j z hz => ?_⟩
    simpa using h.2 (j + 1) z (by simpa using hz)
theorem ARs.nil {γ : Han} {Per : Nat → Prop} {w : World} {vs : List Value} (h : ARs γ Per w [] vs) : vs = [] := List.eq_nil_of_length_eq_zero h.1
theorem ARs.mono {γ γ' : Han} {Per Per' : Nat → Prop} {w w' : World} (hm : More γ Per w γ' Per' w') {ys : List AV} {vs : List Value} (h : ARs γ Per w ys vs) : ARs γ' Per' w' ys vs := ⟨h.1, fun j y hy => (h.2 j y hy).mono hm⟩
theorem ARs.append {γ : Han} {Per : Nat → Prop} {w : World} {ys zs : List AV} {vs us : List Value} (h : ARs γ Per w ys vs) (k : ARs γ Per w zs us) : ARs γ Per w (ys ++ zs) (vs ++ us) := by
  refine ⟨by simp [h.1, k.1], fun j y hy => ?_⟩
  by_cases hj : j < ys.length
  · rw [List.getElem?_append_left hj] at hy
    have := h.2 j y hy
    simp only [List.getD] at this ⊢
    rwa [List.getElem?_append_left (by rw [h.1]; exact hj)]
  · rw [List.getElem?_append_right (by omega)] at hy
    have := k.2 _ y hy
    simp only [List.getD] at this ⊢
    rw [List.getElem?_append_right (by rw [h.1]; omega), h.1]; exact this
def VPs (Per : Nat → Prop) (w : World) (ys : List PV) (vs : List Value) : Prop := vs.length = ys.length ∧ ∀ j y, ys[j]? = some y → VP Per w y (vs.getD j undef)
theorem AR.pv {γ : Han} {Per : Nat → Prop} {w : World} {y : PV} {v : Value} (h : AR γ Per w (.p y) v) : VP Per w y v := by cases h with | p _ _ h => exact h
theorem AR.v {γ : Han} {Per : Nat → Prop} {w : World} {u v : Value} (h : AR γ Per w (.p (.v u)) v) : v = u := by cases h.pv with | v => rfl
theorem ARs.ps {γ : Han} {Per : Nat → Prop} {w : World} {ys : List PV} {vs : List Value} (h : ARs γ Per w (ys.map .p) vs) : VPs Per w ys vs :=
  ⟨by simpa using h.1, fun j y hy => (h.2 j (.p y) (by rw [List.getElem?_map, hy]; rfl)).pv⟩
theorem VPs.ar {γ : Han} {Per : Nat → Prop} {w : World} {ys : List PV} {vs : List Value} (h : VPs Per w ys vs) : ARs γ Per w (ys.map .p) vs := by
  refine ⟨by simpa using h.1, fun j y hy => ?_⟩
  rw [List.getElem?_map, Option.map_eq_some_iff] at hy
  obtain ⟨x, hx, rfl⟩ := hy
  exact .p _ _ (h.2 j x hx)
section
variable {P : Program}
def binV (op : BinOp) (x y : Value) : Option Value :=
  match op, x, y with
  | .shl, .int k a, .int _ b => if b < 0 then none else some (.int k (k.wrap (a * 2 ^ (min b.toNat k.bits))))
  | .shr, .int k a, .int _ b => if b < 0 then none else some (.int k (a.fdiv (2 ^ (min b.toNat k.bits))))
  | .add, .int k a, .int k' b => if k = k' then some (.int k (k.wrap (a + b))) else none
  | .sub, .int k a, .int k' b => if k = k' then some (.int k (k.wrap (a - b))) else none
  | .mul, .int k a, .int k' b => if k = k' then some (.int k (k.wrap (a * b))) else none
  | .quo, .int k a, .int k' b => if k = k' ∧ b ≠ 0 then some (.int k (k.wrap (a.tdiv b))) else none
  | .rem, .int k a, .int k' b => if k = k' ∧ b ≠ 0 then some (.int k (a.tmod b)) else none
  | .and, .int k a, .int k' b => if k = k' then some (.int k (k.wrap (BitVec.ofInt k.bits a &&& BitVec.ofInt k.bits b).toNat)) else none
  | .or, .int k a, .int k' b => if k = k' then some (.int k (k.wrap (BitVec.ofInt k.bits a ||| BitVec.ofInt k.bits b).toNat)) else none
  | .eql, .int k a, .int k' b => if k = k' then some (.bool (a == b)) else none
  | .neq, .int k a, .int k' b => if k = k' then some (.bool (a != b)) else none
  | .lss, .int k a, .int k' b => if k = k' then some (.bool (decide (a < b))) else none
  | .leq, .int k a, .int k' b => if k = k' then some (.bool (decide (a ≤ b))) else none
  | .gtr, .int k a, .int k' b => if k = k' then some (.bool (decide (b < a))) else none
  | .geq, .int k a, .int k' b => if k = k' then some (.bool (decide (b ≤ a))) else none
  | .add, .string a, .string b => if a.size + b.size ≤ 9223372036854775807 then some (.string (a ++ b)) else none
  | .eql, .string a, .string b => some (.bool (a.toList == b.toList))
  | .neq, .string a, .string b => some (.bool (!(a.toList == b.toList)))
  | .lss, .string a, .string b => some (.bool (Op.bytesLess a.toList b.toList))
  | .gtr, .string a, .string b => some (.bool (!(Op.bytesLess a.toList b.toList || a.toList == b.toList)))
  | _, _, _ => none
theorem run_binV {op : BinOp} {T : TypeId} {x y z : Value} (h : binV op x y = some z) (w : World) : (binOp op T x y).run P w = .ok z w := by
  unfold binV at h
  unfold binOp
  split at h <;> (try cases h) <;>
    (first
      | (split at h <;> first | cases h | skip)
      | skip) <;>
    simp_all [Op.shift, Op.intArith, Op.intDiv, Op.intBits, Op.intCmp, Op.stringOp, IntKind.max, IntKind.signed, IntKind.bits]
  all_goals first | omega | skip
theorem run_eqGuard {op : BinOp} {T : TypeId} {x y : Operand} {u v : Value} (h1 : ∀ cs, u ≠ .agg cs) (h2 : u ≠ .nilIface) (w : World) : (eqGuard op T x y u v).run P w = .ok () w := by
  cases u with
  | agg cs => exact absurd rfl (h1 cs)
  | nilIface => exact absurd rfl h2
  | _ => cases op <;> cases v <;> rfl
theorem binV_scalar {op : BinOp} {x y z : Value} (h : binV op x y = some z) : (∀ cs, x ≠ .agg cs) ∧ x ≠ .nilIface := by
  unfold binV at h
  split at h <;> simp_all
def unV (op : UnOp) (x : Value) : Option Value :=
  match op, x with
  | .neg, .int k a => some (.int k (k.wrap (0 - a)))
  | .not, .bool b => some (.bool !b)
  | _, _ => none
theorem run_unV {op : UnOp} {u z : Value} (hz : unV op u = some z) (w : World) : (Op.unary op u).run P w = .ok z w := by
  unfold unV at hz
  split at hz <;> simp_all [Op.unary, Op.intArith]
def FieldIs (P : Program) (T : TypeId) (f : Nat) (off : Nat) (agg : Bool) (m : Nat) : Prop :=
  ∃ fs fd, P.underlying T = some (.struct fs) ∧ fs[f]? = some fd ∧ fd.offset = off ∧ tAgg P fd.type = some agg ∧ tSize P fd.type = some m ∧ m ≠ 0
theorem run_fieldAt {T f off m : Nat} {agg : Bool} (h : FieldIs P T f off agg m) (ad : Addr) (w : World) : (Instr.fieldAt T (.pointer (some ad)) f).run P w = .ok (.pointer (some (ad.add off))) w := by
  obtain ⟨fs, fd, h1, h2, h3, _, h4, h5⟩ := h
  subst h3
  simp [Instr.fieldAt, run_underlying h1, h2, Instr.sureAddr, fieldPlace, run_size h4, h5]
def SliceIs (P : Program) (t E k : Nat) : Prop := P.underlying t = some (.slice E) ∧ tSize P E = some k
theorem run_indexAt {t E k : Nat} (h : SliceIs P t E k) (ad : Addr) (len cap : Nat) (kd : IntKind) (z : Int) (h0 : 0 ≤ z) (h1 : z < len) (w : World) :
    (Instr.indexAt t (.slice (some ad) len cap) (.int kd z)).run P w = .ok (.pointer (some (ad.add (z.toNat * k)))) w := by
  simp [Instr.indexAt, asIntOf, run_underlying h.1, h0, h1, run_size h.2]
theorem run_eqb {T : TypeId} (hT : P.underlying T = some .bool) (neg a b : Bool) (w : World) : (binOp (if neg then .neq else .eql) T (.bool a) (.bool b)).run P w = .ok (.bool ((a == b) != neg)) w := by
  have hq : (Op.equal T (.bool a) (.bool b)).run P w = .ok (a == b) w := by
    unfold Op.equal
    rw [show Op.maxDepth = 9999 + 1 from rfl]
    unfold Op.equalIn
    simp only [Sem.run_bind, run_underlying hT, Result.andThen_ok]
    simp
  cases neg
  · simp only [Bool.false_eq_true, if_false, binOp, Sem.run_bind, hq, Result.andThen_ok, Sem.run_pure]; simp
  · simp only [if_true, binOp, Sem.run_bind, hq, Result.andThen_ok, Sem.run_pure]; simp
end
end Bh
namespace Bh
open Go
section
variable {P : Program} {γ : Han} {Per : Nat → Prop} {H : AHeap} {w : World}
theorem PV.sub_shape {y z : PV} {off m : Nat} {agg : Bool} (hz : y.sub off agg m = some z) (hone : ∀ q, agg = false → y ≠ .agg q ∨ (∀ c ∈ q, c.isAgg = false)) : z.isAgg = agg ∧ z.wid = m := by
  unfold PV.sub at hz
  split at hz
  · rename_i h0; cases hz; exact h0.2
  · cases y with
    | agg cs =>
      dsimp only at hz
      cases agg with
      | true =>
        simp only [if_true] at hz
        split at hz
        · rename_i hle
          cases hz
          refine ⟨rfl, ?_⟩
          simp only [PV.wid, List.length_take, List.length_drop]; omega
        · cases hz
      | false =>
        simp only [Bool.false_eq_true, if_false] at hz
        split at hz
        · rename_i hm1
          subst hm1
          rcases hone cs rfl with h | h
          · exact absurd rfl h
          · have := h z (List.mem_of_getElem? hz)
            cases z <;> simp_all [PV.isAgg, PV.wid]
        · cases hz
    | _ => cases hz
def semFld (off : Nat) (agg : Bool) (m : Nat) : AV → Option AV
  | .p (.ref y) => (y.sub off agg m).map fun z => .p (.ref z)
  | .pb i o => some (.pb i (o + off))
  | .pe i n k o => some (.pe i n k (o + off))
  | _ => none
theorem run_fld {T f off m : Nat} {agg : Bool} (hf : FieldIs P T f off agg m) {x z : AV} {u : Value} (hx : AR γ Per w x u) (hz : semFld off agg m x = some z) :
    ∃ v, (Instr.fieldAt T u f).run P w = .ok v w ∧ AR γ Per w z v := by
  cases x with
  | p y =>
    cases y with
    | ref y =>
      simp only [semFld, Option.map_eq_some_iff] at hz
      obtain ⟨z, hz, rfl⟩ := hz
      have hv := hx.pv
      cases hv with
      | ref _ ad f' hc hv =>
        obtain ⟨h1, h2⟩ := hv.sub hz (fun j hj => (hc j hj).2.1)
        have hza : z.isAgg = agg ∧ z.wid = m := by
          refine PV.sub_shape hz (fun q ha => ?_)
          by_cases hq : y = .agg q
          · right
            subst hq
            intro c hcm
            obtain ⟨j, hj, rfl⟩ := List.mem_iff_getElem.1 hcm
            generalize hg : packN (PV.agg q).isAgg (PV.agg q).wid f' 0 = u' at hv
            cases hv with
            | agg _ xs hs hone he =>
              have := he j _ (List.getElem?_eq_getElem hj)
              have ho : one (xs.getD j undef) := by
                rw [List.getD, List.getElem?_eq_getElem (by omega)]; exact hone _ (List.getElem_mem _)
              generalize xs.getD j undef = x' at this ho
              generalize q[j] = qj at this
              cases this <;> simp_all [PV.isAgg, one, Value.oneCell']
          · exact .inl hq
        refine ⟨.pointer (some (ad.add off)), run_fieldAt hf ad w, .p _ _ (.ref z _ (fun j => f' (off + j)) (fun j hj => ?_) ?_)⟩
        · obtain ⟨c1, c2, c3⟩ := hc (off + j) (by omega)
          exact ⟨by rw [add_block]; exact c1, c2, by rw [add_add]; exact c3⟩
        · rw [packN_off, hza.1, hza.2]; exact h1
    | _ => simp [semFld] at hz
  | pb i o =>
    simp only [semFld, Option.some.injEq] at hz; subst hz
    cases hx with
    | pb _ _ b h => exact ⟨_, run_fieldAt hf _ w, by rw [add_plain]; exact .pb i (o + off) b h⟩
  | pe i n k o =>
    simp only [semFld, Option.some.injEq] at hz; subst hz
    cases hx with
    | pe _ _ _ _ b len cap h => exact ⟨_, run_fieldAt hf _ w, by rw [add_plain, Nat.add_assoc]; exact .pe i n k (o + off) b len cap h⟩
  | _ => simp [semFld] at hz
def semSub (off : Nat) (agg : Bool) (m : Nat) (x : AV) : Option AV := if x.isAgg then x.sub off agg m else none
theorem run_part {t : TypeId} {agg : Bool} {m off : Nat} (ha : tAgg P t = some agg) (hm : tSize P t = some m) {cs : Array Value} (hle : off + m ≤ cs.size) (h0 : agg = false → m = 1) : (part t cs off).run P w = .ok (packN agg m (fun j => cs.toList.getD j undef) off) w := by
  have hg : ∀ j, j < m → cs.toList.getD (off + j) undef = cs[off + j]! := by
    intro j hj
    simp [List.getD, getElem!_pos, show off + j < cs.size by omega]
  unfold part
  simp only [Sem.run_bind, run_isAgg ha, Result.andThen_ok]
  cases agg with
  | true =>
    simp only [if_true, Sem.run_bind, run_size hm, Result.andThen_ok, packN]
    simp only [Sem.run_pure]
    congr 2
    apply Array.ext'
    simp only [Array.toList_extract]
    apply List.ext_getElem?
    intro j
    by_cases hj : j < m
    · simp [List.getElem?_range hj, List.getD, List.getElem?_take, List.getElem?_drop, hj, show off + j < cs.size by omega]
    · rw [List.getElem?_eq_none (by simp; omega), List.getElem?_eq_none (by simp; omega)]
  | false =>
    have := h0 rfl
    subst this
    simp [packN, List.getD, show off < cs.size by omega]
def rowLen (H : AHeap) (i : Nat) : Option (Nat × Nat) := match H.get i with | some (.row _ k es) => some (k, es.length) | _ => none
def natI : AV → Option Nat
  | .p (.v (.int _ z)) => if 0 ≤ z then some z.toNat else none
  | _ => none
theorem natI_ok {x : AV} {u : Value} {j : Nat} (hx : AR γ Per w x u) (h : natI x = some j) : ∃ kd z, u = .int kd z ∧ 0 ≤ z ∧ z.toNat = j := by
  cases x with
  | p y =>
    cases y with
    | v y =>
      have := hx.v; subst this
      cases u with
      | int kd z =>
        simp only [natI] at h
        split at h
        · rename_i h0; injection h with h; exact ⟨kd, z, rfl, h0, h⟩
        · cases h
      | _ => simp [natI] at h
    | _ => simp [natI] at h
  | _ => simp [natI] at h
def semIdx (H : AHeap) (k : Nat) (x i : AV) : Option AV :=
  match natI i with
  | none => none
  | some j => match x with
    | .p (.sl es) => match es[j]? with | some y => if y.wid = k then some (.p (.ref y)) else none | none => none
    | .hd r => match H.get r with | some (.row _ k' es) => if k' = k ∧ j < es.length then some (.pe r j k 0) else none | _ => none
    | .ss r o n k' => if k' = k ∧ j < n then some (.pe r (o + j) k 0) else none
    | _ => none
theorem HRep.row_ {r E k : Nat} {es : List AV} {v : Value} (hH : HRep γ Per H w) (hg : H.get r = some (.row E k es)) (hx : γ r = some v) :
    ∃ xs : List Value, w.ownsRow 0 E k v es.length xs ∧ (∀ x ∈ xs, one x) ∧ (∀ e ∈ es, e.wid = k) ∧ 0 < k ∧ (∀ i e, es[i]? = some e → AR γ Per w e (packN e.isAgg e.wid (fun j => xs.getD j undef) (i * k))) := by
  obtain ⟨v', h1, h2⟩ := hH.obj r _ hg
  rw [hx] at h1; injection h1 with h1; subst h1
  cases h2 with
  | row _ _ _ _ xs hown hone hk hp he => exact ⟨xs, hown, hone, hk, hp, he⟩
theorem ss_addr {i o n k len cap c : Nat} {ad a : Option Addr} (h : γ i = some (.slice ad len cap)) (hn : 0 < n) (hl : n ≤ c) (ha : 0 < c → ∃ b, ad = some ⟨b, 0, none⟩ ∧ a = some ⟨b, o * k, none⟩) (j o' : Nat) :
    ∃ b, a = some ⟨b, o * k, none⟩ ∧ AR γ Per w (.pe i (o + j) k o') (.pointer (some ⟨b, o * k + j * k + o', none⟩)) := by
  obtain ⟨b, rfl, rfl⟩ := ha (by omega)
  exact ⟨b, rfl, by rw [← Nat.add_mul]; exact .pe i (o + j) k o' b len cap h⟩
theorem run_idx {t E k : Nat} (ht : SliceIs P t E k) {x i z : AV} {u j : Value} (hH : HRep γ Per H w) (hx : AR γ Per w x u) (hi : AR γ Per w i j) (hz : semIdx H k x i = some z) :
    ∃ v, (Instr.indexAt t u j).run P w = .ok v w ∧ AR γ Per w z v := by
  unfold semIdx at hz
  split at hz
  · cases hz
  · rename_i jn hj
    obtain ⟨kd, q, rfl, h0, hq⟩ := natI_ok hi hj
    subst hq
    cases x with
    | p y =>
      cases y with
      | sl es =>
        dsimp only at hz
        split at hz
        · rename_i y hy
          split at hz
          · rename_i hk
            injection hz with hz; subst hz
            have hlt := (List.getElem?_eq_some_iff.1 hy).1
            have hv := hx.pv
            cases hv with
            | sl _ ad cap k' f hcap hmax hc hk' hp hel =>
              have hyk : y.wid = k' := hk' y (List.mem_of_getElem? hy)
              have hkk : k' = k := by omega
              subst hkk
              have h1 : (q.toNat + 1) * k' ≤ es.length * k' := Nat.mul_le_mul_right k' hlt
              have h3 : (q.toNat + 1) * k' = q.toNat * k' + k' := by rw [Nat.add_mul, Nat.one_mul]
              rcases hp with hp | hp
              · obtain ⟨ad', rfl, _⟩ := hc (q.toNat * k') (by omega)
                refine ⟨_, run_indexAt ht ad' es.length cap kd q h0 (by omega) w, .p _ _ (.ref y _ (fun j => f (q.toNat * k' + j)) (fun j hj => ?_) ?_)⟩
                · obtain ⟨ad2, e, c1, c2, c3⟩ := hc (q.toNat * k' + j) (by omega)
                  injection e with e
                  subst e
                  exact ⟨by rw [add_block]; exact c1, c2, by rw [add_add]; exact c3⟩
                · rw [packN_off]; exact hel _ y hy
              · subst hp; simp at hlt
          · cases hz
        · cases hz
      | _ => cases hz
    | hd r =>
      dsimp only at hz
      split at hz
      · rename_i E' k' es hg
        split at hz
        · rename_i hk
          obtain ⟨rfl, hlt⟩ := hk
          injection hz with hz; subst hz
          cases hx with
          | hd _ _ hγ h1 =>
            obtain ⟨xs, hown, _, _, hp, _⟩ := hH.row_ hg hγ
            rcases hown.2 with ⟨_, h0'⟩ | ⟨b, cap, cur, rfl, _⟩
            · omega
            · refine ⟨_, run_indexAt ht _ es.length cap kd q h0 (by omega) w, ?_⟩
              rw [add_plain, Nat.zero_add]
              exact .pe r q.toNat k' 0 b _ cap hγ
        · cases hz
      · cases hz
    | ss r o n k' =>
      dsimp only at hz
      split at hz
      · rename_i hk
        obtain ⟨rfl, hlt⟩ := hk
        injection hz with hz; subst hz
        cases hx with
        | ss _ _ _ _ len cap c ad a hγ hl hc ha =>
          obtain ⟨b, rfl, hr⟩ := ss_addr (Per := Per) (w := w) hγ (by omega) hl ha q.toNat 0
          refine ⟨_, run_indexAt ht _ n c kd q h0 (by omega) w, ?_⟩
          rw [add_plain]; exact hr
      · cases hz
    | _ => cases hz
def semLen (H : AHeap) : AV → Option Nat
  | .p (.sl es) => some es.length
  | .p (.v (.slice none 0 0)) => some 0
  | .hd r => match H.get r with | some (.row _ _ es) => some es.length | _ => none
  | .ss _ _ n _ => some n
  | _ => none
theorem len_ok {x : AV} {u : Value} {n : Nat} (hH : HRep γ Per H w) (hx : AR γ Per w x u) (hz : semLen H x = some n) : ∃ ad cap, u = .slice ad n cap := by
  cases x with
  | p y =>
    cases y with
    | sl es =>
      simp only [semLen, Option.some.injEq] at hz; subst hz
      cases hx.pv with | sl _ ad cap k' f => exact ⟨ad, cap, rfl⟩
    | v y =>
      have := hx.v; subst this
      unfold semLen at hz
      split at hz <;> simp_all
    | _ => simp [semLen] at hz
  | hd r =>
    simp only [semLen] at hz
    split at hz
    · rename_i E k es hg
      injection hz with hz; subst hz
      cases hx with
      | hd _ _ hγ h1 =>
        obtain ⟨xs, hown, _⟩ := hH.row_ hg hγ
        rcases hown.2 with ⟨rfl, h0⟩ | ⟨b, cap, cur, rfl, _⟩
        · exact ⟨none, 0, by rw [h0]⟩
        · exact ⟨_, cap, rfl⟩
    · cases hz
  | ss r o n' k =>
    simp only [semLen, Option.some.injEq] at hz; subst hz
    cases hx with | ss _ _ _ _ len cap c ad a => exact ⟨a, c, rfl⟩
  | _ => simp [semLen] at hz
theorem run_len {t E ty : Nat} (ht : P.underlying t = some (.slice E)) {ad : Option Addr} {n cap : Nat} : (Builtin.len_ #[t] ty #[.slice ad n cap]).run P w = .ok (.int .i64 n) w := by
  simp [Builtin.len_, run_underlying ht, goInt]
theorem run_lenS {t ty : Nat} (ht : P.underlying t = some .string) {b : ByteArray} : (Builtin.len_ #[t] ty #[.string b]).run P w = .ok (.int .i64 b.size) w := by
  simp [Builtin.len_, run_underlying ht, goInt]
def bndN (d : Nat) : Option AV → Option Nat
  | none => some d
  | some x => natI x
def semSlice (H : AHeap) (k : Nat) (lo hi : Option AV) (x : AV) : Option AV :=
  match semLen H x with
  | none => none
  | some n => match bndN 0 lo, bndN n hi with
    | some l, some h => if l ≤ h ∧ h ≤ n then (match x with
        | .p (.sl es) => if es.all (fun e => e.wid == k) then some (.p (.sl ((es.take h).drop l))) else none
        | .p (.v (.slice none 0 0)) => some (.p (.v (.slice none 0 0)))
        | .hd r => match H.get r with | some (.row _ k' _) => if k' = k then some (.ss r l (h - l) k) else none | _ => none
        | .ss r o _ k' => if k' = k then some (.ss r (o + l) (h - l) k) else none
        | _ => none) else none
    | _, _ => none
theorem VP.take_drop {es : List PV} {ad : Option Addr} {cap : Nat} (h : VP Per w (.sl es) (.slice ad es.length cap)) (l hh k : Nat) (hk : ∀ e ∈ es, e.wid = k) (h1 : l ≤ hh) (h2 : hh ≤ es.length) :
    VP Per w (.sl ((es.take hh).drop l)) (.slice (if cap = l then ad else ad.map (·.add (l * k))) (hh - l) (cap - l)) := by
  have hlen : ((es.take hh).drop l).length = hh - l := by simp; omega
  cases h with
  | sl _ _ _ k' f hcap hmax hc hk' hp hel =>
    rcases Nat.eq_or_lt_of_le h1 with he | hlt
    · -- nothing is left
      have : (es.take hh).drop l = [] := List.eq_nil_of_length_eq_zero (by omega)
      rw [this]
      have e : hh - l = ([] : List PV).length := by simp; omega
      rw [e]
      exact .sl [] _ (cap - l) 0 (fun _ => undef) (by simp) (by omega) (fun j hj => by simp at hj) (fun e he => by simp at he) (.inr rfl) (fun i e he => by simp at he)
    · have hne : es ≠ [] := by intro e; subst e; simp at h2; omega
      obtain ⟨e0, he0⟩ := List.exists_mem_of_ne_nil es hne
      have hkk : k' = k := by rw [← hk' e0 he0, hk e0 he0]
      subst hkk
      rw [if_neg (by omega)]
      rw [← hlen]
      refine .sl _ _ _ k' (fun j => f (l * k' + j)) (by omega) (by omega) (fun j hj => ?_) (fun e he => hk e (List.mem_of_mem_take (List.mem_of_mem_drop he))) (hp.elim .inl (fun e => absurd e hne)) (fun i e he => ?_)
      · rw [hlen] at hj
        have h5 : (hh - l) * k' + l * k' = hh * k' := by rw [← Nat.add_mul]; congr 1; omega
        have h6 : hh * k' ≤ es.length * k' := Nat.mul_le_mul_right k' h2
        obtain ⟨ad', rfl, c1, c2, c3⟩ := hc (l * k' + j) (by omega)
        exact ⟨ad'.add (l * k'), rfl, by rw [add_block]; exact c1, c2, by rw [add_add]; exact c3⟩
      · rw [List.getElem?_drop, List.getElem?_take] at he
        split at he
        · have := hel (l + i) e he
          rw [show (l + i) * k' = l * k' + i * k' by rw [Nat.add_mul]] at this
          have e0 : packN e.isAgg e.wid (fun j => f (l * k' + j)) (i * k') = packN e.isAgg e.wid f (l * k' + i * k') := by
            unfold packN
            cases e.isAgg <;> simp [Nat.add_assoc]
          rw [e0]; exact this
        · cases he
theorem run_sliceAt {t E k : Nat} (ht : SliceIs P t E k) {ad : Option Addr} {n cap lo hi : Nat} (hn : n ≤ cap) {l' h' : Option Value} (hl : (l' = none ∧ lo = 0) ∨ ∃ kd z, l' = some (.int kd z) ∧ 0 ≤ z ∧ z.toNat = lo)
    (hh : (h' = none ∧ hi = n) ∨ ∃ kd z, h' = some (.int kd z) ∧ 0 ≤ z ∧ z.toNat = hi) (h1 : lo ≤ hi) (h2 : hi ≤ n) :
    (Instr.sliceAt t (.slice ad n cap) l' h' none).run P w = .ok (.slice (if cap = lo then ad else ad.map (·.add (lo * k))) (hi - lo) (cap - lo)) w := by
  have b1 : ∀ (k : IntKind) (z : Int) (y : Nat) (c : BoundsCode), 0 ≤ z → z ≤ y → (Instr.sliceBound (.int k z) y c).run P w = .ok z.toNat w := by
    intro k z y c h0 h1
    simp [Instr.sliceBound, asIntOf, h0, h1]
  have hB : (Instr.sliceBounds true n cap l' h' none).run P w = .ok (lo, hi, cap) w := by
    rcases hl with ⟨rfl, rfl⟩ | ⟨k1, z1, rfl, g0, rfl⟩ <;> rcases hh with ⟨rfl, rfl⟩ | ⟨k2, z2, rfl, g0', rfl⟩
    · simp [Instr.sliceBounds]
    · simp [Instr.sliceBounds, b1 k2 z2 cap _ g0' (by omega)]
    · simp [Instr.sliceBounds, b1 k1 z1 hi _ g0 (by omega)]
    · simp [Instr.sliceBounds, b1 k2 z2 cap _ g0' (by omega), b1 k1 z1 z2.toNat _ g0 (by omega)]
  simp [Instr.sliceAt, Instr.slice, run_underlying ht.1, hB, run_size ht.2]
theorem bnd_ok {d b : Nat} {x : Option AV} {v : Option Value} (hx : (x = none ∧ v = none) ∨ ∃ y u, x = some y ∧ v = some u ∧ AR γ Per w y u) (hb : bndN d x = some b) :
    (v = none ∧ b = d) ∨ ∃ kd z, v = some (.int kd z) ∧ 0 ≤ z ∧ z.toNat = b := by
  rcases hx with ⟨rfl, rfl⟩ | ⟨y, u, rfl, rfl, hy⟩
  · simp only [bndN, Option.some.injEq] at hb; exact .inl ⟨rfl, hb.symm⟩
  · obtain ⟨kd, z, rfl, h0, h1⟩ := natI_ok hy hb
    exact .inr ⟨kd, z, rfl, h0, h1⟩
theorem run_slice {t E k : Nat} (ht : SliceIs P t E k) {x z : AV} {lo hi : Option AV} {u : Value} {lv hv : Option Value} (hH : HRep γ Per H w) (hx : AR γ Per w x u)
    (hl : (lo = none ∧ lv = none) ∨ ∃ y u, lo = some y ∧ lv = some u ∧ AR γ Per w y u) (hh : (hi = none ∧ hv = none) ∨ ∃ y u, hi = some y ∧ hv = some u ∧ AR γ Per w y u) (hz : semSlice H k lo hi x = some z) :
    ∃ v, (Instr.sliceAt t u lv hv none).run P w = .ok v w ∧ AR γ Per w z v := by
  unfold semSlice at hz
  split at hz
  · cases hz
  · rename_i n hn
    obtain ⟨ad, cap, rfl⟩ := len_ok hH hx hn
    split at hz
    · rename_i l h e1 e2
      split at hz
      · rename_i hle
        obtain ⟨h1, h2⟩ := hle
        have hb1 := bnd_ok hl e1
        have hb2 := bnd_ok hh e2
        cases x with
        | p y =>
          cases y with
          | sl es =>
            dsimp only at hz
            split at hz
            · rename_i hk
              injection hz with hz; subst hz
              simp only [semLen, Option.some.injEq] at hn; subst hn
              have hcap : es.length ≤ cap := by have := hx.pv; cases this; assumption
              exact ⟨_, run_sliceAt ht hcap hb1 hb2 h1 h2, .p _ _ (hx.pv.take_drop l h k (fun e he => by simpa using List.all_eq_true.1 hk e he) h1 h2)⟩
            · cases hz
          | v y =>
            have := hx.v; subst this
            cases ad with
            | some a => simp [semLen] at hn
            | none =>
              cases n with
              | succ n => simp [semLen] at hn
              | zero =>
                cases cap with
                | succ c => simp [semLen] at hn
                | zero =>
                  injection hz with hz; subst hz
                  refine ⟨_, run_sliceAt ht (Nat.le_refl _) hb1 hb2 h1 h2, ?_⟩
                  have hl0 : l = 0 := by omega
                  have hh0 : h = 0 := by omega
                  subst hl0; subst hh0
                  exact .p _ _ (.v _)
          | _ => simp [semLen] at hn
        | hd r =>
          dsimp only at hz
          simp only [semLen] at hn
          split at hz
          · rename_i E' k' es hg
            split at hz
            · rename_i hk
              subst hk
              injection hz with hz; subst hz
              rw [hg] at hn
              simp only [Option.some.injEq] at hn; subst hn
              cases hx with
              | hd _ _ hγ h1' =>
                obtain ⟨xs, hown, _⟩ := hH.row_ hg hγ
                have hcap : es.length ≤ cap := by
                  rcases hown.2 with ⟨e, h0⟩ | ⟨b, cap', cur, e, _, _, hle, _⟩
                  · omega
                  · injection e with _ _ e; omega
                refine ⟨_, run_sliceAt ht hcap hb1 hb2 h1 h2, .ss r l (h - l) k' es.length cap (cap - l) ad _ hγ (by omega) (by omega) (fun hc => ?_)⟩
                rcases hown.2 with ⟨e, h0⟩ | ⟨b, cap', cur, e, _⟩
                · injection e; omega
                · injection e with e _ _
                  subst e
                  exact ⟨b, rfl, by rw [if_neg (by omega)]; simp [add_plain]⟩
            · cases hz
          · cases hz
        | ss r o n' k' =>
          dsimp only at hz
          split at hz
          · rename_i hk
            subst hk
            injection hz with hz; subst hz
            cases hx with
            | ss _ _ _ _ len cp c ad0 _ hγ hl' hc' ha =>
              refine ⟨_, run_sliceAt ht hl' hb1 hb2 h1 h2, .ss r (o + l) (h - l) k' len cp (cap - l) ad0 _ hγ (by omega) (by omega) (fun hc => ?_)⟩
              obtain ⟨b, e1, e2⟩ := ha (by omega)
              subst e2
              exact ⟨b, e1, by rw [if_neg (by omega)]; simp [add_plain, Nat.add_mul]⟩
          · cases hz
        | _ => simp [semLen] at hn
      · cases hz
    · cases hz
theorem HRep.box_ {r T : Nat} {c : AV} {v : Value} (hH : HRep γ Per H w) (hg : H.get r = some (.box T c)) (hx : γ r = some v) :
    ∃ (b : Nat) (cs : List Value), v = .pointer (some ⟨b, 0, none⟩) ∧ w.heap[b]? = some (.cells cs.toArray T (0, 0)) ∧ (∀ x ∈ cs, one x) ∧ cs.length = c.wid ∧ AR γ Per w c (packN c.isAgg c.wid (fun j => cs.getD j undef) 0) := by
  obtain ⟨v', h1, h2⟩ := hH.obj r _ hg
  rw [hx] at h1; injection h1 with h1; subst h1
  cases h2 with
  | box _ _ b cs hh hone hk he => exact ⟨b, cs, rfl, hh, hone, hk, he⟩
def semLoad (H : AHeap) (agg : Bool) (m : Nat) : AV → Option AV
  | .p (.ref y) => if y.isAgg = agg ∧ y.wid = m then some (.p y) else none
  | .pb i o => match H.get i with | some (.box _ c) => c.sub o agg m | _ => none
  | .pe i n k o => match H.get i with | some (.row _ k' es) => if k' = k then (match es[n]? with | some e => e.sub o agg m | none => none) else none | _ => none
  | _ => none
theorem cell_at {b T j : Nat} {cs : Array Value} (hh : w.heap[b]? = some (.cells cs T (0, 0))) (hj : j < cs.size) : w.cell? ⟨b, j, none⟩ = some (cs.toList.getD j undef) := by
  simp [World.cell?, hh, List.getD, hj]
theorem run_load_ {t m : Nat} {agg : Bool} (ha : tAgg P t = some agg) (hm : tSize P t = some m) {x z : AV} {u : Value} (hH : HRep γ Per H w) (hx : AR γ Per w x u) (hz : semLoad H agg m x = some z) :
    ∃ v, (Instr.loadAt t u).run P w = .ok v w ∧ AR γ Per w z v := by
  have fin : ∀ (ad : Addr) (f : Nat → Value), (∀ j, j < m → w.cell? (ad.add j) = some (f j)) → (agg = false → 0 < m) → (Instr.loadAt t (.pointer (some ad))).run P w = .ok (packN agg m f 0) w := by
    intro ad f h1 h2
    simp [Instr.loadAt, Instr.sureAddr, run_loadVar ha hm w ad f h1 h2]
  cases x with
  | p y =>
    cases y with
    | ref y =>
      simp only [semLoad] at hz
      split at hz
      · rename_i h0
        obtain ⟨rfl, rfl⟩ := h0
        injection hz with hz; subst hz
        cases hx.pv with
        | ref _ ad f hc hv => exact ⟨_, fin ad f (fun j hj => (hc j hj).2.2) (fun hf => pv_wid_pos hf), .p _ _ hv⟩
      · cases hz
    | _ => simp [semLoad] at hz
  | pb i o =>
    simp only [semLoad] at hz
    split at hz
    · rename_i T c hg
      cases hx with
      | pb _ _ b hγ =>
        obtain ⟨b', cs, e, hh, hone, hk, he⟩ := hH.box_ hg hγ
        injection e with e; injection e with e; injection e with e; subst e
        obtain ⟨k1, k2, k3⟩ := he.sub hz (fun j hj => by rw [List.getD, List.getElem?_eq_getElem (by omega)]; exact hone _ (List.getElem_mem _))
        refine ⟨_, fin ⟨b, o, none⟩ (fun j => cs.getD (o + j) undef) (fun j hj => ?_) k3, by rw [packN_off agg m (fun j => cs.getD j undef) o]; exact k1⟩
        rw [add_plain]
        have := cell_at hh (j := o + j) (by simp; omega)
        simpa using this
    · cases hz
  | pe i n k o =>
    simp only [semLoad] at hz
    split at hz
    · rename_i E k' es hg
      split at hz
      · rename_i hk
        subst hk
        split at hz
        · rename_i e hen
          cases hx with
          | pe _ _ _ _ b len cap hγ =>
            obtain ⟨xs, hown, hone, hkk, hp, hel⟩ := hH.row_ hg hγ
            have hlt := (List.getElem?_eq_some_iff.1 hen).1
            rcases hown.2 with ⟨e, _⟩ | ⟨b', cap', cur, e, _, hh, hnc, _, hcs, htk⟩
            · cases e
            · injection e with e _ _; injection e with e; injection e with e; subst e
              have hek := hkk e (List.mem_of_getElem? hen)
              have h1 : (n + 1) * k' ≤ es.length * k' := Nat.mul_le_mul_right k' hlt
              have h2 : es.length * k' ≤ cap' * k' := Nat.mul_le_mul_right k' hnc
              have h3 : (n + 1) * k' = n * k' + k' := by rw [Nat.add_mul, Nat.one_mul]
              have hx' : ∀ j, j < es.length * k' → cur.toList.getD j undef = xs.getD j undef := by
                intro j hj
                rw [← htk]
                simp only [List.getD, List.getElem?_take, if_pos hj]
              have hee := hel n e hen
              rw [← packN_off] at hee
              obtain ⟨k1, k2, k3⟩ := hee.sub hz (fun j hj => by rw [List.getD, List.getElem?_eq_getElem (by rw [hown.1]; omega)]; exact hone _ (List.getElem_mem _))
              refine ⟨_, fin ⟨b, n * k' + o, none⟩ (fun j => cur.toList.getD (n * k' + o + j) undef) (fun j hj => ?_) k3, ?_⟩
              · rw [add_plain]; exact cell_at hh (by omega)
              · have e0 : packN agg m (fun j => cur.toList.getD (n * k' + o + j) undef) 0 = packN agg m (fun j => xs.getD (n * k' + j) undef) o := by
                  rw [← packN_off agg m (fun j => xs.getD (n * k' + j) undef) o]
                  refine packN_congr (fun j hj => ?_) k3
                  simp only [Nat.zero_add]
                  rw [hx' _ (by omega), Nat.add_assoc]
                rw [e0]; exact k1
        · cases hz
      · cases hz
    · cases hz
  | _ => simp [semLoad] at hz
end
end Bh
namespace Bh
open Go
section
variable {P : Program} {γ : Han} {Per : Nat → Prop} {H : AHeap} {w w' : World}
theorem run_storeVar {t m : Nat} (hm : tSize P t = some m) (w : World) (b base : Nat) (cur : List Value) (T : Nat) (hh : w.heap[b]? = some (.cells cur.toArray T (0, 0))) (v : Value)
    (hv : v.cells.toList.length = m) (ho : ∀ x ∈ v.cells.toList, one x) (hle : base + m ≤ cur.length) :
    (storeVar t ⟨b, base, none⟩ v).run P w = .ok () (w.setRow b (spl cur base v.cells.toList).toArray) := by
  have hs := run_storeCells_at P b base T v.cells.toList 0 cur.toArray w hh (by simp; simp at hv; omega) ho
  unfold storeVar
  simp only [Sem.run_bind, run_size hm, Result.andThen_ok]
  rw [if_neg (by simp at hv ⊢; omega)]
  simpa [spl] using hs
def semStore (H : AHeap) (m : Nat) (x y : AV) : Option (Nat × AObj) :=
  if y.wid = m ∧ y.ok1 = true then
    match x with
    | .pb i o => match H.get i with | some (.box T c) => (c.wr o y).map fun c' => (i, .box T c') | _ => none
    | .pe i n k o => match H.get i with | some (.row E k' es) => if k' = k then (match es[n]? with | some e => (e.wr o y).map fun e' => (i, .row E k (es.set n e')) | none => none) else none | _ => none
    | _ => none
  else none
theorem setRow_more {b : Nat} {cs : Array Value} (hb : ¬ Per b) : More γ Per w γ Per (w.setRow b cs) :=
  ⟨fun _ _ h => h, fun _ h => h, fun k hk => setRow_other w b k _ (fun e => hb (e ▸ hk)), by simp, rfl, rfl, rfl⟩
theorem spl_getD (cur p : List Value) (o : Nat) (hle : o + p.length ≤ cur.length) (j : Nat) : (spl cur o p).getD j undef = if o ≤ j ∧ j < o + p.length then p.getD (j - o) undef else cur.getD j undef := by
  simp only [List.getD, spl_get cur o p hle j]
  split <;> rfl
theorem run_store_ {t m : Nat} (hm : tSize P t = some m) {x y : AV} {u v : Value} {i : Nat} {o' : AObj} (hH : HRep γ Per H w) (hx : AR γ Per w x u) (hy : AR γ Per w y v) (hz : semStore H m x y = some (i, o')) :
    ∃ w', (Instr.storeAt t u v).run P w = .ok () w' ∧ HRep γ Per (H.set i o') w' ∧ More γ Per w γ Per w' := by
  unfold semStore at hz
  split at hz
  · rename_i h0
    obtain ⟨rfl, h1⟩ := h0
    obtain ⟨hcl, hcp, hco⟩ := hy.cellsV h1
    cases x with
    | pb r o =>
      dsimp only at hz
      split at hz
      · rename_i T c hg
        simp only [Option.map_eq_some_iff, Prod.mk.injEq] at hz
        obtain ⟨c', hwr, rfl, rfl⟩ := hz
        cases hx with
        | pb _ _ b hγ =>
          obtain ⟨b', cs, e, hh, hone, hk, he⟩ := hH.box_ hg hγ
          injection e with e; injection e with e; injection e with e; subst e
          obtain ⟨k1, k2, k3, k4, k5⟩ := awr_ok he (fun j hj => by rw [List.getD, List.getElem?_eq_getElem (by omega)]; exact hone _ (List.getElem_mem _)) hy h1 hwr
          have hfit : o + v.cells.toList.length ≤ cs.length := by omega
          have hown := hH.own r _ _ b hg hγ rfl
          have hM : More γ Per w γ Per (w.setRow b (spl cs o v.cells.toList).toArray) := setRow_more hown.2
          refine ⟨_, ?_, hH.upd hg hγ rfl (fun k hk => setRow_other w b k _ hk) (by simp) hM ?_, hM⟩
          · simp only [Instr.storeAt, Instr.sureAddr, Sem.run_bind, Sem.run_pure, Result.andThen_ok]
            exact run_storeVar hm w b o cs T hh v hcl hco (by omega)
          · refine .box T c' b (spl cs o v.cells.toList) (setRow_heap w b _ _ T _ hh) (fun x hx => ?_) (by rw [spl_length _ _ _ hfit, hk, k3]) ?_
            · simp only [spl, List.mem_append] at hx
              rcases hx with (hx | hx) | hx
              · exact hone x (List.mem_of_mem_take hx)
              · exact hco x hx
              · exact hone x (List.mem_of_mem_drop hx)
            · refine cast ?_ (k4.mono hM)
              congr 1
              refine packN_congr (fun j hj => ?_) (fun hf => av_wid_pos hf)
              rw [spl_getD _ _ _ hfit, hcl]
      · cases hz
    | pe r n k o =>
      dsimp only at hz
      split at hz
      · rename_i E k' es hg
        split at hz
        · rename_i hk
          subst hk
          split at hz
          · rename_i e hen
            simp only [Option.map_eq_some_iff, Prod.mk.injEq] at hz
            obtain ⟨e', hwr, rfl, rfl⟩ := hz
            cases hx with
            | pe _ _ _ _ b len cap hγ =>
              obtain ⟨xs, hown, hone, hkk, hp, hel⟩ := hH.row_ hg hγ
              have hlt := (List.getElem?_eq_some_iff.1 hen).1
              have hob := hH.own r _ _ b hg hγ rfl
              have hek := hkk e (List.mem_of_getElem? hen)
              have hxl : xs.length = es.length * k' := hown.1
              have q1 : (n + 1) * k' ≤ es.length * k' := Nat.mul_le_mul_right k' hlt
              have q3 : (n + 1) * k' = n * k' + k' := by rw [Nat.add_mul, Nat.one_mul]
              have hee := hel n e hen
              rw [← packN_off] at hee
              obtain ⟨k1, k2, k3, k4, k5⟩ := awr_ok hee (fun j hj => by rw [List.getD, List.getElem?_eq_getElem (by omega)]; exact hone _ (List.getElem_mem _)) hy h1 hwr
              have hfx : n * k' + o + v.cells.toList.length ≤ xs.length := by omega
              rcases hown.2 with ⟨e0, _⟩ | ⟨b', cap', cur, e0, hz0, hh, hnc, hcm, hcs, htk⟩
              · cases e0
              · injection e0 with e0 e1 e2; injection e0 with e0; injection e0 with e0; subst e0; subst e1; subst e2
                have q2 : es.length * k' ≤ cap * k' := Nat.mul_le_mul_right k' hnc
                have hcl' : cur.toList.length = cap * k' := by rw [Array.length_toList]; exact hcs
                have hfit : n * k' + o + v.cells.toList.length ≤ cur.toList.length := by omega
                have hM : More γ Per w γ Per (w.setRow b (spl cur.toList (n * k' + o) v.cells.toList).toArray) := setRow_more hob.2
                have hh' : w.heap[b]? = some (.cells cur.toList.toArray E (0, 0)) := by simpa using hh
                refine ⟨_, ?_, hH.upd hg hγ rfl (fun k hk => setRow_other w b k _ hk) (by simp) hM ?_, hM⟩
                · simp only [Instr.storeAt, Instr.sureAddr, Sem.run_bind, Sem.run_pure, Result.andThen_ok]
                  exact run_storeVar hm w b (n * k' + o) cur.toList E hh' v hcl hco (by omega)
                · have hlen : (es.set n e').length = es.length := List.length_set
                  have main : OR γ Per (w.setRow b (spl cur.toList (n * k' + o) v.cells.toList).toArray) (.row E k' (es.set n e')) (.slice (some ⟨b, 0, none⟩) (es.set n e').length cap) := by
                    refine .row E k' (es.set n e') _ (spl xs (n * k' + o) v.cells.toList) ⟨by rw [spl_length _ _ _ hfx, hlen]; exact hxl, .inr ⟨b, cap, _, rfl, hz0, setRow_heap w b _ _ E _ hh', by rw [hlen]; exact hnc, hcm, ?_, ?_⟩⟩ (fun x hx => ?_) (fun y hy' => ?_) hp (fun j y hy' => ?_)
                    · rw [List.size_toArray, spl_length _ _ _ hfit]; simpa using hcs
                    · rw [hlen]
                      apply List.ext_getElem?
                      intro j
                      rw [List.getElem?_take, spl_get _ _ _ hfx]
                      by_cases hj : j < es.length * k'
                      · rw [if_pos hj, spl_get _ _ _ hfit]
                        split
                        · rfl
                        · rw [← htk, List.getElem?_take, if_pos hj]
                      · rw [if_neg hj, if_neg (by omega), List.getElem?_eq_none (by omega)]
                    · simp only [spl, List.mem_append] at hx
                      rcases hx with (hx | hx) | hx
                      · exact hone x (List.mem_of_mem_take hx)
                      · exact hco x hx
                      · exact hone x (List.mem_of_mem_drop hx)
                    · rcases List.mem_or_eq_of_mem_set hy' with h | h
                      · exact hkk y h
                      · rw [h, k3, hek]
                    · rw [List.getElem?_set] at hy'
                      by_cases hjn : n = j
                      · subst hjn
                        rw [if_pos rfl, if_pos hlt] at hy'
                        injection hy' with hy'; subst hy'
                        refine cast ?_ (k4.mono hM)
                        congr 1
                        rw [← packN_off e'.isAgg e'.wid _ (n * k')]
                        refine packN_congr (fun j hj => ?_) (fun hf => av_wid_pos hf)
                        rw [spl_getD _ _ _ hfx, hcl, Nat.zero_add]
                        by_cases hin : o ≤ j ∧ j < o + y.wid
                        · rw [if_pos hin, if_pos (by omega)]; congr 1; omega
                        · rw [if_neg hin, if_neg (by omega)]
                      · rw [if_neg hjn] at hy'
                        have hjl := (List.getElem?_eq_some_iff.1 hy').1
                        refine cast ?_ ((hel j y hy').mono hM)
                        congr 1
                        rw [← packN_off y.isAgg y.wid (fun j => xs.getD j undef) (j * k'), ← packN_off y.isAgg y.wid (fun j => (spl xs (n * k' + o) v.cells.toList).getD j undef) (j * k')]
                        refine packN_congr (fun i hi => ?_) (fun hf => av_wid_pos hf)
                        have hyk := hkk y (List.mem_of_getElem? hy')
                        rw [spl_getD _ _ _ hfx, Nat.zero_add, if_neg]
                        rintro ⟨c1, c2⟩
                        rcases Nat.lt_or_gt_of_ne hjn with h | h
                        · have : (n + 1) * k' ≤ j * k' := Nat.mul_le_mul_right k' h
                          omega
                        · have : (j + 1) * k' ≤ n * k' := Nat.mul_le_mul_right k' h
                          rw [Nat.add_mul, Nat.one_mul] at this
                          omega
                  rw [hlen] at main
                  exact main
          · cases hz
        · cases hz
      · cases hz
    | _ => cases hz
  · cases hz
theorem HRep.alloc (hH : HRep γ Per H w) (ob : Obj) {o : AObj} {v : Value} (hv : hblk v = some w.heap.size) (new : OR (newHan γ H.nx v) Per (w.alloc ob) o v) :
    HRep (newHan γ H.nx v) Per (H.new o) (w.alloc ob) ∧ More γ Per w (newHan γ H.nx v) Per (w.alloc ob) := by
  have hx := ExtW.alloc w ob
  refine hH.new (hx.more hH fun _ h => h) (fun i o v b h1 h2 h3 => hx.heap b (hH.own i o v b h1 h2 h3).1) (fun b hb => ?_) new
  rw [hv] at hb; injection hb with hb; subst hb
  refine ⟨by simp, fun hp => absurd (hH.per _ hp) (by omega), fun i o v' h1 h2 h3 => absurd (hH.own i o v' _ h1 h2 h3).1 (by omega)⟩
theorem han_more {v : Value} (hH : HRep γ Per H w) (ob : Obj) : More γ Per w (newHan γ H.nx v) Per (w.alloc ob) :=
  ⟨fun i x hx => by simp only [newHan]; rw [if_neg (fun e => absurd (hH.lt i x hx) (by omega))]; exact hx, fun _ h => h, fun b hb => (ExtW.alloc w ob).heap b (hH.per b hb), (ExtW.alloc w ob).sz, rfl, rfl, rfl⟩
theorem new_box (hH : HRep γ Per H w) (T : Nat) {y : AV} {v : Value} (hv : AR γ Per w y v) (h1 : y.ok1 = true) :
    HRep (newHan γ H.nx (.pointer (some ⟨w.heap.size, 0, none⟩))) Per (H.new (.box T y)) (w.alloc (.cells v.cells T)) ∧ More γ Per w (newHan γ H.nx (.pointer (some ⟨w.heap.size, 0, none⟩))) Per (w.alloc (.cells v.cells T)) ∧
      AR (newHan γ H.nx (.pointer (some ⟨w.heap.size, 0, none⟩))) Per (w.alloc (.cells v.cells T)) (.pb H.nx 0) (.pointer (some ⟨w.heap.size, 0, none⟩)) := by
  obtain ⟨hl, hp, ho⟩ := hv.cellsV h1
  obtain ⟨r1, r2⟩ := hH.alloc (.cells v.cells T) (o := .box T y) (v := .pointer (some ⟨w.heap.size, 0, none⟩)) rfl
    (.box T y w.heap.size v.cells.toList (by rw [Array.toArray_toList]; exact heap_alloc_new w _) ho hl (by rw [hp]; exact hv.mono (han_more hH _)))
  exact ⟨r1, r2, .pb H.nx 0 w.heap.size (by simp [newHan])⟩
theorem new_ref (hH : HRep γ Per H w) (T : Nat) {y : PV} {v : Value} (hv : VP Per w y v) (h1 : y.ok1 = true) :
    ∃ Per', HRep γ Per' H (w.alloc (.cells v.cells T)) ∧ More γ Per w γ Per' (w.alloc (.cells v.cells T)) ∧ VP Per' (w.alloc (.cells v.cells T)) (.ref y) (.pointer (some ⟨w.heap.size, 0, none⟩)) := by
  obtain ⟨hl, hp, ho⟩ := hv.cellsV h1
  have hx := ExtW.alloc w (.cells v.cells T)
  have hM : More γ Per w γ (fun b => Per b ∨ b = w.heap.size) (w.alloc (.cells v.cells T)) := hx.more hH fun b h => .inl h
  refine ⟨fun b => Per b ∨ b = w.heap.size, hH.ext hx (fun b h => .inl h) (fun b h => h.imp id fun e => by subst e; simp), hM, .ref y _ (fun j => v.cells.toList.getD j undef) (fun j hj => ⟨.inr rfl, ?_, ?_⟩) (by rw [hp]; exact hv.mono hM)⟩
  · rw [List.getD, List.getElem?_eq_getElem (by omega)]; exact ho _ (List.getElem_mem _)
  · rw [add_plain, Nat.zero_add, World.cell?_alloc_new]
    have : j < v.cells.toList.length := by omega
    simp [List.getD, show j < v.cells.size by simpa using this]
def ZeroIs (P : Program) (T : TypeId) (y : PV) : Prop := ∃ i z, P.info? T = some i ∧ i.zero = some z ∧ y.ok1 = true ∧ i.size = y.wid ∧ ∀ Per w, VP Per w y z
theorem ZeroIs.ar {T : Nat} {y : PV} (h : ZeroIs P T y) : ∃ i z, P.info? T = some i ∧ i.zero = some z ∧ y.ok1 = true ∧ i.size = y.wid ∧ ∀ (γ : Han) Per w, AR γ Per w (.p y) z := by
  obtain ⟨i, z, h1, h2, h3, h4, h5⟩ := h
  exact ⟨i, z, h1, h2, h3, h4, fun γ Per w => .p _ _ (h5 Per w)⟩
theorem new_row (hH : HRep γ Per H w) (E k : Nat) {es : List AV} {cs : List Value} (hl : cs.length = es.length * k) (hm : es.length ≤ maxLen) (hone : ∀ x ∈ cs, one x)
    (hk : ∀ e ∈ es, e.wid = k) (hp : 0 < k) (hel : ∀ i e, es[i]? = some e → AR γ Per w e (packN e.isAgg e.wid (fun j => cs.getD j undef) (i * k))) :
    HRep (newHan γ H.nx (.slice (some ⟨w.heap.size, 0, none⟩) es.length es.length)) Per (H.new (.row E k es)) (w.alloc (.cells cs.toArray E)) ∧
      More γ Per w (newHan γ H.nx (.slice (some ⟨w.heap.size, 0, none⟩) es.length es.length)) Per (w.alloc (.cells cs.toArray E)) ∧
      AR (newHan γ H.nx (.slice (some ⟨w.heap.size, 0, none⟩) es.length es.length)) Per (w.alloc (.cells cs.toArray E)) (.hd H.nx) (.slice (some ⟨w.heap.size, 0, none⟩) es.length es.length) := by
  obtain ⟨r1, r2⟩ := hH.alloc (.cells cs.toArray E) (o := .row E k es) (v := .slice (some ⟨w.heap.size, 0, none⟩) es.length es.length) rfl
    (.row E k es _ cs (by have := World.ownsRow_lit (base := 0) (e := E) (size := k) w cs.toArray es.length (Nat.zero_le _) hm (by simpa using hl); simpa using this) hone hk hp (fun i e he => (hel i e he).mono (han_more hH _)))
  exact ⟨r1, r2, .hd _ _ (by simp [newHan]) rfl⟩
theorem foldl_set {α : Type} (v : List α) : ∀ (cs : Array α) (off j : Nat), off + j + v.length ≤ cs.size →
    (((v.zipIdx j).foldl (fun cs (p : α × Nat) => cs.setIfInBounds (off + p.2) p.1) cs)).toList = spl cs.toList (off + j) v := by
  induction v with
  | nil => intro cs off j h; simp [spl]
  | cons x v ih =>
    intro cs off j h
    simp only [List.length_cons] at h
    simp only [List.zipIdx_cons, List.foldl_cons]
    rw [ih _ off (j + 1) (by simp; omega)]
    apply List.ext_getElem?
    intro q
    rw [spl_get _ _ _ (by simp; omega), spl_get _ _ _ (by simp; omega)]
    simp only [List.length_cons, Array.toList_setIfInBounds, List.getElem?_set]
    by_cases h1 : off + (j + 1) ≤ q ∧ q < off + (j + 1) + v.length
    · rw [if_pos h1, if_pos (by omega), show q - (off + j) = q - (off + (j + 1)) + 1 by omega, List.getElem?_cons_succ]
    · rw [if_neg h1]
      by_cases h2 : off + j = q
      · subst h2
        rw [if_pos rfl, if_pos (by simp; omega), if_pos (by omega)]
        simp
      · rw [if_neg h2, if_neg (by omega)]
theorem fill_seq (k : Nat) : ∀ (vs : List Value) (j : Nat) (cells : Array Value), (∀ v ∈ vs, v.cells.size = k) → (j + vs.length) * k ≤ cells.size →
    ∃ out : Array Value, Instr.fill (fun i => some (i * k, k)) cells ((vs.zipIdx j).map fun p => (p.2, p.1)) = some out ∧ out.toList = spl cells.toList (j * k) (vs.flatMap fun v => v.cells.toList)
  | [], j, cells, _, _ => ⟨cells, rfl, by simp [spl]⟩
  | v :: vs, j, cells, hv, hl => by
    have h1 : (j + 1 + vs.length) * k = (j + (v :: vs).length) * k := by simp only [List.length_cons]; congr 1; omega
    have h2 : (j + 1) * k ≤ (j + 1 + vs.length) * k := Nat.mul_le_mul_right k (by omega)
    have h3 : (j + 1) * k = j * k + k := by rw [Nat.add_mul, Nat.one_mul]
    have hvk := hv v (by simp)
    have hfs := foldl_set v.cells.toList cells (j * k) 0 (by simp; omega)
    obtain ⟨out, e1, e2⟩ := fill_seq k vs (j + 1) ((v.cells.zipIdx.foldl (fun cs (p : Value × Nat) => cs.setIfInBounds (j * k + p.2) p.1) cells)) (fun x hx => hv x (by simp [hx])) (by
      have hsz : ∀ (l : List (Value × Nat)) (c : Array Value), (l.foldl (fun cs (p : Value × Nat) => cs.setIfInBounds (j * k + p.2) p.1) c).size = c.size := by
        intro l
        induction l with
        | nil => intro c; rfl
        | cons p l ih => intro c; rw [List.foldl_cons, ih]; simp
      rw [← Array.foldl_toList, hsz]
      omega)
    refine ⟨out, ?_, ?_⟩
    · simp only [List.zipIdx_cons, List.map_cons, Instr.fill, hvk]
      rw [if_neg (by simp; omega)]
      exact e1
    · rw [e2]
      have e3 : (v.cells.zipIdx.foldl (fun cs (p : Value × Nat) => cs.setIfInBounds (j * k + p.2) p.1) cells).toList = spl cells.toList (j * k) v.cells.toList := by
        rw [← Array.foldl_toList, Array.toList_zipIdx]
        simpa using hfs
      rw [e3, List.flatMap_cons]
      have hvl : v.cells.toList.length = k := by simpa using hvk
      have hfl : (vs.flatMap fun v => v.cells.toList).length = vs.length * k := by
        have : ∀ l : List Value, (∀ x ∈ l, x.cells.size = k) → (l.flatMap fun v => v.cells.toList).length = l.length * k := by
          intro l
          induction l with
          | nil => intro _; simp
          | cons x l ih => intro hx; simp only [List.flatMap_cons, List.length_append, List.length_cons, ih (fun y hy => hx y (by simp [hy])), Array.length_toList, hx x (by simp), Nat.add_mul, Nat.one_mul]; omega
        exact this vs fun x hx => hv x (by simp [hx])
      have h4 : (j + 1 + vs.length) * k = (j + 1) * k + vs.length * k := by rw [Nat.add_mul]
      have hcs : cells.toList.length = cells.size := by simp
      apply List.ext_getElem?
      intro q
      rw [spl_get _ _ _ (by rw [spl_length _ _ _ (by omega)]; omega), spl_get _ _ _ (by omega), spl_get _ _ _ (by simp only [List.length_append]; omega)]
      simp only [List.length_append]
      by_cases c1 : (j + 1) * k ≤ q ∧ q < (j + 1) * k + (vs.flatMap fun v => v.cells.toList).length
      · rw [if_pos c1, if_pos (by omega), List.getElem?_append_right (by omega)]
        congr 1; omega
      · rw [if_neg c1]
        by_cases c2 : j * k ≤ q ∧ q < j * k + v.cells.toList.length
        · rw [if_pos c2, if_pos (by omega), List.getElem?_append_left (by omega)]
        · rw [if_neg c2, if_neg (by omega)]
theorem flat_get (vs : List Value) (k : Nat) (hv : ∀ v ∈ vs, v.cells.toList.length = k) : ∀ (i j : Nat), i < vs.length → j < k → (vs.flatMap fun v => v.cells.toList).getD (i * k + j) undef = ((vs.getD i undef).cells.toList).getD j undef := by
  induction vs with
  | nil => intro i j hi; simp at hi
  | cons v vs ih =>
    intro i j hi hj
    have hvk := hv v (by simp)
    cases i with
    | zero => simp only [List.flatMap_cons, List.getD, Nat.zero_mul, Nat.zero_add]; rw [List.getElem?_append_left (by omega)]; simp
    | succ i =>
      have := ih (fun x hx => hv x (by simp [hx])) i j (by simpa using hi) hj
      simp only [List.flatMap_cons, List.getD] at this ⊢
      rw [List.getElem?_append_right (by rw [hvk, Nat.add_mul]; omega), hvk, show (i + 1) * k + j - k = i * k + j by rw [Nat.add_mul]; omega, this]
      simp
theorem run_bslice {t E k : Nat} {y : PV} {vs : List Value} (ht : SliceIs P t E k) (hz : ZeroIs P E y) (hp : 0 < k) (hv : ∀ v ∈ vs, v.cells.toList.length = k) (hb : vs.length * k ≤ 16777216) (w : World) :
    (Instr.buildSlice t vs.length ((vs.zipIdx.map fun p => (p.2, p.1))).toArray).run P w = .ok (.slice (some ⟨w.heap.size, 0, none⟩) vs.length vs.length) (w.alloc (.cells (vs.flatMap fun v => v.cells.toList).toArray E)) := by
  obtain ⟨i, zv, h1, h2, h3, h4, h5⟩ := hz
  have hik : i.size = k := by have := ht.2; simp [tSize, h1] at this; exact this
  have hsz : ∀ (zero : Array Value), ((Array.range (vs.length * k)).map (zero[· % zero.size]!)).size = vs.length * k := fun zero => by simp
  have key : ∀ zero : Array Value, Instr.fill (fun i => some (i * k, k)) ((Array.range (vs.length * k)).map (zero[· % zero.size]!)) (vs.zipIdx.map fun p => (p.2, p.1)) = some (vs.flatMap fun v => v.cells.toList).toArray := by
    intro zero
    obtain ⟨out, e1, e2⟩ := fill_seq k vs 0 ((Array.range (vs.length * k)).map (zero[· % zero.size]!)) (fun v hv' => by simpa using hv v hv') (by rw [hsz, Nat.zero_add]; exact Nat.le_refl _)
    rw [e1]
    congr 1
    apply Array.ext'
    rw [e2]
    have hfl : (vs.flatMap fun v => v.cells.toList).length = vs.length * k := by
      have : ∀ l : List Value, (∀ x ∈ l, x.cells.toList.length = k) → (l.flatMap fun v => v.cells.toList).length = l.length * k := by
        intro l
        induction l with
        | nil => intro _; simp
        | cons x l ih => intro hx; simp only [List.flatMap_cons, List.length_append, List.length_cons, ih (fun y hy => hx y (by simp [hy])), hx x (by simp), Nat.add_mul, Nat.one_mul]; omega
      exact this vs hv
    unfold spl
    rw [Nat.zero_mul, List.take_zero, List.nil_append, List.drop_eq_nil_of_le (by rw [Nat.zero_add, hfl]; simp), List.append_nil]
  unfold Instr.buildSlice
  simp only [Sem.run_bind, run_underlying ht.1, Result.andThen_ok, run_size ht.2]
  rw [if_neg (by omega)]
  by_cases h0 : vs.length * k = 0
  · simp only [h0, if_true, Sem.run_bind, Sem.run_pure, Result.andThen_ok]
    have := key #[]
    rw [h0] at this
    simp only [this, newRow, newObj, Sem.run_bind, Sem.run_pure, Result.andThen_ok, Sem.run]
    rfl
  · simp only [h0, if_false, Sem.run_bind, Sem.run_pure, Result.andThen_ok, zeroValue, typeInfo, program, Sem.run, h1, h2]
    have := key zv.cells
    simp only [this, newRow, newObj, Sem.run_bind, Sem.run_pure, Result.andThen_ok, Sem.run]
    rfl
theorem flat_ok {k : Nat} {ys : List AV} {vs : List Value} (h : ARs γ Per w ys vs) (hk : ∀ y ∈ ys, y.wid = k ∧ y.ok1 = true) :
    (∀ v ∈ vs, v.cells.toList.length = k) ∧ (vs.flatMap fun v => v.cells.toList).length = ys.length * k ∧ (∀ x ∈ vs.flatMap fun v => v.cells.toList, one x) ∧
      ∀ i e, ys[i]? = some e → AR γ Per w e (packN e.isAgg e.wid (fun j => (vs.flatMap fun v => v.cells.toList).getD j undef) (i * k)) := by
  have hvc : ∀ v ∈ vs, v.cells.toList.length = k := by
    intro v hv'
    obtain ⟨i, hi⟩ := List.mem_iff_getElem?.1 hv'
    obtain ⟨y, hy, hr⟩ := h.get hi
    have hk' := hk y (List.mem_of_getElem? hy)
    rw [(hr.cellsV hk'.2).1, hk'.1]
  refine ⟨hvc, ?_, ?_, ?_⟩
  · have : ∀ l : List Value, (∀ x ∈ l, x.cells.toList.length = k) → (l.flatMap fun v => v.cells.toList).length = l.length * k := by
      intro l
      induction l with
      | nil => intro _; simp
      | cons x l ih => intro hx; simp only [List.flatMap_cons, List.length_append, List.length_cons, ih (fun y hy => hx y (by simp [hy])), hx x (by simp), Nat.add_mul, Nat.one_mul]; omega
    rw [this _ hvc, h.1]
  · intro x hx
    obtain ⟨v, hv', hx⟩ := List.mem_flatMap.1 hx
    obtain ⟨i, hi⟩ := List.mem_iff_getElem?.1 hv'
    obtain ⟨y, hy, hr⟩ := h.get hi
    exact (hr.cellsV (hk y (List.mem_of_getElem? hy)).2).2.2 x hx
  · intro i e he
    have hi := (List.getElem?_eq_some_iff.1 he).1
    have hke := hk e (List.mem_of_getElem? he)
    have hr := h.2 i e he
    have hc := hr.cellsV hke.2
    have e0 : packN e.isAgg e.wid (fun j => (vs.flatMap fun v => v.cells.toList).getD j undef) (i * k) = vs.getD i undef := by
      refine Eq.trans ?_ hc.2.1
      rw [← packN_off e.isAgg e.wid _ (i * k)]
      refine packN_congr (fun j hj => ?_) (fun hf => av_wid_pos hf)
      rw [Nat.zero_add]
      exact flat_get _ k hvc i j (by rw [h.1]; exact hi) (by omega)
    rw [e0]; exact hr
theorem maxLen_of {l k : Nat} (hp : 0 < k) (hb : l * k ≤ 16777216) : l ≤ maxLen := by
  have : l ≤ l * k := Nat.le_mul_of_pos_right _ hp
  simp only [maxLen]; omega
theorem new_sl (hH : HRep γ Per H w) (E k : Nat) {ys : List PV} {vs : List Value} (h : VPs Per w ys vs) (hk : ∀ y ∈ ys, y.wid = k ∧ y.ok1 = true) (hp : 0 < k) (hb : ys.length * k ≤ 16777216) :
    ∃ Per', HRep γ Per' H (w.alloc (.cells (vs.flatMap fun v => v.cells.toList).toArray E)) ∧ More γ Per w γ Per' (w.alloc (.cells (vs.flatMap fun v => v.cells.toList).toArray E)) ∧
      VP Per' (w.alloc (.cells (vs.flatMap fun v => v.cells.toList).toArray E)) (.sl ys) (.slice (some ⟨w.heap.size, 0, none⟩) ys.length ys.length) := by
  obtain ⟨f1, f2, f3, f4⟩ := flat_ok (γ := γ) (k := k) h.ar (fun y hy => by obtain ⟨z, hz, rfl⟩ := List.mem_map.1 hy; exact hk z hz)
  rw [List.length_map] at f2
  have hx := ExtW.alloc w (.cells (vs.flatMap fun v => v.cells.toList).toArray E)
  have hM : More γ Per w γ (fun b => Per b ∨ b = w.heap.size) (w.alloc (.cells (vs.flatMap fun v => v.cells.toList).toArray E)) := hx.more hH fun b h => .inl h
  refine ⟨fun b => Per b ∨ b = w.heap.size, hH.ext hx (fun b h => .inl h) (fun b h => h.imp id fun e => by subst e; simp), hM, .sl ys _ ys.length k (fun j => (vs.flatMap fun v => v.cells.toList).getD j undef) (Nat.le_refl _) (maxLen_of hp hb) (fun j hj => ?_) (fun e he => (hk e he).1) (.inl hp) (fun i e he => ?_)⟩
  · have hlt : j < (vs.flatMap fun v => v.cells.toList).length := by omega
    refine ⟨_, rfl, .inr rfl, by rw [List.getD, List.getElem?_eq_getElem hlt]; exact f3 _ (List.getElem_mem _), ?_⟩
    rw [add_plain, Nat.zero_add, World.cell?_alloc_new]
    simp only [List.getD, List.getElem?_eq_getElem hlt, Option.getD_some]
    simp
  · exact ((f4 i (.p e) (by rw [List.getElem?_map, he]; rfl)).mono hM).pv
end
end Bh
namespace Bh
open Go
section
variable {P : Program} {γ : Han} {Per : Nat → Prop} {H : AHeap} {w w' : World}
theorem run_mks {t E k : Nat} {y : PV} {k1 k2 : IntKind} {z : Int} {bytes : Nat} (hH : HRep γ Per H w) (ht : SliceIs P t E k) (hz : ZeroIs P E y) (hb : (P.info? E).map (·.bytes) = some bytes)
    (hp : 0 < k) (h0 : 0 ≤ z) (hm : z ≤ 9223372036854775807) (hbz : (bytes : Int) * z ≤ 281474976710656) :
    ∃ v w' γ', (Instr.makeSlice t (.int k1 z) (.int k2 z)).run P w = .ok v w' ∧ HRep γ' Per (H.new (.row E k (List.replicate z.toNat (.p y)))) w' ∧ More γ Per w γ' Per w' ∧ AR γ' Per w' (.hd H.nx) v := by
  obtain ⟨i, zv, h1, h2, h3, h4, h5⟩ := hz
  have hik : i.size = k := by have := ht.2; simp [tSize, h1] at this; exact this
  have hib : i.bytes = bytes := by simpa [h1] using hb
  have hr := run_make (P := P) w t E i zv ht.1 h1 h2 k1 k2 z z h0 (Int.le_refl _) (by rw [hib]; exact hbz) hm
  obtain ⟨hvl, hvp, hvo⟩ := (h5 Per w).cellsV h3
  have hzs : zv.cells.size = k := by simp at hvl; omega
  have hget : ∀ q, q < z.toNat * k → (madeCells zv.cells (z.toNat * k)).toList.getD q undef = zv.cells.toList.getD (q % k) undef := by
    intro q hq
    have hlt : q % k < zv.cells.size := by rw [hzs]; exact Nat.mod_lt _ hp
    simp [madeCells, List.getD, hq, hzs, hlt, hzs ▸ hlt]
  have hcl : (madeCells zv.cells (z.toNat * k)).toList.length = z.toNat * k := by simp [madeCells]
  have hst := new_row hH E k (es := List.replicate z.toNat (.p y)) (cs := (madeCells zv.cells (z.toNat * k)).toList) (by simpa using hcl) (by simp [maxLen]; omega)
    (fun x hx => by
      obtain ⟨q, hq, rfl⟩ := List.mem_iff_getElem.1 hx
      have := hget q (by omega)
      rw [List.getD, List.getElem?_eq_getElem hq, Option.getD_some] at this
      rw [this, List.getD, List.getElem?_eq_getElem (by rw [Array.length_toList, hzs]; exact Nat.mod_lt _ hp)]
      exact hvo _ (List.getElem_mem _))
    (fun e he => by obtain ⟨_, rfl⟩ := List.mem_replicate.1 he; show y.wid = k; omega) hp
    (fun q e he => by
      rw [List.getElem?_replicate] at he
      split at he
      · rename_i hq
        cases he
        have h6 : (q + 1) * k ≤ z.toNat * k := Nat.mul_le_mul_right k hq
        have h7 : (q + 1) * k = q * k + k := by rw [Nat.add_mul, Nat.one_mul]
        have e0 : packN y.isAgg y.wid (fun j => (madeCells zv.cells (z.toNat * k)).toList.getD j undef) (q * k) = zv := by
          refine Eq.trans ?_ hvp
          rw [← packN_off y.isAgg y.wid _ (q * k)]
          refine packN_congr (fun j hj => ?_) (fun hf => pv_wid_pos hf)
          rw [hget _ (by omega)]
          congr 1
          rw [Nat.zero_add, Nat.mul_comm, Nat.mul_add_mod, Nat.mod_eq_of_lt (by omega)]
        show AR γ Per w (.p y) (packN y.isAgg y.wid _ _)
        rw [e0]; exact .p _ _ (h5 Per w)
      · cases he)
  simp only [List.length_replicate] at hst
  obtain ⟨r1, r2, r3⟩ := hst
  rw [hik] at hr
  refine ⟨_, _, _, ?_, r1, r2, r3⟩
  simpa using hr
def GrowIs (P : Program) (t E k bytes : Nat) : Prop := ∃ i z, P.underlying t = some (.slice E) ∧ P.info? E = some i ∧ i.zero = some z ∧ i.size = k ∧ i.bytes = bytes ∧ z.cells.size = k ∧ 0 < k ∧ 0 < bytes
structure Src (γ : Han) (Per : Nat → Prop) (w : World) (k : Nat) (ys : List AV) (u : Value) (ns : List Value) : Prop where
  len : ns.length = ys.length * k
  val : ∃ ad cap, u = .slice ad ys.length cap ∧ ys.length ≤ maxLen ∧ ∀ j x, ns[j]? = some x → ∃ a, ad = some a ∧ w.cell? (a.add j) = some x
  one_ : ∀ x ∈ ns, one x
  el : ∀ i e, ys[i]? = some e → AR γ Per w e (packN e.isAgg e.wid (fun j => ns.getD j undef) (i * k))
  wid : ∀ e ∈ ys, e.wid = k
def slV (H : AHeap) (k : Nat) : AV → Option (List AV)
  | .p (.sl es) => if es.all (fun e => e.wid == k) then some (es.map .p) else none
  | .p (.v (.slice none 0 0)) => some []
  | .hd r => match H.get r with | some (.row _ k' es) => if k' = k then some es else none | _ => none
  | .ss r o n k' => match H.get r with | some (.row _ k'' es) => if k' = k ∧ k'' = k ∧ o + n ≤ es.length then some ((es.drop o).take n) else none | _ => none
  | _ => none
theorem ownsRow_cell {E k n : Nat} {b : Nat} {cur : Array Value} {xs : List Value} (hh : w.heap[b]? = some (.cells cur E (0, 0))) (htk : cur.toList.take (n * k) = xs) {j : Nat} {x : Value} (hj : xs[j]? = some x) :
    w.cell? ((⟨b, 0, none⟩ : Addr).add j) = some x := by
  rw [add_plain, Nat.zero_add]
  rw [← htk, List.getElem?_take] at hj
  split at hj
  · simp only [World.cell?, hh]; simpa using hj
  · cases hj
theorem slV_ok {k : Nat} {y : AV} {ys : List AV} {u : Value} (hk0 : 0 < k) (hH : HRep γ Per H w) (hy : AR γ Per w y u) (h : slV H k y = some ys) : ∃ ns, Src γ Per w k ys u ns := by
  cases y with
  | p y =>
    cases y with
    | sl es =>
      simp only [slV] at h
      split at h
      · rename_i hk
        injection h with h; subst h
        have hk : ∀ e ∈ es, e.wid = k := fun e he => by simpa using List.all_eq_true.1 hk e he
        cases hy.pv with
        | sl _ ad cap k' f hcap hmax hc hk' hp hel =>
          have hkk : es = [] ∨ k' = k := by
            cases es with
            | nil => exact .inl rfl
            | cons e es => exact .inr (by rw [← hk' e (by simp), hk e (by simp)])
          rcases hkk with rfl | rfl
          · exact ⟨[], by simp, ⟨ad, cap, rfl, by simp, fun j x hx => by simp at hx⟩, fun x hx => by simp at hx, fun i e he => by simp at he, fun e he => by simp at he⟩
          · refine ⟨(List.range (es.length * k')).map f, by simp, ⟨ad, cap, by simp, by simp; omega, fun j x hx => ?_⟩, fun x hx => ?_, fun i e he => ?_, fun e he => ?_⟩
            · rw [List.getElem?_map, Option.map_eq_some_iff] at hx
              obtain ⟨j', hj', rfl⟩ := hx
              have hlt : j < es.length * k' := by
                rcases Nat.lt_or_ge j (es.length * k') with hh | hh
                · exact hh
                · rw [List.getElem?_eq_none (by simpa using hh)] at hj'; cases hj'
              rw [List.getElem?_range hlt] at hj'
              injection hj' with hj'
              subst hj'
              obtain ⟨ad2, e, _, _, c3⟩ := hc j hlt
              exact ⟨ad2, e, c3⟩
            · simp only [List.mem_map, List.mem_range] at hx
              obtain ⟨j, hj, rfl⟩ := hx
              obtain ⟨_, _, _, c2, _⟩ := hc j hj
              exact c2
            · rw [List.getElem?_map, Option.map_eq_some_iff] at he
              obtain ⟨e, he, rfl⟩ := he
              have hi := (List.getElem?_eq_some_iff.1 he).1
              have hek := hk e (List.mem_of_getElem? he)
              have h9 : (i + 1) * k' ≤ es.length * k' := Nat.mul_le_mul_right k' hi
              have h10 : (i + 1) * k' = i * k' + k' := by rw [Nat.add_mul, Nat.one_mul]
              refine .p _ _ (cast ?_ (hel i e he))
              show VP Per w e _ = VP Per w e (packN e.isAgg e.wid _ _)
              congr 1
              rw [← packN_off e.isAgg e.wid f (i * k'), ← packN_off e.isAgg e.wid (fun j => ((List.range (es.length * k')).map f).getD j undef) (i * k')]
              refine packN_congr (fun j hj => ?_) (fun hf => pv_wid_pos hf)
              rw [range_get f _ _ (by omega)]
            · obtain ⟨e', he', rfl⟩ := List.mem_map.1 he
              exact hk e' he'
      · cases h
    | v y =>
      have := hy.v; subst this
      unfold slV at h
      split at h
      · rename_i e; cases e
      · rename_i e; injection h with h; subst h; injection e with e; injection e with e; subst e; exact ⟨[], by simp, ⟨none, 0, rfl, by simp, fun j x hx => by simp at hx⟩, fun x hx => by simp at hx, fun i e he => by simp at he, fun e he => by simp at he⟩
      · rename_i e; cases e
      · rename_i e; cases e
      · cases h
    | _ => simp [slV] at h
  | hd r =>
    simp only [slV] at h
    split at h
    · rename_i E k' es hg
      split at h
      · rename_i hk
        subst hk
        injection h with h; subst h
        cases hy with
        | hd _ _ hγ h1 =>
          obtain ⟨xs, hown, hone, hkk, hp, hel⟩ := hH.row_ hg hγ
          refine ⟨xs, hown.1, ?_, hone, hel, hkk⟩
          rcases hown.2 with ⟨rfl, h0⟩ | ⟨b, cap, cur, rfl, _, hh, hnc, hcm, _, htk⟩
          · exact ⟨none, 0, by rw [h0], by omega, fun j x hx => by have := hown.1; rw [h0] at this; simp at this; subst this; simp at hx⟩
          · exact ⟨_, cap, rfl, by omega, fun j x hx => ⟨_, rfl, ownsRow_cell hh htk hx⟩⟩
      · cases h
    · cases h
  | ss r o n k' =>
    simp only [slV] at h
    split at h
    · rename_i E k'' es hg
      split at h
      · rename_i hk
        obtain ⟨rfl, rfl, hle⟩ := hk
        injection h with h; subst h
        cases hy with
        | ss _ _ _ _ len cap c ad a hγ hl hc ha =>
          obtain ⟨xs, hown, hone, hkk, hp, hel⟩ := hH.row_ hg hγ
          have hlen : ((es.drop o).take n).length = n := by simp; omega
          have q1 : (o + n) * k'' ≤ es.length * k'' := Nat.mul_le_mul_right _ hle
          rw [Nat.add_mul] at q1
          have hxl : xs.length = es.length * k'' := hown.1
          refine ⟨(xs.drop (o * k'')).take (n * k''), by rw [hlen]; simp; omega, ⟨a, c, by rw [hlen], by
              rw [hlen]
              rcases hown.2 with ⟨e, h0⟩ | ⟨b, cap', cur, e, _, hh, hnc, hcm, _, htk⟩
              · omega
              · omega, fun j x hx => ?_⟩, fun x hx => hone x (List.mem_of_mem_drop (List.mem_of_mem_take hx)), fun i e he => ?_, fun e he => hkk e (List.mem_of_mem_drop (List.mem_of_mem_take he))⟩
          · have hj : j < n * k'' := by have := (List.getElem?_eq_some_iff.1 hx).1; simp at this; omega
            have hn0 : 0 < c := by
              rcases Nat.eq_zero_or_pos n with h | h
              · subst h; simp at hj
              · omega
            obtain ⟨b, rfl, rfl⟩ := ha hn0
            rcases hown.2 with ⟨e, h0⟩ | ⟨b', cap', cur, e, _, hh, hnc, hcm, _, htk⟩
            · cases e
            · injection e with e _ _; injection e with e; injection e with e; subst e
              refine ⟨_, rfl, ?_⟩
              rw [List.getElem?_take, if_pos hj, List.getElem?_drop] at hx
              have := ownsRow_cell hh htk hx
              rw [add_plain] at this ⊢
              rw [Nat.zero_add] at this; exact this
          · rw [List.getElem?_take] at he
            split at he
            · rename_i hin
              rw [List.getElem?_drop] at he
              have hek := hkk e (List.mem_of_getElem? he)
              have h9 : (i + 1) * k'' ≤ n * k'' := Nat.mul_le_mul_right _ hin
              rw [Nat.add_mul, Nat.one_mul] at h9
              refine cast ?_ (hel (o + i) e he)
              congr 1
              rw [← packN_off e.isAgg e.wid (fun j => xs.getD j undef) ((o + i) * k''), ← packN_off e.isAgg e.wid (fun j => ((xs.drop (o * k'')).take (n * k'')).getD j undef) (i * k'')]
              refine packN_congr (fun j hj => ?_) (fun hf => av_wid_pos hf)
              simp only [List.getD]
              rw [List.getElem?_take, if_pos (by omega), List.getElem?_drop, Nat.add_mul]
              congr 2; omega
            · cases he
      · cases h
    · cases h
  | _ => simp [slV] at h
theorem run_app {t E k bytes ty : Nat} (ht : GrowIs P t E k bytes) {v : Value} {m : Nat} {xs : List Value} (hown : w.ownsRow 0 E k v m xs) {ys : List AV} {u : Value} {ns : List Value} (hs : Src γ Per w k ys u ns)
    (hb : (m + ys.length) * bytes ≤ 140737488355328) :
    ∃ v' w', (Builtin.append_ #[t, t] ty #[v, u]).run P w = .ok v' w' ∧ w'.ownsRow 0 E k v' (m + ys.length) (xs ++ ns) ∧ w.grownBy w' v.ownBlock ∧ (v'.ownBlock = v.ownBlock ∨ v'.ownBlock = some w.heap.size) := by
  obtain ⟨i, z, h1, h2, h3, h4, h5, h6, h7, h8⟩ := ht
  obtain ⟨ad, cap, rfl, hml, hcell⟩ := hs.val
  cases ys with
  | nil =>
    have hn : ns = [] := List.eq_nil_of_length_eq_zero (by simpa using hs.len)
    subst hn
    refine ⟨v, w, ?_, by simpa using hown, World.grownBy.refl w _, .inl rfl⟩
    rcases hown.2 with ⟨rfl, hn⟩ | ⟨g, cap', cur, rfl, _, _, hnc, _⟩
    · cases ad <;> simp [Builtin.append_, run_underlying h1, Go.sizeOf, typeInfo, h2, Builtin.lenOf, Builtin.firstCells, loadCells, loadCellsFrom]
    · cases ad <;> simp [Builtin.append_, run_underlying h1, Go.sizeOf, typeInfo, h2, Builtin.lenOf, Builtin.firstCells, hnc, storeCells, loadCells, loadCellsFrom]
  | cons y0 yr =>
    have hpos : 0 < ns.length := by rw [hs.len]; exact Nat.mul_pos (by simp) h7
    obtain ⟨ad', rfl, _⟩ := hcell 0 _ (List.getElem?_eq_getElem hpos)
    obtain ⟨v', w', r1, r2, r3, _, r5⟩ := run_append_own_at (P := P) w 0 t ty E i z k bytes h1 h2 h3 h4 h5 h6 h7 v m xs hown ad' (y0 :: yr).length cap ns hs.len (fun j q hq => by
        obtain ⟨a, e, c⟩ := hcell j q hq
        injection e with e; subst e; exact c) hs.one_ (by
        have : m + (y0 :: yr).length ≤ (m + (y0 :: yr).length) * bytes := Nat.le_mul_of_pos_right _ h8
        simp only [maxLen]; omega) hb (Nat.zero_le _)
    exact ⟨v', w', r1, r2, r3, r5⟩
theorem hblk_own {E k n : Nat} {v : Value} {xs : List Value} (h : w.ownsRow 0 E k v n xs) : hblk v = v.ownBlock := by
  rcases h.2 with ⟨rfl, _⟩ | ⟨b, cap, cur, rfl, _⟩ <;> rfl
theorem app_more {v : Value} {w' : World} (hg : w.grownBy w' v.ownBlock) (hP : ∀ b, Per b → b < w.heap.size) (hv : ∀ b, v.ownBlock = some b → ¬ Per b) : More γ Per w γ Per w' :=
  ⟨fun _ _ h => h, fun _ h => h, fun b hb => hg.block b (hP b hb) (fun e => hv b e.symm hb), hg.size, hg.os, hg.tape, hg.output⟩
theorem row_cat {E k : Nat} {es ys : List AV} {v' : Value} {xs ns : List Value} (hm : More γ Per w γ Per w') (hxl : xs.length = es.length * k) (hone : ∀ x ∈ xs, one x) (hkk : ∀ e ∈ es, e.wid = k) (hp : 0 < k)
    (hel : ∀ i e, es[i]? = some e → AR γ Per w e (packN e.isAgg e.wid (fun j => xs.getD j undef) (i * k))) {u : Value} (hs : Src γ Per w k ys u ns) (r2 : w'.ownsRow 0 E k v' (es.length + ys.length) (xs ++ ns)) :
    OR γ Per w' (.row E k (es ++ ys)) v' := by
  refine .row E k _ v' (xs ++ ns) (by rw [List.length_append]; exact r2) (fun x hx => (List.mem_append.1 hx).elim (hone x) (hs.one_ x)) (fun e he => (List.mem_append.1 he).elim (hkk e) (hs.wid e)) hp (fun i e he => ?_)
  by_cases hi : i < es.length
  · rw [List.getElem?_append_left hi] at he
    have h9 : (i + 1) * k ≤ es.length * k := Nat.mul_le_mul_right k hi
    rw [Nat.add_mul, Nat.one_mul] at h9
    have hek := hkk e (List.mem_of_getElem? he)
    refine cast ?_ ((hel i e he).mono hm)
    congr 1
    rw [← packN_off e.isAgg e.wid (fun j => xs.getD j undef) (i * k), ← packN_off e.isAgg e.wid (fun j => (xs ++ ns).getD j undef) (i * k)]
    refine packN_congr (fun j hj => ?_) (fun hf => av_wid_pos hf)
    simp only [List.getD]
    rw [List.getElem?_append_left (by omega)]
  · rw [List.getElem?_append_right (by omega)] at he
    refine cast ?_ ((hs.el _ e he).mono hm)
    congr 1
    have h11 : i * k = es.length * k + (i - es.length) * k := by rw [← Nat.add_mul]; congr 1; omega
    rw [← packN_off e.isAgg e.wid (fun j => ns.getD j undef) ((i - es.length) * k), ← packN_off e.isAgg e.wid (fun j => (xs ++ ns).getD j undef) (i * k)]
    refine packN_congr (fun j hj => ?_) (fun hf => av_wid_pos hf)
    simp only [List.getD]
    rw [List.getElem?_append_right (by omega), hxl]
    congr 2
    omega
theorem run_app_row {t E k bytes ty i : Nat} {es ys : List AV} {v u : Value} {ns : List Value} (ht : GrowIs P t E k bytes) (hH : HRep γ Per H w) (hg : H.get i = some (.row E k es)) (hγ : γ i = some v) (hs : Src γ Per w k ys u ns)
    (hb : (es.length + ys.length) * bytes ≤ 140737488355328) :
    ∃ v' w' γ', (Builtin.append_ #[t, t] ty #[v, u]).run P w = .ok v' w' ∧ HRep γ' Per ((H.del i).new (.row E k (es ++ ys))) w' ∧ More γ Per w γ' Per w' ∧ AR γ' Per w' (.hd H.nx) v' := by
  obtain ⟨xs, hown, hone, hkk, hp, hel⟩ := hH.row_ hg hγ
  obtain ⟨v', w', r1, r2, r3, r4⟩ := run_app (ty := ty) ht hown hs hb
  have hbl := hblk_own hown
  have hbl' := hblk_own r2
  have hob : ∀ b, v.ownBlock = some b → b < w.heap.size ∧ ¬ Per b := fun b h => hH.own i _ v b hg hγ (by rw [hbl]; exact h)
  have hm := app_more (γ := γ) r3 hH.per (fun b h => (hob b h).2)
  have hD := hH.del i
  obtain ⟨k1, k2⟩ := hD.new (o := .row E k (es ++ ys)) (v := v') hm (fun j o vj b hj h1 h2 => by
      have hj' : H.get j = some o ∧ j ≠ i := by simp only [AHeap.del] at hj; split at hj; cases hj; exact ⟨hj, by assumption⟩
      refine r3.block b (hH.own j o vj b hj'.1 h1 h2).1 (fun e => hj'.2 (hH.inj j i o _ vj v b hj'.1 hg h1 hγ h2 (by rw [hbl]; exact e.symm)))) (fun b hb' => by
      rw [hbl'] at hb'
      rcases r4 with e | e
      · have := hob b (e ▸ hb')
        refine ⟨Nat.lt_of_lt_of_le this.1 r3.size, this.2, fun j o vj hj h1 h2 => ?_⟩
        have hj' : H.get j = some o ∧ j ≠ i := by simp only [AHeap.del] at hj; split at hj; cases hj; exact ⟨hj, by assumption⟩
        exact hj'.2 (hH.inj j i o _ vj v b hj'.1 hg h1 hγ h2 (by rw [hbl]; exact e ▸ hb'))
      · rw [e] at hb'; injection hb' with hb'; subst hb'
        refine ⟨?_, fun hp => absurd (hH.per _ hp) (by omega), fun j o vj hj h1 h2 => ?_⟩
        · rcases r2.2 with ⟨e', _⟩ | ⟨g, _, _, e', _, hh, _⟩
          · rw [e'] at e; simp [Value.ownBlock] at e
          · rw [e'] at e; simp [Value.ownBlock] at e; subst e; exact (Array.getElem?_eq_some_iff.1 hh).1
        · have hj' : H.get j = some o := by simp only [AHeap.del] at hj; split at hj; cases hj; exact hj
          exact absurd (hH.own j o vj _ hj' h1 h2).1 (by omega)) (by
      have hm2 : More γ Per w (newHan γ H.nx v') Per w' := ⟨fun j x hx => by simp only [newHan]; rw [if_neg (fun e => absurd (hH.lt j x hx) (by omega))]; exact hx, fun _ h => h, hm.heap, hm.size, hm.os, hm.tape, hm.output⟩
      have hs2 : Src (newHan γ H.nx v') Per w k ys u ns := ⟨hs.len, hs.val, hs.one_, fun i e he => (hs.el i e he).mono ⟨hm2.han, fun _ h => h, fun _ _ => rfl, Nat.le_refl _, rfl, rfl, rfl⟩, hs.wid⟩
      exact row_cat (γ := newHan γ H.nx v') (w := w) ⟨fun _ _ h => h, fun _ h => h, hm.heap, hm.size, hm.os, hm.tape, hm.output⟩ hown.1 hone hkk hp (fun i e he => (hel i e he).mono ⟨hm2.han, fun _ h => h, fun _ _ => rfl, Nat.le_refl _, rfl, rfl, rfl⟩) hs2 r2)
  refine ⟨v', w', _, r1, k1, k2, .hd _ _ (by simp [newHan, AHeap.del]) ?_⟩
  rcases r2.2 with ⟨rfl, _⟩ | ⟨b, cap, cur, rfl, _⟩ <;> rfl
theorem run_app_nil {t E k bytes ty : Nat} {ys : List AV} {u : Value} {ns : List Value} (ht : GrowIs P t E k bytes) (hH : HRep γ Per H w) (hs : Src γ Per w k ys u ns) (hb : ys.length * bytes ≤ 140737488355328) :
    ∃ v' w' γ', (Builtin.append_ #[t, t] ty #[.slice none 0 0, u]).run P w = .ok v' w' ∧ HRep γ' Per (H.new (.row E k ys)) w' ∧ More γ Per w γ' Per w' ∧ AR γ' Per w' (.hd H.nx) v' := by
  have hp : 0 < k := by obtain ⟨_, _, _, _, _, _, _, _, h7, _⟩ := ht; exact h7
  obtain ⟨v', w', r1, r2, r3, r4⟩ := run_app (ty := ty) ht (World.ownsRow_nil w 0 E k) hs (by simpa using hb)
  have hbl' := hblk_own r2
  have hm := app_more (γ := γ) r3 hH.per (fun b h => by simp [Value.ownBlock] at h)
  obtain ⟨k1, k2⟩ := hH.new (o := .row E k ys) (v := v') hm (fun j o vj b hj h1 h2 => r3.block b (hH.own j o vj b hj h1 h2).1 (by simp [Value.ownBlock])) (fun b hb' => by
      rw [hbl'] at hb'
      rcases r4 with e | e
      · rw [e] at hb'; simp [Value.ownBlock] at hb'
      · rw [e] at hb'; injection hb' with hb'; subst hb'
        refine ⟨?_, fun hp => absurd (hH.per _ hp) (by omega), fun j o vj hj h1 h2 => absurd (hH.own j o vj _ hj h1 h2).1 (by omega)⟩
        rcases r2.2 with ⟨e', _⟩ | ⟨g, _, _, e', _, hh, _⟩
        · rw [e'] at e; simp [Value.ownBlock] at e
        · rw [e'] at e; simp [Value.ownBlock] at e; subst e; exact (Array.getElem?_eq_some_iff.1 hh).1) (by
      have hm2 : More γ Per w (newHan γ H.nx v') Per w' := ⟨fun j x hx => by simp only [newHan]; rw [if_neg (fun e => absurd (hH.lt j x hx) (by omega))]; exact hx, fun _ h => h, hm.heap, hm.size, hm.os, hm.tape, hm.output⟩
      have hs2 : Src (newHan γ H.nx v') Per w k ys u ns := ⟨hs.len, hs.val, hs.one_, fun i e he => (hs.el i e he).mono ⟨hm2.han, fun _ h => h, fun _ _ => rfl, Nat.le_refl _, rfl, rfl, rfl⟩, hs.wid⟩
      have := row_cat (E := E) (γ := newHan γ H.nx v') (w := w) (w' := w') (es := []) (xs := []) (v' := v') ⟨fun _ _ h => h, fun _ h => h, hm.heap, hm.size, hm.os, hm.tape, hm.output⟩ (by simp) (fun x hx => by simp at hx) (fun e he => by simp at he) hp (fun i e he => by simp at he) hs2 (by simpa using r2)
      simpa using this)
  refine ⟨v', w', _, r1, k1, k2, .hd _ _ (by simp [newHan]) ?_⟩
  rcases r2.2 with ⟨rfl, _⟩ | ⟨b, cap, cur, rfl, _⟩ <;> rfl
end
end Bh
namespace Bh
open Go
section
variable {P : Program} {γ : Han} {Per : Nat → Prop} {H : AHeap} {w w' : World}
def placesOf (P : Program) (t : TypeId) : Option (List (Nat × Nat)) :=
  match P.underlying t with
  | some (.struct fs) => fs.toList.mapM fun f => (P.info? f.type).map fun i => (f.offset, i.size)
  | _ => none
def BuildIs (P : Program) (t : TypeId) (zc : List PV) (parts : List (Nat × Nat)) : Prop :=
  (∃ i z places, P.info? t = some i ∧ i.zero = some z ∧ placesOf P t = some places ∧ (∀ Per w, VP Per w (.agg zc) z) ∧ (∀ p ∈ parts, ∃ m, places[p.1]? = some (p.2, m)))
theorem fill_ok {places : List (Nat × Nat)} : ∀ (parts : List (Nat × Nat)) (vs : List Value) (ys : List AV) (cells : List Value) (zc : List AV), parts.length = ys.length → vs.length = ys.length →
    (∀ p ∈ parts, ∃ m, places[p.1]? = some (p.2, m)) → (∀ (j : Nat) (p : Nat × Nat) (y : AV), parts[j]? = some p → ys[j]? = some y → places[p.1]? = some (p.2, y.wid) ∧ p.2 + y.wid ≤ zc.length ∧ y.ok1 = true) →
    (∀ j y, ys[j]? = some y → AR γ Per w y (vs.getD j undef)) → cells.length = zc.length → (∀ x ∈ cells, one x) → (∀ j c, zc[j]? = some c → AR γ Per w c (cells.getD j undef)) →
    ∃ out : List Value, Instr.fill (places.toArray[·]?) cells.toArray ((parts.zip vs).map fun q => (q.1.1, q.2)) = some out.toArray ∧ out.length = zc.length ∧ (∀ x ∈ out, one x) ∧
      (∀ j c, ((parts.zip ys).foldl (fun cs q => spl cs q.1.2 q.2.cells) zc)[j]? = some c → AR γ Per w c (out.getD j undef)) ∧ ((parts.zip ys).foldl (fun cs q => spl cs q.1.2 q.2.cells) zc).length = zc.length
  | [], vs, ys, cells, zc, h1, h2, h3, h4, h5, h6, h7, h8 => ⟨cells, rfl, h6, h7, by simpa using h8, rfl⟩
  | p :: parts, vs, ys, cells, zc, h1, h2, h3, h4, h5, h6, h7, h8 => by
    cases ys with
    | nil => simp at h1
    | cons y ys =>
      cases vs with
      | nil => simp at h2
      | cons v vs =>
        obtain ⟨k1, k2, k3⟩ := h4 0 p y rfl rfl
        have hv := h5 0 y rfl
        simp only [List.getD_cons_zero] at hv
        obtain ⟨l1, l2, l3⟩ := hv.cellsV k3
        have hfit : p.2 + y.cells.length ≤ zc.length := by rw [acells_length]; exact k2
        have hfit' : p.2 + v.cells.toList.length ≤ cells.length := by omega
        have hsl := spl_length zc p.2 y.cells hfit
        have hsl' := spl_length cells p.2 v.cells.toList hfit'
        obtain ⟨out, e1, e2, e3, e4, e5⟩ := fill_ok parts vs ys (spl cells p.2 v.cells.toList) (spl zc p.2 y.cells) (by simpa using h1) (by simpa using h2) (fun q hq => h3 q (by simp [hq]))
          (fun j q z hq hz => by rw [hsl]; exact h4 (j + 1) q z (by simpa using hq) (by simpa using hz)) (fun j z hz => by simpa using h5 (j + 1) z (by simpa using hz)) (by omega)
          (fun x hx => by
            simp only [spl, List.mem_append] at hx
            rcases hx with (hx | hx) | hx
            · exact h7 x (List.mem_of_mem_take hx)
            · exact l3 x hx
            · exact h7 x (List.mem_of_mem_drop hx))
          (fun j c hc => by
            rw [spl_get _ _ _ hfit] at hc
            simp only [List.getD]
            rw [spl_get _ _ _ hfit', l1]
            rw [acells_length] at hc
            split at hc
            · rename_i hin
              rw [if_pos hin]
              exact hv.cell k3 _ _ hc
            · rename_i hin
              rw [if_neg hin]
              exact h8 j c hc)
        refine ⟨out, ?_, by omega, e3, by simpa using e4, by rw [hsl] at e5; simpa using e5⟩
        simp only [List.zip_cons_cons, List.map_cons, Instr.fill]
        have hp : places.toArray[p.1]? = some (p.2, y.wid) := by simpa using k1
        rw [hp]
        dsimp only
        have hvs : v.cells.size = y.wid := by simpa using l1
        rw [if_neg (by rw [hvs]; simp; omega)]
        have hfs := foldl_set v.cells.toList cells.toArray p.2 0 (by simp; simp at hfit'; omega)
        have e0 : (v.cells.zipIdx.foldl (fun cs (x : Value × Nat) => cs.setIfInBounds (p.2 + x.2) x.1) cells.toArray) = (spl cells p.2 v.cells.toList).toArray := by
          apply Array.ext'
          rw [← Array.foldl_toList, Array.toList_zipIdx]
          simpa using hfs
        rw [← e1, ← e0]
theorem run_build_ {t : Nat} {parts : List (Nat × Nat)} {zc : List PV} {ys : List AV} {vs : List Value} (hb : BuildIs P t zc parts) (hl : parts.length = ys.length) (hv : ARs γ Per w ys vs)
    (hk : ∀ (j : Nat) (p : Nat × Nat) (y : AV), parts[j]? = some p → ys[j]? = some y → (∃ places, placesOf P t = some places ∧ places[p.1]? = some (p.2, y.wid)) ∧ p.2 + y.wid ≤ zc.length ∧ y.ok1 = true) :
    ∃ v, (Instr.build t ((parts.zip vs).map fun q => (q.1.1, q.2)).toArray).run P w = .ok v w ∧ AR γ Per w (mkAg ((parts.zip ys).foldl (fun cs q => spl cs q.1.2 q.2.cells) (zc.map .p))) v := by
  obtain ⟨i, z, places, b1, b2, b3, b4, b5⟩ := hb
  have hz := b4 Per w
  cases hz with
  | agg _ zs hs hone hze =>
    obtain ⟨out, e1, e2, e3, e4, e5⟩ := fill_ok (γ := γ) (Per := Per) (w := w) (places := places) parts vs ys zs (zc.map .p) hl hv.1 b5 (fun j p y hp hy => by
        obtain ⟨⟨pl, q1, q2⟩, q3, q4⟩ := hk j p y hp hy
        rw [b3] at q1; injection q1 with q1; subst q1
        exact ⟨q2, by simpa using q3, q4⟩) hv.2 (by simpa using hs) hone (fun j c hc => by
          rw [List.getElem?_map, Option.map_eq_some_iff] at hc
          obtain ⟨c, hc, rfl⟩ := hc
          exact .p _ _ (hze j c hc))
    have hu : ∃ fs, P.underlying t = some (.struct fs) ∧ fs.toList.mapM (fun f => (P.info? f.type).map fun i => (f.offset, i.size)) = some places := by
      unfold placesOf at b3
      split at b3
      · rename_i fs hfs; exact ⟨fs, hfs, b3⟩
      · cases b3
    obtain ⟨fs, hu, hm⟩ := hu
    have hbuilt : P.built t (((parts.zip vs).map fun q => (q.1.1, q.2)).toArray).toList = some out.toArray := by
      unfold Program.built
      simp only [b1, hu, b2, hm]
      rw [← e1]
      rfl
    have hrun := run_build (P := P) w t _ _ hbuilt
    refine ⟨.agg out.toArray, hrun, ?_⟩
    have := AR.mk (γ := γ) (Per := Per) (w := w) (cs := (parts.zip ys).foldl (fun cs q => spl cs q.1.2 q.2.cells) (zc.map .p)) (g := fun j => out.getD j undef) (fun j hj => by
      rw [List.getD, List.getElem?_eq_getElem (by omega)]; exact e3 _ (List.getElem_mem _)) e4
    have eo : packN true ((parts.zip ys).foldl (fun cs q => spl cs q.1.2 q.2.cells) (zc.map .p)).length (fun j => out.getD j undef) 0 = .agg out.toArray := by
      simp only [packN, if_true, Nat.zero_add]
      congr 2
      apply List.ext_getElem?
      intro j
      by_cases hj : j < out.length
      · rw [List.getElem?_map, List.getElem?_range (by omega)]; simp [List.getD, hj]
      · rw [List.getElem?_eq_none (by simp; omega), List.getElem?_eq_none (by omega)]
    rw [eo] at this; exact this
def semEqn (H : AHeap) : AV → Option Bool
  | .p (.sl es) => some es.isEmpty
  | .p (.v (.slice none 0 0)) => some true
  | .hd r => match H.get r with | some (.row _ _ es) => some es.isEmpty | _ => none
  | _ => none
theorem run_eqn {T E : Nat} {neg : Bool} (ht : P.underlying T = some (.slice E)) {x : AV} {u : Value} {e : Bool} (hH : HRep γ Per H w) (hx : AR γ Per w x u) (hz : semEqn H x = some e) :
    ∃ b : Bool, (b = true → e = true) ∧ (x = .p (.v (.slice none 0 0)) → b = true) ∧ (binOp (if neg then .neq else .eql) T u (.slice none 0 0)).run P w = .ok (.bool (b != neg)) w ∧ (∀ cs, u ≠ .agg cs) ∧ u ≠ .nilIface := by
  have key : ∃ ad len cap, u = .slice ad len cap ∧ (ad = none → e = true) := by
    cases x with
    | p y =>
      cases y with
      | sl es =>
        simp only [semEqn, Option.some.injEq] at hz; subst hz
        cases hx.pv with
        | sl _ ad cap k f hcap hmax hc hk hp hel =>
          refine ⟨ad, _, cap, rfl, fun hn => ?_⟩
          subst hn
          cases es with
          | nil => rfl
          | cons e es =>
            exfalso
            rcases hp with hp | hp
            · obtain ⟨_, h1, _⟩ := hc 0 (Nat.mul_pos (by simp) hp)
              cases h1
            · cases hp
      | v y =>
        have := hx.v; subst this
        unfold semEqn at hz
        split at hz <;> simp_all
      | _ => simp [semEqn] at hz
    | hd r =>
      simp only [semEqn] at hz
      split at hz
      · rename_i E' k es hg
        injection hz with hz; subst hz
        cases hx with
        | hd _ _ hγ h1 =>
          obtain ⟨xs, hown, _⟩ := hH.row_ hg hγ
          rcases hown.2 with ⟨rfl, h0⟩ | ⟨b, cap, cur, rfl, _⟩
          · exact ⟨none, _, _, rfl, fun _ => by simpa using h0⟩
          · exact ⟨_, _, _, rfl, fun h => by cases h⟩
      · cases hz
    | _ => simp [semEqn] at hz
  obtain ⟨ad, len, cap, rfl, hnone⟩ := key
  have hq : (Op.equal T (.slice ad len cap) (.slice none 0 0)).run P w = .ok ad.isNone w := by
    unfold Op.equal
    rw [show Op.maxDepth = 9999 + 1 from rfl]
    unfold Op.equalIn
    simp only [Sem.run_bind, run_underlying ht, Result.andThen_ok]
    cases ad <;> simp
  refine ⟨ad.isNone, fun hb => hnone (by simpa using hb), fun hx' => ?_, ?_, by simp, by simp⟩
  · subst hx'; have := hx.v; injection this with h1 _ _; rw [h1]; rfl
  cases neg
  · simp only [Bool.false_eq_true, if_false, binOp, Sem.run_bind, hq, Result.andThen_ok, Sem.run_pure]; simp
  · simp only [if_true, binOp, Sem.run_bind, hq, Result.andThen_ok, Sem.run_pure]; simp
def semEqp : AV → Option Bool
  | .p (.ref _) | .pb _ _ | .pe _ _ _ _ => some false
  | .p (.v (.pointer none)) => some true
  | _ => none
theorem run_eqp {T E : Nat} {neg : Bool} (ht : P.underlying T = some (.pointer E)) {x : AV} {u : Value} {e : Bool} (hx : AR γ Per w x u) (hz : semEqp x = some e) :
    (binOp (if neg then .neq else .eql) T u (.pointer none)).run P w = .ok (.bool (e != neg)) w ∧ (∀ cs, u ≠ .agg cs) ∧ u ≠ .nilIface := by
  have key : ∃ ad, u = .pointer ad ∧ ad.isNone = e := by
    cases x with
    | p y =>
      cases y with
      | ref y => simp only [semEqp, Option.some.injEq] at hz; subst hz; cases hx.pv with | ref _ ad => exact ⟨_, rfl, rfl⟩
      | v y =>
        have := hx.v; subst this
        unfold semEqp at hz
        split at hz <;> simp_all
      | _ => simp [semEqp] at hz
    | pb i o => simp only [semEqp, Option.some.injEq] at hz; subst hz; cases hx; exact ⟨_, rfl, rfl⟩
    | pe i n k o => simp only [semEqp, Option.some.injEq] at hz; subst hz; cases hx; exact ⟨_, rfl, rfl⟩
    | _ => simp [semEqp] at hz
  obtain ⟨ad, rfl, rfl⟩ := key
  have hq : (Op.equal T (.pointer ad) (.pointer none)).run P w = .ok ad.isNone w := by
    unfold Op.equal
    rw [show Op.maxDepth = 9999 + 1 from rfl]
    unfold Op.equalIn
    simp only [Sem.run_bind, run_underlying ht, Result.andThen_ok]
    cases ad <;> simp
  refine ⟨?_, by simp, by simp⟩
  cases neg
  · simp only [Bool.false_eq_true, if_false, binOp, Sem.run_bind, hq, Result.andThen_ok, Sem.run_pure]; simp
  · simp only [if_true, binOp, Sem.run_bind, hq, Result.andThen_ok, Sem.run_pure]; simp
theorem ba_beq (a b : ByteArray) : (a == b) = (a.data == b.data) := rfl
instance : LawfulBEq ByteArray where
  eq_of_beq := fun {a b} h => by cases a; cases b; rw [ba_beq] at h; simp at h; subst h; rfl
  rfl := fun {a} => by rw [ba_beq]; simp
def mIdx (m : List (ByteArray × PV)) (k : ByteArray) : Option Nat := m.findIdx? fun q => q.1 == k
def mGet (m : List (ByteArray × PV)) (k : ByteArray) : Option PV := (m.find? fun q => q.1 == k).map (·.2)
def mSet (m : List (ByteArray × PV)) (k : ByteArray) (x : PV) : List (ByteArray × PV) := match mIdx m k with | some i => m.set i (k, x) | none => m ++ [(k, x)]
theorem findNow_s (k : ByteArray) : ∀ (es : List MapEntry) (m : List (ByteArray × PV)) (i : Nat), es.length = m.length → (∀ (j : Nat) (e : MapEntry) (y : ByteArray × PV), es[j]? = some e → m[j]? = some y → e.key = .string y.1) →
    Instr.findNow .string (.string k) es i = some (match mIdx m k with | some j => (es[j]?).map fun e => (i + j, e.val) | none => none)
  | [], [], i, _, _ => rfl
  | e :: es, y :: m, i, hl, hk => by
    have h0 := hk 0 e y rfl rfl
    have ih := findNow_s k es m (i + 1) (by simpa using hl) (fun j e y h1 h2 => hk (j + 1) e y (by simpa using h1) (by simpa using h2))
    have hn : Instr.sameNow .string (.string k) (.string y.1) = some (k == y.1) := rfl
    unfold Instr.findNow
    rw [h0, hn]
    have hb : (k == y.1) = (y.1 == k) := by
      by_cases e : k = y.1
      · subst e; rfl
      · rw [beq_eq_false_iff_ne.2 e, beq_eq_false_iff_ne.2 (Ne.symm e)]
    unfold mIdx
    rw [List.findIdx?_cons, ← hb]
    cases hkb : (k == y.1) with
    | true => simp
    | false =>
      simp only [Bool.false_eq_true, if_false]
      rw [ih]
      unfold mIdx
      cases List.findIdx? (fun q => q.1 == k) m with
      | none => rfl
      | some j => simp only [Option.map_some, List.getElem?_cons_succ]; rw [Nat.add_assoc, Nat.add_comm 1 j]
  | [], _ :: _, _, hl, _ => by simp at hl
  | _ :: _, [], _, hl, _ => by simp at hl
theorem mIdx_get {m : List (ByteArray × PV)} {k : ByteArray} {j : Nat} (h : mIdx m k = some j) : ∃ x, m[j]? = some (k, x) ∧ mGet m k = some x := by
  unfold mIdx at h
  unfold mGet
  rw [List.findIdx?_eq_some_iff_getElem] at h
  obtain ⟨hlt, h1, h2⟩ := h
  have h1' : m[j].1 = k := by simpa using h1
  refine ⟨m[j].2, by rw [List.getElem?_eq_getElem hlt, ← h1'], ?_⟩
  have : m.find? (fun q => q.1 == k) = some m[j] := by
    rw [List.find?_eq_some_iff_getElem]
    exact ⟨h1, j, hlt, rfl, fun i hi => by simpa using h2 i hi⟩
  rw [this]; rfl
theorem mIdx_none {m : List (ByteArray × PV)} {k : ByteArray} (h : mIdx m k = none) : mGet m k = none := by
  unfold mIdx at h
  unfold mGet
  rw [List.findIdx?_eq_none_iff] at h
  have : m.find? (fun q => q.1 == k) = none := List.find?_eq_none.2 fun x hx => by simpa using h x hx
  rw [this]; rfl
def MapIs (P : Program) (t E : Nat) : Prop := ∃ K, P.underlying t = some (.map K E) ∧ P.underlying K = some .string
theorem HRep.map_ {r : Nat} {m : List (ByteArray × PV)} {v : Value} (hH : HRep γ Per H w) (hg : H.get r = some (.map m)) (hx : γ r = some v) :
    ∃ (b : Nat) (es : Array MapEntry), v = .map (some b) ∧ w.heap[b]? = some (.map es es.size) ∧ es.size = m.length ∧ (∀ (i : Nat) (e : MapEntry), es[i]? = some e → e.born = i) ∧
      (∀ (i : Nat) (e : MapEntry) (y : ByteArray × PV), es[i]? = some e → m[i]? = some y → e.key = .string y.1 ∧ VP Per w y.2 e.val) := by
  obtain ⟨v', h1, h2⟩ := hH.obj r _ hg
  rw [hx] at h1; injection h1 with h1; subst h1
  cases h2 with
  | map _ b es hh hl hborn hks => exact ⟨b, es, rfl, hh, hl, hborn, hks⟩
theorem run_getMap {b : Nat} {es : Array MapEntry} {c : Nat} (hh : w.heap[b]? = some (.map es c)) : (getObj b).run P w = .ok (.map es c) w := by simp [getObj, Sem.run, hh]
theorem run_checkS {t : Nat} {k : ByteArray} (ht : P.underlying t = some .string) (e : Bool) : (Instr.checkKey e 10000 t (.string k)).run P w = .ok () w := by
  rw [show (10000 : Nat) = 9999 + 1 from rfl]
  unfold Instr.checkKey
  simp only [Sem.run_bind, run_underlying ht, Result.andThen_ok]
  simp
theorem run_findS {t : Nat} {k : ByteArray} {es : Array MapEntry} {m : List (ByteArray × PV)} (ht : P.underlying t = some .string) (hl : es.size = m.length)
    (hk : ∀ (i : Nat) (e : MapEntry) (y : ByteArray × PV), es[i]? = some e → m[i]? = some y → e.key = .string y.1) :
    (Instr.findKey t (.string k) es.toList).run P w = .ok (match mIdx m k with | some j => (es[j]?).map fun e => (j, e.val) | none => none) w := by
  unfold Instr.findKey
  simp only [Sem.run_bind, run_underlying ht, Result.andThen_ok]
  rw [findNow_s k es.toList m 0 (by simpa using hl) (fun j e y h1 h2 => hk j e y (by simpa using h1) h2)]
  simp only [Sem.run_pure]
  cases mIdx m k with
  | none => rfl
  | some j => simp
theorem run_mkm {t : Nat} (hH : HRep γ Per H w) : ∃ v w' γ', (Instr.makeMap t none).run P w = .ok v w' ∧ HRep γ' Per (H.new (.map [])) w' ∧ More γ Per w γ' Per w' ∧ AR γ' Per w' (.hd H.nx) v := by
  obtain ⟨r1, r2⟩ := hH.alloc (.map #[] 0) (o := .map []) (v := .map (some w.heap.size)) rfl
    (.map [] w.heap.size #[] (heap_alloc_new w _) rfl (fun i e h => by simp at h) (fun i e y h => by simp at h))
  exact ⟨.map (some w.heap.size), _, _, by simp only [Instr.makeMap, Sem.run_bind, newObj, Sem.run, Sem.run_pure, Result.andThen_ok]; rfl, r1, r2, .hd _ _ (by simp [newHan]) rfl⟩
theorem run_lkp {t E r : Nat} {m : List (ByteArray × PV)} {v : Value} {k : ByteArray} {z : PV} (ht : MapIs P t E) (hz : ZeroIs P E z) (hH : HRep γ Per H w) (hg : H.get r = some (.map m)) (hx : γ r = some v) (ok : Bool) :
    ∃ u, (Instr.lookup t v (.string k) ok).run P w = .ok u w ∧ AR γ Per w (.p (if ok then .tup [(mGet m k).getD z, .v (.bool (mGet m k).isSome)] else (mGet m k).getD z)) u := by
  obtain ⟨K, t1, t2⟩ := ht
  obtain ⟨b, es, rfl, hh, hl, hborn, hks⟩ := hH.map_ hg hx
  obtain ⟨i, zv, h1, h2, _, _, h5⟩ := hz
  have hf := run_findS (P := P) (w := w) (k := k) t2 hl (fun i e y h1 h2 => (hks i e y h1 h2).1)
  have fin : ∀ (x : PV) (u : Value) (o : Bool), VP Per w x u → AR γ Per w (.p (if ok then .tup [x, .v (.bool o)] else x)) (if ok then .tuple #[u, .bool o] else u) := by
    intro x u o hxu
    cases ok with
    | false => exact .p _ _ hxu
    | true =>
      refine .p _ _ (.tup [x, .v (.bool o)] [u, .bool o] rfl (fun j c hc => ?_))
      match j, hc with
      | 0, hc => simp at hc; subst hc; exact hxu
      | 1, hc => simp at hc; subst hc; exact .v _
  unfold Instr.lookup
  simp only [Sem.run_bind, run_underlying t1, Result.andThen_ok, run_getMap hh, Sem.run_pure, run_checkS t2]
  rw [hf]
  cases hm : mIdx m k with
  | none =>
    rw [mIdx_none hm]
    simp only [Result.andThen_ok, zeroValue, typeInfo, Sem.run_bind, program, Sem.run, h1, h2, Sem.run_pure]
    refine ⟨_, rfl, ?_⟩
    simpa using fin z zv false (h5 Per w)
  | some j =>
    obtain ⟨x, hx1, hx2⟩ := mIdx_get hm
    rw [hx2]
    have hj : j < es.size := by rw [hl]; exact (List.getElem?_eq_some_iff.1 hx1).1
    have he : es[j]? = some es[j] := Array.getElem?_eq_getElem hj
    simp only [he, Option.map_some, Result.andThen_ok, Sem.run_pure]
    refine ⟨_, rfl, ?_⟩
    simpa using fin x es[j].val true (hks j _ _ he hx1).2
theorem run_mup {t E r : Nat} {m : List (ByteArray × PV)} {v u : Value} {k : ByteArray} {x : PV} (ht : MapIs P t E) (hH : HRep γ Per H w) (hg : H.get r = some (.map m)) (hx : γ r = some v) (hu : VP Per w x u) :
    ∃ w', (Instr.mapUpdate t v (.string k) u).run P w = .ok () w' ∧ HRep γ Per (H.set r (.map (mSet m k x))) w' ∧ More γ Per w γ Per w' := by
  obtain ⟨K, t1, t2⟩ := ht
  obtain ⟨b, es, rfl, hh, hl, hborn, hks⟩ := hH.map_ hg hx
  have hown := hH.own r _ _ b hg hx rfl
  have hf := run_findS (P := P) (w := w) (k := k) t2 hl (fun i e y h1 h2 => (hks i e y h1 h2).1)
  have hM : ∀ o : Obj, More γ Per w γ Per { w with heap := w.heap.setIfInBounds b o } := fun o => ⟨fun _ _ h => h, fun _ h => h, fun k hk => Array.getElem?_setIfInBounds_ne (fun e => hown.2 (by rw [e]; exact hk)), by simp, rfl, rfl, rfl⟩
  have hset : ∀ o : Obj, (setObj b o).run P w = .ok () { w with heap := w.heap.setIfInBounds b o } := fun o => by simp [setObj, Sem.run, hh]
  have hat : ∀ o : Obj, (w.heap.setIfInBounds b o)[b]? = some o := fun o => by rw [Array.getElem?_setIfInBounds_self_of_lt hown.1]
  have hre : ∀ (o : Obj) (o' : AObj), OR γ Per { w with heap := w.heap.setIfInBounds b o } o' (.map (some b)) → HRep γ Per (H.set r o') { w with heap := w.heap.setIfInBounds b o } :=
    fun o o' h => hH.upd hg hx rfl (fun k hk => Array.getElem?_setIfInBounds_ne (Ne.symm hk)) (by simp) (hM o) h
  unfold Instr.mapUpdate
  simp only [Sem.run_bind, run_underlying t1, Result.andThen_ok, run_getMap hh, run_checkS t2]
  rw [hf]
  unfold mSet
  cases hm : mIdx m k with
  | none =>
    simp only [Result.andThen_ok, hset]
    refine ⟨_, rfl, hre _ _ (.map _ b (es.push { key := .string k, val := u, born := es.size }) (by rw [Array.size_push]; exact hat _) (by simp [hl]) (fun i e he => ?_) (fun i e y he hy => ?_)), hM _⟩
    · rw [Array.getElem?_push] at he
      split at he
      · rename_i e'; injection he with he; subst he; exact e'.symm
      · exact hborn i e he
    · rw [Array.getElem?_push] at he
      split at he
      · rename_i e'
        injection he with he; subst he; subst e'
        rw [hl, List.getElem?_append_right (by omega)] at hy
        simp at hy; subst hy
        exact ⟨rfl, hu.mono (hM _)⟩
      · rename_i e'
        have hi : i < es.size := (Array.getElem?_eq_some_iff.1 he).1
        rw [List.getElem?_append_left (by omega)] at hy
        exact ⟨(hks i e y he hy).1, (hks i e y he hy).2.mono (hM _)⟩
  | some j =>
    obtain ⟨x0, hx1, hx2⟩ := mIdx_get hm
    have hj : j < es.size := by rw [hl]; exact (List.getElem?_eq_some_iff.1 hx1).1
    have he : es[j]? = some es[j] := Array.getElem?_eq_getElem hj
    have hk0 : es[j].key = .string k := (hks j _ _ he hx1).1
    have hsame : Instr.sameBits 10000 (.string k) (.string k) = true := by
      rw [show (10000 : Nat) = 9999 + 1 from rfl]; unfold Instr.sameBits; simp
    simp only [he, Option.map_some, Result.andThen_ok, Option.getD_some, hk0, Instr.keyThatStays, hsame, if_true, Sem.run_bind, Sem.run_pure, hset]
    refine ⟨_, rfl, hre _ _ (.map _ b (es.modify j fun e => { e with key := .string k, val := u }) (by rw [Array.size_modify]; exact hat _) (by simp [hl]) (fun i e he => ?_) (fun i e y he hy => ?_)), hM _⟩
    · rw [Array.getElem?_modify] at he
      split at he
      · rename_i e'
        rw [Option.map_eq_some_iff] at he
        obtain ⟨e0, he0, rfl⟩ := he
        exact hborn i e0 he0
      · exact hborn i e he
    · rw [Array.getElem?_modify] at he
      rw [List.getElem?_set] at hy
      by_cases hij : j = i
      · subst hij
        rw [if_pos rfl] at he
        rw [if_pos rfl, if_pos (by omega)] at hy
        rw [Option.map_eq_some_iff] at he
        obtain ⟨e0, he0, rfl⟩ := he
        injection hy with hy; subst hy
        exact ⟨rfl, hu.mono (hM _)⟩
      · rw [if_neg hij] at he hy
        exact ⟨(hks i e y he hy).1, (hks i e y he hy).2.mono (hM _)⟩
theorem run_rng {t K E r : Nat} {m : List (ByteArray × PV)} {v : Value} (ht : P.underlying t = some (.map K E)) (hH : HRep γ Per H w) (hg : H.get r = some (.map m)) (hx : γ r = some v) :
    ∃ u w' γ', (Instr.range t v).run P w = .ok u w' ∧ HRep γ' Per (H.new (.iter r [] m.length)) w' ∧ More γ Per w γ' Per w' ∧ AR γ' Per w' (.hd H.nx) u := by
  obtain ⟨b, es, rfl, hh, hl, hborn, hks⟩ := hH.map_ hg hx
  have hne : r ≠ H.nx := Nat.ne_of_lt (hH.lt r _ hx)
  obtain ⟨r1, r2⟩ := hH.alloc (.mapIter (some b) es.size #[] es.size) (o := .iter r [] m.length) (v := .pointer (some ⟨w.heap.size, 0, none⟩)) rfl
    (.iter r [] m.length w.heap.size b (by rw [← hl]; exact heap_alloc_new w _) (by simp [newHan, hne, hx]) (fun i hi => by simp at hi))
  exact ⟨_, _, _, run_range_map w t K E b es es.size ht hh, r1, r2, .hd _ _ (by simp [newHan]) rfl⟩
theorem HRep.iter_ {r mi n : Nat} {seen : List Nat} {v : Value} (hH : HRep γ Per H w) (hg : H.get r = some (.iter mi seen n)) (hx : γ r = some v) :
    ∃ (b bm : Nat), v = .pointer (some ⟨b, 0, none⟩) ∧ w.heap[b]? = some (.mapIter (some bm) n seen.toArray n) ∧ γ mi = some (.map (some bm)) ∧ (∀ i ∈ seen, i < n) := by
  obtain ⟨v', h1, h2⟩ := hH.obj r _ hg
  rw [hx] at h1; injection h1 with h1; subst h1
  cases h2 with
  | iter _ _ _ b bm hh hm hs => exact ⟨b, bm, rfl, hh, hm, hs⟩
theorem run_nxt {r mi ty : Nat} {seen : List Nat} {m : List (ByteArray × PV)} {v : Value} (hH : HRep γ Per H w) (hg : H.get r = some (.iter mi seen m.length)) (hm : H.get mi = some (.map m)) (hx : γ r = some v) :
    ((∀ i, i < m.length → i ∈ seen) ∧ (Instr.next v false ty).run P w = .ok (.tuple #[.bool false]) w) ∨
    ∃ i y, m[i]? = some y ∧ i ∉ seen ∧ ∃ u w', (Instr.next v false ty).run P w = .ok u w' ∧ AR γ Per w' (.p (.tup [.v (.bool true), .v (.string y.1), y.2])) u ∧ HRep γ Per (H.set r (.iter mi (seen ++ [i]) m.length)) w' ∧ More γ Per w γ Per w' := by
  obtain ⟨b, bm, rfl, hh, hmi, hs⟩ := hH.iter_ hg hx
  obtain ⟨bm', es, e, hhm, hl, hborn, hks⟩ := hH.map_ hm hmi
  injection e with e; injection e with e; subst e
  have hold : ∀ x ∈ es.toList, x.born < m.length := by
    intro x hx'
    obtain ⟨i, hi⟩ := List.mem_iff_getElem?.1 hx'
    have hi' : es[i]? = some x := by simpa using hi
    rw [hborn i x hi', ← hl]; exact (Array.getElem?_eq_some_iff.1 hi').1
  have hown := hH.own r _ _ b hg hx rfl
  rcases run_next_at (P := P) w ty b bm m.length m.length seen.toArray es es.size hh hhm hold (Nat.le_refl _) with ⟨h0, hr⟩ | ⟨e, he, w1, hw1, hr⟩
  · refine .inl ⟨fun i hi => ?_, hr⟩
    have hi' : i < es.size := by omega
    have hmem : es[i] ∈ es := Array.getElem_mem hi'
    have hemp : leftOf es seen.toArray = #[] := Array.eq_empty_of_size_eq_zero h0
    unfold leftOf at hemp
    rw [Array.filter_eq_empty_iff] at hemp
    have := hemp es[i] hmem
    have hb := hborn i es[i] (Array.getElem?_eq_getElem hi')
    rw [hb] at this
    simpa using this
  · have he' : e ∈ es.toList ∧ e.born ∉ seen := by
      unfold leftOf at he
      simp at he
      exact ⟨by simpa using he.1, by simpa using he.2⟩
    obtain ⟨i, hi⟩ := List.mem_iff_getElem?.1 he'.1
    have hi' : es[i]? = some e := by simpa using hi
    have hb := hborn i e hi'
    have hil : i < m.length := by rw [← hl]; exact (Array.getElem?_eq_some_iff.1 hi').1
    have hmy : m[i]? = some m[i] := List.getElem?_eq_getElem hil
    obtain ⟨k1, k2⟩ := hks i e _ hi' hmy
    have hw1h : w1.heap = w.heap ∧ w1.os = w.os ∧ w1.tape = w.tape ∧ w1.output = w.output := by rcases hw1 with rfl | rfl <;> exact ⟨rfl, rfl, rfl, rfl⟩
    have hblt : b < w1.heap.size := by rw [hw1h.1]; exact hown.1
    have hM : More γ Per w γ Per (ChangeMaps.setBlock w1 b (.mapIter (some bm) m.length (seen.toArray.push e.born) es.size)) :=
      ⟨fun _ _ h => h, fun _ h => h, fun k hk => by
        show (w1.heap.setIfInBounds b _)[k]? = _
        rw [Array.getElem?_setIfInBounds_ne (fun e => hown.2 (by rw [e]; exact hk)), hw1h.1], by simp [ChangeMaps.setBlock, hw1h.1], hw1h.2.1, hw1h.2.2.1, hw1h.2.2.2⟩
    refine .inr ⟨i, m[i], hmy, by rw [← hb]; exact he'.2, _, _, hr, ?_, ?_, hM⟩
    · refine .p _ _ (.tup [.v (.bool true), .v (.string m[i].1), m[i].2] [.bool true, e.key, e.val] rfl (fun j c hc => ?_))
      match j, hc with
      | 0, hc => simp at hc; subst hc; exact .v _
      | 1, hc => simp at hc; subst hc; rw [k1]; exact .v _
      | 2, hc => simp at hc; subst hc; exact k2.mono hM
    · refine hH.upd hg hx rfl (fun k hk => ?_) (by simp [ChangeMaps.setBlock, hw1h.1]) hM (.iter mi _ m.length b bm ?_ hmi (fun j hj => ?_))
      · show (w1.heap.setIfInBounds b _)[k]? = _
        rw [Array.getElem?_setIfInBounds_ne (Ne.symm hk), hw1h.1]
      · show (w1.heap.setIfInBounds b _)[b]? = _
        rw [Array.getElem?_setIfInBounds_self_of_lt hblt, hb, hl]
        simp
      · rcases List.mem_append.1 hj with h | h
        · exact hs j h
        · simp at h; omega
theorem run_ent {r mi i : Nat} {seen : List Nat} {m : List (ByteArray × PV)} {v : Value} {y : ByteArray × PV} (hH : HRep γ Per H w) (hg : H.get r = some (.iter mi (seen ++ [i]) m.length)) (hm : H.get mi = some (.map m)) (hx : γ r = some v) (hy : m[i]? = some y) :
    ∃ u, (Instr.entry v).run P w = .ok u w ∧ AR γ Per w (.p (.tup [.v (.string y.1), y.2])) u := by
  obtain ⟨b, bm, rfl, hh, hmi, hs⟩ := hH.iter_ hg hx
  obtain ⟨bm', es, e, hhm, hl, hborn, hks⟩ := hH.map_ hm hmi
  injection e with e; injection e with e; subst e
  have hi : i < es.size := by rw [hl]; exact (List.getElem?_eq_some_iff.1 hy).1
  have he : es[i]? = some es[i] := Array.getElem?_eq_getElem hi
  obtain ⟨k1, k2⟩ := hks i _ _ he hy
  have hb := hborn i _ he
  have hf : es.find? (·.born == i) = some es[i] := by
    rw [Array.find?_eq_some_iff_getElem]
    refine ⟨by simp [hb], i, hi, rfl, fun j hj => ?_⟩
    have := hborn j es[j] (Array.getElem?_eq_getElem (by omega))
    simp [this]; omega
  have hbk : (seen ++ [i]).toArray.back? = some i := by simp
  refine ⟨.tuple #[es[i].key, es[i].val], ?_, ?_⟩
  · simp only [Instr.entry, getObj, Sem.run_bind, Sem.run, hh, Result.andThen, hhm, hbk, hf, hl, bne_self_eq_false, Bool.false_eq_true, if_false]
    rfl
  · refine .p _ _ (.tup [.v (.string y.1), y.2] [es[i].key, es[i].val] rfl (fun j c hc => ?_))
    match j, hc with
    | 0, hc => simp at hc; subst hc; rw [k1]; exact .v _
    | 1, hc => simp at hc; subst hc; exact k2
def frzA (H : AHeap) : AV → Option (Nat × PV)
  | .hd r => match H.get r with | some (.row _ _ es) => (allP es).map fun ps => (r, .sl ps) | _ => none
  | .ss r o n k => match H.get r with | some (.row _ k' es) => if k' = k ∧ o + n ≤ es.length then (allP ((es.drop o).take n)).map fun ps => (r, .sl ps) else none | _ => none
  | .pb r 0 => match H.get r with | some (.box _ (.p y)) => some (r, .ref y) | _ => none
  | _ => none
theorem HRep.frz (hH : HRep γ Per H w) {r : Nat} {o : AObj} {v : Value} (hg : H.get r = some o) (hx : γ r = some v) :
    HRep γ (fun b => Per b ∨ hblk v = some b) (H.del r) w ∧ More γ Per w γ (fun b => Per b ∨ hblk v = some b) w := by
  have hM : More γ Per w γ (fun b => Per b ∨ hblk v = some b) w := ⟨fun _ _ h => h, fun _ h => .inl h, fun _ _ => rfl, Nat.le_refl _, rfl, rfl, rfl⟩
  have hd : ∀ {j : Nat} {oj : AObj}, (H.del r).get j = some oj → H.get j = some oj ∧ j ≠ r := by
    intro j oj hj
    simp only [AHeap.del] at hj
    split at hj
    · cases hj
    · exact ⟨hj, by assumption⟩
  refine ⟨⟨fun j oj hj => ?_, hH.lt, fun j oj vj b hj h1 h2 => ?_, fun i j oi oj vi vj b hi hj => hH.inj i j oi oj vi vj b (hd hi).1 (hd hj).1, fun b hb => ?_, glob_keep hM hH.glob⟩, hM⟩
  · obtain ⟨vj, h1, h2⟩ := hH.obj j oj (hd hj).1
    exact ⟨vj, h1, h2.keep hM (fun _ _ => rfl)⟩
  · have := hH.own j oj vj b (hd hj).1 h1 h2
    exact ⟨this.1, fun hp => hp.elim this.2 (fun e => (hd hj).2 (hH.inj j r oj o vj v b (hd hj).1 hg h1 hx h2 e))⟩
  · rcases hb with hb | hb
    · exact hH.per b hb
    · exact (hH.own r o v b hg hx hb).1
theorem frz_ok {x : AV} {u : Value} {r : Nat} {y : PV} (hH : HRep γ Per H w) (hx : AR γ Per w x u) (hz : frzA H x = some (r, y)) :
    ∃ Per', HRep γ Per' (H.del r) w ∧ More γ Per w γ Per' w ∧ VP Per' w y u := by
  have row : ∀ {i E k : Nat} {es : List AV} {v : Value}, H.get i = some (.row E k es) → γ i = some v → ∀ (u : Value) (o n c : Nat) (ad : Option Addr) (ps : List PV), u = .slice ad n c → n ≤ c → c ≤ maxLen → (0 < n → ∃ b cap, v = .slice (some ⟨b, 0, none⟩) es.length cap ∧ ad = some ⟨b, o * k, none⟩) →
      o + n ≤ es.length → allP ((es.drop o).take n) = some ps → ∃ Per', HRep γ Per' (H.del i) w ∧ More γ Per w γ Per' w ∧ VP Per' w (.sl ps) u := by
    intro i E k es v hg hγ u o n c ad ps hu hnc hcm had hle hps
    subst hu
    obtain ⟨h1, h2⟩ := hH.frz hg hγ
    obtain ⟨xs, hown, hone, hkk, hp, hel⟩ := hH.row_ hg hγ
    refine ⟨_, h1, h2, ?_⟩
    have hl := congrArg List.length (allP_get hps)
    have hlen : ps.length = n := by simp at hl; omega
    have hwid : ∀ e ∈ ps, e.wid = k := by
      intro e he
      have : AV.p e ∈ (es.drop o).take n := by rw [allP_get hps]; exact List.mem_map.2 ⟨e, he, rfl⟩
      exact hkk _ (List.mem_of_mem_drop (List.mem_of_mem_take this))
    have q1 : (o + n) * k ≤ es.length * k := Nat.mul_le_mul_right k hle
    rw [Nat.add_mul] at q1
    have hxl := hown.1
    have e0 : (Value.slice ad n c) = .slice ad ps.length c := by rw [hlen]
    rw [e0]
    refine .sl ps ad c k (fun j => xs.getD (o * k + j) undef) (by omega) hcm (fun j hj => ?_) hwid (.inl hp) (fun j e he => ?_)
    · rw [hlen] at hj
      obtain ⟨b, cap, rfl, rfl⟩ := had (by rcases Nat.eq_zero_or_pos n with h | h; subst h; simp at hj; exact h)
      rcases hown.2 with ⟨e, _⟩ | ⟨b', cap', cur, e, _, hh, _, _, _, htk⟩
      · cases e
      · injection e with e _ _; injection e with e; injection e with e; subst e
        have hlt : o * k + j < xs.length := by omega
        have hx : xs[o * k + j]? = some xs[o * k + j] := List.getElem?_eq_getElem hlt
        have := ownsRow_cell hh htk hx
        rw [add_plain, Nat.zero_add] at this
        refine ⟨_, rfl, .inr rfl, by rw [List.getD, hx]; exact hone _ (List.getElem_mem _), ?_⟩
        rw [add_plain, this, List.getD, hx]; rfl
    · have hj := (List.getElem?_eq_some_iff.1 he).1
      have hee : es[o + j]? = some (.p e) := by
        have : ((es.drop o).take n)[j]? = some (.p e) := by rw [allP_get hps, List.getElem?_map, he]; rfl
        rw [List.getElem?_take, if_pos (by omega), List.getElem?_drop] at this; exact this
      have := ((hel _ _ hee).mono h2).pv
      refine cast ?_ this
      show VP _ w e (packN e.isAgg e.wid _ _) = VP _ w e (packN e.isAgg e.wid _ _)
      congr 1
      rw [← packN_off e.isAgg e.wid (fun j => xs.getD j undef) ((o + j) * k), ← packN_off e.isAgg e.wid (fun j => xs.getD (o * k + j) undef) (j * k)]
      refine packN_congr (fun q hq => ?_) (fun hf => pv_wid_pos hf)
      simp only [Nat.add_mul, Nat.add_assoc]
  cases x with
  | hd i =>
    simp only [frzA] at hz
    split at hz
    · rename_i E k es hg
      simp only [Option.map_eq_some_iff, Prod.mk.injEq] at hz
      obtain ⟨ps, hps, rfl, rfl⟩ := hz
      cases hx with
      | hd _ _ hγ h1 =>
        obtain ⟨xs, hown, hone, hkk, hp, hel⟩ := hH.row_ hg hγ
        rcases hown.2 with ⟨rfl, h0⟩ | ⟨b, cap, cur, rfl, _, _, hnc, hcm, _⟩
        · exact row hg hγ _ 0 0 0 none ps rfl (Nat.le_refl _) (by simp) (fun h => by omega) (by omega) (by have : es = [] := List.eq_nil_of_length_eq_zero h0; subst this; simpa using hps)
        · exact row hg hγ _ 0 es.length cap _ ps rfl hnc hcm (fun _ => ⟨b, cap, rfl, by simp⟩) (by omega) (by simpa using hps)
    · cases hz
  | ss i o n k =>
    simp only [frzA] at hz
    split at hz
    · rename_i E k' es hg
      split at hz
      · rename_i hle
        obtain ⟨hkk', hle⟩ := hle
        simp only [Option.map_eq_some_iff, Prod.mk.injEq] at hz
        obtain ⟨ps, hps, rfl, rfl⟩ := hz
        cases hx with
        | ss _ _ _ _ len cap c ad a hγ hl hc ha =>
          obtain ⟨xs, hown, hone, hkk, hp, hel⟩ := hH.row_ hg hγ
          have hcap : cap ≤ maxLen := by
            rcases hown.2 with ⟨e, _⟩ | ⟨b', cap', cur, e, _, _, _, hcm, _⟩
            · injection e with _ _ e; subst e; simp
            · injection e with _ _ e; subst e; exact hcm
          rcases Nat.eq_zero_or_pos n with h0 | h0
          · subst h0
            exact row hg hγ _ o 0 c a ps rfl (by omega) (by omega) (fun h => by omega) hle hps
          · obtain ⟨b, rfl, rfl⟩ := ha (by omega)
            rcases hown.2 with ⟨e, _⟩ | ⟨b', cap', cur, e, _, _, _, hcm, _⟩
            · cases e
            · injection e with e1 e2 e3
              subst e2
              subst hkk'
              exact row hg hγ _ o n c _ ps rfl (by omega) (by omega) (fun _ => ⟨b, cap, rfl, rfl⟩) hle hps
      · cases hz
    · cases hz
  | pb i o =>
    cases o with
    | succ o => simp [frzA] at hz
    | zero =>
      simp only [frzA] at hz
      split at hz
      · rename_i T y' hg
        simp only [Option.some.injEq, Prod.mk.injEq] at hz
        obtain ⟨rfl, rfl⟩ := hz
        cases hx with
        | pb _ _ b hγ =>
          obtain ⟨b', cs, e, hh, hone, hk, he⟩ := hH.box_ hg hγ
          injection e with e; injection e with e; injection e with e; subst e
          obtain ⟨h1, h2⟩ := hH.frz hg hγ
          refine ⟨_, h1, h2, .ref y' _ (fun j => cs.getD j undef) (fun j hj => ⟨.inr rfl, ?_, ?_⟩) (he.pv.mono h2)⟩
          · rw [List.getD, List.getElem?_eq_getElem (by rw [hk]; exact hj)]; exact hone _ (List.getElem_mem _)
          · rw [add_plain, Nat.zero_add]
            have := cell_at hh (j := j) (by simp; rw [hk]; exact hj)
            simpa using this
      · cases hz
  | _ => simp [frzA] at hz
end
end Bh
namespace Bh
open Go
abbrev fw (ro : Option Nat) : Fence := { Fence.wide with round := ro }
def Enters (P : Program) (f : FuncId) : Prop := ∀ (args : Array Value) (w : World), (callFunc f args).run P w = .ok (.enter f args) w
abbrev YS := Nat → List AV → AHeap → (AV → AHeap → Prop) → Prop
def OKY (P : Program) (Y : YS) (γ : Han) (Per : Nat → Prop) (w : World) : Prop := ∀ i xs H Post, Y i xs H Post → ∀ (γ1 : Han) (Per1 : Nat → Prop) (w1 : World) (v : Value) (vs : List Value), More γ Per w γ1 Per1 w1 → HRep γ1 Per1 H w1 → γ1 i = some v → ARs γ1 Per1 w1 xs vs →
  ∃ l, v = .func (.yield l) #[] #[] ∧ YieldAt Fence.wide 0 P l vs.toArray w1 fun e w' => ∃ v' r H' γ' Per', e = .returned v' ∧ Post r H' ∧ AR γ' Per' w' r v' ∧ HRep γ' Per' H' w' ∧ More γ1 Per1 w1 γ' Per' w'
def noY : YS := fun _ _ _ _ => False
theorem oky_no (P : Program) (γ : Han) (Per : Nat → Prop) (w : World) : OKY P noY γ Per w := fun _ _ _ _ h => h.elim
theorem OKY.mono {P : Program} {Y : YS} {γ γ' : Han} {Per Per' : Nat → Prop} {w w' : World} (h : OKY P Y γ Per w) (hm : More γ Per w γ' Per' w') : OKY P Y γ' Per' w' :=
  fun i xs H Post hy γ1 Per1 w1 v vs hm1 => h i xs H Post hy γ1 Per1 w1 v vs (hm.trans hm1)
theorem OKY.less {P : Program} {Y Y' : YS} {γ : Han} {Per : Nat → Prop} {w : World} (h : OKY P Y γ Per w) (hl : ∀ i xs H Post, Y' i xs H Post → Y i xs H Post) : OKY P Y' γ Per w := fun i xs H Post hy => h i xs H Post (hl i xs H Post hy)
def HCall (P : Program) (Y : YS) (f : FuncId) (args : List AV) (H : AHeap) (Post : AV → AHeap → Prop) : Prop :=
  Enters P f ∧ ∀ (γ : Han) (Per : Nat → Prop) (w : World) (vs : List Value), OKY P Y γ Per w → HRep γ Per H w → ARs γ Per w args vs →
    Calls P f vs.toArray w fun e w' => ∃ v r H' γ' Per', e = .returned v ∧ Post r H' ∧ AR γ' Per' w' r v ∧ HRep γ' Per' H' w' ∧ More γ Per w γ' Per' w'
def PCall (P : Program) (f : FuncId) (args : List PV) (y : PV) : Prop := ∀ H, HCall P noY f (args.map .p) H fun r H' => r = .p y ∧ H' = H
theorem HCall.less {P : Program} {Y Y' : YS} {f : FuncId} {args : List AV} {H : AHeap} {Post : AV → AHeap → Prop} (h : HCall P Y' f args H Post) (hl : ∀ i xs H Post, Y' i xs H Post → Y i xs H Post) : HCall P Y f args H Post :=
  ⟨h.1, fun γ Per w vs hy => h.2 γ Per w vs (hy.less hl)⟩
theorem HCall.noY {P : Program} {Y : YS} {f : FuncId} {args : List AV} {H : AHeap} {Post : AV → AHeap → Prop} (h : HCall P noY f args H Post) : HCall P Y f args H Post := h.less fun _ _ _ _ h => h.elim
theorem HCall.post {P : Program} {Y : YS} {f : FuncId} {args : List AV} {H : AHeap} {Post Post' : AV → AHeap → Prop} (h : HCall P Y f args H Post) (hp : ∀ r H', Post r H' → Post' r H') : HCall P Y f args H Post' :=
  ⟨h.1, fun γ Per w vs hy hH ha => (h.2 γ Per w vs hy hH ha).mono fun e w' ⟨v, r, H', γ', Per', h1, h2, h3⟩ => ⟨v, r, H', γ', Per', h1, hp _ _ h2, h3⟩⟩
inductive AK where
  | mv | pick
  | ext (i : Nat)
  | bin (op : BinOp)
  | eqb (neg : Bool)
  | un (op : UnOp)
  | conv (k : IntKind)
  | load (agg : Bool) (m : Nat)
  | store (m : Nat)
  | fld (off : Nat) (agg : Bool) (m : Nat)
  | sub (off : Nat) (agg : Bool) (m : Nat)
  | idx (k : Nat)
  | len (str : Bool)
  | mlen
  | slice (k : Nat) (lo hi : Bool)
  | alloc (T : Nat)
  | box (per : Bool) (T : Nat)
  | mks (E k bytes : Nat)
  | bsl (own : Bool) (E k : Nat)
  | app (E k bytes : Nat)
  | build (T : Nat) (parts : List (Nat × Nat × Nat))
  | call (hp : Bool)
  | mkf (f : Nat)
  | mn | mx
  | eqn (neg : Bool)
  | eqp (neg : Bool)
  | nilc | sidx
  | mkm
  | lkp (ok : Bool) (E : Nat)
  | mup
  | rng | nxt | ent
  | loadp (agg : Bool) (m : Nat)
  | idxp (k : Nat)
  | lenp
  | slicep (k : Nat) (lo hi : Bool)
  | calln
  | clrs (E k : Nat)
  | appf (E k bytes : Nat)
structure AOp where
  dst : Option Nat
  guard : Option (Nat × Bool)
  k : AK
  xs : List Operand
inductive Res where
  | v (x : AV)
  | new (pb : Bool) (o : AObj)
  | st (i : Nat) (o : AObj)
  | app (i : Nat) (o : AObj)
  | apf (i : Option Nat) (o : AObj) (y : PV)
  | call (f : FuncId) (args : List PV)
  | callH (f : FuncId) (args : List AV)
  | callN (f : FuncId) (args : List AV)
  | yld (i : Nat) (args : List AV)
  | nd (e : Bool) (neg : Bool)
  | nxt (i mi n : Nat) (seen : List Nat) (m : List (ByteArray × PV))
  | no
def onV (x : AV) (f : Value → Res) : Res := match x with | .p (.v u) => f u | _ => .no
def onI (x : AV) (f : IntKind → Int → Res) : Res := match x with | .p (.v (.int k z)) => f k z | _ => .no
def onB (x : AV) (f : Bool → Res) : Res := match x with | .p (.v (.bool b)) => f b | _ => .no
def onS (x : AV) (f : ByteArray → Res) : Res := match x with | .p (.v (.string b)) => f b | _ => .no
def onP (x : AV) (f : PV → Res) : Res := match x with | .p y => f y | _ => .no
def onO {α : Type} (x : Option α) (f : α → Res) : Res := match x with | some a => f a | none => .no
def onM (H : AHeap) (x : AV) (f : Nat → List (ByteArray × PV) → Res) : Res := match x with | .hd r => (match H.get r with | some (.map m) => f r m | _ => .no) | _ => .no
def onIt (H : AHeap) (x : AV) (f : Nat → Nat → List Nat → Nat → List (ByteArray × PV) → Res) : Res := match x with
  | .hd r => (match H.get r with | some (.iter mi seen n) => (match H.get mi with | some (.map m) => f r mi seen n m | _ => .no) | _ => .no)
  | _ => .no
def chkR (c : Prop) [Decidable c] (r : Res) : Res := if c then r else .no
def ofZ : Value → PV
  | .agg cs => .agg (cs.toList.map .v)
  | x => .v x
def zeroT (P : Program) (T : TypeId) : PV := match (P.info? T).bind (·.zero) with | some z => ofZ z | none => .any
def allW (k : Nat) (ys : List PV) : Bool := ys.all fun y => y.wid == k
def allO (ys : List PV) : Bool := ys.all fun y => y.ok1
def allWA (k : Nat) (ys : List AV) : Bool := ys.all fun y => y.wid == k
def allOA (ys : List AV) : Bool := ys.all fun y => y.ok1
def partsOK (ps : List (Nat × Nat × Nat)) (ys : List AV) : Bool := ps.length == ys.length && (ps.zip ys).all fun q => q.2.wid == q.1.2.2 && q.2.ok1
def buildV (zc : PV) (ps : List (Nat × Nat × Nat)) (ys : List AV) : Option AV :=
  match zc with
  | .agg zc => some (mkAg ((ps.zip ys).foldl (fun cs q => spl cs q.1.2.1 q.2.cells) (zc.map .p)))
  | _ => none
def semNil : AV → Option AV
  | .p (.ref y) => some (.p (.ref y))
  | .pb i o => some (.pb i o)
  | .pe i n k o => some (.pe i n k o)
  | _ => none
def semSidx (x i : AV) : Res := onS x fun b => onI i fun _ z => chkR (0 ≤ z) (if h : z.toNat < b.size then .v (.p (.v (.int .u8 (b[z.toNat]'h).toNat))) else .no)
def semApp (H : AHeap) (E k bytes : Nat) (x y : AV) : Res :=
  onO (slV H k y) fun ys => match x with
    | .p (.v (.slice none 0 0)) => chkR (ys.length * bytes ≤ 140737488355328) (.new false (.row E k ys))
    | .hd r => (match H.get r with | some (.row E' k' es) => chkR (E' = E ∧ k' = k) (chkR ((es.length + ys.length) * bytes ≤ 140737488355328) (.app r (.row E k (es ++ ys)))) | _ => .no)
    | _ => .no
def semCall (hp : Bool) (f : AV) (l : List AV) : Res :=
  match f with
  | .p (.clo g caps) => if hp then .callH g (l ++ caps.map .p) else onO (allP l) fun ys => .call g (ys ++ caps)
  | .cl g caps => if hp then .callH g (l ++ caps) else .no
  | .hd i => if hp then .yld i l else .no
  | _ => .no
def semCallN (f : AV) (l : List AV) : Res :=
  match f with
  | .p (.clo g caps) => .callN g (l ++ caps.map .p)
  | .cl g caps => .callN g (l ++ caps)
  | _ => .no
def eH : AHeap := ⟨fun _ => none, 0⟩
def mkClo (f : Nat) (l : List AV) : AV := match allP l with | some ys => .p (.clo f ys) | none => .cl f l
def r1 (f : AV → Res) : List AV → Res | [x] => f x | _ => .no
def r2 (f : AV → AV → Res) : List AV → Res | [x, y] => f x y | _ => .no
def r3 (f : AV → AV → AV → Res) : List AV → Res | [x, y, z] => f x y z | _ => .no
def rC (f : AV → List AV → Res) : List AV → Res | x :: l => f x l | _ => .no
def sliceArgs (lo hi : Bool) (l : List AV) (f : Option AV → Option AV → Res) : Res :=
  match lo, hi, l with
  | false, false, [] => f none none
  | true, false, [a] => f (some a) none
  | false, true, [a] => f none (some a)
  | true, true, [a, b] => f (some a) (some b)
  | _, _, _ => .no
def semExt (i : Nat) : AV → Option AV
  | .p (.tup xs) => (xs[i]?).map .p
  | .tp xs => xs[i]?
  | _ => none
def semMks (P : Program) (E k bytes : Nat) (x y : AV) : Res := onI x fun _ z => onI y fun _ z' => chkR (z' = z) (chkR (0 ≤ z) (chkR (z ≤ 9223372036854775807) (chkR ((bytes : Int) * z ≤ 281474976710656) (.new false (.row E k (List.replicate z.toNat (.p (zeroT P E))))))))
def semBsl (own : Bool) (E k : Nat) (ys : List AV) : Res :=
  chkR (allWA k ys = true) (chkR (allOA ys = true) (chkR (ys.length * k ≤ 16777216) (if own then .new false (.row E k ys) else onO (allP ys) fun ps => .v (.p (.sl ps)))))
def eqnR (H : AHeap) (neg : Bool) (x : AV) : Res := match x with
  | .p (.v (.slice none 0 0)) => .v (.p (.v (.bool (true != neg))))
  | x => onO (semEqn H x) fun e => .nd e neg
def frzRes : Res → Res
  | .new false (.row E k es) => onO (allP es) fun ps => .apf none (.row E k es) (.sl ps)
  | .app i (.row E k es) => onO (allP es) fun ps => .apf (some i) (.row E k es) (.sl ps)
  | _ => .no
def delO (H : AHeap) : Option Nat → AHeap
  | some i => H.del i
  | none => H
def semClear (P : Program) (H : AHeap) (E k : Nat) (x : AV) : Res := match x with
  | .p (.v (.slice none 0 0)) => .v (.p (.tup []))
  | .hd r => (match H.get r with | some (.row E' k' es) => chkR (E' = E ∧ k' = k) (.st r (.row E k (List.replicate es.length (.p (zeroT P E))))) | _ => .no)
  | .ss r o n k2 => (match H.get r with | some (.row E' k' es) => chkR (E' = E ∧ k' = k ∧ k2 = k ∧ o + n ≤ es.length) (.st r (.row E k (es.take o ++ List.replicate n (.p (zeroT P E)) ++ es.drop (o + n)))) | _ => .no)
  | _ => .no
def sem (P : Program) (k : AK) (args : List AV) (H : AHeap) : Res :=
  match k with
  | .mv => r1 .v args
  | .pick => r3 (fun c x y => onB c fun t => .v (if t then x else y)) args
  | .ext i => r1 (fun x => onO (semExt i x) .v) args
  | .bin op => r2 (fun x y => onV x fun u => onV y fun v => onO (binV op u v) fun z => .v (.p (.v z))) args
  | .eqb neg => r2 (fun x y => onB x fun a => onB y fun b => .v (.p (.v (.bool ((a == b) != neg))))) args
  | .un op => r1 (fun x => onV x fun u => onO (unV op u) fun z => .v (.p (.v z))) args
  | .conv k => r1 (fun x => onI x fun _ z => .v (.p (.v (.int k (k.wrap z))))) args
  | .load agg m => r1 (fun x => onO (semLoad H agg m x) .v) args
  | .store m => r2 (fun x y => onO (semStore H m x y) fun q => .st q.1 q.2) args
  | .fld off agg m => r1 (fun x => onO (semFld off agg m x) .v) args
  | .sub off agg m => r1 (fun x => onO (semSub off agg m x) .v) args
  | .idx k => r2 (fun x i => onO (semIdx H k x i) .v) args
  | .len str => r1 (fun x => if str then onS x fun b => .v (.p (.v (.int .i64 b.size))) else onO (semLen H x) fun n => .v (.p (.v (.int .i64 n)))) args
  | .mlen => r1 (fun x => onM H x fun _ m => .v (.p (.v (.int .i64 m.length)))) args
  | .slice k lo hi => rC (fun x l => sliceArgs lo hi l fun a b => onO (semSlice H k a b x) .v) args
  | .alloc T => .new true (.box T (.p (zeroT P T)))
  | .box per T => r1 (fun x => chkR (x.ok1 = true) (if per then onP x fun y => .v (.p (.ref y)) else .new true (.box T x))) args
  | .mks E k bytes => r2 (semMks P E k bytes) args
  | .bsl own E k => semBsl own E k args
  | .app E k bytes => r2 (semApp H E k bytes) args
  | .build T ps => chkR (partsOK ps args = true) (onO (buildV (zeroT P T) ps args) .v)
  | .call hp => rC (semCall hp) args
  | .mkf f => .v (mkClo f args)
  | .mn => r2 (fun x y => onI x fun k u => onI y fun _ v => .v (.p (.v (.int k (min u v))))) args
  | .mx => r2 (fun x y => onI x fun k u => onI y fun _ v => .v (.p (.v (.int k (max u v))))) args
  | .eqn neg => r1 (eqnR H neg) args
  | .eqp neg => r1 (fun x => onO (semEqp x) fun e => .v (.p (.v (.bool (e != neg))))) args
  | .nilc => r1 (fun x => onO (semNil x) .v) args
  | .sidx => r2 semSidx args
  | .mkm => .new false (.map [])
  | .lkp ok E => r2 (fun x y => onM H x fun _ m => onS y fun k => .v (.p (if ok then .tup [(mGet m k).getD (zeroT P E), .v (.bool (mGet m k).isSome)] else (mGet m k).getD (zeroT P E)))) args
  | .mup => r3 (fun x y z => onM H x fun r m => onS y fun k => onP z fun u => .st r (.map (mSet m k u))) args
  | .rng => r1 (fun x => onM H x fun r m => .new false (.iter r [] m.length)) args
  | .nxt => r1 (fun x => onIt H x fun r mi seen n m => chkR (n = m.length) (.nxt r mi n seen m)) args
  | .ent => r1 (fun x => onIt H x fun r mi seen n m => chkR (n = m.length) (onO seen.getLast? fun i => onO m[i]? fun y => .v (.p (.tup [.v (.string y.1), y.2])))) args
  | .loadp agg m => r1 (fun x => onO (semLoad eH agg m x) .v) args
  | .idxp k => r2 (fun x i => onO (semIdx eH k x i) .v) args
  | .lenp => r1 (fun x => onO (semLen eH x) fun n => .v (.p (.v (.int .i64 n)))) args
  | .slicep k lo hi => rC (fun x l => sliceArgs lo hi l fun a b => onO (semSlice eH k a b x) .v) args
  | .calln => rC semCallN args
  | .clrs E k => r1 (semClear P H E k) args
  | .appf E k bytes => r2 (fun x y => frzRes (semApp H E k bytes x y)) args
def updO (d : Option Nat) (s : AS) (x : AV) : AS := match d with | some d => s.upd d x | none => s
def fin (P : Program) (Y : YS) (d : Option Nat) (s : AS) (H : AHeap) (r : Res) (K : AS → AHeap → Prop) : Prop :=
  match r with
  | .v x => K (updO d s x) H
  | .new pb o => K (updO d s (if pb then .pb H.nx 0 else .hd H.nx)) (H.new o)
  | .st i o => K (updO d s .un) (H.set i o)
  | .app i o => K (updO d s (.hd H.nx)) ((H.del i).new o)
  | .apf i o y => K (updO d s (.p y)) (((delO H i).new o).del H.nx)
  | .call f args => ∃ y, PCall P f args y ∧ K (updO d s (.p y)) H
  | .callH f args => ∃ Post, HCall P Y f args H Post ∧ ∀ r H', Post r H' → K (updO d s r) H'
  | .callN f args => ∃ Post, HCall P Y f args H Post ∧ ∀ r H', Post r H' → K (updO d s r) H'
  | .yld i args => ∃ Post, Y i args H Post ∧ ∀ r H', Post r H' → K (updO d s r) H'
  | .nd e neg => ∀ b : Bool, (b = true → e = true) → K (updO d s (.p (.v (.bool (b != neg))))) H
  | .nxt i mi n seen m => ((∀ j, j < n → j ∈ seen) → K (updO d s (.p (.tup [.v (.bool false)]))) H) ∧
      ∀ j y, m[j]? = some y → j ∉ seen → K (updO d s (.p (.tup [.v (.bool true), .v (.string y.1), y.2]))) (H.set i (.iter mi (seen ++ [j]) n))
  | .no => False
inductive Gh where
  | frz (r : Nat)
  | frzo (r : Nat)
  | nilr (r E k : Nat)
  | sl0 (r : Nat)
  | clr (r : Nat)
structure Hint where
  lits : List Nat
  muts : List Nat
  calls : List Nat
  prs : List Nat
  calln : List Nat
  gh : List (Nat × Nat × Gh)
def sl1 (P : Program) (t : TypeId) : Option (Nat × Nat) := match P.underlying t with
  | some (.slice E) => (tSize P E).map fun k => (E, k)
  | _ => none
def sl3 (P : Program) (t : TypeId) : Option (Nat × Nat × Nat) := match P.underlying t with
  | some (.slice E) => (P.info? E).bind fun i => if 0 < i.size ∧ 0 < i.bytes ∧ (i.zero.map (·.cells.size)) = some i.size then some (E, i.size, i.bytes) else none
  | _ => none
def zOK (P : Program) (T : TypeId) : Bool := match P.info? T with
  | some i => (match i.zero with
    | some (.agg cs) => cs.size == i.size && cs.toList.all (·.oneCell')
    | some z => z.oneCell' && i.size == 1
    | none => false)
  | none => false
def seqOK : List Nat → Nat → Bool
  | [], _ => true
  | i :: l, j => i == j && seqOK l (j + 1)
def partsOf (P : Program) (t : TypeId) (is : List Nat) : Option (List (Nat × Nat × Nat)) :=
  match placesOf P t with
  | some pl => is.mapM fun i => (pl[i]?).map fun q => (i, q.1, q.2)
  | none => none
def fitsZ (P : Program) (t : TypeId) (ps : List (Nat × Nat × Nat)) : Bool := match zeroT P t with
  | .agg zc => ps.all fun q => q.2.1 + q.2.2 ≤ zc.length
  | _ => false
def isStr (P : Program) (t : TypeId) : Bool := match P.underlying t with | some .string => true | _ => false
def isSl (P : Program) (t : TypeId) : Bool := match P.underlying t with | some (.slice _) => true | _ => false
def isNilC : Operand → Bool
  | .const (.slice none 0 0) => true
  | _ => false
def isEq : BinOp → Bool | .eql => true | .neq => true | _ => false
def isNe : BinOp → Bool | .neq => true | _ => false
def isBool (P : Program) (t : TypeId) : Bool := match P.underlying t with | some .bool => true | _ => false
def isPtr (P : Program) (t : TypeId) : Bool := match P.underlying t with | some (.pointer _) => true | _ => false
def isNilP : Operand → Bool
  | .const (.pointer none) => true
  | _ => false
def mapE (P : Program) (t : TypeId) : Option Nat := match P.underlying t with | some (.map K E) => if isStr P K && zOK P E then some E else none | _ => none
def isMap (P : Program) (t : TypeId) : Bool := match P.underlying t with | some (.map _ _) => true | _ => false
def hasD (l : List Nat) (d : Option Nat) : Bool := (d.map fun d => l.contains d).getD false
def ldK (b agg : Bool) (m : Nat) : AK := if b then .loadp agg m else .load agg m
def ixK (b : Bool) (k : Nat) : AK := if b then .idxp k else .idx k
def lnK (b : Bool) : AK := if b then .lenp else .len false
def slK (b : Bool) (k : Nat) (lo hi : Bool) : AK := if b then .slicep k lo hi else .slice k lo hi
def apK (z : Bool) (E k b : Nat) : AK := if z then .appf E k b else .app E k b
def clK (n h : Bool) : AK := if n then .calln else .call h
def slimK (P : Program) (h : Hint) (d : Option Nat) : Op → Option (AK × List Operand)
  | .move x => some (.mv, [x])
  | .assign x => some (.mv, [x])
  | .pick c a b => some (.pick, [c, a, b])
  | .extract x i => some (.ext i, [x])
  | .binOp op T x y _ => if isNilC y && isSl P T && isEq op then some (.eqn (isNe op), [x]) else if isNilP y && isPtr P T && isEq op then some (.eqp (isNe op), [x])
      else if isBool P T && isEq op then some (.eqb (isNe op), [x, y]) else some (.bin op, [x, y])
  | .unOp op _ x => some (.un op, [x])
  | .convert s t x => (match P.underlying s, P.underlying t with | some _, some (.int k) => some (.conv k, [x]) | _, _ => none)
  | .load t x => (match tAgg P t, tSize P t with | some agg, some m => some (ldK (hasD h.prs d) agg m, [x]) | _, _ => none)
  | .store t a x => (tSize P t).map fun m => (.store m, [a, x])
  | .fieldAddr t x f => (match P.underlying t with
    | some (.struct fs) => (fs[f]?).bind fun fd => match tAgg P fd.type, tSize P fd.type with | some agg, some m => if m = 0 then none else some (.fld fd.offset agg m, [x]) | _, _ => none
    | _ => none)
  | .field t x f => (match P.underlying t with
    | some (.struct fs) => (fs[f]?).bind fun fd => match tAgg P fd.type, tSize P fd.type with | some agg, some m => if m = 0 ∨ (agg = false ∧ m ≠ 1) then none else some (.sub fd.offset agg m, [x]) | _, _ => none
    | _ => none)
  | .indexAddr t x i => (sl1 P t).map fun q => (ixK (hasD h.prs d) q.2, [x, i])
  | .slice t x lo hi none => (sl1 P t).map fun q => (slK (hasD h.prs d) q.2 lo.isSome hi.isSome, x :: (lo.toList ++ hi.toList))
  | .alloc T => if zOK P T then some (.alloc T, []) else none
  | .box T x => some (.box (!hasD h.muts d) T, [x])
  | .makeSlice t l c => (sl3 P t).bind fun q => if zOK P q.1 then some (.mks q.1 q.2.1 q.2.2, [l, c]) else none
  | .buildSlice t len ps => (sl3 P t).bind fun q => if zOK P q.1 && seqOK (ps.toList.map (·.1)) 0 && len == ps.toList.length then some (.bsl (hasD h.lits d) q.1 q.2.1, ps.toList.map (·.2)) else none
  | .build t ps => if zOK P t then (partsOf P t (ps.toList.map (·.1))).bind fun l => if fitsZ P t l then some (.build t l, ps.toList.map (·.2)) else none else none
  | .makeFunc (.func f) fs cs => if fs.toList.isEmpty then some (.mkf f, cs.toList) else none
  | .nilCheck x => some (.nilc, [x])
  | .index t x i => if isStr P t then some (.sidx, [x, i]) else none
  | .makeMap t none => if (mapE P t).isSome then some (.mkm, []) else none
  | .lookup t x i ok => (mapE P t).map fun E => (.lkp ok E, [x, i])
  | .mapUpdate t x i v => (mapE P t).map fun _ => (.mup, [x, i, v])
  | .range t x => if isMap P t then some (.rng, [x]) else none
  | .next x false => some (.nxt, [x])
  | .entry x => some (.ent, [x])
  | .call c => (match c.callee with
    | .value f => some (clK (hasD h.calln d) (hasD h.calls d), f :: c.args.toList)
    | .builtin .len => (match c.args.toList, c.argTypes.toList with | [x], [t] => if isSl P t then some (lnK (hasD h.prs d), [x]) else if isStr P t then some (.len true, [x]) else if isMap P t then some (.mlen, [x]) else none | _, _ => none)
    | .builtin .append => (match c.args.toList, c.argTypes.toList with | [x, y], [t, t'] => if t = t' then (sl3 P t).map fun q => (apK (hasD h.lits d) q.1 q.2.1 q.2.2, [x, y]) else none | _, _ => none)
    | .builtin .clear => (match c.args.toList, c.argTypes.toList with | [x], [t] => (sl3 P t).bind fun q => if zOK P q.1 then some (.clrs q.1 q.2.1, [x]) else none | _, _ => none)
    | .builtin .max => (match c.args.toList with | [x, y] => some (.mx, [x, y]) | _ => none)
    | .builtin .min => (match c.args.toList with | [x, y] => some (.mn, [x, y]) | _ => none)
    | _ => none)
  | _ => none
section
variable {P : Program}
theorem slice_of_sl3 {t E k b : Nat} (h : sl3 P t = some (E, k, b)) : SliceIs P t E k ∧ GrowIs P t E k b ∧ (P.info? E).map (·.bytes) = some b ∧ 0 < k := by
  unfold sl3 at h
  split at h
  · rename_i E' hu
    rw [Option.bind_eq_some_iff] at h
    obtain ⟨i, hi, h⟩ := h
    split at h
    · rename_i hh
      simp only [Option.some.injEq, Prod.mk.injEq] at h
      obtain ⟨rfl, rfl, rfl⟩ := h
      obtain ⟨h1, h2, h3⟩ := hh
      rw [Option.map_eq_some_iff] at h3
      obtain ⟨z, hz, hzc⟩ := h3
      exact ⟨⟨hu, by simp [tSize, hi]⟩, ⟨i, z, hu, hi, hz, rfl, rfl, hzc, h1, h2⟩, by simp [hi], h1⟩
    · cases h
  · cases h
theorem slice_of_sl1 {t E k : Nat} (h : sl1 P t = some (E, k)) : SliceIs P t E k := by
  unfold sl1 at h
  split at h
  · rename_i E' hu
    rw [Option.map_eq_some_iff] at h
    obtain ⟨k', hk, h⟩ := h
    simp only [Prod.mk.injEq] at h
    obtain ⟨rfl, rfl⟩ := h
    exact ⟨hu, hk⟩
  · cases h
theorem ofZ_ok (z : Value) (Per : Nat → Prop) (w : World) (h : (∃ cs, z = .agg cs ∧ ∀ x ∈ cs.toList, x.oneCell' = true) ∨ z.oneCell' = true) : VP Per w (ofZ z) z ∧ (ofZ z).ok1 = true := by
  cases z with
  | agg cs =>
    rcases h with ⟨cs', e, hc⟩ | h
    · injection e with e; subst e
      refine ⟨?_, rfl⟩
      have : VP Per w (.agg (cs.toList.map .v)) (.agg cs.toList.toArray) := .agg _ _ (by simp) hc (fun j c hj => by
        rw [List.getElem?_map, Option.map_eq_some_iff] at hj
        obtain ⟨x, hx, rfl⟩ := hj
        rw [List.getD, hx]; exact .v x)
      simpa [ofZ] using this
    · simp [Value.oneCell'] at h
  | _ => first | exact ⟨.v _, rfl⟩ | (rcases h with ⟨cs', e, _⟩ | h <;> simp_all [Value.oneCell'])
theorem zero_of {T : Nat} (h : zOK P T = true) : ZeroIs P T (zeroT P T) := by
  unfold zOK at h
  split at h
  · rename_i i hi
    split at h
    · rename_i cs hz
      simp only [Bool.and_eq_true, beq_iff_eq, List.all_eq_true] at h
      have e : zeroT P T = ofZ (.agg cs) := by simp [zeroT, hi, hz]
      rw [e]
      have := fun Per w => ofZ_ok (.agg cs) Per w (.inl ⟨cs, rfl, h.2⟩)
      exact ⟨i, .agg cs, hi, hz, (this (fun _ => False) default).2, by simp [ofZ, PV.wid]; omega, fun Per w => (this Per w).1⟩
    · rename_i z hna hz
      simp only [Bool.and_eq_true, beq_iff_eq] at h
      have e : zeroT P T = ofZ z := by simp [zeroT, hi, hz]
      rw [e]
      have := fun Per w => ofZ_ok z Per w (.inr h.1)
      have hw : (ofZ z).wid = 1 := by cases z <;> first | rfl | simp [Value.oneCell'] at h
      exact ⟨i, z, hi, hz, (this (fun _ => False) default).2, by rw [hw]; exact h.2, fun Per w => (this Per w).1⟩
    · cases h
  · cases h
end
end Bh
namespace Bh
open Go
section
variable {P : Program} {Y : YS} {n : Nat} {s : AS} {H : AHeap} {K : AS → AHeap → Prop}
def Does (P : Program) (Y : YS) (n : Nat) (o : Oper) (s : AS) (H : AHeap) (K : AS → AHeap → Prop) : Prop :=
  ∀ (ro : Option Nat) (γ : Han) (Per : Nat → Prop) (a : Act) (w : World), OKY P Y γ Per w → St n γ Per s H a w → ∀ (next : Act → World → Prop) (Q : Exit → Act → World → Prop),
    (∀ s' H' γ' Per' a' w', K s' H' → More γ Per w γ' Per' w' → St n γ' Per' s' H' a' w' → a'.defers = a.defers → next a' w') → o.wpIn (fw ro) 0 P a w next Q
theorem St.putO {γ γ' : Han} {Per Per' : Nat → Prop} {H' : AHeap} {a : Act} {w w' : World} (h : St n γ Per s H a w) (d : Option Nat) (hm : More γ Per w γ' Per' w') (hH : HRep γ' Per' H' w') {x : AV} {v : Value} (new : AR γ' Per' w' x v) :
    St n γ' Per' (updO d s x) H' (a.put d v) w' := by
  cases d with
  | none => exact h.more hm hH
  | some d => exact h.put d hm hH new
theorem put_defers (a : Act) (d : Option Tmp) (v : Value) : (a.put d v).defers = a.defers := by cases d <;> rfl
theorem does_run {o : Oper} (hnd : ∀ c, o.op ≠ .defer c) (h : ∀ (γ : Han) (Per : Nat → Prop) (a : Act) (w : World), St n γ Per s H a w →
    ∃ v w' γ' Per' x H', ((execOp a.eval o).run P w = .ok (.value v) w' ∨ ((execOp a.eval o).run P w = .ok .skip w' ∧ v = undef)) ∧ More γ Per w γ' Per' w' ∧ HRep γ' Per' H' w' ∧ AR γ' Per' w' x v ∧ K (updO o.dst s x) H') : Does P Y n o s H K := by
  intro ro γ Per a w hY hst next Q hn
  obtain ⟨v, w', γ', Per', x, H', hr, hm, hH, hx, hk⟩ := h γ Per a w hst
  refine ⟨fun _ _ => trivial, ?_⟩
  rw [Oper.semAt_eq _ _ _ hnd]
  have hst' := hst.putO o.dst hm hH hx
  rcases hr with hr | ⟨hr, rfl⟩
  · rw [hr]; exact hn _ _ _ _ _ _ hk hm hst' (put_defers _ _ _)
  · rw [hr]; exact hn _ _ _ _ _ _ hk hm hst' (put_defers _ _ _)
theorem does_v {o : Oper} (hnd : ∀ c, o.op ≠ .defer c) {x : AV} (hk : K (updO o.dst s x) H) (h : ∀ (γ : Han) (Per : Nat → Prop) (a : Act) (w : World), St n γ Per s H a w → ∃ v, (execOp a.eval o).run P w = .ok (.value v) w ∧ AR γ Per w x v) : Does P Y n o s H K :=
  does_run hnd fun γ Per a w hst => let ⟨v, h1, h2⟩ := h γ Per a w hst; ⟨v, w, γ, Per, x, H, .inl h1, More.refl _ _ _, hst.heap, h2, hk⟩
theorem fin_chk {c : Prop} [Decidable c] {d : Option Nat} {r : Res} (h : fin P Y d s H (chkR c r) K) : c ∧ fin P Y d s H r K := by
  unfold chkR at h
  split at h
  · exact ⟨by assumption, h⟩
  · exact h.elim
theorem fin_onV {x : AV} {f : Value → Res} {d : Option Nat} (h : fin P Y d s H (onV x f) K) : ∃ u, x = .p (.v u) ∧ fin P Y d s H (f u) K := by
  unfold onV at h
  split at h
  · exact ⟨_, rfl, h⟩
  · exact h.elim
theorem fin_onI {x : AV} {f : IntKind → Int → Res} {d : Option Nat} (h : fin P Y d s H (onI x f) K) : ∃ k z, x = .p (.v (.int k z)) ∧ fin P Y d s H (f k z) K := by
  unfold onI at h
  split at h
  · exact ⟨_, _, rfl, h⟩
  · exact h.elim
theorem fin_onB {x : AV} {f : Bool → Res} {d : Option Nat} (h : fin P Y d s H (onB x f) K) : ∃ b, x = .p (.v (.bool b)) ∧ fin P Y d s H (f b) K := by
  unfold onB at h
  split at h
  · exact ⟨_, rfl, h⟩
  · exact h.elim
theorem fin_onS {x : AV} {f : ByteArray → Res} {d : Option Nat} (h : fin P Y d s H (onS x f) K) : ∃ b, x = .p (.v (.string b)) ∧ fin P Y d s H (f b) K := by
  unfold onS at h
  split at h
  · exact ⟨_, rfl, h⟩
  · exact h.elim
theorem fin_onP {x : AV} {f : PV → Res} {d : Option Nat} (h : fin P Y d s H (onP x f) K) : ∃ y, x = .p y ∧ fin P Y d s H (f y) K := by
  unfold onP at h
  split at h
  · exact ⟨_, rfl, h⟩
  · exact h.elim
theorem fin_onO {α : Type} {x : Option α} {f : α → Res} {d : Option Nat} (h : fin P Y d s H (onO x f) K) : ∃ a, x = some a ∧ fin P Y d s H (f a) K := by
  unfold onO at h
  split at h
  · exact ⟨_, rfl, h⟩
  · exact h.elim
theorem fin_onM {x : AV} {f : Nat → List (ByteArray × PV) → Res} {d : Option Nat} (h : fin P Y d s H (onM H x f) K) : ∃ r m, x = .hd r ∧ H.get r = some (.map m) ∧ fin P Y d s H (f r m) K := by
  unfold onM at h
  split at h
  · split at h
    · exact ⟨_, _, rfl, by assumption, h⟩
    · exact h.elim
  · exact h.elim
theorem fin_onIt {x : AV} {f : Nat → Nat → List Nat → Nat → List (ByteArray × PV) → Res} {d : Option Nat} (h : fin P Y d s H (onIt H x f) K) : ∃ r mi seen k m, x = .hd r ∧ H.get r = some (.iter mi seen k) ∧ H.get mi = some (.map m) ∧ fin P Y d s H (f r mi seen k m) K := by
  unfold onIt at h
  split at h
  · split at h
    · split at h
      · exact ⟨_, _, _, _, _, rfl, by assumption, by assumption, h⟩
      · exact h.elim
    · exact h.elim
  · exact h.elim
theorem fin_r1 {f : AV → Res} {xs : List Operand} {d : Option Nat} (h : fin P Y d s H (r1 f (xs.map s.ev)) K) : ∃ x, xs = [x] ∧ fin P Y d s H (f (s.ev x)) K := by
  match xs, h with
  | [x], h => exact ⟨x, rfl, h⟩
  | [], h => exact h.elim
  | _ :: _ :: _, h => exact h.elim
theorem fin_r2 {f : AV → AV → Res} {xs : List Operand} {d : Option Nat} (h : fin P Y d s H (r2 f (xs.map s.ev)) K) : ∃ x y, xs = [x, y] ∧ fin P Y d s H (f (s.ev x) (s.ev y)) K := by
  match xs, h with
  | [x, y], h => exact ⟨x, y, rfl, h⟩
  | [], h => exact h.elim
  | [_], h => exact h.elim
  | _ :: _ :: _ :: _, h => exact h.elim
theorem fin_r3 {f : AV → AV → AV → Res} {xs : List Operand} {d : Option Nat} (h : fin P Y d s H (r3 f (xs.map s.ev)) K) : ∃ x y z, xs = [x, y, z] ∧ fin P Y d s H (f (s.ev x) (s.ev y) (s.ev z)) K := by
  match xs, h with
  | [x, y, z], h => exact ⟨x, y, z, rfl, h⟩
  | [], h => exact h.elim
  | [_], h => exact h.elim
  | [_, _], h => exact h.elim
  | _ :: _ :: _ :: _ :: _, h => exact h.elim
theorem seq_zip : ∀ (l : List (Nat × Operand)) (j : Nat), seqOK (l.map (·.1)) j = true → l = ((l.map (·.2)).zipIdx j).map fun p => (p.2, p.1)
  | [], j, _ => rfl
  | (i, x) :: l, j, h => by
    simp only [List.map_cons, seqOK, Bool.and_eq_true, beq_iff_eq] at h
    obtain ⟨rfl, h⟩ := h
    have := seq_zip l (i + 1) h
    simp only [List.map_cons, List.zipIdx_cons, List.cons.injEq, true_and]
    exact this
theorem mapM_get {α β : Type} {f : α → Option β} : ∀ {l : List α} {r : List β}, l.mapM f = some r → l.length = r.length ∧ ∀ (i : Nat) (x : α), l[i]? = some x → ∃ y, r[i]? = some y ∧ f x = some y
  | [], r, h => by simp at h; subst h; exact ⟨rfl, fun i x hx => by simp at hx⟩
  | a :: l, r, h => by
    simp only [List.mapM_cons, Option.bind_eq_bind, Option.pure_def] at h
    cases ha : f a with
    | none => simp [ha] at h
    | some b =>
      cases hl : l.mapM f with
      | none => simp [ha, hl] at h
      | some r' =>
        simp [ha, hl] at h
        subst h
        obtain ⟨i1, i2⟩ := mapM_get hl
        refine ⟨by simp [i1], fun i x hx => ?_⟩
        cases i with
        | zero => simp at hx; subst hx; exact ⟨b, rfl, ha⟩
        | succ i => simpa using i2 i x (by simpa using hx)
theorem run_callFn {o : Oper} {c : Call} {f : FuncId} {caps : List Value} {fx : Operand} {xs : List Operand} {a : Act} {w : World} (ho : o.op = .call c) (hc : c.callee = .value fx) (hxs : c.args.toList = xs) (hf : a.eval fx = .func (.func f) #[] caps.toArray) (he : Enters P f) :
    (execOp a.eval o).run P w = .ok (.enter f (xs.map a.eval ++ caps).toArray) w := by
  have hargs : c.args.map a.eval = (xs.map a.eval).toArray := by apply Array.ext'; rw [Array.toList_map, hxs]
  simp only [execOp, ho, resolve, hc, hf, hargs, Deferred.ofValue, invoke, Sem.run_bind, Sem.run_pure, Result.andThen_ok]
  have := he (xs.map a.eval ++ caps).toArray w
  simpa using this
theorem does_call {o : Oper} {c : Call} {f : FuncId} {caps : List AV} {fx : Operand} {xs : List Operand} {Post : AV → AHeap → Prop} (ho : o.op = .call c) (hc : c.callee = .value fx) (hxs : c.args.toList = xs) (hfx : OkO n fx = true) (hx : ∀ x ∈ xs, OkO n x = true)
    (hf : ∀ (γ : Han) (Per : Nat → Prop) (w : World) (u : Value), AR γ Per w (s.ev fx) u → ∃ cs, u = .func (.func f) #[] cs.toArray ∧ ARs γ Per w caps cs) (hcall : HCall P Y f (xs.map s.ev ++ caps) H Post)
    (hk : ∀ r H', Post r H' → K (updO o.dst s r) H') : Does P Y n o s H K := by
  intro ro γ Per a w hY hst next Q hn
  obtain ⟨cs, hu, hcs⟩ := hf γ Per w _ (hst.ev hfx)
  refine ⟨fun _ _ => trivial, ?_⟩
  rw [Oper.semAt_eq _ _ _ (by simp [ho]), run_callFn ho hc hxs hu hcall.1]
  refine ⟨fun h => by simp [Fence.wide] at h, ?_⟩
  have := hcall.2 γ Per w (xs.map a.eval ++ cs) hY hst.heap ((hst.evs hx).append hcs)
  have hcalls : CallsIn (fw ro) 0 P f (xs.map a.eval ++ cs).toArray w _ := (callsIn_wide (n := 0)).2 this
  refine CallsIn.mono hcalls ?_
  rintro e w' ⟨v, r, H', γ', Per', rfl, hp, hr, hH, hm⟩
  exact hn _ _ _ _ _ _ (hk r H' hp) hm (hst.putO o.dst hm hH hr) (put_defers _ _ _)
theorem run_callY {o : Oper} {c : Call} {l : Nat} {fx : Operand} {xs : List Operand} {a : Act} {w : World} (ho : o.op = .call c) (hc : c.callee = .value fx) (hxs : c.args.toList = xs) (hf : a.eval fx = .func (.yield l) #[] #[]) :
    (execOp a.eval o).run P w = (Instr.yield l (xs.map a.eval).toArray).run P w := by
  have hargs : c.args.map a.eval = (xs.map a.eval).toArray := by apply Array.ext'; rw [Array.toList_map, hxs]
  simp only [execOp, ho, resolve, hc, hf, hargs, Deferred.ofValue, invoke, Sem.run_bind, Sem.run_pure, Result.andThen_ok]
  simp
theorem does_yld {o : Oper} {c : Call} {i : Nat} {fx : Operand} {xs : List Operand} {Post : AV → AHeap → Prop} (ho : o.op = .call c) (hc : c.callee = .value fx) (hxs : c.args.toList = xs) (hfx : OkO n fx = true) (hx : ∀ x ∈ xs, OkO n x = true)
    (hf : s.ev fx = .hd i) (hcall : Y i (xs.map s.ev) H Post) (hk : ∀ r H', Post r H' → K (updO o.dst s r) H') : Does P Y n o s H K := by
  intro ro γ Per a w hY hst next Q hn
  have hu := hst.ev hfx
  rw [hf] at hu
  generalize hue : a.eval fx = u at hu
  cases hu with
  | hd _ _ hγ h1 =>
    obtain ⟨l, rfl, fn, tmps, assign, body, hrun, hround⟩ := hY i _ H Post hcall γ Per w u (xs.map a.eval) (More.refl _ _ _) hst.heap hγ (hst.evs hx)
    refine ⟨fun _ _ => trivial, ?_⟩
    rw [Oper.semAt_eq _ _ _ (by simp [ho]), run_callY ho hc hxs hue, hrun]
    refine ⟨fun h => by simp [Fence.wide] at h, ?_⟩
    have hround' : RoundIn (fw ro) 0 P l fn tmps assign body w _ := hround
    refine RoundIn.mono hround' ?_
    rintro e w' ⟨v', r, H', γ', Per', rfl, hp, hr, hH, hm⟩
    exact hn _ _ _ _ _ _ (hk r H' hp) hm (hst.putO o.dst hm hH hr) (put_defers _ _ _)
end
end Bh
namespace Bh
open Go
section
variable {P : Program} {Y : YS} {n : Nat} {s : AS} {H : AHeap} {K : AS → AHeap → Prop} {o : Oper} {h : Hint} {k : AK} {xs : List Operand}
theorem ev_ar {γ : Han} {Per : Nat → Prop} {a : Act} {w : World} (hst : St n γ Per s H a w) {x : Operand} (hx : OkO n x = true) {y : AV} (he : s.ev x = y) : AR γ Per w y (a.eval x) := he ▸ hst.ev hx
theorem ev_v {γ : Han} {Per : Nat → Prop} {a : Act} {w : World} (hst : St n γ Per s H a w) {x : Operand} (hx : OkO n x = true) {u : Value} (he : s.ev x = .p (.v u)) : a.eval x = u := (ev_ar hst hx he).v
theorem ok_mv {x : Operand} (hop : o.op = .move x ∨ o.op = .assign x) (hx : OkO n x = true) (hf : fin P Y o.dst s H (sem P .mv [s.ev x] H) K) : Does P Y n o s H K :=
  does_v (by rcases hop with hop | hop <;> simp [hop]) hf fun γ Per a w hst => ⟨a.eval x, by rcases hop with hop | hop <;> simp [execOp, hop], hst.ev hx⟩
theorem ok_pick {c x y : Operand} (hop : o.op = .pick c x y) (hc : OkO n c = true) (hx : OkO n x = true) (hy : OkO n y = true) (hf : fin P Y o.dst s H (sem P .pick [s.ev c, s.ev x, s.ev y] H) K) : Does P Y n o s H K := by
  simp only [sem, r3] at hf
  obtain ⟨t, ht, hf⟩ := fin_onB hf
  refine does_v (by simp [hop]) hf fun γ Per a w hst => ⟨if t then a.eval x else a.eval y, ?_, ?_⟩
  · simp [execOp, hop, ev_v hst hc ht, asBool]
  · cases t
    · simpa using hst.ev hy
    · simpa using hst.ev hx
theorem ok_ext {x : Operand} {i : Nat} (hop : o.op = .extract x i) (hx : OkO n x = true) (hf : fin P Y o.dst s H (sem P (.ext i) [s.ev x] H) K) : Does P Y n o s H K := by
  simp only [sem, r1] at hf
  obtain ⟨z, hz, hf⟩ := fin_onO hf
  refine does_v (by simp [hop]) hf fun γ Per a w hst => ?_
  have hv := hst.ev hx
  generalize hu : a.eval x = u at hv
  have fin : ∀ vs : List Value, u = .tuple vs.toArray → i < vs.length → (execOp a.eval o).run P w = .ok (.value (vs.getD i undef)) w := by
    intro vs e hlt
    simp [execOp, hop, hu, e, Instr.extract, List.getD, hlt]
  revert hz hv
  generalize s.ev x = y
  intro hz hv
  cases y with
  | p y =>
    cases y with
    | tup ys =>
      simp only [semExt, Option.map_eq_some_iff] at hz
      obtain ⟨z, hz, rfl⟩ := hz
      cases hv.pv with
      | tup _ vs hs he =>
        have hlt := (List.getElem?_eq_some_iff.1 hz).1
        exact ⟨_, fin vs rfl (by omega), .p _ _ (he i z hz)⟩
    | _ => simp [semExt] at hz
  | tp ys =>
    simp only [semExt] at hz
    cases hv with
    | tp _ vs hs he =>
      have hlt := (List.getElem?_eq_some_iff.1 hz).1
      exact ⟨_, fin vs rfl (by omega), he i z hz⟩
  | _ => simp [semExt] at hz
theorem ok_bin {op : BinOp} {T T' : TypeId} {x y : Operand} (hop : o.op = .binOp op T x y T') (hx : OkO n x = true) (hy : OkO n y = true) (hf : fin P Y o.dst s H (sem P (.bin op) [s.ev x, s.ev y] H) K) : Does P Y n o s H K := by
  simp only [sem, r2] at hf
  obtain ⟨u, hu, hf⟩ := fin_onV hf
  obtain ⟨v, hv, hf⟩ := fin_onV hf
  obtain ⟨z, hz, hf⟩ := fin_onO hf
  obtain ⟨g1, g2⟩ := binV_scalar hz
  refine does_v (by simp [hop]) hf fun γ Per a w hst => ⟨z, ?_, .p _ _ (.v z)⟩
  simp [execOp, hop, ev_v hst hx hu, ev_v hst hy hv, run_eqGuard g1 g2, run_binV hz]
theorem eqOp {op : BinOp} (h : isEq op = true) : op = (if isNe op then .neq else .eql) := by cases op <;> simp_all [isEq, isNe]
theorem ok_eqb {op : BinOp} {T T' : TypeId} {x y : Operand} (hop : o.op = .binOp op T x y T') (hT : P.underlying T = some .bool) (hq : isEq op = true) (hx : OkO n x = true) (hy : OkO n y = true) (hf : fin P Y o.dst s H (sem P (.eqb (isNe op)) [s.ev x, s.ev y] H) K) : Does P Y n o s H K := by
  simp only [sem, r2] at hf
  obtain ⟨u, hu, hf⟩ := fin_onB hf
  obtain ⟨v, hv, hf⟩ := fin_onB hf
  refine does_v (by simp [hop]) hf fun γ Per a w hst => ⟨.bool ((u == v) != isNe op), ?_, .p _ _ (.v _)⟩
  have hr := run_eqb (P := P) hT (isNe op) u v w
  rw [← eqOp hq] at hr
  simp only [execOp, hop, ev_v hst hx hu, ev_v hst hy hv, Sem.run_bind, run_eqGuard (op := op) (T := T) (x := x) (y := y) (u := .bool u) (v := .bool v) (by simp) (by simp), Result.andThen_ok, hr, Sem.run_pure]
theorem ok_eqn {op : BinOp} {T T' E : TypeId} {x : Operand} (hop : o.op = .binOp op T x (.const (.slice none 0 0)) T') (hT : P.underlying T = some (.slice E)) (hq : isEq op = true) (hx : OkO n x = true) (hf : fin P Y o.dst s H (sem P (.eqn (isNe op)) [s.ev x] H) K) : Does P Y n o s H K := by
  simp only [sem, r1] at hf
  have hf : ∃ e, semEqn H (s.ev x) = some e ∧ ∀ b : Bool, (b = true → e = true) → (s.ev x = .p (.v (.slice none 0 0)) → b = true) → K (updO o.dst s (.p (.v (.bool (b != isNe op))))) H := by
    unfold eqnR at hf
    split at hf
    · rename_i hx0
      refine ⟨true, by rw [hx0]; rfl, fun b _ hb => ?_⟩
      rw [hb hx0]; exact hf
    · obtain ⟨e, he, hf⟩ := fin_onO hf
      exact ⟨e, he, fun b hb _ => hf b hb⟩
  obtain ⟨e, he, hf⟩ := hf
  refine does_run (by simp [hop]) fun γ Per a w hst => ?_
  obtain ⟨b, hb, hb0, hr, g1, g2⟩ := run_eqn (neg := isNe op) hT hst.heap (hst.ev hx) he
  rw [← eqOp hq] at hr
  refine ⟨.bool (b != isNe op), w, γ, Per, .p (.v (.bool (b != isNe op))), H, .inl ?_, More.refl _ _ _, hst.heap, .p _ _ (.v _), hf b hb hb0⟩
  have hz : a.eval (.const (.slice none 0 0)) = .slice none 0 0 := rfl
  simp only [execOp, hop, hz, Sem.run_bind, run_eqGuard g1 g2, Result.andThen_ok, hr, Sem.run_pure]
theorem ok_eqp {op : BinOp} {T T' E : TypeId} {x : Operand} (hop : o.op = .binOp op T x (.const (.pointer none)) T') (hT : P.underlying T = some (.pointer E)) (hq : isEq op = true) (hx : OkO n x = true) (hf : fin P Y o.dst s H (sem P (.eqp (isNe op)) [s.ev x] H) K) : Does P Y n o s H K := by
  simp only [sem, r1] at hf
  obtain ⟨e, he, hf⟩ := fin_onO hf
  refine does_v (by simp [hop]) hf fun γ Per a w hst => ⟨.bool (e != isNe op), ?_, .p _ _ (.v _)⟩
  obtain ⟨hr, g1, g2⟩ := run_eqp (neg := isNe op) hT (hst.ev hx) he (w := w)
  rw [← eqOp hq] at hr
  have hz : a.eval (.const (.pointer none)) = .pointer none := rfl
  simp only [execOp, hop, hz, Sem.run_bind, run_eqGuard g1 g2, Result.andThen_ok, hr, Sem.run_pure]
theorem ok_un {op : UnOp} {T : TypeId} {x : Operand} (hop : o.op = .unOp op T x) (hx : OkO n x = true) (hf : fin P Y o.dst s H (sem P (.un op) [s.ev x] H) K) : Does P Y n o s H K := by
  simp only [sem, r1] at hf
  obtain ⟨u, hu, hf⟩ := fin_onV hf
  obtain ⟨z, hz, hf⟩ := fin_onO hf
  refine does_v (by simp [hop]) hf fun γ Per a w hst => ⟨z, ?_, .p _ _ (.v z)⟩
  simp only [execOp, hop, ev_v hst hx hu]
  unfold unV at hz
  split at hz <;> simp_all [Op.unary, Op.intArith]
theorem ok_conv {src dst : TypeId} {kd : IntKind} {sd : TypeDesc} {x : Operand} (hop : o.op = .convert src dst x) (h1 : P.underlying src = some sd) (h2 : P.underlying dst = some (.int kd)) (hx : OkO n x = true) (hf : fin P Y o.dst s H (sem P (.conv kd) [s.ev x] H) K) : Does P Y n o s H K := by
  simp only [sem, r1] at hf
  obtain ⟨k', z, hz, hf⟩ := fin_onI hf
  refine does_v (by simp [hop]) hf fun γ Per a w hst => ⟨_, ?_, .p _ _ (.v _)⟩
  simp [execOp, hop, ev_v hst hx hz, convert, run_underlying h1, run_underlying h2, Conv.intToInt]
theorem ok_load {t m : Nat} {agg : Bool} {x : Operand} (hop : o.op = .load t x) (h1 : tAgg P t = some agg) (h2 : tSize P t = some m) (hx : OkO n x = true) (hf : fin P Y o.dst s H (sem P (.load agg m) [s.ev x] H) K) : Does P Y n o s H K := by
  simp only [sem, r1] at hf
  obtain ⟨z, hz, hf⟩ := fin_onO hf
  refine does_v (by simp [hop]) hf fun γ Per a w hst => ?_
  obtain ⟨v, hr, hv⟩ := run_load_ h1 h2 hst.heap (hst.ev hx) hz
  exact ⟨v, by simp only [execOp, hop, Sem.run_bind, hr, Result.andThen_ok, Sem.run_pure], hv⟩
theorem ok_store {t m : Nat} {x y : Operand} (hop : o.op = .store t x y) (h2 : tSize P t = some m) (hx : OkO n x = true) (hy : OkO n y = true) (hf : fin P Y o.dst s H (sem P (.store m) [s.ev x, s.ev y] H) K) : Does P Y n o s H K := by
  simp only [sem, r2] at hf
  obtain ⟨q, hq, hf⟩ := fin_onO hf
  refine does_run (by simp [hop]) fun γ Per a w hst => ?_
  obtain ⟨w', hr, hH, hm⟩ := run_store_ h2 hst.heap (hst.ev hx) (hst.ev hy) hq
  exact ⟨undef, w', γ, Per, .un, _, .inr ⟨by simp only [execOp, hop, Sem.run_bind, hr, Result.andThen_ok, Sem.run_pure], rfl⟩, hm, hH, .un _, hf⟩
theorem ok_fld {T f off m : Nat} {agg : Bool} {x : Operand} (hop : o.op = .fieldAddr T x f) (h1 : FieldIs P T f off agg m) (hx : OkO n x = true) (hf : fin P Y o.dst s H (sem P (.fld off agg m) [s.ev x] H) K) : Does P Y n o s H K := by
  simp only [sem, r1] at hf
  obtain ⟨z, hz, hf⟩ := fin_onO hf
  refine does_v (by simp [hop]) hf fun γ Per a w hst => ?_
  obtain ⟨v, hr, hv⟩ := run_fld h1 (hst.ev hx) hz
  exact ⟨v, by simp only [execOp, hop, Sem.run_bind, hr, Result.andThen_ok, Sem.run_pure], hv⟩
theorem ok_sub {T f off m : Nat} {agg : Bool} {x : Operand} (hop : o.op = .field T x f) (h1 : FieldIs P T f off agg m) (h0 : agg = false → m = 1) (hx : OkO n x = true) (hf : fin P Y o.dst s H (sem P (.sub off agg m) [s.ev x] H) K) : Does P Y n o s H K := by
  simp only [sem, r1] at hf
  obtain ⟨z, hz, hf⟩ := fin_onO hf
  refine does_v (by simp [hop]) hf fun γ Per a w hst => ?_
  unfold semSub at hz
  split at hz
  · rename_i hag
    have hv := hst.ev hx
    have h1' : (s.ev x).ok1 = true := by revert hag; cases s.ev x <;> simp [AV.isAgg, AV.ok1]; rename_i y; cases y <;> simp [PV.isAgg, PV.ok1]
    obtain ⟨c1, c2, c3⟩ := hv.cellsV h1'
    obtain ⟨cs, hcs⟩ : ∃ cs : Array Value, a.eval x = .agg cs := by rw [hag] at c2; rw [← c2]; exact ⟨_, rfl⟩
    rw [hcs] at c1 c2 c3 hv
    rw [← c2] at hv
    obtain ⟨k1, k2, k3⟩ := hv.sub hz (fun j hj => by
      rw [List.getD, List.getElem?_eq_getElem (by rw [c1]; exact hj)]; exact c3 _ (List.getElem_mem _))
    obtain ⟨fs, fd, f1, f2, f3, f4, f5, f6⟩ := h1
    subst f3
    refine ⟨_, ?_, k1⟩
    have := run_part (w := w) f4 f5 (cs := cs) (off := fd.offset) (by simp only [Value.cells] at c1; rw [← c1] at k2; simpa using k2) h0
    simp only [execOp, hop, Instr.field, Sem.run_bind, run_underlying f1, Result.andThen_ok, f2, hcs, asAgg, Sem.run_pure, this]
    rfl
  · cases hz
theorem ok_idx {t E m : Nat} {x i : Operand} (hop : o.op = .indexAddr t x i) (h1 : SliceIs P t E m) (hx : OkO n x = true) (hi : OkO n i = true) (hf : fin P Y o.dst s H (sem P (.idx m) [s.ev x, s.ev i] H) K) : Does P Y n o s H K := by
  simp only [sem, r2] at hf
  obtain ⟨z, hz, hf⟩ := fin_onO hf
  refine does_v (by simp [hop]) hf fun γ Per a w hst => ?_
  obtain ⟨v, hr, hv⟩ := run_idx h1 hst.heap (hst.ev hx) (hst.ev hi) hz
  exact ⟨v, by simp only [execOp, hop, Sem.run_bind, hr, Result.andThen_ok, Sem.run_pure], hv⟩
theorem ok_slice {t E m : Nat} {x : Operand} {lo hi : Option Operand} (hop : o.op = .slice t x lo hi none) (h1 : SliceIs P t E m) (hx : OkO n x = true) (hl : ∀ y, lo = some y → OkO n y = true) (hh : ∀ y, hi = some y → OkO n y = true)
    (hf : fin P Y o.dst s H (onO (semSlice H m (lo.map s.ev) (hi.map s.ev) (s.ev x)) .v) K) : Does P Y n o s H K := by
  obtain ⟨z, hz, hf⟩ := fin_onO hf
  refine does_v (by simp [hop]) hf fun γ Per a w hst => ?_
  have args : ∀ (q : Option Operand), (∀ y, q = some y → OkO n y = true) → (q.map s.ev = none ∧ q.map a.eval = none) ∨ ∃ y u, q.map s.ev = some y ∧ q.map a.eval = some u ∧ AR γ Per w y u := by
    intro q hq
    cases q with
    | none => exact .inl ⟨rfl, rfl⟩
    | some y => exact .inr ⟨_, _, rfl, rfl, hst.ev (hq y rfl)⟩
  obtain ⟨v, hr, hv⟩ := run_slice h1 hst.heap (hst.ev hx) (args lo hl) (args hi hh) hz
  exact ⟨v, by simp only [execOp, hop, Option.map_none, Sem.run_bind, hr, Result.andThen_ok, Sem.run_pure], hv⟩
theorem ok_alloc {T : Nat} (hop : o.op = .alloc T) (hz : zOK P T = true) (hf : fin P Y o.dst s H (sem P (.alloc T) [] H) K) : Does P Y n o s H K := by
  refine does_run (by simp [hop]) fun γ Per a w hst => ?_
  obtain ⟨i, z, h1, h2, h3, _, h4⟩ := (zero_of hz).ar
  obtain ⟨r1, r2, r3⟩ := new_box hst.heap T (h4 γ Per w) h3
  exact ⟨_, _, _, _, _, _, .inl (by simp [execOp, hop, Instr.alloc, zeroValue, typeInfo, h1, h2, newVar, newRow, newObj, Sem.run]), r2, r1, r3, hf⟩
theorem ok_box {T : Nat} {x : Operand} {per : Bool} (hop : o.op = .box T x) (hx : OkO n x = true) (hf : fin P Y o.dst s H (sem P (.box per T) [s.ev x] H) K) : Does P Y n o s H K := by
  simp only [sem, r1] at hf
  obtain ⟨c1, hf⟩ := fin_chk hf
  refine does_run (by simp [hop]) fun γ Per a w hst => ?_
  have hr : (execOp a.eval o).run P w = .ok (.value (.pointer (some ⟨w.heap.size, 0, none⟩))) (w.alloc (.cells (a.eval x).cells T)) := by simp [execOp, hop, Instr.box, newVar, newRow, newObj, Sem.run]
  cases per with
  | true =>
    simp only [if_true] at hf
    obtain ⟨y, hy, hf⟩ := fin_onP hf
    rw [hy] at c1
    obtain ⟨Per', r1, r2, r3⟩ := new_ref hst.heap T (ev_ar hst hx hy).pv c1
    exact ⟨_, _, γ, Per', _, _, .inl hr, r2, r1, .p _ _ r3, hf⟩
  | false =>
    simp only [Bool.false_eq_true, if_false] at hf
    obtain ⟨r1, r2, r3⟩ := new_box hst.heap T (hst.ev hx) c1
    exact ⟨_, _, _, _, _, _, .inl hr, r2, r1, r3, hf⟩
theorem ok_mks {t E m b : Nat} {l c : Operand} (hop : o.op = .makeSlice t l c) (hq : sl3 P t = some (E, m, b)) (hz : zOK P E = true) (hl : OkO n l = true) (hc : OkO n c = true) (hf : fin P Y o.dst s H (sem P (.mks E m b) [s.ev l, s.ev c] H) K) : Does P Y n o s H K := by
  obtain ⟨t1, t2, t3, t4⟩ := slice_of_sl3 hq
  simp only [sem, r2, semMks] at hf
  obtain ⟨k1, z, hz1, hf⟩ := fin_onI hf
  obtain ⟨k2, z', hz2, hf⟩ := fin_onI hf
  obtain ⟨c0, hf⟩ := fin_chk hf
  subst c0
  obtain ⟨c1, hf⟩ := fin_chk hf
  obtain ⟨c2, hf⟩ := fin_chk hf
  obtain ⟨c3, hf⟩ := fin_chk hf
  refine does_run (by simp [hop]) fun γ Per a w hst => ?_
  obtain ⟨v, w', γ', r1, r2, r3, r4⟩ := run_mks (k1 := k1) (k2 := k2) hst.heap t1 (zero_of hz) t3 t4 c1 c2 c3
  exact ⟨v, w', γ', Per, _, _, .inl (by simp only [execOp, hop, ev_v hst hl hz1, ev_v hst hc hz2, Sem.run_bind, r1, Result.andThen_ok, Sem.run_pure]), r3, r2, r4, hf⟩
theorem allWA_mem {k : Nat} {ys : List AV} (h : allWA k ys = true) : ∀ y ∈ ys, y.wid = k := by simpa [allWA] using h
theorem allOA_mem {ys : List AV} (h : allOA ys = true) : ∀ y ∈ ys, y.ok1 = true := by simpa [allOA] using h
theorem zip_parts (xs : List Operand) (f : Operand → Value) : (((xs.zipIdx.map fun p => (p.2, p.1)).toArray).map fun (q : Nat × Operand) => (q.1, f q.2)) = (((xs.map f).zipIdx.map fun p => (p.2, p.1))).toArray := by
  simp only [List.map_toArray, List.map_map]
  congr 1
  rw [List.zipIdx_map]
  simp [Function.comp_def]
theorem ok_bsl {t E m b : Nat} {own : Bool} {xs : List Operand} (hop : o.op = .buildSlice t xs.length ((xs.zipIdx.map fun p => (p.2, p.1)).toArray)) (hq : sl3 P t = some (E, m, b)) (hz : zOK P E = true) (hx : ∀ x ∈ xs, OkO n x = true)
    (hf : fin P Y o.dst s H (sem P (.bsl own E m) (xs.map s.ev) H) K) : Does P Y n o s H K := by
  obtain ⟨t1, t2, t3, t4⟩ := slice_of_sl3 hq
  simp only [sem, semBsl] at hf
  obtain ⟨c1, hf⟩ := fin_chk hf
  obtain ⟨c2, hf⟩ := fin_chk hf
  obtain ⟨c3, hf⟩ := fin_chk hf
  have hk : ∀ y ∈ xs.map s.ev, y.wid = m ∧ y.ok1 = true := fun y hy => ⟨allWA_mem c1 y hy, allOA_mem c2 y hy⟩
  refine does_run (by simp [hop]) fun γ Per a w hst => ?_
  have hv := hst.evs hx
  obtain ⟨f1, f2, f3, f4⟩ := flat_ok hv hk
  have hr := run_bslice (vs := xs.map a.eval) t1 (zero_of hz) t4 f1 (by simpa using c3) w
  have hrun : (execOp a.eval o).run P w = .ok (.value (.slice (some ⟨w.heap.size, 0, none⟩) (xs.map s.ev).length (xs.map s.ev).length)) (w.alloc (.cells ((xs.map a.eval).flatMap fun v => v.cells.toList).toArray E)) := by
    rw [List.length_map] at hr
    simp only [execOp, hop, Sem.run_bind]
    rw [zip_parts xs a.eval, hr, List.length_map]
    rfl
  cases own with
  | true =>
    simp only [if_true] at hf
    obtain ⟨r1, r2, r3⟩ := new_row hst.heap E m (es := xs.map s.ev) (cs := (xs.map a.eval).flatMap fun v => v.cells.toList) f2 (maxLen_of t4 c3) f3 (fun e he => (hk e he).1) t4 f4
    exact ⟨_, _, _, _, _, _, .inl hrun, r2, r1, r3, hf⟩
  | false =>
    simp only [Bool.false_eq_true, if_false] at hf
    obtain ⟨ps, hps, hf⟩ := fin_onO hf
    have e := allP_get hps
    rw [e] at hv hk hrun
    obtain ⟨Per', r1, r2, r3⟩ := new_sl hst.heap E m hv.ps (fun y hy => hk (.p y) (List.mem_map.2 ⟨y, hy, rfl⟩)) t4 (by rw [e] at c3; simpa using c3)
    rw [List.length_map] at hrun
    exact ⟨_, _, γ, Per', _, _, .inl hrun, r2, r1, .p _ _ r3, hf⟩
theorem ok_app {t E m b : Nat} {x y : Operand} (hop : o.op = .call { callee := .builtin .append, args := #[x, y], argTypes := #[t, t] }) (hq : sl3 P t = some (E, m, b)) (hx : OkO n x = true) (hy : OkO n y = true)
    (hf : fin P Y o.dst s H (sem P (.app E m b) [s.ev x, s.ev y] H) K) : Does P Y n o s H K := by
  obtain ⟨t1, t2, t3, t4⟩ := slice_of_sl3 hq
  simp only [sem, r2, semApp] at hf
  obtain ⟨ys, hys, hf⟩ := fin_onO hf
  refine does_run (by simp [hop]) fun γ Per a w hst => ?_
  obtain ⟨ns, hs⟩ := slV_ok t4 hst.heap (hst.ev hy) hys
  have run : ∀ v' w', (Builtin.append_ #[t, t] o.type #[a.eval x, a.eval y]).run P w = .ok v' w' → (execOp a.eval o).run P w = .ok (.value v') w' := by
    intro v' w' hr
    simp only [execOp, hop, resolve, invoke, builtin, Sem.run_bind, Sem.run_pure, Result.andThen_ok, List.map_toArray, List.map_cons, List.map_nil, hr]
  split at hf
  · rename_i he
    obtain ⟨c2, hf⟩ := fin_chk hf
    obtain ⟨v', w', γ', r1, r2, r3, r4⟩ := run_app_nil (ty := o.type) t2 hst.heap hs c2
    rw [← ev_v hst hx he] at r1
    exact ⟨v', w', γ', Per, _, _, .inl (run v' w' r1), r3, r2, r4, hf⟩
  · rename_i r he
    split at hf
    · rename_i E' k' es hg
      obtain ⟨⟨rfl, rfl⟩, hf⟩ := fin_chk hf
      obtain ⟨c3, hf⟩ := fin_chk hf
      have hxv := ev_ar hst hx he
      generalize hu : a.eval x = u at hxv
      cases hxv with
      | hd _ _ hγ h1 =>
        obtain ⟨v', w', γ', r1, r2, r3, r4⟩ := run_app_row (ty := o.type) t2 hst.heap hg hγ hs c3
        rw [← hu] at r1
        exact ⟨v', w', γ', Per, _, _, .inl (run v' w' r1), r3, r2, r4, hf⟩
    · exact hf.elim
  · exact hf.elim
theorem frzRes_ok {d : Option Nat} {r : Res} (h : fin P Y d s H (frzRes r) K) : (∃ E k es ps, r = .new false (.row E k es) ∧ allP es = some ps ∧ K (updO d s (.p (.sl ps))) ((H.new (.row E k es)).del H.nx)) ∨
    ∃ i E k es ps, r = .app i (.row E k es) ∧ allP es = some ps ∧ K (updO d s (.p (.sl ps))) (((H.del i).new (.row E k es)).del H.nx) := by
  unfold frzRes at h
  split at h
  · obtain ⟨ps, h1, h2⟩ := fin_onO h
    exact .inl ⟨_, _, _, ps, rfl, h1, h2⟩
  · obtain ⟨ps, h1, h2⟩ := fin_onO h
    exact .inr ⟨_, _, _, _, ps, rfl, h1, h2⟩
  · exact h.elim
theorem ok_appf {t E m b : Nat} {x y : Operand} (hop : o.op = .call { callee := .builtin .append, args := #[x, y], argTypes := #[t, t] }) (hq : sl3 P t = some (E, m, b)) (hx : OkO n x = true) (hy : OkO n y = true)
    (hf : fin P Y o.dst s H (sem P (.appf E m b) [s.ev x, s.ev y] H) K) : Does P Y n o s H K := by
  have hf : fin P Y o.dst s H (frzRes (semApp H E m b (s.ev x) (s.ev y))) K := hf
  obtain ⟨t1, t2, t3, t4⟩ := slice_of_sl3 hq
  -- the append itself, with the row given up behind it
  have go : ∀ (γ : Han) (Per : Nat → Prop) (a : Act) (w : World), St n γ Per s H a w → ∀ {H1 : AHeap} {E' k' : Nat} {es : List AV} {ps : List PV}, H1.nx = H.nx → allP es = some ps → K (updO o.dst s (.p (.sl ps))) ((H1.new (.row E' k' es)).del H.nx) →
      (∃ v' w' γ', (execOp a.eval o).run P w = .ok (.value v') w' ∧ HRep γ' Per (H1.new (.row E' k' es)) w' ∧ More γ Per w γ' Per w' ∧ AR γ' Per w' (.hd H.nx) v') →
      ∃ v w' γ' Per' x H', ((execOp a.eval o).run P w = .ok (.value v) w' ∨ ((execOp a.eval o).run P w = .ok .skip w' ∧ v = undef)) ∧ More γ Per w γ' Per' w' ∧ HRep γ' Per' H' w' ∧ AR γ' Per' w' x v ∧ K (updO o.dst s x) H' := by
    rintro γ Per a w hst H1 E' k' es ps hnx hps hk ⟨v', w', γ', r1, r2, r3, r4⟩
    have hfz : frzA (H1.new (.row E' k' es)) (.hd H.nx) = some (H.nx, .sl ps) := by
      have e : (H1.new (.row E' k' es)).get H.nx = some (.row E' k' es) := by simp [AHeap.new, hnx]
      simp only [frzA, e, hps, Option.map_some]
    obtain ⟨Per', f1, f2, f3⟩ := frz_ok r2 r4 hfz
    exact ⟨v', w', γ', Per', .p (.sl ps), _, .inl r1, r3.trans f2, f1, .p _ _ f3, hk⟩
  refine does_run (by simp [hop]) fun γ Per a w hst => ?_
  have run : ∀ v' w', (Builtin.append_ #[t, t] o.type #[a.eval x, a.eval y]).run P w = .ok v' w' → (execOp a.eval o).run P w = .ok (.value v') w' := by
    intro v' w' hr
    simp only [execOp, hop, resolve, invoke, builtin, Sem.run_bind, Sem.run_pure, Result.andThen_ok, List.map_toArray, List.map_cons, List.map_nil, hr]
  have key : ∀ r, semApp H E m b (s.ev x) (s.ev y) = r → (∀ E' k' es, r = .new false (.row E' k' es) → ∃ v' w' γ', (execOp a.eval o).run P w = .ok (.value v') w' ∧ HRep γ' Per (H.new (.row E' k' es)) w' ∧ More γ Per w γ' Per w' ∧ AR γ' Per w' (.hd H.nx) v') ∧
      ∀ i E' k' es, r = .app i (.row E' k' es) → ∃ v' w' γ', (execOp a.eval o).run P w = .ok (.value v') w' ∧ HRep γ' Per ((H.del i).new (.row E' k' es)) w' ∧ More γ Per w γ' Per w' ∧ AR γ' Per w' (.hd H.nx) v' := by
    intro r hr
    unfold semApp onO at hr
    split at hr
    · rename_i ys hys
      obtain ⟨ns, hs⟩ := slV_ok t4 hst.heap (hst.ev hy) hys
      split at hr
      · rename_i he
        unfold chkR at hr
        dsimp only at hr
        split at hr
        · rename_i c2
          subst hr
          refine ⟨fun E' k' es e => ?_, fun i E' k' es e => (by cases e)⟩
          injection e with _ e; injection e with e1 e2 e3; subst e1; subst e2; subst e3
          obtain ⟨v', w', γ', r1, r2, r3, r4⟩ := run_app_nil (ty := o.type) t2 hst.heap hs c2
          rw [← ev_v hst hx he] at r1
          exact ⟨v', w', γ', run v' w' r1, r2, r3, r4⟩
        · subst hr; exact ⟨fun _ _ _ e => (by cases e), fun _ _ _ _ e => (by cases e)⟩
      · rename_i r' he
        dsimp only at hr
        split at hr
        · rename_i E' k' es hg
          unfold chkR at hr
          split at hr
          · rename_i c1
            obtain ⟨rfl, rfl⟩ := c1
            split at hr
            · rename_i c3
              subst hr
              refine ⟨fun E' k' es e => (by cases e), fun i E2 k2 es2 e => ?_⟩
              injection e with e0 e; injection e with e1 e2 e3; subst e0; subst e1; subst e2; subst e3
              have hxv := ev_ar hst hx he
              generalize hu : a.eval x = u at hxv
              cases hxv with
              | hd _ _ hγ h1 =>
                obtain ⟨v', w', γ', r1, r2, r3, r4⟩ := run_app_row (ty := o.type) t2 hst.heap hg hγ hs c3
                rw [← hu] at r1
                exact ⟨v', w', γ', run v' w' r1, r2, r3, r4⟩
            · subst hr; exact ⟨fun _ _ _ e => (by cases e), fun _ _ _ _ e => (by cases e)⟩
          · subst hr; exact ⟨fun _ _ _ e => (by cases e), fun _ _ _ _ e => (by cases e)⟩
        · subst hr; exact ⟨fun _ _ _ e => (by cases e), fun _ _ _ _ e => (by cases e)⟩
      · subst hr; exact ⟨fun _ _ _ e => (by cases e), fun _ _ _ _ e => (by cases e)⟩
    · subst hr; exact ⟨fun _ _ _ e => (by cases e), fun _ _ _ _ e => (by cases e)⟩
  obtain ⟨k1, k2⟩ := key _ rfl
  rcases frzRes_ok hf with ⟨E', k', es, ps, e, hps, hk⟩ | ⟨i, E', k', es, ps, e, hps, hk⟩
  · exact go γ Per a w hst (H1 := H) rfl hps hk (k1 _ _ _ e)
  · exact go γ Per a w hst (H1 := H.del i) rfl hps hk (k2 _ _ _ _ e)
end
end Bh
namespace Bh
open Go
section
variable {P : Program} {γ : Han} {Per : Nat → Prop} {H : AHeap} {w w' : World}
theorem seg_put {r E k : Nat} {es ys : List AV} {v : Value} (hH : HRep γ Per H w) (hg : H.get r = some (.row E k es)) (hγ : γ r = some v) {o : Nat} (hle : o + ys.length ≤ es.length) (hn : 0 < ys.length) {zs : List Value} (hzl : zs.length = ys.length * k)
    (hz1 : ∀ x ∈ zs, one x) (hyw : ∀ y ∈ ys, y.wid = k) (hy : ∀ j y, ys[j]? = some y → AR γ Per w y (packN y.isAgg y.wid (fun q => zs.getD q undef) (j * k))) :
    ∃ (b cap : Nat) (cur : Array Value), v = .slice (some ⟨b, 0, none⟩) es.length cap ∧ w.heap[b]? = some (.cells cur E (0, 0)) ∧ o * k + zs.length ≤ cur.size ∧
      HRep γ Per (H.set r (.row E k (spl es o ys))) (w.setRow b (spl cur.toList (o * k) zs).toArray) ∧ More γ Per w γ Per (w.setRow b (spl cur.toList (o * k) zs).toArray) := by
  obtain ⟨xs, hown, hone, hkk, hp, hel⟩ := hH.row_ hg hγ
  have hxl : xs.length = es.length * k := hown.1
  have q0 : (o + ys.length) * k ≤ es.length * k := Nat.mul_le_mul_right k hle
  have q1 : (o + ys.length) * k = o * k + ys.length * k := Nat.add_mul _ _ _
  have hfx : o * k + zs.length ≤ xs.length := by omega
  rcases hown.2 with ⟨e0, e1⟩ | ⟨b, cap, cur, e0, hz0, hh, hnc, hcm, hcs, htk⟩
  · exfalso
    simp only [e1, List.length_nil] at hxl
    have : 0 < ys.length * k := Nat.mul_pos hn hp
    omega
  · subst e0
    have hob := hH.own r _ _ b hg hγ rfl
    have q2 : es.length * k ≤ cap * k := Nat.mul_le_mul_right k hnc
    have hcl' : cur.toList.length = cap * k := by rw [Array.length_toList]; exact hcs
    have hfit : o * k + zs.length ≤ cur.toList.length := by omega
    have hM : More γ Per w γ Per (w.setRow b (spl cur.toList (o * k) zs).toArray) := setRow_more hob.2
    have hh' : w.heap[b]? = some (.cells cur.toList.toArray E (0, 0)) := by simpa using hh
    refine ⟨b, cap, cur, rfl, hh, by simpa using hfit, hH.upd hg hγ rfl (fun k hk => setRow_other w b k _ hk) (by simp) hM ?_, hM⟩
    have hlen : (spl es o ys).length = es.length := spl_length _ _ _ hle
    have main : OR γ Per (w.setRow b (spl cur.toList (o * k) zs).toArray) (.row E k (spl es o ys)) (.slice (some ⟨b, 0, none⟩) (spl es o ys).length cap) := by
      refine .row E k (spl es o ys) _ (spl xs (o * k) zs) ⟨by rw [spl_length _ _ _ hfx, hlen]; exact hxl, .inr ⟨b, cap, _, rfl, hz0, setRow_heap w b _ _ E _ hh', by rw [hlen]; exact hnc, hcm, ?_, ?_⟩⟩ (fun x hx => ?_) (fun y hy' => ?_) hp (fun j y hy' => ?_)
      · rw [List.size_toArray, spl_length _ _ _ hfit]; simpa using hcs
      · rw [hlen]
        apply List.ext_getElem?
        intro j
        rw [List.getElem?_take, spl_get _ _ _ hfx]
        by_cases hj : j < es.length * k
        · rw [if_pos hj, spl_get _ _ _ hfit]
          split
          · rfl
          · rw [← htk, List.getElem?_take, if_pos hj]
        · rw [if_neg hj, if_neg (by omega), List.getElem?_eq_none (by omega)]
      · simp only [spl, List.mem_append] at hx
        rcases hx with (hx | hx) | hx
        · exact hone x (List.mem_of_mem_take hx)
        · exact hz1 x hx
        · exact hone x (List.mem_of_mem_drop hx)
      · simp only [spl, List.mem_append] at hy'
        rcases hy' with (h | h) | h
        · exact hkk y (List.mem_of_mem_take h)
        · exact hyw y h
        · exact hkk y (List.mem_of_mem_drop h)
      · rw [spl_get _ _ _ hle] at hy'
        split at hy'
        · rename_i hj
          refine cast ?_ ((hy _ y hy').mono hM)
          congr 1
          have hyk := hyw y (List.mem_of_getElem? hy')
          rw [← packN_off y.isAgg y.wid (fun q => zs.getD q undef) ((j - o) * k), ← packN_off y.isAgg y.wid (fun j => (spl xs (o * k) zs).getD j undef) (j * k)]
          refine packN_congr (fun i hi => ?_) (fun hf => av_wid_pos hf)
          have e1 : (j - o) * k + o * k = j * k := by rw [← Nat.add_mul]; congr 1; omega
          have e2 : (j - o + 1) * k ≤ ys.length * k := Nat.mul_le_mul_right k (by omega)
          rw [Nat.add_mul, Nat.one_mul] at e2
          rw [spl_getD _ _ _ hfx, Nat.zero_add, if_pos (by omega)]
          congr 1; omega
        · rename_i hj
          have hjl := (List.getElem?_eq_some_iff.1 hy').1
          refine cast ?_ ((hel j y hy').mono hM)
          congr 1
          rw [← packN_off y.isAgg y.wid (fun j => xs.getD j undef) (j * k), ← packN_off y.isAgg y.wid (fun j => (spl xs (o * k) zs).getD j undef) (j * k)]
          refine packN_congr (fun i hi => ?_) (fun hf => av_wid_pos hf)
          have hyk := hkk y (List.mem_of_getElem? hy')
          rw [spl_getD _ _ _ hfx, Nat.zero_add, if_neg]
          rintro ⟨c1, c2⟩
          rcases Nat.lt_or_ge j o with h | h
          · have : (j + 1) * k ≤ o * k := Nat.mul_le_mul_right k h
            rw [Nat.add_mul, Nat.one_mul] at this
            omega
          · have : (o + ys.length) * k ≤ j * k := Nat.mul_le_mul_right k (by omega)
            omega
    rw [hlen] at main
    exact main
theorem zeroCells_get {z : Array Value} {k n q : Nat} (hz : z.size = k) (hp : 0 < k) (hq : q < n * k) : (Builtin.zeroCells z n).toList.getD q undef = z.toList.getD (q % k) undef := by
  have hlt : q % k < z.size := by rw [hz]; exact Nat.mod_lt _ hp
  simp [Builtin.zeroCells, List.getD, hq, hz, hlt, hz ▸ hlt]
theorem run_clear {t E k r ty : Nat} {y : PV} {es : List AV} {v : Value} (hH : HRep γ Per H w) (ht : SliceIs P t E k) (hz : ZeroIs P E y) (hp : 0 < k) (hg : H.get r = some (.row E k es)) (hγ : γ r = some v) {o n c : Nat} (hle : o + n ≤ es.length) {a : Option Addr}
    (ha : 0 < n → ∀ b cap, v = .slice (some ⟨b, 0, none⟩) es.length cap → a = some ⟨b, o * k, none⟩) :
    ∃ w', (Builtin.clear_ #[t] ty #[.slice a n c]).run P w = .ok (.tuple #[]) w' ∧ HRep γ Per (H.set r (.row E k (spl es o (List.replicate n (.p y))))) w' ∧ More γ Per w γ Per w' := by
  obtain ⟨i, zv, h1, h2, h3, h4, h5⟩ := hz
  have hik : i.size = k := by have := ht.2; simp [tSize, h1] at this; exact this
  obtain ⟨hvl, hvp, hvo⟩ := (h5 Per w).cellsV h3
  have hzs : zv.cells.size = k := by simp at hvl; omega
  by_cases hn : n = 0
  · subst hn
    have e : spl es o (List.replicate 0 (AV.p y)) = es := by simp [spl]
    refine ⟨w, ?_, ?_, More.refl _ _ _⟩
    · have hu : P.underlying t = some (.slice E) := ht.1
      cases a <;> simp [Builtin.clear_, run_underlying hu]
    · rw [e]
      have : H.set r (.row E k es) = H := by
        cases H with
        | mk get nx =>
          simp only [AHeap.set, AHeap.mk.injEq, and_true]
          funext j
          by_cases hj : j = r
          · rw [if_pos hj, hj]; exact hg.symm
          · rw [if_neg hj]
      rw [this]; exact hH
  · have hn : 0 < n := by omega
    have hzl : (Builtin.zeroCells zv.cells n).toList.length = (List.replicate n (AV.p y)).length * k := by simp [Builtin.zeroCells, hzs]
    have hone : ∀ x ∈ (Builtin.zeroCells zv.cells n).toList, one x := by
      intro x hx
      obtain ⟨q, hq, rfl⟩ := List.mem_iff_getElem.1 hx
      have hq' : q < n * k := by rw [hzl] at hq; simpa using hq
      have := zeroCells_get hzs hp hq'
      rw [List.getD, List.getElem?_eq_getElem hq, Option.getD_some] at this
      rw [this, List.getD, List.getElem?_eq_getElem (by rw [Array.length_toList, hzs]; exact Nat.mod_lt _ hp)]
      exact hvo _ (List.getElem_mem _)
    obtain ⟨b, cap, cur, e1, hh, hfit, k1, k2⟩ := seg_put (ys := List.replicate n (AV.p y)) hH hg hγ (o := o) (by simpa using hle) (by simpa using hn) hzl hone
      (fun e he => by obtain ⟨_, rfl⟩ := List.mem_replicate.1 he; show y.wid = k; omega)
      (fun q e he => by
        rw [List.getElem?_replicate] at he
        split at he
        · rename_i hq
          cases he
          have h6 : (q + 1) * k ≤ n * k := Nat.mul_le_mul_right k hq
          have h7 : (q + 1) * k = q * k + k := by rw [Nat.add_mul, Nat.one_mul]
          have e0 : packN y.isAgg y.wid (fun j => (Builtin.zeroCells zv.cells n).toList.getD j undef) (q * k) = zv := by
            refine Eq.trans ?_ hvp
            rw [← packN_off y.isAgg y.wid _ (q * k)]
            refine packN_congr (fun j hj => ?_) (fun hf => pv_wid_pos hf)
            rw [zeroCells_get hzs hp (by omega)]
            congr 1
            rw [Nat.zero_add, Nat.mul_comm, Nat.mul_add_mod, Nat.mod_eq_of_lt (by omega)]
          show AR γ Per w (.p y) (packN y.isAgg y.wid _ _)
          rw [e0]; exact .p _ _ (h5 Per w)
        · cases he)
    have ea := ha hn b cap e1
    subst ea
    have hs := run_storeCells_at P b (o * k) E (Builtin.zeroCells zv.cells n).toList 0 cur w hh (by simpa using hfit) hone
    refine ⟨_, ?_, k1, k2⟩
    have hu : P.underlying t = some (.slice E) := ht.1
    have hzv : (zeroValue E).run P w = .ok zv w := by simp [zeroValue, typeInfo, Sem.run, h1, h2]
    obtain ⟨n', rfl⟩ : ∃ n', n = n' + 1 := ⟨n - 1, by omega⟩
    simp only [Nat.add_zero] at hs
    simp only [Builtin.clear_, List.getElem?_toArray, List.getElem?_cons_zero, Sem.run_bind, run_underlying hu, Result.andThen_ok, hzv, hs, Sem.run_pure]
    simp [spl]
end
section
variable {P : Program} {Y : YS} {n : Nat} {s : AS} {H : AHeap} {K : AS → AHeap → Prop} {o : Oper} {h : Hint} {k : AK} {xs : List Operand}
theorem zip_eval {α : Type} (f : Operand → Value) : ∀ (A : List (Nat × α)) (B : List Operand), (((A.zip B).map fun q => (q.1.1, q.2)).map fun (q : Nat × Operand) => (q.1, f q.2)) = (A.zip (B.map f)).map fun q => (q.1.1, q.2)
  | [], B => by simp
  | a :: A, [] => by simp
  | a :: A, b :: B => by simp only [List.zip_cons_cons, List.map_cons]; rw [zip_eval f A B]
theorem ok_build {t : Nat} {ps : Array (Nat × Operand)} {l : List (Nat × Nat × Nat)} (hop : o.op = .build t ps) (hz : zOK P t = true) (hl : partsOf P t (ps.toList.map (·.1)) = some l) (hfit : fitsZ P t l = true) (hx : ∀ x ∈ ps.toList.map (·.2), OkO n x = true)
    (hf : fin P Y o.dst s H (sem P (.build t l) ((ps.toList.map (·.2)).map s.ev) H) K) : Does P Y n o s H K := by
  simp only [sem] at hf
  obtain ⟨c1, hf⟩ := fin_chk hf
  obtain ⟨z0, hcs, hf⟩ := fin_onO hf
  unfold partsOf at hl
  split at hl
  · rename_i places hpl
    obtain ⟨g1, g2⟩ := mapM_get hl
    simp only [partsOK, Bool.and_eq_true, beq_iff_eq, List.all_eq_true] at c1
    obtain ⟨c1, c2⟩ := c1
    obtain ⟨i, z, z1, z2, z3, z4, z5⟩ := zero_of hz
    unfold buildV at hcs
    split at hcs
    · rename_i zc hzc
      simp only [Option.some.injEq] at hcs
      subst hcs
      have hpl' : (ps.toList.map (·.2)).length = l.length := by rw [← g1]; simp
      have hl1 : l.map (·.1) = ps.toList.map (·.1) := by
        apply List.ext_getElem?
        intro j
        by_cases hj : j < ps.toList.length
        · obtain ⟨y, hy, hfy⟩ := g2 j _ (List.getElem?_eq_getElem (show j < (ps.toList.map (·.1)).length by simpa using hj))
          rw [Option.map_eq_some_iff] at hfy
          obtain ⟨q, _, rfl⟩ := hfy
          rw [List.getElem?_map, hy, List.getElem?_eq_getElem (show j < (ps.toList.map (·.1)).length by simpa using hj)]
          rfl
        · have hll : l.length = ps.toList.length := by rw [← g1]; simp
          rw [List.getElem?_eq_none (by simp only [List.length_map]; omega), List.getElem?_eq_none (by simp only [List.length_map]; omega)]
      have hpair : ps.toList = ((l.map fun q => (q.1, q.2.1)).zip (ps.toList.map (·.2))).map fun q => (q.1.1, q.2) := by
        have e1 : ∀ (A : List (Nat × Nat × Nat)) (B : List (Nat × Operand)), A.map (·.1) = B.map (·.1) → B = ((A.map fun q => (q.1, q.2.1)).zip (B.map (·.2))).map fun q => (q.1.1, q.2) := by
          intro A
          induction A with
          | nil => intro B hB; cases B <;> simp at hB ⊢
          | cons x A ih =>
            intro B hB
            cases B with
            | nil => simp at hB
            | cons y B =>
              simp only [List.map_cons, List.cons.injEq] at hB
              simp only [List.map_cons, List.zip_cons_cons, List.cons.injEq]
              refine ⟨?_, ih B hB.2⟩
              rw [hB.1]
        exact e1 l ps.toList hl1
      have hzv : ∀ Per w, VP Per w (.agg zc) z := fun Per w => by rw [← hzc]; exact z5 Per w
      have hget : ∀ q ∈ l, places[q.1]? = some (q.2.1, q.2.2) := by
        intro q hq
        obtain ⟨j, hj⟩ := List.mem_iff_getElem?.1 hq
        have hjl : j < (ps.toList.map (·.1)).length := by
          have := (List.getElem?_eq_some_iff.1 hj).1
          omega
        obtain ⟨y, hy, hfy⟩ := g2 j _ (List.getElem?_eq_getElem hjl)
        rw [hj] at hy; injection hy with hy; subst hy
        rw [Option.map_eq_some_iff] at hfy
        obtain ⟨p, hp, rfl⟩ := hfy
        exact hp
      have hB : BuildIs P t zc (l.map fun q => (q.1, q.2.1)) := ⟨i, z, places, z1, z2, hpl, hzv, fun p hp => by
        obtain ⟨q, hq, rfl⟩ := List.mem_map.1 hp
        exact ⟨q.2.2, hget q hq⟩⟩
      have e2 : ((l.map fun q => (q.1, q.2.1)).zip ((ps.toList.map (·.2)).map s.ev)).foldl (fun cs q => spl cs q.1.2 q.2.cells) (zc.map AV.p) = (l.zip ((ps.toList.map (·.2)).map s.ev)).foldl (fun cs q => spl cs q.1.2.1 q.2.cells) (zc.map .p) := by
        rw [List.zip_map_left, List.foldl_map]
        rfl
      refine does_v (by simp [hop]) hf fun γ Per a w hst => ?_
      obtain ⟨v, hr, hv⟩ := run_build_ (ys := (ps.toList.map (·.2)).map s.ev) (vs := (ps.toList.map (·.2)).map a.eval) hB (by rw [List.length_map]; exact c1) (hst.evs hx) (fun j p y hp hy => by
        rw [List.getElem?_map, Option.map_eq_some_iff] at hp
        obtain ⟨q, hq, rfl⟩ := hp
        have := c2 (q, y) (List.mem_iff_getElem?.2 ⟨j, by rw [List.getElem?_zip_eq_some]; exact ⟨hq, hy⟩⟩)
        simp only [Bool.and_eq_true, beq_iff_eq] at this
        obtain ⟨w1, w2⟩ := this
        refine ⟨⟨places, hpl, by rw [w1]; exact hget q (List.mem_of_getElem? hq)⟩, ?_, w2⟩
        have hfit' := hfit
        unfold fitsZ at hfit'
        rw [hzc] at hfit'
        simp only [List.all_eq_true, decide_eq_true_eq] at hfit'
        rw [w1]
        exact hfit' q (List.mem_of_getElem? hq))
      rw [e2] at hv
      refine ⟨v, ?_, hv⟩
      have e3 : ps.map (fun (q : Nat × Operand) => (q.1, a.eval q.2)) = (((l.map fun q => (q.1, q.2.1)).zip ((ps.toList.map (·.2)).map a.eval)).map fun q => (q.1.1, q.2)).toArray := by
        apply Array.ext'
        rw [Array.toList_map]
        conv => lhs; rw [hpair]
        exact zip_eval a.eval _ _
      simp only [execOp, hop, Sem.run_bind]
      rw [e3, hr]
      rfl
    · cases hcs
  · cases hl
theorem loadE {agg : Bool} {m : Nat} {x z : AV} (h : semLoad eH agg m x = some z) : semLoad H agg m x = some z := by
  cases x with
  | p y => cases y <;> first | exact h | (simp [semLoad] at h; done)
  | _ => simp [semLoad, eH] at h
theorem idxE {k : Nat} {x i z : AV} (h : semIdx eH k x i = some z) : semIdx H k x i = some z := by
  unfold semIdx at h ⊢
  split at h
  · cases h
  · split at h
    · exact h
    · simp [eH] at h
    · exact h
    · cases h
theorem lenE {x : AV} {m : Nat} (h : semLen eH x = some m) : semLen H x = some m := by
  unfold semLen at h ⊢
  split at h
  · exact h
  · exact h
  · simp [eH] at h
  · exact h
  · cases h
theorem sliceE {k : Nat} {lo hi : Option AV} {x z : AV} (h : semSlice eH k lo hi x = some z) : semSlice H k lo hi x = some z := by
  unfold semSlice at h ⊢
  split at h
  · cases h
  · rename_i m hm
    rw [lenE hm]
    dsimp only
    split at h
    · split at h
      · rename_i hle
        rw [if_pos hle]
        split at h
        · exact h
        · exact h
        · simp [eH] at h
        · exact h
        · cases h
      · cases h
    · cases h
theorem fin_le {d : Option Nat} {x x' : Option AV} (h : fin P Y d s H (onO x .v) K) (hx : ∀ y, x = some y → x' = some y) : fin P Y d s H (onO x' .v) K := by
  obtain ⟨z, hz, h⟩ := fin_onO h
  rw [hx z hz]; exact h
theorem fin_ld {d : Option Nat} {b agg : Bool} {m : Nat} {x : AV} (h : fin P Y d s H (sem P (ldK b agg m) [x] H) K) : fin P Y d s H (sem P (.load agg m) [x] H) K := by
  cases b with
  | false => exact h
  | true => exact fin_le (x := semLoad eH agg m x) h fun y => loadE
theorem fin_ix {d : Option Nat} {b : Bool} {k : Nat} {x i : AV} (h : fin P Y d s H (sem P (ixK b k) [x, i] H) K) : fin P Y d s H (sem P (.idx k) [x, i] H) K := by
  cases b with
  | false => exact h
  | true => exact fin_le (x := semIdx eH k x i) h fun y => idxE
theorem fin_ln {d : Option Nat} {b : Bool} {x : AV} (h : fin P Y d s H (sem P (lnK b) [x] H) K) : fin P Y d s H (sem P (.len false) [x] H) K := by
  cases b with
  | false => exact h
  | true =>
    have h : fin P Y d s H (onO (semLen eH x) fun n => .v (.p (.v (.int .i64 n)))) K := h
    show fin P Y d s H (onO (semLen H x) fun n => .v (.p (.v (.int .i64 n)))) K
    obtain ⟨z, hz, h⟩ := fin_onO h
    rw [lenE hz]; exact h
theorem fin_sc {d : Option Nat} {b lo hi : Bool} {k : Nat} {l : List AV} (h : fin P Y d s H (sem P (slK b k lo hi) l H) K) : fin P Y d s H (sem P (.slice k lo hi) l H) K := by
  cases b with
  | false => exact h
  | true =>
    match l, h with
    | [], h => exact h.elim
    | x :: l, h =>
      have h : fin P Y d s H (sliceArgs lo hi l fun a b => onO (semSlice eH k a b x) .v) K := h
      show fin P Y d s H (sliceArgs lo hi l fun a b => onO (semSlice H k a b x) .v) K
      unfold sliceArgs at h ⊢
      split at h
      · exact fin_le h fun y => sliceE
      · exact fin_le h fun y => sliceE
      · exact fin_le h fun y => sliceE
      · exact fin_le h fun y => sliceE
      · exact h.elim
theorem fin_cl {d : Option Nat} {n h : Bool} {l : List AV} (hf : fin P Y d s H (sem P (clK n h) l H) K) : ∃ h', fin P Y d s H (sem P (.call h') l H) K := by
  cases n with
  | false => exact ⟨h, hf⟩
  | true =>
    refine ⟨true, ?_⟩
    match l, hf with
    | [], hf => exact hf.elim
    | x :: l, hf =>
      have hf : fin P Y d s H (semCallN x l) K := hf
      show fin P Y d s H (semCall true x l) K
      unfold semCallN at hf
      unfold semCall
      split at hf
      · exact hf
      · exact hf
      · exact hf.elim
theorem ok_call {c : Call} {fx : Operand} {xs : List Operand} {hp : Bool} (hop : o.op = .call c) (hc : c.callee = .value fx) (hxs : c.args.toList = xs) (hfx : OkO n fx = true) (hx : ∀ x ∈ xs, OkO n x = true)
    (hf : fin P Y o.dst s H (sem P (.call hp) ((fx :: xs).map s.ev) H) K) : Does P Y n o s H K := by
  simp only [sem, List.map_cons, rC] at hf
  unfold semCall at hf
  have pclo : ∀ {g : FuncId} {caps : List PV}, s.ev fx = .p (.clo g caps) → ∀ (γ : Han) (Per : Nat → Prop) (w : World) (u : Value), AR γ Per w (s.ev fx) u → ∃ cs, u = .func (.func g) #[] cs.toArray ∧ ARs γ Per w (caps.map .p) cs := by
    intro g caps he γ Per w u hu
    rw [he] at hu
    cases hu.pv with
    | clo _ _ cs hs hv => exact ⟨cs, rfl, VPs.ar ⟨hs, hv⟩⟩
  split at hf
  · rename_i g caps he
    split at hf
    · obtain ⟨Post, h1, h2⟩ := hf
      exact does_call hop hc hxs hfx hx (pclo he) h1 h2
    · obtain ⟨ys, hys, hf⟩ := fin_onO hf
      obtain ⟨y, h1, h2⟩ := hf
      have e := allP_get hys
      refine does_call (Post := fun r H' => r = .p y ∧ H' = H) hop hc hxs hfx hx (pclo he) ?_ (fun r H' hr => by obtain ⟨rfl, rfl⟩ := hr; exact h2)
      have := (h1 H).noY (Y := Y)
      rw [List.map_append, ← e] at this
      exact this
  · rename_i g caps he
    split at hf
    · obtain ⟨Post, h1, h2⟩ := hf
      refine does_call hop hc hxs hfx hx (fun γ Per w u hu => ?_) h1 h2
      rw [he] at hu
      cases hu with
      | cl _ _ cs hs hv => exact ⟨cs, rfl, hs, hv⟩
    · exact hf.elim
  · rename_i i he
    split at hf
    · obtain ⟨Post, h1, h2⟩ := hf
      exact does_yld hop hc hxs hfx hx he h1 h2
    · exact hf.elim
  · exact hf.elim
theorem ok_mkf {f : FuncId} {xs : List Operand} (hop : o.op = .makeFunc (.func f) #[] xs.toArray) (hx : ∀ x ∈ xs, OkO n x = true) (hf : fin P Y o.dst s H (sem P (.mkf f) (xs.map s.ev) H) K) : Does P Y n o s H K := by
  simp only [sem] at hf
  refine does_v (by simp [hop]) hf fun γ Per a w hst => ?_
  have hv := hst.evs hx
  refine ⟨.func (.func f) #[] (xs.map a.eval).toArray, by simp [execOp, hop, Instr.makeFunc], ?_⟩
  unfold mkClo
  cases ha : allP (xs.map s.ev) with
  | none => exact .cl f _ _ hv.1 hv.2
  | some ys =>
    rw [allP_get ha] at hv
    exact .p _ _ (.clo f ys _ hv.ps.1 hv.ps.2)
theorem ok_mx {x y : Operand} {ats : Array TypeId} (hop : o.op = .call { callee := .builtin .max, args := #[x, y], argTypes := ats }) (hx : OkO n x = true) (hy : OkO n y = true) (hf : fin P Y o.dst s H (sem P .mx [s.ev x, s.ev y] H) K) : Does P Y n o s H K := by
  simp only [sem, r2] at hf
  obtain ⟨k1, u, hu, hf⟩ := fin_onI hf
  obtain ⟨k2, v, hv, hf⟩ := fin_onI hf
  refine does_v (by simp [hop]) hf fun γ Per a w hst => ⟨_, ?_, .p _ _ (.v _)⟩
  have : (if v > u then v else u) = max u v := by split <;> omega
  simp [execOp, hop, resolve, invoke, builtin, Builtin.max_, Builtin.max2, ev_v hst hx hu, ev_v hst hy hv, this]
theorem ok_mn {x y : Operand} {ats : Array TypeId} (hop : o.op = .call { callee := .builtin .min, args := #[x, y], argTypes := ats }) (hx : OkO n x = true) (hy : OkO n y = true) (hf : fin P Y o.dst s H (sem P .mn [s.ev x, s.ev y] H) K) : Does P Y n o s H K := by
  simp only [sem, r2] at hf
  obtain ⟨k1, u, hu, hf⟩ := fin_onI hf
  obtain ⟨k2, v, hv, hf⟩ := fin_onI hf
  refine does_v (by simp [hop]) hf fun γ Per a w hst => ⟨_, ?_, .p _ _ (.v _)⟩
  have : (if v < u then v else u) = min u v := by split <;> omega
  simp [execOp, hop, resolve, invoke, builtin, Builtin.min_, Builtin.min2, ev_v hst hx hu, ev_v hst hy hv, this]
theorem ok_len {x : Operand} {t E : TypeId} (hop : o.op = .call { callee := .builtin .len, args := #[x], argTypes := #[t] }) (ht : P.underlying t = some (.slice E)) (hx : OkO n x = true) (hf : fin P Y o.dst s H (sem P (.len false) [s.ev x] H) K) : Does P Y n o s H K := by
  simp only [sem, r1, Bool.false_eq_true, if_false] at hf
  obtain ⟨m, hm, hf⟩ := fin_onO hf
  refine does_v (by simp [hop]) hf fun γ Per a w hst => ⟨.int .i64 m, ?_, .p _ _ (.v _)⟩
  obtain ⟨ad, cap, hv⟩ := len_ok hst.heap (hst.ev hx) hm
  simp [execOp, hop, resolve, invoke, builtin, Builtin.len_, run_underlying ht, hv, goInt]
theorem ok_lenS {x : Operand} {t : TypeId} (hop : o.op = .call { callee := .builtin .len, args := #[x], argTypes := #[t] }) (ht : P.underlying t = some .string) (hx : OkO n x = true) (hf : fin P Y o.dst s H (sem P (.len true) [s.ev x] H) K) : Does P Y n o s H K := by
  simp only [sem, r1, if_true] at hf
  obtain ⟨b, hb, hf⟩ := fin_onS hf
  refine does_v (by simp [hop]) hf fun γ Per a w hst => ⟨.int .i64 b.size, ?_, .p _ _ (.v _)⟩
  simp [execOp, hop, resolve, invoke, builtin, Builtin.len_, run_underlying ht, ev_v hst hx hb, goInt]
theorem ok_mlen {x : Operand} {t K' E : TypeId} (hop : o.op = .call { callee := .builtin .len, args := #[x], argTypes := #[t] }) (ht : P.underlying t = some (.map K' E)) (hx : OkO n x = true) (hf : fin P Y o.dst s H (sem P .mlen [s.ev x] H) K) : Does P Y n o s H K := by
  simp only [sem, r1] at hf
  obtain ⟨r, m, he, hg, hf⟩ := fin_onM hf
  refine does_v (by simp [hop]) hf fun γ Per a w hst => ⟨.int .i64 m.length, ?_, .p _ _ (.v _)⟩
  have hxv := ev_ar hst hx he
  generalize hu : a.eval x = u at hxv
  cases hxv with
  | hd _ _ hγ h1 =>
    obtain ⟨b, es, rfl, hh, hl, _⟩ := hst.heap.map_ hg hγ
    simp [execOp, hop, resolve, invoke, builtin, Builtin.len_, run_underlying ht, hu, goInt, run_getMap hh, hl]
theorem ok_nilc {x : Operand} (hop : o.op = .nilCheck x) (hx : OkO n x = true) (hf : fin P Y o.dst s H (sem P .nilc [s.ev x] H) K) : Does P Y n o s H K := by
  simp only [sem, r1] at hf
  obtain ⟨z, hz, hf⟩ := fin_onO hf
  refine does_v (by simp [hop]) hf fun γ Per a w hst => ?_
  have hv := hst.ev hx
  generalize hu : a.eval x = u at hv
  revert hz hv
  generalize s.ev x = y
  intro hz hv
  have fin : ∀ ad, u = .pointer (some ad) → (execOp a.eval o).run P w = .ok (.value u) w := by intro ad e; simp [execOp, hop, hu, e]
  cases y with
  | p y =>
    cases y with
    | ref y =>
      simp only [semNil, Option.some.injEq] at hz; subst hz
      have hv' := hv.pv
      cases hv' with | ref _ ad f hc he => exact ⟨_, fin ad rfl, hv⟩
    | _ => simp [semNil] at hz
  | pb i o' =>
    simp only [semNil, Option.some.injEq] at hz; subst hz
    cases hv with | pb _ _ b h => exact ⟨_, fin _ rfl, .pb _ _ b h⟩
  | pe i m k o' =>
    simp only [semNil, Option.some.injEq] at hz; subst hz
    cases hv with | pe _ _ _ _ b len cap h => exact ⟨_, fin _ rfl, .pe _ _ _ _ b len cap h⟩
  | _ => simp [semNil] at hz
theorem ok_sidx {t : TypeId} {x i : Operand} (hop : o.op = .index t x i) (ht : P.underlying t = some .string) (hx : OkO n x = true) (hi : OkO n i = true) (hf : fin P Y o.dst s H (sem P .sidx [s.ev x, s.ev i] H) K) : Does P Y n o s H K := by
  simp only [sem, r2, semSidx] at hf
  obtain ⟨b, hb, hf⟩ := fin_onS hf
  obtain ⟨kd, z, hz, hf⟩ := fin_onI hf
  obtain ⟨h0, hf⟩ := fin_chk hf
  split at hf
  · rename_i h1
    refine does_v (by simp [hop]) hf fun γ Per a w hst => ⟨_, ?_, .p _ _ (.v _)⟩
    have : b[z.toNat]? = some b[z.toNat] := getElem?_pos b z.toNat h1
    simp [execOp, hop, ev_v hst hx hb, ev_v hst hi hz, Instr.index, asIntOf, run_underlying ht, h0, this]
  · exact hf.elim
theorem map_of {t E : TypeId} (h : mapE P t = some E) : MapIs P t E ∧ zOK P E = true := by
  unfold mapE at h
  split at h
  · rename_i K' E' ht
    split at h
    · rename_i hc
      simp only [Bool.and_eq_true] at hc
      injection h with h; subst h
      refine ⟨⟨K', ht, ?_⟩, hc.2⟩
      have := hc.1
      unfold isStr at this
      split at this
      · assumption
      · cases this
    · cases h
  · cases h
theorem ok_mkm {t : TypeId} (hop : o.op = .makeMap t none) (hf : fin P Y o.dst s H (sem P .mkm [] H) K) : Does P Y n o s H K := by
  refine does_run (by simp [hop]) fun γ Per a w hst => ?_
  obtain ⟨v, w', γ', r1, r2, r3, r4⟩ := run_mkm (P := P) (t := t) hst.heap
  exact ⟨v, w', γ', Per, _, _, .inl (by simp only [execOp, hop, Option.map_none, Sem.run_bind, r1, Result.andThen_ok, Sem.run_pure]), r3, r2, r4, hf⟩
theorem ok_lkp {t E : TypeId} {x i : Operand} {ok : Bool} (hop : o.op = .lookup t x i ok) (hE : mapE P t = some E) (hx : OkO n x = true) (hi : OkO n i = true) (hf : fin P Y o.dst s H (sem P (.lkp ok E) [s.ev x, s.ev i] H) K) : Does P Y n o s H K := by
  obtain ⟨t1, t2⟩ := map_of hE
  simp only [sem, r2] at hf
  obtain ⟨r, m, he, hg, hf⟩ := fin_onM hf
  obtain ⟨b, hb, hf⟩ := fin_onS hf
  refine does_v (by simp [hop]) hf fun γ Per a w hst => ?_
  have hxv := ev_ar hst hx he
  generalize hu : a.eval x = u at hxv
  cases hxv with
  | hd _ _ hγ h1 =>
    obtain ⟨v, hr, hv⟩ := run_lkp (k := b) t1 (zero_of t2) hst.heap hg hγ ok
    exact ⟨v, by simp only [execOp, hop, hu, ev_v hst hi hb, Sem.run_bind, hr, Result.andThen_ok, Sem.run_pure], hv⟩
theorem ok_mup {t E : TypeId} {x i y : Operand} (hop : o.op = .mapUpdate t x i y) (hE : mapE P t = some E) (hx : OkO n x = true) (hi : OkO n i = true) (hy : OkO n y = true) (hf : fin P Y o.dst s H (sem P .mup [s.ev x, s.ev i, s.ev y] H) K) : Does P Y n o s H K := by
  obtain ⟨t1, t2⟩ := map_of hE
  simp only [sem, r3] at hf
  obtain ⟨r, m, he, hg, hf⟩ := fin_onM hf
  obtain ⟨b, hb, hf⟩ := fin_onS hf
  obtain ⟨u, hu, hf⟩ := fin_onP hf
  refine does_run (by simp [hop]) fun γ Per a w hst => ?_
  have hxv := ev_ar hst hx he
  generalize hux : a.eval x = ux at hxv
  cases hxv with
  | hd _ _ hγ h1 =>
    obtain ⟨w', hr, hH, hm⟩ := run_mup (k := b) t1 hst.heap hg hγ (ev_ar hst hy hu).pv
    exact ⟨undef, w', γ, Per, .un, _, .inr ⟨by simp only [execOp, hop, hux, ev_v hst hi hb, Sem.run_bind, hr, Result.andThen_ok, Sem.run_pure], rfl⟩, hm, hH, .un _, hf⟩
theorem ok_rng {t K' E : TypeId} {x : Operand} (hop : o.op = .range t x) (ht : P.underlying t = some (.map K' E)) (hx : OkO n x = true) (hf : fin P Y o.dst s H (sem P .rng [s.ev x] H) K) : Does P Y n o s H K := by
  simp only [sem, r1] at hf
  obtain ⟨r, m, he, hg, hf⟩ := fin_onM hf
  refine does_run (by simp [hop]) fun γ Per a w hst => ?_
  have hxv := ev_ar hst hx he
  generalize hux : a.eval x = ux at hxv
  cases hxv with
  | hd _ _ hγ h1 =>
    obtain ⟨u, w', γ', r1, r2, r3, r4⟩ := run_rng ht hst.heap hg hγ
    exact ⟨u, w', γ', Per, _, _, .inl (by simp only [execOp, hop, hux, Sem.run_bind, r1, Result.andThen_ok, Sem.run_pure]), r3, r2, r4, hf⟩
theorem ok_nxt {x : Operand} (hop : o.op = .next x false) (hx : OkO n x = true) (hf : fin P Y o.dst s H (sem P .nxt [s.ev x] H) K) : Does P Y n o s H K := by
  simp only [sem, r1] at hf
  obtain ⟨r, mi, seen, q, m, he, hg, hm, hf⟩ := fin_onIt hf
  obtain ⟨c, hf1⟩ := fin_chk hf
  clear hf
  subst c
  have hf := hf1
  refine does_run (by simp [hop]) fun γ Per a w hst => ?_
  have hxv := ev_ar hst hx he
  generalize hux : a.eval x = ux at hxv
  cases hxv with
  | hd _ _ hγ h1 =>
    rcases run_nxt (P := P) (ty := o.type) hst.heap hg hm hγ with ⟨hall, hr⟩ | ⟨i, y, hi, hns, u, w', hr, hu, hH, hM⟩
    · refine ⟨_, w, γ, Per, _, _, .inl (by simp only [execOp, hop, hux, Sem.run_bind, hr, Result.andThen_ok, Sem.run_pure]), More.refl _ _ _, hst.heap, .p _ _ (.tup [.v (.bool false)] [.bool false] rfl (fun j c hc => ?_)), hf.1 hall⟩
      match j, hc with
      | 0, hc => simp at hc; subst hc; exact .v _
    · exact ⟨u, w', γ, Per, _, _, .inl (by simp only [execOp, hop, hux, Sem.run_bind, hr, Result.andThen_ok, Sem.run_pure]), hM, hH, hu, hf.2 i y hi hns⟩
theorem ok_ent {x : Operand} (hop : o.op = .entry x) (hx : OkO n x = true) (hf : fin P Y o.dst s H (sem P .ent [s.ev x] H) K) : Does P Y n o s H K := by
  simp only [sem, r1] at hf
  obtain ⟨r, mi, seen, q, m, he, hg, hm, hf1⟩ := fin_onIt hf
  obtain ⟨c, hf2⟩ := fin_chk hf1
  obtain ⟨i, hi, hf3⟩ := fin_onO hf2
  obtain ⟨y, hy, hf4⟩ := fin_onO hf3
  rw [c] at hg
  rw [List.getLast?_eq_some_iff] at hi
  obtain ⟨pre, hpre⟩ := hi
  rw [hpre] at hg
  refine does_v (by simp [hop]) hf4 fun γ Per a w hst => ?_
  have hxv := ev_ar hst hx he
  generalize hux : a.eval x = ux at hxv
  cases hxv with
  | hd _ _ hγ h1 =>
    obtain ⟨u, hr, hu⟩ := run_ent (P := P) hst.heap hg hm hγ hy
    exact ⟨u, by simp only [execOp, hop, hux, Sem.run_bind, hr, Result.andThen_ok, Sem.run_pure], hu⟩
theorem isSl_of {t : TypeId} (h : isSl P t = true) : ∃ E, P.underlying t = some (.slice E) := by
  unfold isSl at h
  split at h
  · exact ⟨_, by assumption⟩
  · cases h
theorem isStr_of {t : TypeId} (h : isStr P t = true) : P.underlying t = some .string := by
  unfold isStr at h
  split at h
  · assumption
  · cases h
theorem isMap_of {t : TypeId} (h : isMap P t = true) : ∃ K' E, P.underlying t = some (.map K' E) := by
  unfold isMap at h
  split at h
  · exact ⟨_, _, by assumption⟩
  · cases h
theorem ok_clear {t E m b : Nat} {x : Operand} (hop : o.op = .call { callee := .builtin .clear, args := #[x], argTypes := #[t] }) (hq : sl3 P t = some (E, m, b)) (hz : zOK P E = true) (hx : OkO n x = true) (hf : fin P Y o.dst s H (sem P (.clrs E m) [s.ev x] H) K) : Does P Y n o s H K := by
  obtain ⟨t1, t2, t3, t4⟩ := slice_of_sl3 hq
  simp only [sem, r1, semClear] at hf
  have run : ∀ {u : Value} {a : Act} {w w' : World}, a.eval x = u → (Builtin.clear_ #[t] o.type #[u]).run P w = .ok (.tuple #[]) w' → (execOp a.eval o).run P w = .ok (.value (.tuple #[])) w' := by
    intro u a w w' hu hr
    simp [execOp, hop, resolve, invoke, builtin, hu, hr]
  split at hf
  · rename_i he
    refine does_v (by simp [hop]) hf fun γ Per a w hst => ⟨.tuple #[], ?_, .p _ _ (.tup [] [] rfl (fun j c hc => by simp at hc))⟩
    have := hst.ev hx
    rw [he] at this
    exact run this.v (by simp [Builtin.clear_, run_underlying t1.1])
  · rename_i r he
    split at hf
    · rename_i E' k' es hg
      obtain ⟨⟨rfl, rfl⟩, hf⟩ := fin_chk hf
      refine does_run (by simp [hop]) fun γ Per a w hst => ?_
      have hv := hst.ev hx
      rw [he] at hv
      cases hv with
      | hd _ _ hγ h1 =>
        obtain ⟨xs, hown, hone, hkk, hp, hel⟩ := hst.heap.row_ hg hγ
        have key : ∃ ad cap, a.eval x = .slice ad es.length cap ∧ (0 < es.length → ∀ b cap', a.eval x = .slice (some ⟨b, 0, none⟩) es.length cap' → ad = some ⟨b, 0 * k', none⟩) := by
          rcases hown.2 with ⟨e0, e1⟩ | ⟨b, cap, cur, e0, _⟩
          · have : es.length = 0 := by
              have hxl := hown.1
              simp only [e1, List.length_nil] at hxl
              rcases Nat.eq_zero_or_pos es.length with h | h
              · exact h
              · have := Nat.mul_pos h hp; omega
            exact ⟨none, 0, by rw [e0, this], fun h => by omega⟩
          · exact ⟨_, cap, e0, fun _ b' cap' e => by rw [e0] at e; injection e with e _ _; injection e with e; injection e with e; subst e; simp⟩
        obtain ⟨ad, cap, e, hk⟩ := key
        obtain ⟨w', r1, r2, r3⟩ := run_clear (ty := o.type) (o := 0) (n := es.length) (c := cap) (a := ad) hst.heap t1 (zero_of hz) t4 hg hγ (by omega) hk
        refine ⟨.tuple #[], w', γ, Per, _, _, .inl (run e r1), r3, r2, .un _, ?_⟩
        have e2 : spl es 0 (List.replicate es.length (AV.p (zeroT P E'))) = List.replicate es.length (.p (zeroT P E')) := by simp [spl]
        rw [e2]; exact hf
    · exact hf.elim
  · rename_i r oo nn k2 he
    split at hf
    · rename_i E' k' es hg
      obtain ⟨⟨rfl, rfl, rfl, hle⟩, hf⟩ := fin_chk hf
      refine does_run (by simp [hop]) fun γ Per a w hst => ?_
      have hv := hst.ev hx
      rw [he] at hv
      generalize hu : a.eval x = u at hv
      cases hv with
      | ss _ _ _ _ len cap c ad aa hγ hl hc ha =>
        obtain ⟨w', r1, r2, r3⟩ := run_clear (ty := o.type) (o := oo) (n := nn) (c := c) (a := aa) hst.heap t1 (zero_of hz) t4 hg hγ hle (fun h0 b cap' e => by
          obtain ⟨b', e1, e2⟩ := ha (by omega)
          injection e with e _ _
          rw [e1] at e; injection e with e; injection e with e; subst e
          exact e2)
        refine ⟨.tuple #[], w', γ, Per, _, _, .inl (run hu r1), r3, r2, .un _, ?_⟩
        have e2 : spl es oo (List.replicate nn (AV.p (zeroT P E'))) = es.take oo ++ List.replicate nn (.p (zeroT P E')) ++ es.drop (oo + nn) := by simp [spl]
        rw [e2]; exact hf
    · exact hf.elim
  · exact hf.elim
theorem op_ok {g : Option (Nat × Bool)} (hs : slimK P h o.dst o.op = some (k, xs)) (hx : ∀ x ∈ xs, OkO n x = true) (hf : fin P Y o.dst s H (sem P k (xs.map s.ev) H) K) : Does P Y n o s H K := by
  cases hop : o.op with
  | move x =>
    rw [hop] at hs; simp only [slimK, Option.some.injEq, Prod.mk.injEq] at hs; obtain ⟨rfl, rfl⟩ := hs
    exact ok_mv (.inl hop) (hx x (by simp)) hf
  | assign x =>
    rw [hop] at hs; simp only [slimK, Option.some.injEq, Prod.mk.injEq] at hs; obtain ⟨rfl, rfl⟩ := hs
    exact ok_mv (.inr hop) (hx x (by simp)) hf
  | pick c x y =>
    rw [hop] at hs; simp only [slimK, Option.some.injEq, Prod.mk.injEq] at hs; obtain ⟨rfl, rfl⟩ := hs
    exact ok_pick hop (hx c (by simp)) (hx x (by simp)) (hx y (by simp)) hf
  | extract x i =>
    rw [hop] at hs; simp only [slimK, Option.some.injEq, Prod.mk.injEq] at hs; obtain ⟨rfl, rfl⟩ := hs
    exact ok_ext hop (hx x (by simp)) hf
  | binOp op T x y T' =>
    rw [hop] at hs; unfold slimK at hs; dsimp only at hs
    by_cases hc : (isNilC y && isSl P T && isEq op) = true
    · rw [if_pos hc] at hs
      simp only [Option.some.injEq, Prod.mk.injEq] at hs; obtain ⟨rfl, rfl⟩ := hs
      simp only [Bool.and_eq_true] at hc
      obtain ⟨⟨h1, h2⟩, h3⟩ := hc
      have hy : y = .const (.slice none 0 0) := by
        unfold isNilC at h1
        split at h1
        · rfl
        · cases h1
      subst hy
      obtain ⟨E, hE⟩ := isSl_of h2
      exact ok_eqn hop hE h3 (hx x (by simp)) hf
    · rw [if_neg hc] at hs
      by_cases hc2 : (isNilP y && isPtr P T && isEq op) = true
      · rw [if_pos hc2] at hs
        simp only [Option.some.injEq, Prod.mk.injEq] at hs; obtain ⟨rfl, rfl⟩ := hs
        simp only [Bool.and_eq_true] at hc2
        obtain ⟨⟨h1, h2⟩, h3⟩ := hc2
        have hy : y = .const (.pointer none) := by
          unfold isNilP at h1
          split at h1
          · rfl
          · cases h1
        subst hy
        obtain ⟨E, hE⟩ : ∃ E, P.underlying T = some (.pointer E) := by
          unfold isPtr at h2
          split at h2
          · exact ⟨_, by assumption⟩
          · cases h2
        exact ok_eqp hop hE h3 (hx x (by simp)) hf
      · rw [if_neg hc2] at hs
        by_cases hc3 : (isBool P T && isEq op) = true
        · rw [if_pos hc3] at hs
          simp only [Option.some.injEq, Prod.mk.injEq] at hs; obtain ⟨rfl, rfl⟩ := hs
          simp only [Bool.and_eq_true] at hc3
          have hT : P.underlying T = some .bool := by
            have := hc3.1
            unfold isBool at this
            split at this
            · assumption
            · cases this
          exact ok_eqb hop hT hc3.2 (hx x (by simp)) (hx y (by simp)) hf
        · rw [if_neg hc3] at hs
          simp only [Option.some.injEq, Prod.mk.injEq] at hs; obtain ⟨rfl, rfl⟩ := hs
          exact ok_bin hop (hx x (by simp)) (hx y (by simp)) hf
  | unOp op T x =>
    rw [hop] at hs; simp only [slimK, Option.some.injEq, Prod.mk.injEq] at hs; obtain ⟨rfl, rfl⟩ := hs
    exact ok_un hop (hx x (by simp)) hf
  | convert src dst x =>
    rw [hop] at hs; simp only [slimK] at hs
    split at hs
    · rename_i sd kd h1 h2
      simp only [Option.some.injEq, Prod.mk.injEq] at hs; obtain ⟨rfl, rfl⟩ := hs
      exact ok_conv hop h1 h2 (hx x (by simp)) hf
    · cases hs
  | load t x =>
    rw [hop] at hs; simp only [slimK] at hs
    split at hs
    · rename_i agg m h1 h2
      simp only [Option.some.injEq, Prod.mk.injEq] at hs; obtain ⟨rfl, rfl⟩ := hs
      exact ok_load hop h1 h2 (hx x (by simp)) (fin_ld hf)
    · cases hs
  | store t x y =>
    rw [hop] at hs; simp only [slimK, Option.map_eq_some_iff, Prod.mk.injEq] at hs
    obtain ⟨m, h2, rfl, rfl⟩ := hs
    exact ok_store hop h2 (hx x (by simp)) (hx y (by simp)) hf
  | fieldAddr T x f =>
    rw [hop] at hs; simp only [slimK] at hs
    split at hs
    · rename_i fs hfs
      rw [Option.bind_eq_some_iff] at hs
      obtain ⟨fd, hfd, hs⟩ := hs
      split at hs
      · rename_i agg m h1 h2
        split at hs
        · cases hs
        · rename_i h0
          simp only [Option.some.injEq, Prod.mk.injEq] at hs; obtain ⟨rfl, rfl⟩ := hs
          exact ok_fld hop ⟨fs, fd, hfs, hfd, rfl, h1, h2, h0⟩ (hx x (by simp)) hf
      · cases hs
    · cases hs
  | field T x f =>
    rw [hop] at hs; simp only [slimK] at hs
    split at hs
    · rename_i fs hfs
      rw [Option.bind_eq_some_iff] at hs
      obtain ⟨fd, hfd, hs⟩ := hs
      split at hs
      · rename_i agg m h1 h2
        split at hs
        · cases hs
        · rename_i h0
          simp only [Option.some.injEq, Prod.mk.injEq] at hs; obtain ⟨rfl, rfl⟩ := hs
          refine ok_sub hop ⟨fs, fd, hfs, hfd, rfl, h1, h2, fun e => h0 (.inl e)⟩ (fun e => ?_) (hx x (by simp)) hf
          by_cases hm : m = 1
          · exact hm
          · exact absurd (.inr ⟨e, hm⟩) h0
      · cases hs
    · cases hs
  | indexAddr t x i =>
    rw [hop] at hs; simp only [slimK, Option.map_eq_some_iff, Prod.mk.injEq] at hs
    obtain ⟨⟨E, m⟩, hq, rfl, rfl⟩ := hs
    exact ok_idx hop (slice_of_sl1 hq) (hx x (by simp)) (hx i (by simp)) (fin_ix hf)
  | slice t x lo hi mx =>
    cases mx with
    | some m => rw [hop] at hs; simp [slimK] at hs
    | none =>
      rw [hop] at hs; simp only [slimK, Option.map_eq_some_iff, Prod.mk.injEq] at hs
      obtain ⟨⟨E, m⟩, hq, rfl, rfl⟩ := hs
      refine ok_slice (Y := Y) (m := m) hop (slice_of_sl1 hq) (hx x (by simp)) (fun y e => hx y (by subst e; simp)) (fun y e => hx y (by subst e; simp)) ?_
      have hf := fin_sc hf
      cases lo <;> cases hi <;> exact hf
  | alloc T =>
    rw [hop] at hs; simp only [slimK] at hs
    split at hs
    · rename_i hz
      simp only [Option.some.injEq, Prod.mk.injEq] at hs; obtain ⟨rfl, rfl⟩ := hs
      exact ok_alloc hop hz hf
    · cases hs
  | box T x =>
    rw [hop] at hs; simp only [slimK, Option.some.injEq, Prod.mk.injEq] at hs; obtain ⟨rfl, rfl⟩ := hs
    exact ok_box hop (hx x (by simp)) hf
  | makeSlice t l c =>
    rw [hop] at hs; simp only [slimK] at hs
    rw [Option.bind_eq_some_iff] at hs
    obtain ⟨⟨E, m, b⟩, hq, hs⟩ := hs
    split at hs
    · rename_i hz
      simp only [Option.some.injEq, Prod.mk.injEq] at hs; obtain ⟨rfl, rfl⟩ := hs
      exact ok_mks hop hq hz (hx l (by simp)) (hx c (by simp)) hf
    · cases hs
  | buildSlice t len ps =>
    rw [hop] at hs; simp only [slimK] at hs
    rw [Option.bind_eq_some_iff] at hs
    obtain ⟨⟨E, m, b⟩, hq, hs⟩ := hs
    split at hs
    · rename_i hz
      simp only [Bool.and_eq_true, beq_iff_eq] at hz
      obtain ⟨⟨hz, hseq⟩, hlen⟩ := hz
      simp only [Option.some.injEq, Prod.mk.injEq] at hs; obtain ⟨rfl, rfl⟩ := hs
      exact ok_bsl (by rw [hop, ← seq_zip ps.toList 0 hseq, List.length_map, hlen]) hq hz hx hf
    · cases hs
  | build t ps =>
    rw [hop] at hs; simp only [slimK] at hs
    split at hs
    · rename_i hz
      rw [Option.bind_eq_some_iff] at hs
      obtain ⟨l, hl, hs⟩ := hs
      split at hs
      · rename_i hfit
        simp only [Option.some.injEq, Prod.mk.injEq] at hs; obtain ⟨rfl, rfl⟩ := hs
        exact ok_build hop hz hl hfit hx hf
      · cases hs
    · cases hs
  | makeFunc fn fs cs =>
    rw [hop] at hs
    cases fn with
    | func f =>
      simp only [slimK] at hs
      split at hs
      · rename_i he
        simp only [Option.some.injEq, Prod.mk.injEq] at hs; obtain ⟨rfl, rfl⟩ := hs
        have hfs : fs = #[] := by apply Array.ext'; simpa using he
        subst hfs
        exact ok_mkf (by rw [hop]) hx hf
      · cases hs
    | _ => simp [slimK] at hs
  | nilCheck x =>
    rw [hop] at hs; simp only [slimK, Option.some.injEq, Prod.mk.injEq] at hs; obtain ⟨rfl, rfl⟩ := hs
    exact ok_nilc hop (hx x (by simp)) hf
  | index t x i =>
    rw [hop] at hs; simp only [slimK] at hs
    split at hs
    · rename_i hty
      simp only [Option.some.injEq, Prod.mk.injEq] at hs; obtain ⟨rfl, rfl⟩ := hs
      exact ok_sidx hop (isStr_of hty) (hx x (by simp)) (hx i (by simp)) hf
    · cases hs
  | makeMap t r =>
    cases r with
    | some r => rw [hop] at hs; simp [slimK] at hs
    | none =>
      rw [hop] at hs; simp only [slimK] at hs
      split at hs
      · simp only [Option.some.injEq, Prod.mk.injEq] at hs; obtain ⟨rfl, rfl⟩ := hs
        exact ok_mkm hop hf
      · cases hs
  | lookup t x i ok =>
    rw [hop] at hs; simp only [slimK, Option.map_eq_some_iff, Prod.mk.injEq] at hs
    obtain ⟨E, hE, rfl, rfl⟩ := hs
    exact ok_lkp hop hE (hx x (by simp)) (hx i (by simp)) hf
  | mapUpdate t x i v =>
    rw [hop] at hs; simp only [slimK, Option.map_eq_some_iff, Prod.mk.injEq] at hs
    obtain ⟨E, hE, rfl, rfl⟩ := hs
    exact ok_mup hop hE (hx x (by simp)) (hx i (by simp)) (hx v (by simp)) hf
  | range t x =>
    rw [hop] at hs; simp only [slimK] at hs
    split at hs
    · rename_i hm
      simp only [Option.some.injEq, Prod.mk.injEq] at hs; obtain ⟨rfl, rfl⟩ := hs
      obtain ⟨K', E, ht⟩ := isMap_of hm
      exact ok_rng hop ht (hx x (by simp)) hf
    · cases hs
  | next x str =>
    cases str with
    | true => rw [hop] at hs; simp [slimK] at hs
    | false =>
      rw [hop] at hs; simp only [slimK, Option.some.injEq, Prod.mk.injEq] at hs; obtain ⟨rfl, rfl⟩ := hs
      exact ok_nxt hop (hx x (by simp)) hf
  | entry x =>
    rw [hop] at hs; simp only [slimK, Option.some.injEq, Prod.mk.injEq] at hs; obtain ⟨rfl, rfl⟩ := hs
    exact ok_ent hop (hx x (by simp)) hf
  | call c =>
    rw [hop] at hs
    obtain ⟨callee, args, ats⟩ := c
    cases callee with
    | value f =>
      simp only [slimK, Option.some.injEq, Prod.mk.injEq] at hs; obtain ⟨rfl, rfl⟩ := hs
      obtain ⟨h', hf⟩ := fin_cl hf
      exact ok_call hop rfl rfl (hx f (by simp)) (fun x hm => hx x (by simp [hm])) hf
    | invoke r m => simp [slimK] at hs
    | builtin b =>
      cases b with
      | len =>
        simp only [slimK] at hs
        split at hs
        · rename_i x t hargs hats
          have ha : args = #[x] := by apply Array.ext'; exact hargs
          have hb : ats = #[t] := by apply Array.ext'; exact hats
          subst ha hb
          split at hs
          · rename_i hty
            simp only [Option.some.injEq, Prod.mk.injEq] at hs; obtain ⟨rfl, rfl⟩ := hs
            obtain ⟨E, hE⟩ := isSl_of hty
            exact ok_len hop hE (hx x (by simp)) (fin_ln hf)
          · split at hs
            · rename_i hty
              simp only [Option.some.injEq, Prod.mk.injEq] at hs; obtain ⟨rfl, rfl⟩ := hs
              exact ok_lenS hop (isStr_of hty) (hx x (by simp)) hf
            · split at hs
              · rename_i hty
                simp only [Option.some.injEq, Prod.mk.injEq] at hs; obtain ⟨rfl, rfl⟩ := hs
                obtain ⟨K', E, ht⟩ := isMap_of hty
                exact ok_mlen hop ht (hx x (by simp)) hf
              · cases hs
        · cases hs
      | append =>
        simp only [slimK] at hs
        split at hs
        · rename_i x y t t' hargs hats
          split at hs
          · rename_i htt
            subst htt
            rw [Option.map_eq_some_iff] at hs
            obtain ⟨⟨E, m, b⟩, hq, hs⟩ := hs
            simp only [Prod.mk.injEq] at hs; obtain ⟨rfl, rfl⟩ := hs
            have ha : args = #[x, y] := by apply Array.ext'; exact hargs
            have hb : ats = #[t, t] := by apply Array.ext'; exact hats
            subst ha hb
            unfold apK at hf
            split at hf
            · exact ok_appf hop hq (hx x (by simp)) (hx y (by simp)) hf
            · exact ok_app hop hq (hx x (by simp)) (hx y (by simp)) hf
          · cases hs
        · cases hs
      | clear =>
        simp only [slimK] at hs
        split at hs
        · rename_i x t hargs hats
          rw [Option.bind_eq_some_iff] at hs
          obtain ⟨⟨E, m, b⟩, hq, hs⟩ := hs
          dsimp only at hs
          split at hs
          · rename_i hz
            simp only [Option.some.injEq, Prod.mk.injEq] at hs; obtain ⟨rfl, rfl⟩ := hs
            have ha : args = #[x] := by apply Array.ext'; exact hargs
            have hb : ats = #[t] := by apply Array.ext'; exact hats
            subst ha hb
            exact ok_clear hop hq hz (hx x (by simp)) hf
          · cases hs
        · cases hs
      | max =>
        simp only [slimK] at hs
        split at hs
        · rename_i x y hargs
          simp only [Option.some.injEq, Prod.mk.injEq] at hs; obtain ⟨rfl, rfl⟩ := hs
          have ha : args = #[x, y] := by apply Array.ext'; exact hargs
          subst ha
          exact ok_mx hop (hx x (by simp)) (hx y (by simp)) hf
        · cases hs
      | min =>
        simp only [slimK] at hs
        split at hs
        · rename_i x y hargs
          simp only [Option.some.injEq, Prod.mk.injEq] at hs; obtain ⟨rfl, rfl⟩ := hs
          have ha : args = #[x, y] := by apply Array.ext'; exact hargs
          subst ha
          exact ok_mn hop (hx x (by simp)) (hx y (by simp)) hf
        · cases hs
      | _ => simp [slimK] at hs
  | _ => rw [hop] at hs; simp [slimK] at hs
end
end Bh
