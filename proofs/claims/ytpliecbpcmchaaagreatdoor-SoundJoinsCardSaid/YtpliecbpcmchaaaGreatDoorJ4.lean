/- Texts on the way, 4 of 9. -/
import Derived.Test.YtpliecbpcmchaaaGreatDoorJ3
import Derived.Shelf.Small.Strs
set_option linter.unusedVariables false
set_option linter.unusedSimpArgs false
namespace Bh
open Go Go.Proofs
theorem bump0 {H : AHeap} : bump 0 H = H := rfl
theorem new_del_bump {H : AHeap} (hw : WF H) {o : AObj} : (H.new o).del H.nx = bump 1 H := by
  simp only [AHeap.new, AHeap.del, bump, AHeap.mk.injEq, and_true]
  funext j
  by_cases e : j = H.nx
  · subst e
    rw [if_pos rfl]
    cases hg : H.get H.nx with
    | none => rfl
    | some o => exact absurd (hw _ _ hg) (by omega)
  · simp [e]
theorem wf_bump {H : AHeap} (hw : WF H) {k : Nat} : WF (bump k H) := fun i o hi => Nat.lt_of_lt_of_le (hw i o hi) (Nat.le_add_right _ _)
theorem bump_sub {H : AHeap} {k : Nat} : SubG H (bump k H) := fun _ _ h => h
theorem SubG.trans {A B C : AHeap} (h : SubG A B) (k : SubG B C) : SubG A C := fun i o e => k i o (h i o e)
def CloneP (E k : Nat) (es : List AV) (H : AHeap) (r : AV) (H' : AHeap) : Prop := ∃ m, r = .hd (bump m H).nx ∧ H' = (bump m H).new (.row E k es)
theorem cloneh_call {Y : YS} {H : AHeap} (es : List PV) (hk : es.all (fun e => e.wid == 1) = true) (hb : es.length ≤ 1000000) : HCall Tryz.prog Y 122 [.p (.sl es)] H (CloneP 171 1 (es.map .p) H) := by
  refine hcall mixed k122h (by simp) fun s hw h => ?_
  have h0 : s 0 = .p (.sl es) := h 0 _ rfl
  unfold c122h
  simp only [go_sem, h0, ↓reduceIte, Nat.reduceEqDiff, Nat.reduceLT]
  intro b hbe
  cases b
  · simp only [go_sem, h0, hk, ↓reduceIte, Nat.reduceEqDiff, Nat.reduceLT, Bool.bne_false]
    exact ⟨by omega, by omega, _, _, ⟨1, rfl, rfl⟩, .refl _, rfl, fun i o h => by rw [← new_del_bump hw (o := .row 171 1 [])] at h; exact h⟩
  · simp only [go_sem, h0, ↓reduceIte, Nat.reduceEqDiff, Nat.reduceLT, Bool.bne_false]
    have : es = [] := by simpa using hbe rfl
    subst this
    exact ⟨_, _, ⟨0, rfl, rfl⟩, .refl _, rfl, fun i o h => h⟩
theorem sub_call (x y : Nat) (hx : (natD x).length ≤ 900000) (hxy : y ≤ x) : PCall Tryz.prog 130 [nv x, nv y] (nv (x - y)) := by
  refine pcall mixed k130 (by simp) fun H s hw h => ?_
  have h0 : s 0 = .p (nv x) := h 0 _ rfl
  have h1 : s 1 = .p (nv y) := h 1 _ rfl
  have hyx := natD_len_mono hxy
  unfold nv at h0 h1
  unfold c130
  simp only [go_sem, h0, h1, ↓reduceIte, Nat.reduceEqDiff, Nat.reduceLT]
  refine ⟨_, cloneh_call _ (all_dig _) (by simpa using Nat.le_trans hx (by omega)), ?_⟩
  rintro r H1 ⟨m, rfl, rfl⟩
  have hw1 := wf_bump hw (k := m)
  have hs1 : SubG H (bump m H) := bump_sub
  generalize bump m H = H1 at *
  have erow : (List.map (AV.p) (List.map (fun d => PV.v (.int .u32 (d : Nat))) (natD x))) = rowD (natD x) := by simp [rowD, dv]
  rw [erow]
  simp only [go_sem, h0, h1, rowD_len, ↓reduceIte, Nat.reduceEqDiff, Nat.reduceLT]
  refine awp_loop (fun k s H' => ∃ i l br, i + k = (natD x).length ∧ H' = H1.new (.row 171 1 (rowD l)) ∧ SubI (natD x) (natD y) l i br ∧ s 1 = .p (nv y) ∧ s 5 = .hd H1.nx ∧ s 6 = .p (.v (.int .u64 (br : Nat))) ∧
    s 13 = .p (.v (.int .i64 ((natD x).length : Nat))) ∧ s 14 = .p (.v (.int .i64 (i : Nat)))) (natD x).length ⟨0, natD x, 0, by omega, rfl, SubI.init _ _ (natD_lt x), ?_⟩ ?_
  · simp only [go_sem, h0, h1, ↓reduceIte, Nat.reduceEqDiff, Nat.reduceLT]
    refine ⟨rfl, rfl, rfl⟩
  · rintro k s' H' ⟨i, l, br, hik, rfl, hA, h1, h5, h6, h13, h14⟩
    unfold nv at h1
    unfold c130l0
    by_cases him : i < (natD x).length
    · have ei := lt_t him
      have hl : i < l.length := by rw [hA.len]; exact him
      have gl : (rowD l)[i]? = some (.p (dv (dg (natD x) i))) := by
        have := hA.rest i (Nat.le_refl _)
        rw [← this]; simp [rowD, dg, hl]
      have gi : ixR H1.nx i 1 (some (.row 171 1 (rowD l))) = some (.pe H1.nx i 1 0) := ixR_s (by rw [rowD_len]; exact hl)
      have st : ∀ t : Nat, t < W32 → (rowD l).set i (.p (.v (.int .u32 (t : Int)))) = rowD (l.set i t) := fun t ht => by simp [rowD, List.map_set, dv]
      have br1 := hA.br1
      have dx := dg_lt (natD_lt x) i
      have dy := dg_lt (natD_lt y) i
      have w32 : W32 = 4294967296 := rfl
      have ei1 : IntKind.wrap .i64 ((i : Int) + 1) = ((i + 1 : Nat) : Int) := addwi1 (by omega)
      have a1 := u64_nat (a := dg (natD x) i) (by omega)
      have sw : ∀ u v : Nat, v ≤ u → u < 18446744073709551616 → IntKind.wrap .u64 ((u : Int) - (v : Int)) = ((u - v : Nat) : Int) := fun u v h1 h2 => by rw [wrap_u64] <;> omega
      have tw : ∀ u : Nat, u < W32 → IntKind.wrap .u32 (u : Int) = (u : Int) := fun u hu => by rw [u32_nat, Nat.mod_eq_of_lt hu]
      have a5 : IntKind.wrap .u64 ((dg (natD x) i : Int) + 4294967296) = ((dg (natD x) i + 4294967296 : Nat) : Int) := by rw [wrap_u64] <;> omega
      by_cases hyi : i < (natD y).length
      · have ey := lt_t hyi
        have gy : (natD y)[i]? = some (dg (natD y) i) := by simp [dg, hyi]
        have a2 := u64_nat (a := dg (natD y) i) (by omega)
        have a3 := addw64 (a := br) (b := dg (natD y) i) (by omega)
        by_cases hlt : dg (natD x) i < br + dg (natD y) i
        · have el := lt_t hlt
          have a6 := sw (dg (natD x) i + 4294967296) (br + dg (natD y) i) (by omega) (by omega)
          have hd : dg (natD x) i + 4294967296 - (br + dg (natD y) i) < W32 := by omega
          simp only [go_sem, h1, h5, h6, h13, h14, ei, ey, gl, gi, gy, a1, a2, a3, a5, a6, el, ei1, tw _ hd, st _ hd, ↓reduceIte, Nat.reduceEqDiff, Nat.reduceLT, dv]
          exact ⟨k - 1, by omega, i + 1, _, 1, by omega, rfl, hA.step him hd (by omega) (by omega), rfl, rfl, rfl⟩
        · have el := lt_f hlt
          have a6 := sw (dg (natD x) i) (br + dg (natD y) i) (by omega) (by omega)
          have hd : dg (natD x) i - (br + dg (natD y) i) < W32 := by omega
          simp only [go_sem, h1, h5, h6, h13, h14, ei, ey, gl, gi, gy, a1, a2, a3, a5, a6, el, ei1, tw _ hd, st _ hd, ↓reduceIte, Nat.reduceEqDiff, Nat.reduceLT, dv]
          exact ⟨k - 1, by omega, i + 1, _, 0, by omega, rfl, hA.step him hd (by omega) (by omega), rfl, rfl, rfl⟩
      · have ey := lt_f hyi
        have dy0 : dg (natD y) i = 0 := by simp [dg, Nat.le_of_not_lt hyi]
        by_cases hlt : dg (natD x) i < br
        · have el := lt_t hlt
          have a6 := sw (dg (natD x) i + 4294967296) br (by omega) (by omega)
          have hd : dg (natD x) i + 4294967296 - br < W32 := by omega
          simp only [go_sem, h1, h5, h6, h13, h14, ei, ey, gl, gi, a1, a5, a6, el, ei1, tw _ hd, st _ hd, ↓reduceIte, Nat.reduceEqDiff, Nat.reduceLT, dv]
          exact ⟨k - 1, by omega, i + 1, _, 1, by omega, rfl, hA.step him hd (by omega) (by omega), rfl, rfl, rfl⟩
        · have el := lt_f hlt
          have a6 := sw (dg (natD x) i) br (by omega) (by omega)
          have hd : dg (natD x) i - br < W32 := by omega
          simp only [go_sem, h1, h5, h6, h13, h14, ei, ey, gl, gi, a1, a5, a6, el, ei1, tw _ hd, st _ hd, ↓reduceIte, Nat.reduceEqDiff, Nat.reduceLT, dv]
          exact ⟨k - 1, by omega, i + 1, _, 0, by omega, rfl, hA.step him hd (by omega) (by omega), rfl, rfl, rfl⟩
    · have ei := lt_f him
      simp only [go_sem, h1, h5, h6, h13, h14, ei, allP_rowD, ↓reduceIte, Nat.reduceEqDiff, Nat.reduceLT]
      have hi : i = (natD x).length := by omega
      subst hi
      have hv := hA.done hxy
      have hc := trimmed_nv (ds := l) (by rw [hA.len]; omega) hA.dig
      rw [hv] at hc
      exact ⟨_, hc, .refl _, hs1.trans (new_del hw1)⟩
end Bh
namespace Bh
open Go Go.Proofs
theorem i0_f (i : Nat) : decide ((i : Int) < 0) = false := decide_eq_false (by omega)
theorem le_t {a b : Nat} (h : a ≤ b) : decide ((a : Int) ≤ (b : Int)) = true := decide_eq_true (by omega)
theorem le_f {a b : Nat} (h : ¬ a ≤ b) : decide ((a : Int) ≤ (b : Int)) = false := decide_eq_false (by omega)
theorem dg_get {l : List Nat} {i : Nat} (h : i < l.length) : l[i]? = some (dg l i) := by simp [dg, h]
theorem dg_0 {l : List Nat} {i : Nat} (h : ¬ i < l.length) : dg l i = 0 := by simp [dg, Nat.le_of_not_lt h]
theorem digit_call (x i : Nat) : PCall Tryz.prog 200 [nv x, .v (.int .i64 (i : Nat))] (.v (.int .u64 (dg (natD x) i : Nat))) := by
  refine pcall mixed k200 (by simp) fun H s hw h => ?_
  have h0 : s 0 = .p (nv x) := h 0 _ rfl
  have h1 : s 1 = .p (.v (.int .i64 (i : Nat))) := h 1 _ rfl
  unfold nv at h0
  unfold c200
  have dx := dg_lt (natD_lt x) i
  have w32 : W32 = 4294967296 := rfl
  by_cases hi : i < (natD x).length
  · have e1 := le_f (a := (natD x).length) (b := i) (by omega)
    have gx := dg_get hi
    have a1 := u64_nat (a := dg (natD x) i) (by omega)
    simp only [go_sem, h0, h1, i0_f, e1, gx, a1, ↓reduceIte, Nat.reduceEqDiff, Nat.reduceLT]
    exact ⟨.refl _, subG_refl _⟩
  · have e1 := le_t (a := (natD x).length) (b := i) (by omega)
    rw [dg_0 hi]
    simp only [go_sem, h0, h1, i0_f, e1, ↓reduceIte, Nat.reduceEqDiff, Nat.reduceLT]
    exact ⟨.refl _, subG_refl _⟩
theorem shl32 {k : IntKind} {n : Nat} (h : n < W32) : binV .shl (.int .u64 (n : Int)) (.int k 32) = some (.int .u64 ((n * W32 : Nat) : Int)) := by
  rw [bin_shl (by omega)]
  have : n * W32 < W32 * W32 := Nat.mul_lt_mul_of_pos_right h w32_pos
  have e : W32 = 4294967296 := rfl
  have e2 : W32 * W32 = 18446744073709551616 := by decide
  have e3 : ((n : Int)) * 2 ^ min (32 : Int).toNat IntKind.u64.bits = ((n * W32 : Nat) : Int) := by
    have : min (32 : Int).toNat IntKind.u64.bits = 32 := rfl
    rw [this, e]; omega
  rw [e3, u64_nat (by omega)]
theorem bv_nat {n a : Nat} (h : a < 2 ^ n) : (BitVec.ofInt n (a : Int)).toNat = a := by
  rw [BitVec.toNat_ofInt, Int.emod_eq_of_lt (by omega) (by exact_mod_cast h), Int.toNat_natCast]
theorem orN64 {a b : Nat} (ha : a < 2 ^ 64) (hb : b < 2 ^ 64) : binV .or (.int .u64 (a : Int)) (.int .u64 (b : Int)) = some (.int .u64 ((a ||| b : Nat) : Int)) := by
  rw [bin_or]
  show some (Value.int .u64 (IntKind.wrap .u64 ((BitVec.ofInt 64 (a : Int) ||| BitVec.ofInt 64 (b : Int)).toNat : Int))) = _
  rw [BitVec.toNat_or, bv_nat ha, bv_nat hb, u64_nat (Nat.or_lt_two_pow ha hb)]
theorem orN32 {a b : Nat} (ha : a < 2 ^ 32) (hb : b < 2 ^ 32) : binV .or (.int .u32 (a : Int)) (.int .u32 (b : Int)) = some (.int .u32 ((a ||| b : Nat) : Int)) := by
  rw [bin_or]
  show some (Value.int .u32 (IntKind.wrap .u32 ((BitVec.ofInt 32 (a : Int) ||| BitVec.ofInt 32 (b : Int)).toNat : Int))) = _
  rw [BitVec.toNat_or, bv_nat ha, bv_nat hb, wrap_u32 (by omega) (by have := Nat.or_lt_two_pow ha hb; omega)]
theorem or64 {a b : Nat} (ha : a < W32) (hb : b < W32) : binV .or (.int .u64 ((a * W32 : Nat) : Int)) (.int .u64 (b : Int)) = some (.int .u64 ((a * W32 + b : Nat) : Int)) := by
  have h1 : (a + 1) * W32 ≤ W32 * W32 := Nat.mul_le_mul_right _ ha
  have e2 : W32 * W32 = 18446744073709551616 := by decide
  have e3 : W32 = 4294967296 := rfl
  rw [Nat.add_mul] at h1
  rw [orN64 (by omega) (by omega)]
  have := or_add (x := a) (h := b) (b := 32) hb
  rw [Nat.or_comm] at this
  rw [show W32 = 2 ^ 32 from rfl, this, Nat.add_comm]
theorem or64' {a b : Nat} (ha : a < W32) (hb : b < W32) : binV .or (.int .u64 (b : Int)) (.int .u64 ((a * W32 : Nat) : Int)) = some (.int .u64 ((a * W32 + b : Nat) : Int)) := by
  have h1 : (a + 1) * W32 ≤ W32 * W32 := Nat.mul_le_mul_right _ ha
  have e2 : W32 * W32 = 18446744073709551616 := by decide
  have e3 : W32 = 4294967296 := rfl
  rw [Nat.add_mul] at h1
  rw [orN64 (by omega) (by omega)]
  have := or_add (x := a) (h := b) (b := 32) hb
  rw [show W32 = 2 ^ 32 from rfl, this, Nat.add_comm]
theorem quo64 {a b : Nat} (ha : a < 18446744073709551616) (hb : 0 < b) : binV .quo (.int .u64 (a : Int)) (.int .u64 (b : Int)) = some (.int .u64 ((a / b : Nat) : Int)) := by
  rw [bin_quo (by omega)]
  have : Int.tdiv (a : Int) (b : Int) = ((a / b : Nat) : Int) := by rw [Int.tdiv_eq_ediv_of_nonneg (by omega)]; rfl
  rw [this, u64_nat (Nat.lt_of_le_of_lt (Nat.div_le_self _ _) ha)]
theorem rem64 {a b : Nat} (hb : 0 < b) : binV .rem (.int .u64 (a : Int)) (.int .u64 (b : Int)) = some (.int .u64 ((a % b : Nat) : Int)) := by
  rw [bin_rem (by omega)]
  have : Int.tmod (a : Int) (b : Int) = ((a % b : Nat) : Int) := by rw [Int.tmod_eq_emod_of_nonneg (by omega)]; rfl
  rw [this]
theorem tw32 {u : Nat} (hu : u < W32) : IntKind.wrap .u32 (u : Int) = (u : Int) := by rw [u32_nat, Nat.mod_eq_of_lt hu]
theorem st_rowD {l : List Nat} {i t : Nat} : (rowD l).set i (.p (.v (.int .u32 (t : Int)))) = rowD (l.set i t) := by simp [rowD, List.map_set, dv]
theorem gl_rowD {l : List Nat} {i : Nat} (h : i < l.length) : (rowD l)[i]? = some (.p (dv (dg l i))) := by simp [rowD, dg, h]
theorem gi_rowD {l : List Nat} {r i : Nat} (h : i < l.length) : ixR r i 1 (some (.row 171 1 (rowD l))) = some (.pe r i 1 0) := ixR_s (by rw [rowD_len]; exact h)
theorem over_call (x d : Nat) (hx : (natD x).length ≤ 900000) (hd : 0 < d) (hdw : d < W32) : PCall Tryz.prog 197 [nv x, .v (.int .u32 (d : Nat))] (.tup [nv (x / d), .v (.int .u32 ((x % d : Nat) : Nat))]) := by
  refine pcall mixed k197 (by simp) fun H s hw h => ?_
  have h0 : s 0 = .p (nv x) := h 0 _ rfl
  have h1 : s 1 = .p (.v (.int .u32 (d : Nat))) := h 1 _ rfl
  unfold nv at h0
  unfold c197
  have w32 : W32 = 4294967296 := rfl
  have wd := u64_nat (a := d) (by omega)
  have em : IntKind.wrap .i64 (((natD x).length : Int) - 1) = ((natD x).length : Int) - 1 := by rw [wrap_i64] <;> omega
  simp only [go_sem, h0, h1, z171, em, ↓reduceIte, Nat.reduceEqDiff, Nat.reduceLT]
  refine ⟨by omega, by omega, ?_⟩
  refine awp_loop (fun k s H' => ∃ l r, k ≤ (natD x).length ∧ H' = H.new (.row 171 1 (rowD l)) ∧ OvI (natD x) l d k r ∧ s 0 = .p (nv x) ∧ s 1 = .p (.v (.int .u32 (d : Nat))) ∧ s 6 = .hd H.nx ∧ s 7 = .p (.v (.int .u64 (r : Nat))) ∧
    s 8 = .p (.v (.int .i64 ((k : Int) - 1)))) (natD x).length ⟨List.replicate (natD x).length 0, 0, Nat.le_refl _, ?_, OvI.init _ hd, ?_⟩ ?_
  · rw [rowD_zero]
  · simp only [go_sem, h0, h1, ↓reduceIte, Nat.reduceEqDiff, Nat.reduceLT]
    exact ⟨rfl, rfl⟩
  · rintro k s' H' ⟨l, r, hk, rfl, hA, h0, h1, h6, h7, h8⟩
    unfold nv at h0
    unfold c197l0
    have hr := hA.r1
    by_cases hk0 : k = 0
    · subst hk0
      have e1 : decide ((0 : Int) ≤ ((0 : Nat) : Int) - 1) = false := by decide
      have hv := hA.done
      have a1 := tw32 (u := r) (by omega)
      simp only [go_sem, h0, h1, h6, h7, h8, e1, allP_rowD, a1, ↓reduceIte, Nat.reduceEqDiff, Nat.reduceLT]
      have hc := trimmed_nv (ds := l) (by rw [hA.len]; omega) hA.dig
      refine ⟨_, hc, ?_, new_del hw⟩
      rw [hv.1, hv.2]; exact .refl _
    · obtain ⟨i, rfl⟩ : ∃ i, k = i + 1 := ⟨k - 1, by omega⟩
      have hi : i < (natD x).length := by omega
      have e2 : (((i + 1 : Nat) : Int) - 1) = (i : Int) := by omega
      have e3 : IntKind.wrap .i64 ((i : Int) - 1) = (i : Int) - 1 := by rw [wrap_i64] <;> omega
      rw [e2] at h8
      have hl : i < l.length := by rw [hA.len]; exact hi
      have dx := dg_lt (natD_lt x) i
      obtain ⟨hq, hs⟩ := hA.step hi (Nat.le_of_lt hdw) (natD_lt x)
      have e4 : decide ((0 : Int) ≤ (i : Int)) = true := by simp
      have f1 := shl32 (k := .u64) (n := r) (by omega)
      have f2 := or64 (a := r) (b := dg (natD x) i) (by omega) dx
      have hb : r * W32 + dg (natD x) i < 18446744073709551616 := by
        have h1 : (r + 1) * W32 ≤ W32 * W32 := Nat.mul_le_mul_right _ (by omega)
        have e2 : W32 * W32 = 18446744073709551616 := by decide
        rw [Nat.add_mul] at h1; omega
      have f3 := quo64 (b := d) hb hd
      have f4 := rem64 (a := r * W32 + dg (natD x) i) hd
      have a1 := u64_nat (a := dg (natD x) i) (by omega)
      simp only [go_sem, h0, h1, h6, h7, h8, e4, dg_get hi, a1, f1, f2, wd, f3, f4, tw32 hq, gi_rowD hl, gl_rowD hl, dv, st_rowD, e3, ↓reduceIte, Nat.reduceEqDiff, Nat.reduceLT]
      exact ⟨i, by omega, _, _, by omega, rfl, hs, rfl, rfl, rfl⟩
end Bh
namespace Bh
open Go Go.Proofs
theorem shr64 {k : IntKind} {n b : Nat} (hb : b ≤ 64) : binV .shr (.int .u64 (n : Int)) (.int k (b : Nat)) = some (.int .u64 ((n / 2 ^ b : Nat) : Int)) := by
  rw [bin_shr (by omega)]
  have e : min ((b : Nat) : Int).toNat IntKind.u64.bits = b := by show min _ 64 = b; omega
  have : ((n : Int)).fdiv (2 ^ b) = ((n / 2 ^ b : Nat) : Int) := by
    rw [Int.fdiv_eq_ediv_of_nonneg _ (by exact_mod_cast Nat.zero_le (2 ^ b))]
    norm_cast
  rw [e, this]
theorem shl32b {k : IntKind} {n b : Nat} (hb : b ≤ 32) : binV .shl (.int .u32 (n : Int)) (.int k (b : Nat)) = some (.int .u32 ((n * 2 ^ b % W32 : Nat) : Int)) := by
  rw [bin_shl (by omega)]
  have e : min ((b : Nat) : Int).toNat IntKind.u32.bits = b := by show min _ 32 = b; omega
  rw [e]
  have : (n : Int) * 2 ^ b = ((n * 2 ^ b : Nat) : Int) := by norm_cast
  rw [this, u32_nat]
theorem down_call (x b : Nat) (hx : (natD x).length ≤ 900000) (hb : b < 32) : PCall Tryz.prog 202 [nv x, .v (.int .i64 (b : Nat))] (nv (x / 2 ^ b)) := by
  refine pcall mixed k202 (by simp) fun H s hw h => ?_
  have h0 : s 0 = .p (nv x) := h 0 _ rfl
  have h1 : s 1 = .p (.v (.int .i64 (b : Nat))) := h 1 _ rfl
  unfold nv at h0
  unfold c202
  have w32 : W32 = 4294967296 := rfl
  simp only [go_sem, h0, h1, z171, ↓reduceIte, Nat.reduceEqDiff, Nat.reduceLT]
  refine ⟨by omega, by omega, ?_⟩
  refine awp_loop (fun k s H' => ∃ i l, i + k = (natD x).length ∧ H' = H.new (.row 171 1 (rowD l)) ∧ DnI x b l i (natD x).length ∧ s 0 = .p (nv x) ∧ s 1 = .p (.v (.int .i64 (b : Nat))) ∧ s 5 = .hd H.nx ∧
    s 11 = .p (.v (.int .i64 ((natD x).length : Nat))) ∧ s 12 = .p (.v (.int .i64 (i : Nat)))) (natD x).length ⟨0, List.replicate (natD x).length 0, by omega, ?_, DnI.init _ _ _, ?_⟩ ?_
  · rw [rowD_zero]
  · simp only [go_sem, h0, h1, ↓reduceIte, Nat.reduceEqDiff, Nat.reduceLT]
    exact ⟨rfl, rfl⟩
  · rintro k s' H' ⟨i, l, hik, rfl, hA, h0, h1, h5, h11, h12⟩
    unfold nv at h0
    unfold c202l0
    by_cases hi : i < (natD x).length
    · have hl : i < l.length := by rw [hA.len]; exact hi
      have d0 := dg_lt (natD_lt x) i
      have d1 := dg_lt (natD_lt x) (i + 1)
      have p0 := digit_call x i
      have p1 := digit_call x (i + 1)
      unfold nv at p0 p1
      have ei1 : IntKind.wrap .i64 ((i : Int) + 1) = ((i + 1 : Nat) : Int) := addwi1 (by omega)
      have f1 := shl32 (k := .u64) d1
      have f2 := or64' (a := dg (natD x) (i + 1)) (b := dg (natD x) i) d1 d0
      have f3 := shr64 (k := .i64) (n := dg (natD x) (i + 1) * W32 + dg (natD x) i) (b := b) (by omega)
      have hd : (dg (natD x) (i + 1) * W32 + dg (natD x) i) / 2 ^ b % W32 = x / 2 ^ b / W32 ^ i % W32 := by
        have := dn_dig (x := x) (i := i) hb
        rw [← dg_nat, ← dg_nat, Nat.add_comm] at this; exact this
      simp only [go_sem, h0, h1, h5, h11, h12, lt_t hi, ↓reduceIte, Nat.reduceEqDiff, Nat.reduceLT]
      refine ⟨_, p0, ?_⟩
      simp only [go_sem, h0, h1, h5, h11, h12, ei1, ↓reduceIte, Nat.reduceEqDiff, Nat.reduceLT]
      refine ⟨_, p1, ?_⟩
      simp only [go_sem, h0, h1, h5, h11, h12, f1, f2, f3, u32_nat, gi_rowD hl, gl_rowD hl, dv, st_rowD, ei1, ↓reduceIte, Nat.reduceEqDiff, Nat.reduceLT]
      exact ⟨k - 1, by omega, i + 1, _, by omega, rfl, hA.step hi hd, rfl, rfl⟩
    · have hi' : i = (natD x).length := by omega
      subst hi'
      simp only [go_sem, h0, h1, h5, h11, h12, lt_f hi, allP_rowD, ↓reduceIte, Nat.reduceEqDiff, Nat.reduceLT]
      have hc := trimmed_nv (ds := l) (by rw [hA.len]; omega) hA.dig
      rw [hA.done] at hc
      exact ⟨_, hc, .refl _, new_del hw⟩
theorem shift_call (x b : Nat) (hx : (natD x).length ≤ 900000) (hb : b < 32) : PCall Tryz.prog 199 [nv x, .v (.int .i64 (b : Nat))] (nv (x * 2 ^ b)) := by
  refine pcall mixed k199 (by simp) fun H s hw h => ?_
  have h0 : s 0 = .p (nv x) := h 0 _ rfl
  have h1 : s 1 = .p (.v (.int .i64 (b : Nat))) := h 1 _ rfl
  unfold nv at h0
  unfold c199
  have w32 : W32 = 4294967296 := rfl
  have em : IntKind.wrap .i64 (((natD x).length : Int) + 1) = (((natD x).length + 1 : Nat) : Int) := addwi1 (by omega)
  simp only [go_sem, h0, h1, z171, em, ↓reduceIte, Nat.reduceEqDiff, Nat.reduceLT]
  refine ⟨by omega, by omega, ?_⟩
  refine awp_loop (fun k s H' => ∃ i l, i + k = (natD x).length ∧ H' = H.new (.row 171 1 (rowD l)) ∧ ShI (natD x) l b i ∧ s 1 = .p (.v (.int .i64 (b : Nat))) ∧ s 5 = .hd H.nx ∧ s 12 = .p (nv x) ∧
    s 13 = .p (.v (.int .i64 ((natD x).length : Nat))) ∧ s 14 = .p (.v (.int .i64 (i : Nat)))) (natD x).length ⟨0, List.replicate ((natD x).length + 1) 0, by omega, ?_, ShI.init _ _, ?_⟩ ?_
  · rw [rowD_zero]
  · simp only [go_sem, h0, h1, ↓reduceIte, Nat.reduceEqDiff, Nat.reduceLT]
    exact ⟨rfl, rfl⟩
  · rintro k s' H' ⟨i, l, hik, rfl, hA, h1, h5, h12, h13, h14⟩
    unfold nv at h12
    unfold c199l0
    by_cases hi : i < (natD x).length
    · have hl : i < l.length := by rw [hA.len]; omega
      have hl1 : i + 1 < l.length := by rw [hA.len]; omega
      have d0 := dg_lt (natD_lt x) i
      have ei1 : IntKind.wrap .i64 ((i : Int) + 1) = ((i + 1 : Nat) : Int) := addwi1 (by omega)
      have f1 := shl32b (k := .i64) (n := dg (natD x) i) (b := b) (by omega)
      obtain ⟨o1, o2, hs⟩ := hA.step hb hi (natD_lt x)
      have f2 := orN32 (a := dg l i) (b := dg (natD x) i * 2 ^ b % W32) (by have := dg_lt hA.dig i; omega) (Nat.mod_lt _ (by omega))
      have es : IntKind.wrap .i64 ((32 : Int) - (b : Int)) = ((32 - b : Nat) : Int) := by rw [wrap_i64] <;> omega
      have f3 := shr64 (k := .i64) (n := dg (natD x) i) (b := 32 - b) (by omega)
      have a1 := u64_nat (a := dg (natD x) i) (by omega)
      have gi1 : ∀ t, ixR H.nx (i + 1) 1 (some (.row 171 1 (rowD (l.set i t)))) = some (.pe H.nx (i + 1) 1 0) := fun t => gi_rowD (by simpa using hl1)
      have gl1 : ∀ t, (rowD (l.set i t))[i + 1]? = some (.p (dv (dg l (i + 1)))) := fun t => by rw [gl_rowD (by simpa using hl1), dg_set_ne (by omega)]
      simp only [go_sem, h1, h5, h12, h13, h14, lt_t hi, dg_get hi, gi_rowD hl, gl_rowD hl, dv, f1, f2, st_rowD, ei1, a1, es, f3, tw32 o2, gi1, gl1, ↓reduceIte, Nat.reduceEqDiff, Nat.reduceLT]
      exact ⟨k - 1, by omega, i + 1, _, by omega, rfl, hs, rfl, rfl⟩
    · have hi' : i = (natD x).length := by omega
      subst hi'
      simp only [go_sem, h1, h5, h12, h13, h14, lt_f hi, allP_rowD, ↓reduceIte, Nat.reduceEqDiff, Nat.reduceLT]
      have hc := trimmed_nv (ds := l) (by rw [hA.len]; omega) hA.dig
      rw [hA.done] at hc
      exact ⟨_, hc, .refl _, new_del hw⟩
end Bh
namespace Bh
open Go Go.Proofs
theorem natD_up {x : Nat} (hx : x ≠ 0) (k : Nat) : natD (x * W32 ^ k) = List.replicate k 0 ++ natD x := by
  have h : val (List.replicate k 0 ++ natD x) = x * W32 ^ k := by rw [val_append, val_repl, val_natD, List.length_replicate, Nat.zero_add, Nat.mul_comm]
  have := natD_val (ds := List.replicate k 0 ++ natD x) (fun d hd => by
    rcases List.mem_append.1 hd with hd | hd
    · exact lt_repl k d hd
    · exact natD_lt x d hd) (fun d hd => by
    have hne : natD x ≠ [] := fun e => hx (natD_nil.1 e)
    rw [List.getLast?_append] at hd
    cases hl : (natD x).getLast? with
    | none => exact absurd (List.getLast?_eq_none_iff.1 hl) hne
    | some e =>
      rw [hl] at hd
      have : e = d := by simpa using hd
      subst this
      exact natD_last x e hl)
  rw [h] at this; exact this
theorem shifted_call (x k : Nat) (hx : (natD x).length ≤ 400000) (hk : k ≤ 400000) : PCall Tryz.prog 201 [nv x, .v (.int .i64 (k : Nat))] (nv (x * W32 ^ k)) := by
  refine pcall mixed k201 (by simp) fun H s hw h => ?_
  have h0 : s 0 = .p (nv x) := h 0 _ rfl
  have h1 : s 1 = .p (.v (.int .i64 (k : Nat))) := h 1 _ rfl
  unfold nv at h0
  unfold c201
  by_cases h00 : x = 0
  · subst h00
    have e1 : (((natD 0).length : Int) == 0) = true := by simp [natD_0]
    simp only [go_sem, h0, h1, z171, e1, ↓reduceIte, Nat.reduceEqDiff, Nat.reduceLT]
    refine ⟨?_, subG_refl _⟩
    simp only [nv, Nat.zero_mul, natD_0, List.map_nil]
    exact .p _ _ .nil
  · have e1 : (((natD x).length : Int) == 0) = false := by
      have := _root_.mt natD_len0.1 h00
      simp only [beq_eq_false_iff_ne, ne_eq]; omega
    simp only [go_sem, h0, h1, z171, e1, all_dig, ↓reduceIte, Nat.reduceEqDiff, Nat.reduceLT]
    have e2 : List.replicate k (AV.p (.v (.int .u32 0))) ++ List.map AV.p (List.map (fun d => PV.v (.int .u32 (d : Nat))) (natD x)) = List.map AV.p ((natD (x * W32 ^ k)).map fun d => PV.v (.int .u32 (d : Nat))) := by
      rw [natD_up h00]; simp
    have e3 : List.map (AV.p ∘ fun d => PV.v (.int .u32 (d : Nat))) (natD x) = List.map AV.p (List.map (fun d => PV.v (.int .u32 (d : Nat))) (natD x)) := by simp
    simp only [go_sem, e3, e2, allP_map, List.length_replicate, ↓reduceIte, Nat.reduceEqDiff, Nat.reduceLT]
    exact ⟨by omega, by omega, by omega, .refl _, sub_nd hw _ _⟩
theorem mul_call (x y : Nat) (hx : (natD x).length ≤ 400000) (hy : (natD y).length ≤ 400000) : PCall Tryz.prog 128 [nv x, nv y] (nv (x * y)) := by
  refine pcall mixed k128 (by simp) fun H s hw h => ?_
  have h0 : s 0 = .p (nv x) := h 0 _ rfl
  have h1 : s 1 = .p (nv y) := h 1 _ rfl
  unfold nv at h0 h1
  unfold c128
  have w32 : W32 = 4294967296 := rfl
  have em := addwi (a := (natD x).length) (b := (natD y).length) (by omega)
  simp only [go_sem, h0, h1, z171, em, ↓reduceIte, Nat.reduceEqDiff, Nat.reduceLT]
  refine ⟨by omega, by omega, ?_⟩
  refine awp_loop (fun k s H' => ∃ i l, i + k = (natD x).length ∧ H' = H.new (.row 171 1 (rowD l)) ∧ MulI (natD x) (natD y) l i ∧ s 1 = .p (nv y) ∧ s 5 = .hd H.nx ∧ s 17 = .p (nv x) ∧
    s 18 = .p (.v (.int .i64 ((natD x).length : Nat))) ∧ s 19 = .p (.v (.int .i64 (i : Nat)))) (natD x).length ⟨0, List.replicate ((natD x).length + (natD y).length) 0, by omega, ?_, MulI.init _ _, ?_⟩ ?_
  · rw [rowD_zero]
  · simp only [go_sem, h0, h1, ↓reduceIte, Nat.reduceEqDiff, Nat.reduceLT]
    exact ⟨rfl, rfl, rfl⟩
  · rintro k s' H' ⟨i, l, hik, rfl, hA, h1, h5, h17, h18, h19⟩
    unfold nv at h1 h17
    unfold c128l1
    by_cases hi : i < (natD x).length
    · have d0 := dg_lt (natD_lt x) i
      have a0 := u64_nat (a := dg (natD x) i) (by omega)
      have ei1 : IntKind.wrap .i64 ((i : Int) + 1) = ((i + 1 : Nat) : Int) := addwi1 (by omega)
      simp only [go_sem, h1, h5, h17, h18, h19, lt_t hi, dg_get hi, ↓reduceIte, Nat.reduceEqDiff, Nat.reduceLT]
      refine awp_loop (fun k2 s H' => ∃ j l2 c, j + k2 = (natD y).length ∧ H' = H.new (.row 171 1 (rowD l2)) ∧ MulJ (natD x) (natD y) l2 i j c (val l) ∧ s 1 = .p (nv y) ∧ s 5 = .hd H.nx ∧ s 17 = .p (nv x) ∧
        s 18 = .p (.v (.int .i64 ((natD x).length : Nat))) ∧ s 19 = .p (.v (.int .i64 (i : Nat))) ∧ s 6 = .p (.v (.int .i64 (i : Nat))) ∧ s 7 = .p (.v (.int .u32 (dg (natD x) i : Nat))) ∧ s 8 = .p (.v (.int .u64 (c : Nat))) ∧ s 24 = .p (nv y) ∧
        s 25 = .p (.v (.int .i64 ((natD y).length : Nat))) ∧ s 26 = .p (.v (.int .i64 (j : Nat)))) (natD y).length ⟨0, l, 0, by omega, rfl, hA.inner, ?_⟩ ?_
      · simp only [go_sem, h1, h5, h17, h18, h19, ↓reduceIte, Nat.reduceEqDiff, Nat.reduceLT]
        refine ⟨rfl, rfl, rfl, rfl, rfl⟩
      · rintro k2 s2 H2 ⟨j, l2, c, hjk, rfl, hB, h1, h5, h17, h18, h19, h6, h7, h8, h24, h25, h26⟩
        unfold nv at h1 h17 h24
        unfold c128l0
        by_cases hj : j < (natD y).length
        · have hl : i + j < l2.length := by rw [hB.len]; omega
          have d1 := dg_lt (natD_lt y) j
          have d2 := dg_lt hB.dig (i + j)
          have a1 := u64_nat (a := dg (natD y) j) (by omega)
          have a2 := u64_nat (a := dg l2 (i + j)) (by omega)
          have hf := mul_fits d0 d1 hB.c1 d2
          have e2 : W32 * W32 = 18446744073709551616 := by decide
          have f1 : IntKind.wrap .u64 ((dg (natD x) i : Int) * (dg (natD y) j : Int)) = ((dg (natD x) i * dg (natD y) j : Nat) : Int) := by
            rw [← Int.natCast_mul]; exact u64_nat (by omega)
          have f2 := addw64 (a := dg (natD x) i * dg (natD y) j) (b := dg l2 (i + j)) (by omega)
          have f3 := addw64 (a := c) (b := dg (natD x) i * dg (natD y) j + dg l2 (i + j)) (by omega)
          have ij := addwi (a := i) (b := j) (by omega)
          have ej1 : IntKind.wrap .i64 ((j : Int) + 1) = ((j + 1 : Nat) : Int) := addwi1 (by omega)
          simp only [go_sem, h1, h5, h17, h18, h19, h6, h7, h8, h24, h25, h26, lt_t hj, dg_get hj, a0, a1, f1, ij, gi_rowD hl, gl_rowD hl, dv, a2, f2, f3, u32_nat, st_rowD, shr32, ej1, ↓reduceIte, Nat.reduceEqDiff, Nat.reduceLT]
          exact ⟨k2 - 1, by omega, j + 1, _, _, by omega, rfl, hB.step hi hj (natD_lt x) (natD_lt y), rfl, rfl, rfl, rfl, rfl⟩
        · have hj' : j = (natD y).length := by omega
          subst hj'
          have hl : i + (natD y).length < l2.length := by rw [hB.len]; omega
          have ij := addwi (a := i) (b := (natD y).length) (by omega)
          have hc1 := hB.c1
          simp only [go_sem, h1, h5, h17, h18, h19, h6, h7, h8, h24, h25, h26, lt_f hj, ij, tw32 hc1, gi_rowD hl, gl_rowD hl, dv, st_rowD, ei1, ↓reduceIte, Nat.reduceEqDiff, Nat.reduceLT]
          exact ⟨k - 1, by omega, i + 1, _, by omega, rfl, MulJ.done hA hB hi, rfl, rfl, rfl⟩
    · have hi' : i = (natD x).length := by omega
      subst hi'
      simp only [go_sem, h1, h5, h17, h18, h19, lt_f hi, allP_rowD, ↓reduceIte, Nat.reduceEqDiff, Nat.reduceLT]
      have hc := trimmed_nv (ds := l) (by rw [hA.len]; omega) hA.dig
      rw [hA.done] at hc
      exact ⟨_, hc, .refl _, new_del hw⟩
end Bh
namespace Bh
open Go Go.Proofs
def len8 : ByteArray := (.mk #[0, 1, 2, 2, 3, 3, 3, 3, 4, 4, 4, 4, 4, 4, 4, 4, 5, 5, 5, 5, 5, 5, 5, 5, 5, 5, 5, 5, 5, 5, 5, 5, 6, 6, 6, 6, 6, 6, 6, 6, 6, 6, 6, 6, 6, 6, 6, 6, 6, 6, 6, 6, 6, 6, 6, 6, 6, 6, 6, 6, 6, 6, 6, 6, 7, 7, 7, 7, 7, 7, 7, 7, 7, 7, 7, 7, 7, 7, 7, 7, 7, 7, 7, 7, 7, 7, 7, 7, 7, 7, 7, 7, 7, 7, 7, 7, 7, 7, 7, 7, 7, 7, 7, 7, 7, 7, 7, 7, 7, 7, 7, 7, 7, 7, 7, 7, 7, 7, 7, 7, 7, 7, 7, 7, 7, 7, 7, 7, 8, 8, 8, 8, 8, 8, 8, 8, 8, 8, 8, 8, 8, 8, 8, 8, 8, 8, 8, 8, 8, 8, 8, 8, 8, 8, 8, 8, 8, 8, 8, 8, 8, 8, 8, 8, 8, 8, 8, 8, 8, 8, 8, 8, 8, 8, 8, 8, 8, 8, 8, 8, 8, 8, 8, 8, 8, 8, 8, 8, 8, 8, 8, 8, 8, 8, 8, 8, 8, 8, 8, 8, 8, 8, 8, 8, 8, 8, 8, 8, 8, 8, 8, 8, 8, 8, 8, 8, 8, 8, 8, 8, 8, 8, 8, 8, 8, 8, 8, 8, 8, 8, 8, 8, 8, 8, 8, 8, 8, 8, 8, 8, 8, 8, 8, 8, 8, 8, 8, 8, 8, 8, 8, 8, 8, 8, 8, 8])
def c180 : AC := (.seq (.ops [.op ⟨some 2, none, .mv, [.const (.int .i64 0)]⟩]) (.seq (.seq (.ops [.op ⟨some 3, none, .mv, [.tmp 0]⟩, .op ⟨some 4, none, .bin .geq, [.tmp 3, .const (.int .u32 65536)]⟩]) (.cond (.tmp 4) (.seq (.ops [.op ⟨some 5, none, .mv, [.tmp 0]⟩, .op ⟨some 6, none, .bin .shr, [.tmp 5, .const (.int .u64 16)]⟩, .op ⟨some 0, none, .mv, [.tmp 6]⟩]) (.ops [.op ⟨some 2, none, .mv, [.const (.int .i64 16)]⟩])) .skip)) (.seq (.seq (.ops [.op ⟨some 7, none, .mv, [.tmp 0]⟩, .op ⟨some 8, none, .bin .geq, [.tmp 7, .const (.int .u32 256)]⟩]) (.cond (.tmp 8) (.seq (.ops [.op ⟨some 9, none, .mv, [.tmp 0]⟩, .op ⟨some 10, none, .bin .shr, [.tmp 9, .const (.int .u64 8)]⟩, .op ⟨some 0, none, .mv, [.tmp 10]⟩]) (.ops [.op ⟨some 11, none, .mv, [.tmp 2]⟩, .op ⟨some 12, none, .bin .add, [.tmp 11, .const (.int .i64 8)]⟩, .op ⟨some 2, none, .mv, [.tmp 12]⟩])) .skip)) (.seq (.ops [.op ⟨some 13, none, .mv, [.tmp 2]⟩, .op ⟨some 14, none, .mv, [.tmp 0]⟩, .op ⟨some 15, none, .conv .u8, [.tmp 14]⟩, .op ⟨some 16, none, .sidx, [.const (.string len8), .tmp 15]⟩, .op ⟨some 17, none, .conv .i64, [.tmp 16]⟩, .op ⟨some 18, none, .bin .add, [.tmp 13, .tmp 17]⟩, .op ⟨some 2, none, .mv, [.tmp 18]⟩]) .ret))))
theorem k180 : look1 Tryz.prog ⟨[], [], [], [], [], []⟩ 180 = some (c180, 19, [(2, none)]) := by kernel_rfl
def c198 : AC := (.seq (.ops [.op ⟨some 2, none, .mv, [.const (.int .i64 0)]⟩]) (.seq (.ops [.op ⟨some 3, none, .mv, [.tmp 0]⟩, .op ⟨some 4, none, .call false, [.func 180, .tmp 3]⟩, .op ⟨some 5, none, .bin .sub, [.const (.int .i64 32), .tmp 4]⟩, .op ⟨some 2, none, .mv, [.tmp 5]⟩]) .ret))
theorem k198 : look1 Tryz.prog ⟨[], [], [], [], [], []⟩ 198 = some (c198, 6, [(2, none)]) := by kernel_rfl
end Bh
namespace Bh
open Go Go.Proofs
def atN (b : ByteArray) (z : Nat) : Nat := if h : z < b.size then (b[z]'h).toNat else 0
theorem sidx_at {b : ByteArray} {k : IntKind} {z : Nat} (hz : z < b.size) : semSidx (.p (.v (.string b))) (.p (.v (.int k (z : Nat)))) = .v (.p (.v (.int .u8 (atN b z : Nat)))) := by
  unfold semSidx onS onI chkR
  dsimp only
  rw [if_pos (by omega), dif_pos (by simpa using hz)]
  have : atN b z = (b[z]'hz).toNat := by unfold atN; rw [dif_pos hz]
  rw [this]; rfl
def len8N (z : Nat) : Nat := atN len8 z
def len8OK : Bool := len8.size == 256 && (List.range 256).all fun z => len8N z ≤ 8 && (z == 0 || 1 ≤ len8N z)
theorem len8_ok : len8OK = true := by kernel_rfl
theorem len8_facts : len8.size = 256 ∧ ∀ z, z < 256 → len8N z ≤ 8 ∧ (z ≠ 0 → 1 ≤ len8N z) := by
  have h := len8_ok
  simp only [len8OK, Bool.and_eq_true, List.all_eq_true, List.mem_range, beq_iff_eq, decide_eq_true_eq, Bool.or_eq_true] at h
  exact ⟨h.1, fun z hz => ⟨(h.2 z hz).1, fun h0 => (h.2 z hz).2.resolve_left h0⟩⟩
theorem sidx_len8 {z : Nat} (hz : z < 256) : semSidx (.p (.v (.string len8))) (.p (.v (.int .u8 (z : Nat)))) = .v (.p (.v (.int .u8 (len8N z : Nat)))) := sidx_at (by rw [len8_facts.1]; exact hz)
def bl (x : Nat) : Nat := if 65536 ≤ x then (if 256 ≤ x / 65536 then 24 + len8N (x / 65536 / 256) else 16 + len8N (x / 65536)) else (if 256 ≤ x then 8 + len8N (x / 256) else len8N x)
theorem bl_bounds {x : Nat} (hx : x < W32) : bl x ≤ 32 ∧ (x ≠ 0 → 1 ≤ bl x) := by
  have w : W32 = 4294967296 := rfl
  have k := len8_facts.2
  unfold bl
  split
  · split
    · have := k (x / 65536 / 256) (by omega); constructor <;> omega
    · have := k (x / 65536) (by omega); constructor <;> omega
  · split
    · have := k (x / 256) (by omega); constructor <;> omega
    · have := k x (by omega); exact ⟨by omega, this.2⟩
theorem shr32' {k : IntKind} {n b : Nat} (hb : b ≤ 32) : binV .shr (.int .u32 (n : Int)) (.int k (b : Nat)) = some (.int .u32 ((n / 2 ^ b : Nat) : Int)) := by
  rw [bin_shr (by omega)]
  have e : min ((b : Nat) : Int).toNat IntKind.u32.bits = b := by show min _ 32 = b; omega
  have : ((n : Int)).fdiv (2 ^ b) = ((n / 2 ^ b : Nat) : Int) := by
    rw [Int.fdiv_eq_ediv_of_nonneg _ (by exact_mod_cast Nat.zero_le (2 ^ b))]
    norm_cast
  rw [e, this]
theorem u8_nat {a : Nat} (h : a < 256) : IntKind.wrap .u8 (a : Int) = (a : Int) := by simp [IntKind.wrap, IntKind.bits, IntKind.signed]; omega
theorem len32_call (x : Nat) (hx : x < W32) : PCall Tryz.prog 180 [.v (.int .u32 (x : Nat))] (.v (.int .i64 (bl x : Nat))) := by
  refine pcall mixed k180 (by simp) fun H s hw h => ?_
  have h0 : s 0 = .p (.v (.int .u32 (x : Nat))) := h 0 _ rfl
  unfold c180
  have w : W32 = 4294967296 := rfl
  have s16 : binV .shr (.int .u32 (x : Int)) (.int .u64 16) = some (.int .u32 ((x / 65536 : Nat) : Int)) := shr32' (k := .u64) (n := x) (b := 16) (by omega)
  have s8 : ∀ n : Nat, binV .shr (.int .u32 (n : Int)) (.int .u64 8) = some (.int .u32 ((n / 256 : Nat) : Int)) := fun n => shr32' (k := .u64) (n := n) (b := 8) (by omega)
  have lf := len8_facts.2
  have wi : ∀ z, z < 256 → IntKind.wrap .i64 (len8N z : Int) = (len8N z : Int) := fun z hz => i64_nat (by have := lf z hz; omega)
  have ix2 : ∀ z, z < 256 → semSidx (.p (.v (.string len8))) (.p (.v (.int .u8 (z : Nat)))) = .v (.p (.v (.int .u8 (len8N z : Nat)))) := fun z hz => sidx_len8 hz
  by_cases h1 : 65536 ≤ x
  · have e1 : decide ((65536 : Int) ≤ (x : Int)) = true := by simp; omega
    by_cases h2 : 256 ≤ x / 65536
    · have e2 : decide ((256 : Int) ≤ ((x / 65536 : Nat) : Int)) = true := decide_eq_true (by omega)
      have hz : x / 65536 / 256 < 256 := by omega
      have k1 := lf (x / 65536 / 256) hz
      have e3 : IntKind.wrap .i64 ((24 : Int) + (len8N (x / 65536 / 256) : Int)) = ((24 + len8N (x / 65536 / 256) : Nat) : Int) := by rw [wrap_i64] <;> omega
      have e4 : bl x = 24 + len8N (x / 65536 / 256) := by unfold bl; rw [if_pos h1, if_pos h2]
      have e5 : IntKind.wrap .i64 ((16 : Int) + 8) = 24 := rfl
      simp only [go_sem, h0, e1, e2, s16, s8, u8_nat hz, ix2 _ hz, wi _ hz, e5, e3, ↓reduceIte, Nat.reduceEqDiff, Nat.reduceLT]
      rw [e4]; exact ⟨.refl _, subG_refl _⟩
    · have e2 : decide ((256 : Int) ≤ ((x / 65536 : Nat) : Int)) = false := decide_eq_false (by omega)
      have hz : x / 65536 < 256 := by omega
      have k1 := lf (x / 65536) hz
      have e3 : IntKind.wrap .i64 ((16 : Int) + (len8N (x / 65536) : Int)) = ((16 + len8N (x / 65536) : Nat) : Int) := by rw [wrap_i64] <;> omega
      have e4 : bl x = 16 + len8N (x / 65536) := by unfold bl; rw [if_pos h1, if_neg h2]
      simp only [go_sem, h0, e1, e2, s16, u8_nat hz, ix2 _ hz, wi _ hz, e3, ↓reduceIte, Nat.reduceEqDiff, Nat.reduceLT]
      rw [e4]; exact ⟨.refl _, subG_refl _⟩
  · have e1 : decide ((65536 : Int) ≤ (x : Int)) = false := decide_eq_false (by omega)
    by_cases h2 : 256 ≤ x
    · have e2 : decide ((256 : Int) ≤ (x : Int)) = true := decide_eq_true (by omega)
      have hz : x / 256 < 256 := by omega
      have k1 := lf (x / 256) hz
      have e3 : IntKind.wrap .i64 ((8 : Int) + (len8N (x / 256) : Int)) = ((8 + len8N (x / 256) : Nat) : Int) := by rw [wrap_i64] <;> omega
      have e4 : bl x = 8 + len8N (x / 256) := by unfold bl; rw [if_neg h1, if_pos h2]
      have e5 : IntKind.wrap .i64 ((0 : Int) + 8) = 8 := rfl
      simp only [go_sem, h0, e1, e2, s8, u8_nat hz, ix2 _ hz, wi _ hz, e5, e3, ↓reduceIte, Nat.reduceEqDiff, Nat.reduceLT]
      rw [e4]; exact ⟨.refl _, subG_refl _⟩
    · have e2 : decide ((256 : Int) ≤ (x : Int)) = false := decide_eq_false (by omega)
      have hz : x < 256 := by omega
      have k1 := lf x hz
      have e3 : IntKind.wrap .i64 ((0 : Int) + (len8N x : Int)) = ((len8N x : Nat) : Int) := by rw [wrap_i64] <;> omega
      have e4 : bl x = len8N x := by unfold bl; rw [if_neg h1, if_neg h2]
      simp only [go_sem, h0, e1, e2, u8_nat hz, ix2 _ hz, wi _ hz, e3, ↓reduceIte, Nat.reduceEqDiff, Nat.reduceLT]
      rw [e4]; exact ⟨.refl _, subG_refl _⟩
theorem lz_call (x : Nat) (hx : x < W32) : PCall Tryz.prog 198 [.v (.int .u32 (x : Nat))] (.v (.int .i64 ((32 - bl x : Nat) : Nat))) := by
  refine pcall mixed k198 (by simp) fun H s hw h => ?_
  have h0 : s 0 = .p (.v (.int .u32 (x : Nat))) := h 0 _ rfl
  unfold c198
  have hb := bl_bounds hx
  have e : IntKind.wrap .i64 ((32 : Int) - (bl x : Int)) = ((32 - bl x : Nat) : Int) := by rw [wrap_i64] <;> omega
  simp only [go_sem, h0, ↓reduceIte, Nat.reduceEqDiff, Nat.reduceLT]
  refine ⟨_, len32_call x hx, ?_⟩
  simp only [go_sem, e, ↓reduceIte, Nat.reduceEqDiff, Nat.reduceLT]
  exact ⟨.refl _, subG_refl _⟩
end Bh
namespace Bh
open Go
structure DivI (u v m k : Nat) (l : List Nat) (r : Nat) : Prop where
  len : l.length = m
  dig : ∀ d ∈ l, d < W32
  zero : ∀ i, i < k → dg l i = 0
  lt : r < v * W32 ^ k
  eq : u = val l * v + r
theorem DivI.init {u v m : Nat} (h : u < v * W32 ^ m) : DivI u v m m (List.replicate m 0) u := ⟨by simp, lt_repl _, fun i _ => dg_repl _ _, h, by simp [val_repl]⟩
theorem DivI.step {u v m j r q : Nat} {l : List Nat} (h : DivI u v m (j + 1) l r) (hj : j < m) (hv : 0 < v) (hq : q = r / (v * W32 ^ j)) : q < W32 ∧ DivI u v m j (l.set j q) (r - q * (v * W32 ^ j)) := by
  have hp : 0 < v * W32 ^ j := Nat.mul_pos hv (Nat.pow_pos w32_pos)
  have hqw : q < W32 := by
    rw [hq, Nat.div_lt_iff_lt_mul hp, Nat.mul_comm W32, Nat.mul_assoc, ← Nat.pow_succ]; exact h.lt
  have hm := Nat.div_add_mod r (v * W32 ^ j)
  have hr := Nat.mod_lt r hp
  rw [← hq, Nat.mul_comm _ q] at hm
  refine ⟨hqw, by simp [h.len], lt_set h.dig hqw, fun i hi => by rw [dg_set_ne (by omega)]; exact h.zero i (by omega), by omega, ?_⟩
  have e := val_set_at (l := l) (i := j) (by rw [h.len]; exact hj) q
  rw [h.zero j (by omega), Nat.mul_zero, Nat.add_zero] at e
  rw [e, Nat.add_mul, h.eq]
  have : W32 ^ j * q * v = q * (v * W32 ^ j) := by ac_rfl
  omega
theorem DivI.skip {u v m j r : Nat} {l : List Nat} (h : DivI u v m (j + 1) l r) (hq : r / (v * W32 ^ j) = 0) (hv : 0 < v) : DivI u v m j l r := by
  have hp : 0 < v * W32 ^ j := Nat.mul_pos hv (Nat.pow_pos w32_pos)
  exact ⟨h.len, h.dig, fun i hi => h.zero i (by omega), by rcases Nat.div_eq_zero_iff.1 hq with h | h; omega; exact h, h.eq⟩
theorem DivI.done {u v m r : Nat} {l : List Nat} (h : DivI u v m 0 l r) (hv : 0 < v) : val l = u / v ∧ r = u % v := by
  have hr : r < v := by simpa using h.lt
  rw [h.eq]
  exact ⟨by rw [Nat.mul_comm, Nat.mul_add_div hv, Nat.div_eq_of_lt hr]; rfl, by rw [Nat.mul_comm, Nat.mul_add_mod, Nat.mod_eq_of_lt hr]⟩
theorem top_two {r t : Nat} (h : r < W32 ^ (t + 1 + 1)) : dg (natD r) (t + 1) * W32 + dg (natD r) t = r / W32 ^ t := by
  rw [dg_nat, dg_nat]
  have e1 : r / W32 ^ (t + 1) = r / W32 ^ t / W32 := by rw [Nat.pow_succ, Nat.div_div_eq_div_mul]
  have h2 : r / W32 ^ t / W32 < W32 := by
    rw [← e1, Nat.div_lt_iff_lt_mul (Nat.pow_pos w32_pos), Nat.mul_comm, ← Nat.pow_succ]; exact h
  rw [e1, Nat.mod_eq_of_lt h2, Nat.mul_comm]; exact Nat.div_add_mod _ _
theorem val_ge_top {v t : Nat} : W32 ^ t * dg (natD v) t ≤ v := by
  rw [dg_nat]
  exact Nat.le_trans (Nat.mul_le_mul_left _ (Nat.mod_le _ _)) (Nat.mul_div_le _ _)
theorem guess_ge {r v t j : Nat} (hv : 0 < dg (natD v) t) : r / (v * W32 ^ j) ≤ r / W32 ^ (j + t) / dg (natD v) t := by
  rw [Nat.div_div_eq_div_mul]
  have h : W32 ^ (j + t) * dg (natD v) t ≤ v * W32 ^ j := by
    rw [Nat.pow_add, Nat.mul_assoc, Nat.mul_comm v]
    exact Nat.mul_le_mul_left _ val_ge_top
  exact Nat.div_le_div_left h (Nat.mul_pos (Nat.pow_pos w32_pos) hv)
theorem dg_top {v : Nat} (hv : v ≠ 0) : 0 < dg (natD v) ((natD v).length - 1) := by
  have hne : natD v ≠ [] := fun e => hv (natD_nil.1 e)
  have h := natD_last v ((natD v).getLast hne) (List.getLast?_eq_some_getLast hne)
  rw [List.getLast_eq_getElem] at h
  have hl : (natD v).length - 1 < (natD v).length := by have := List.length_pos_iff.2 hne; omega
  have : dg (natD v) ((natD v).length - 1) = (natD v)[(natD v).length - 1] := by simp [dg, hl]
  omega
theorem natD_low {v : Nat} (hv : v ≠ 0) : W32 ^ ((natD v).length - 1) ≤ v := by
  have h1 := dg_top hv
  have h2 := val_ge_top (v := v) (t := (natD v).length - 1)
  exact Nat.le_trans (Nat.le_mul_of_pos_right _ h1) h2
theorem div_fits {u v m : Nat} (hv : v ≠ 0) (hm : (natD u).length + 1 = m + (natD v).length) : u < v * W32 ^ m := by
  have h1 := natD_lt_pow u
  have h2 := natD_low hv
  have hl : 0 < (natD v).length := by have := _root_.mt natD_len0.1 hv; omega
  have e : (natD u).length = ((natD v).length - 1) + m := by omega
  rw [e, Nat.pow_add] at h1
  exact Nat.lt_of_lt_of_le h1 (Nat.mul_le_mul_right _ h2)
theorem sh_len {x b : Nat} (hb : b < 32) : (natD (x * 2 ^ b)).length ≤ (natD x).length + 1 := by
  refine natD_len.2 ?_
  rw [Nat.pow_succ]
  have h1 := natD_lt_pow x
  have h2 : 2 ^ b ≤ W32 := by have := Nat.pow_le_pow_right (show 0 < 2 by omega) (Nat.le_of_lt hb); simpa [W32] using this
  exact Nat.lt_of_lt_of_le (Nat.mul_lt_mul_of_pos_right h1 (Nat.two_pow_pos b)) (Nat.mul_le_mul_left _ h2)
theorem mul_len {x y : Nat} : (natD (x * y)).length ≤ (natD x).length + (natD y).length := by
  refine natD_len.2 ?_
  rw [Nat.pow_add]
  by_cases hy : y = 0
  · subst hy; simp; exact Nat.mul_pos (Nat.pow_pos w32_pos) (Nat.pow_pos w32_pos)
  · exact Nat.lt_of_lt_of_le (Nat.mul_lt_mul_of_pos_right (natD_lt_pow x) (by omega)) (Nat.mul_le_mul_left _ (Nat.le_of_lt (natD_lt_pow y)))
theorem add_len {x y : Nat} : (natD (x + y)).length ≤ max (natD x).length (natD y).length + 1 := by
  refine natD_len.2 ?_
  have h1 : x < W32 ^ max (natD x).length (natD y).length := natD_len.1 (Nat.le_max_left _ _)
  have h2 : y < W32 ^ max (natD x).length (natD y).length := natD_len.1 (Nat.le_max_right _ _)
  rw [Nat.pow_succ]
  have := Nat.mul_le_mul_left (W32 ^ max (natD x).length (natD y).length) two_W32
  omega
end Bh
namespace Bh
open Go Go.Proofs
theorem nv_0 : nv 0 = .sl [] := by simp [nv, natD_0]
theorem cmpI_neg {x y : Nat} : decide (cmpI x y < 0) = decide (x < y) := by
  unfold cmpI; split <;> rename_i h
  · simp [h]
  · split <;> simp [h]
theorem cmpI_pos {x y : Nat} : decide (0 < cmpI x y) = decide (y < x) := by
  unfold cmpI; split <;> rename_i h
  · simp; omega
  · split <;> rename_i h2
    · simp [h2]
    · simp; omega
theorem le64 {n : Nat} : decide ((0 : Int) < (n : Int)) = decide (0 < n) := by simp
theorem min64 {n : Nat} : min (n : Int) 4294967295 = ((min n 4294967295 : Nat) : Int) := by omega
def GI (u v m j : Nat) (l : List Nat) (r g : Nat) : Prop := DivI u v m (j + 1) l r ∧ r / (v * W32 ^ j) ≤ g ∧ g < W32
theorem wk_tup2 {a b c d : PV} (h1 : Wk a c) (h2 : Wk b d) : WkA (.p (.tup [a, b])) (.p (.tup [c, d])) := .p _ _ (.tup _ _ rfl fun j x y hx hy => by
  match j, hx, hy with
  | 0, hx, hy => simp at hx hy; subst hx; subst hy; exact h1
  | 1, hx, hy => simp at hx hy; subst hx; subst hy; exact h2)
theorem div_call (x y : Nat) (hx : (natD x).length ≤ 100000) (hyl : (natD y).length ≤ 100000) (hy : y ≠ 0) : PCall Tryz.prog 170 [nv x, nv y] (.tup [nv (x / y), nv (x % y)]) := by
  refine pcall mixed k170 (by simp) fun H s hw h => ?_
  have h0 : s 0 = .p (nv x) := h 0 _ rfl
  have h1 : s 1 = .p (nv y) := h 1 _ rfl
  have w32 : W32 = 4294967296 := rfl
  have pc := compare_call x y (by omega) (by omega)
  unfold c170
  simp only [go_sem, h0, h1, ↓reduceIte, Nat.reduceEqDiff, Nat.reduceLT]
  refine ⟨_, pc, ?_⟩
  by_cases hxy : x < y
  · have e1 : decide (cmpI x y < 0) = true := by rw [cmpI_neg]; exact decide_eq_true hxy
    simp only [go_sem, h0, h1, e1, ↓reduceIte, Nat.reduceEqDiff, Nat.reduceLT]
    have hc := clone2_call ((natD x).map fun d => .v (.int .u32 (d : Nat))) (all_dig _) (by simp; omega)
    refine ⟨_, hc, ?_⟩
    rw [Nat.div_eq_of_lt hxy, Nat.mod_eq_of_lt hxy, nv_0]
    exact ⟨wk_tup2 .nil (.refl _), subG_refl _⟩
  · have e1 : decide (cmpI x y < 0) = false := by rw [cmpI_neg]; exact decide_eq_false hxy
    have hny : nv y = .sl ((natD y).map fun d => .v (.int .u32 (d : Nat))) := rfl
    have hl0 : 0 < (natD y).length := by have := _root_.mt natD_len0.1 hy; omega
    by_cases h1l : (natD y).length = 1
    · have e2 : (((natD y).length : Int) == 1) = true := by rw [h1l]; rfl
      have g0 : (natD y)[0]? = some (dg (natD y) 0) := dg_get hl0
      have hyd : y = dg (natD y) 0 := by
        have := val_natD y
        obtain ⟨a, ha⟩ := List.length_eq_one_iff.1 h1l
        rw [ha] at this ⊢; simp [val, dg] at this ⊢; exact this.symm
      have dlt := dg_lt (natD_lt y) 0
      have pov := over_call x (dg (natD y) 0) (by omega) (by omega) dlt
      rw [← hyd] at pov
      have ez : ((0 : Nat) : Int) = 0 := rfl
      have ix0 : semIdx H 1 (.p (.sl ((natD y).map fun d => .v (.int .u32 (d : Nat))))) (.p (.v (.int .i64 0))) = some (.p (.ref (.v (.int .u32 (dg (natD y) 0 : Nat))))) := by
        have := semIdx_sl (H := H) (k := 1) (j := 0) (es := (natD y).map fun d => PV.v (.int .u32 (d : Nat))) (kd := .i64)
        rw [ez] at this
        rw [this, List.getElem?_map, g0]; rfl
      rw [hny] at h1
      simp only [go_sem, h0, h1, e1, e2, ix0, ← hyd, ↓reduceIte, Nat.reduceEqDiff, Nat.reduceLT]
      refine ⟨_, pov, ?_⟩
      have a1 := u64_nat (a := x % y) (by have := Nat.mod_lt x (Nat.pos_of_ne_zero hy); omega)
      simp only [go_sem, h0, h1, a1, List.getElem?_cons_zero, List.getElem?_cons_succ, ↓reduceIte, Nat.reduceEqDiff, Nat.reduceLT]
      refine ⟨_, small_call (x % y) (by have := Nat.mod_lt x (Nat.pos_of_ne_zero hy); omega), ?_⟩
      exact ⟨.refl _, subG_refl _⟩
    · have e2 : (((natD y).length : Int) == 1) = false := by simp only [beq_eq_false_iff_ne, ne_eq]; omega
      have el : IntKind.wrap .i64 (((natD y).length : Int) - 1) = (((natD y).length - 1 : Nat) : Int) := subwi1 (by omega) hl0
      have gt := dg_get (l := natD y) (i := (natD y).length - 1) (by omega)
      have dlt := dg_lt (natD_lt y) ((natD y).length - 1)
      have dpos := dg_top hy
      rw [hny] at h1
      simp only [go_sem, h0, h1, e1, e2, el, gt, ↓reduceIte, Nat.reduceEqDiff, Nat.reduceLT]
      refine ⟨_, lz_call _ dlt, ?_⟩
      have hb := bl_bounds dlt
      generalize hbb : 32 - bl (dg (natD y) ((natD y).length - 1)) = b at *
      have hb32 : b < 32 := by have := hb.2 (by omega); omega
      try simp only [go_sem, h0, h1, ↓reduceIte, Nat.reduceEqDiff, Nat.reduceLT]
      refine ⟨_, shift_call x b (by omega) hb32, ?_⟩
      try simp only [go_sem, h0, h1, ↓reduceIte, Nat.reduceEqDiff, Nat.reduceLT]
      refine ⟨_, shift_call y b (by omega) hb32, ?_⟩
      have lu := sh_len (x := x) hb32
      have lv := sh_len (x := y) hb32
      have e2b := Nat.two_pow_pos b
      have hvu : y * 2 ^ b ≤ x * 2 ^ b := Nat.mul_le_mul_right _ (by omega)
      have hv0 : y * 2 ^ b ≠ 0 := Nat.mul_ne_zero hy (by omega)
      have eq1 : x / y = (x * 2 ^ b) / (y * 2 ^ b) := (Nat.mul_div_mul_right _ _ e2b).symm
      have eq2 : x % y = (x * 2 ^ b) % (y * 2 ^ b) / 2 ^ b := by rw [Nat.mul_mod_mul_right, Nat.mul_div_cancel _ e2b]
      rw [eq1, eq2]
      generalize x * 2 ^ b = u at *
      generalize y * 2 ^ b = v at *
      have hlm := natD_len_mono hvu
      have hlv : 0 < (natD v).length := by have := _root_.mt natD_len0.1 hv0; omega
      obtain ⟨m, hm⟩ : ∃ m, (natD u).length + 1 = m + (natD v).length := ⟨(natD u).length + 1 - (natD v).length, by omega⟩
      have em1 : IntKind.wrap .i64 (((natD u).length : Int) - ((natD v).length : Int)) = ((m - 1 : Nat) : Int) := by rw [wrap_i64] <;> omega
      have em2 : IntKind.wrap .i64 (((m - 1 : Nat) : Int) + 1) = (m : Int) := by rw [wrap_i64] <;> omega
      have hnu : nv u = .sl ((natD u).map fun d => .v (.int .u32 (d : Nat))) := rfl
      have hnv : nv v = .sl ((natD v).map fun d => .v (.int .u32 (d : Nat))) := rfl
      have em3 : IntKind.wrap .i64 ((m : Int) - 1) = (m : Int) - 1 := by rw [wrap_i64] <;> omega
      simp only [go_sem, h0, h1, hnu, hnv, em1, em2, z171, em3, ↓reduceIte, Nat.reduceEqDiff, Nat.reduceLT]
      refine ⟨by omega, by omega, _, clone2_call _ (all_dig _) (by simp; omega), ?_⟩
      have hvp : 0 < v := Nat.pos_of_ne_zero hv0
      have dvt := dg_top hv0
      have dvl := dg_lt (natD_lt v) ((natD v).length - 1)
      refine awp_loop (fun k s H' => ∃ l r, k ≤ m ∧ H' = H.new (.row 171 1 (rowD l)) ∧ DivI u v m k l r ∧ s 8 = .p (.v (.int .i64 (b : Nat))) ∧ s 10 = .p (nv v) ∧ s 11 = .p (.v (.int .i64 ((natD v).length : Nat))) ∧
        s 12 = .hd H.nx ∧ s 13 = .p (nv r) ∧ s 14 = .p (.v (.int .i64 ((k : Int) - 1)))) m ⟨List.replicate m 0, u, Nat.le_refl _, ?_, DivI.init (div_fits hv0 hm), ?_⟩ ?_
      · rw [rowD_zero]
      · simp only [go_sem, List.length_replicate, em3, ↓reduceIte, Nat.reduceEqDiff, Nat.reduceLT]
        exact ⟨rfl, rfl⟩
      · rintro k s' H' ⟨l, r, hk, rfl, hA, h8, h10, h11, h12, h13, h14⟩
        unfold c170l1
        have hru : r ≤ u := by have := hA.eq; omega
        have hrl := natD_len_mono hru
        by_cases hk0 : k = 0
        · subst hk0
          have e1 : decide ((0 : Int) ≤ ((0 : Nat) : Int) - 1) = false := by decide
          have hv := hA.done hvp
          have hc := trimmed_nv (ds := l) (by rw [hA.len]; omega) hA.dig
          simp only [go_sem, h8, h10, h11, h12, h13, h14, e1, allP_rowD, ↓reduceIte, Nat.reduceEqDiff, Nat.reduceLT]
          refine ⟨_, hc, _, down_call r b (by omega) hb32, ?_⟩
          rw [hv.1, hv.2]
          exact ⟨.refl _, new_del hw⟩
        · obtain ⟨j, rfl⟩ : ∃ j, k = j + 1 := ⟨k - 1, by omega⟩
          have e2 : (((j + 1 : Nat) : Int) - 1) = (j : Int) := by omega
          have e3 : IntKind.wrap .i64 ((j : Int) - 1) = (j : Int) - 1 := by rw [wrap_i64] <;> omega
          rw [e2] at h14
          have e4 : decide ((0 : Int) ≤ (j : Int)) = true := by simp
          have ej := addwi (a := j) (b := (natD v).length) (by omega)
          obtain ⟨t, ht⟩ : ∃ t, (natD v).length = t + 1 := ⟨(natD v).length - 1, by omega⟩
          have hnv' : nv v = .sl ((natD v).map fun d => .v (.int .u32 (d : Nat))) := rfl
          have em4 : IntKind.wrap .i64 (((j + (natD v).length : Nat) : Int) - 1) = ((j + t : Nat) : Int) := by rw [wrap_i64] <;> omega
          have em5 : IntKind.wrap .i64 (((natD v).length : Int) - 1) = ((t : Nat) : Int) := by rw [wrap_i64] <;> omega
          have p1 := digit_call r (j + (natD v).length)
          have p2 := digit_call r (j + t)
          have d1 := dg_lt (natD_lt r) (j + (natD v).length)
          have d2 := dg_lt (natD_lt r) (j + t)
          have f1 := shl32 (k := .u64) d1
          have f2 := or64 (a := dg (natD r) (j + (natD v).length)) (b := dg (natD r) (j + t)) d1 d2
          have hrt : r < W32 ^ (j + t + 1 + 1) := by
            have h1 := hA.lt
            have h2 := natD_lt_pow v
            rw [ht] at h2
            have h3 : v * W32 ^ (j + 1) ≤ W32 ^ (t + 1) * W32 ^ (j + 1) := Nat.mul_le_mul_right _ (Nat.le_of_lt h2)
            rw [← Nat.pow_add, show t + 1 + (j + 1) = j + t + 1 + 1 by omega] at h3
            omega
          have htop := top_two hrt
          rw [show j + (natD v).length = j + t + 1 by omega] at f1 f2 p1 d1 ej em4
          rw [show (natD v).length - 1 = t by omega] at dvt dvl
          rw [htop] at f2
          have hb64 : r / W32 ^ (j + t) < 18446744073709551616 := by
            rw [← htop]
            have h1 : (dg (natD r) (j + t + 1) + 1) * W32 ≤ W32 * W32 := Nat.mul_le_mul_right _ d1
            have e2 : W32 * W32 = 18446744073709551616 := by decide
            rw [Nat.add_mul] at h1; omega
          have f3 := quo64 (b := dg (natD v) t) hb64 dvt
          have a1 := u64_nat (a := dg (natD v) t) (by omega)
          have gt' := dg_get (l := natD v) (i := t) (by omega)
          have hgg := guess_ge (r := r) (j := j) dvt
          have hqw := (hA.step (by omega) hvp rfl).1
          have hg : r / (v * W32 ^ j) ≤ min (r / W32 ^ (j + t) / dg (natD v) t) 4294967295 := by omega
          have hg2 : min (r / W32 ^ (j + t) / dg (natD v) t) 4294967295 < W32 := by omega
          simp only [go_sem, h8, h10, h11, h12, h13, h14, e4, ej, ↓reduceIte, Nat.reduceEqDiff, Nat.reduceLT]
          refine ⟨_, p1, ?_⟩
          simp only [go_sem, h8, h10, h11, h12, h13, h14, f1, em4, ej, ↓reduceIte, Nat.reduceEqDiff, Nat.reduceLT]
          refine ⟨_, p2, ?_⟩
          rw [hnv'] at h10
          simp only [go_sem, h8, h10, h11, h12, h13, h14, f2, em5, gt', a1, f3, min64, ↓reduceIte, Nat.reduceEqDiff, Nat.reduceLT]
          generalize hG : min (r / W32 ^ (j + t) / dg (natD v) t) 4294967295 = G at *
          refine awp_loop (fun g s H' => r / (v * W32 ^ j) ≤ g ∧ g < W32 ∧ H' = H.new (.row 171 1 (rowD l)) ∧ s 8 = .p (.v (.int .i64 (b : Nat))) ∧ s 10 = .p (nv v) ∧ s 11 = .p (.v (.int .i64 ((natD v).length : Nat))) ∧
            s 12 = .hd H.nx ∧ s 13 = .p (nv r) ∧ s 14 = .p (.v (.int .i64 (j : Nat))) ∧ s 16 = .p (.v (.int .u64 (g : Nat)))) G ⟨hg, hg2, rfl, ?_⟩ ?_
          · simp only [go_sem, h8, h10, h11, h12, h13, h14, ↓reduceIte, Nat.reduceEqDiff, Nat.reduceLT]
            rfl
          · rintro g s2 H2 ⟨hqg, hgw, rfl, h8, h10, h11, h12, h13, h14, h16⟩
            unfold c170l0
            have hjl : j < l.length := by rw [hA.len]; omega
            by_cases hg0 : g = 0
            · subst hg0
              have e5 : decide ((0 : Int) < ((0 : Nat) : Int)) = false := by decide
              simp only [go_sem, h8, h10, h11, h12, h13, h14, h16, e5, e3, ↓reduceIte, Nat.reduceEqDiff, Nat.reduceLT]
              exact ⟨j, by omega, l, r, by omega, rfl, hA.skip (Nat.le_zero.1 hqg) hvp, rfl, rfl⟩
            · have e5 : decide ((0 : Int) < (g : Int)) = true := by rw [le64]; exact decide_eq_true (by omega)
              have ml := mul_len (x := v) (y := g)
              have gl : (natD g).length ≤ 1 := natD_len.2 (by simpa using hgw)
              have em6 : IntKind.wrap .u64 ((g : Int) - 1) = ((g - 1 : Nat) : Int) := by rw [wrap_u64] <;> omega
              have hpart : v * g * W32 ^ j = g * (v * W32 ^ j) := by ac_rfl
              have pl : (natD (v * g * W32 ^ j)).length ≤ 900000 := by
                have h1 : (natD (v * g * W32 ^ j)).length ≤ (natD (v * g)).length + j := by
                  refine natD_len.2 ?_
                  rw [Nat.pow_add]
                  exact Nat.mul_lt_mul_of_pos_right (natD_lt_pow _) (Nat.pow_pos w32_pos)
                omega
              simp only [go_sem, h8, h10, h11, h12, h13, h14, h16, e5, ↓reduceIte, Nat.reduceEqDiff, Nat.reduceLT]
              refine ⟨_, small_call g (by omega), _, mul_call v g (by omega) (by omega), _, shifted_call (v * g) j (by omega) (by omega), ?_⟩
              try simp only [go_sem, h8, h10, h11, h12, h13, h14, h16, ↓reduceIte, Nat.reduceEqDiff, Nat.reduceLT]
              refine ⟨_, compare_call _ r (by omega) (by omega), ?_⟩
              by_cases hgt : r < v * g * W32 ^ j
              · have e6 : decide (0 < cmpI (v * g * W32 ^ j) r) = true := by rw [cmpI_pos]; exact decide_eq_true hgt
                simp only [go_sem, h8, h10, h11, h12, h13, h14, h16, e6, em6, ↓reduceIte, Nat.reduceEqDiff, Nat.reduceLT]
                refine ⟨g - 1, by omega, ?_, by omega, rfl⟩
                rw [hpart] at hgt
                have := (Nat.div_lt_iff_lt_mul (Nat.mul_pos hvp (Nat.pow_pos w32_pos))).2 hgt
                omega
              · have e6 : decide (0 < cmpI (v * g * W32 ^ j) r) = false := by rw [cmpI_pos]; exact decide_eq_false hgt
                have hq : g = r / (v * W32 ^ j) := by
                  rw [hpart] at hgt
                  have := (Nat.le_div_iff_mul_le (Nat.mul_pos hvp (Nat.pow_pos w32_pos))).2 (Nat.le_of_not_lt hgt)
                  exact Nat.le_antisymm this hqg
                obtain ⟨_, hS⟩ := hA.step (by omega) hvp hq
                rw [← hpart] at hS
                simp only [go_sem, h8, h10, h11, h12, h13, h14, h16, e6, ↓reduceIte, Nat.reduceEqDiff, Nat.reduceLT]
                refine ⟨_, sub_call r (v * g * W32 ^ j) (by omega) (by omega), ?_⟩
                simp only [go_sem, h8, h10, h11, h12, h13, h14, h16, tw32 hgw, gi_rowD hjl, gl_rowD hjl, dv, st_rowD, e3, ↓reduceIte, Nat.reduceEqDiff, Nat.reduceLT]
                exact ⟨j, by omega, _, _, by omega, rfl, hS, rfl, rfl⟩
end Bh
namespace Bh
open Go Go.Proofs
theorem gcd_call (x y : Nat) (hx : (natD x).length ≤ 100000) (hy : (natD y).length ≤ 100000) : PCall Tryz.prog 142 [nv x, nv y] (nv (Nat.gcd x y)) := by
  refine pcall mixed k142 (by simp) fun H s hw h => ?_
  have h0 : s 0 = .p (nv x) := h 0 _ rfl
  have h1 : s 1 = .p (nv y) := h 1 _ rfl
  unfold c142
  simp only [go_sem, h0, h1, ↓reduceIte, Nat.reduceEqDiff, Nat.reduceLT]
  refine awp_loop (fun k s H' => ∃ a, H' = H ∧ (natD a).length ≤ 100000 ∧ (natD k).length ≤ 100000 ∧ Nat.gcd a k = Nat.gcd x y ∧ s 0 = .p (nv a) ∧ s 1 = .p (nv k)) y ⟨x, rfl, hx, hy, rfl, ?_⟩ ?_
  · simp only [go_sem, h0, h1, ↓reduceIte, Nat.reduceEqDiff, Nat.reduceLT]
  · rintro k s' H' ⟨a, rfl, ha, hk, hg, h0, h1⟩
    unfold c142l0
    have hnk : nv k = .sl ((natD k).map fun d => .v (.int .u32 (d : Nat))) := rfl
    by_cases hk0 : k = 0
    · subst hk0
      have e1 : decide ((0 : Int) < ((natD 0).length : Int)) = false := by simp [natD_0]
      rw [hnk] at h1
      simp only [go_sem, h0, h1, e1, ↓reduceIte, Nat.reduceEqDiff, Nat.reduceLT]
      rw [Nat.gcd_zero_right] at hg
      rw [hg]; exact ⟨.refl _, subG_refl _⟩
    · have e1 : decide ((0 : Int) < ((natD k).length : Int)) = true := by
        have := _root_.mt natD_len0.1 hk0
        exact decide_eq_true (by omega)
      have dc := div_call a k ha hk hk0
      rw [hnk] at h1 dc
      simp only [go_sem, h0, h1, e1, ↓reduceIte, Nat.reduceEqDiff, Nat.reduceLT]
      refine ⟨_, dc, ?_⟩
      simp only [go_sem, h0, h1, List.getElem?_cons_zero, List.getElem?_cons_succ, ↓reduceIte, Nat.reduceEqDiff, Nat.reduceLT]
      have hm := Nat.mod_lt a (Nat.pos_of_ne_zero hk0)
      refine ⟨a % k, hm, k, hk, Nat.le_trans (natD_len_mono (Nat.le_of_lt hm)) hk, ?_, rfl, rfl⟩
      rw [← hg, Nat.gcd_comm k, ← Nat.gcd_rec, Nat.gcd_comm]
def numV (q : Rat) : PV := .agg [.v (.bool (decide (q.num < 0))), nv q.num.natAbs, nv q.den]
def sg (neg : Bool) (n : Nat) : Int := if neg then -(n : Int) else n
theorem sg_abs {neg : Bool} {n : Nat} : (sg neg n).natAbs = n := by unfold sg; split <;> simp
theorem mkRat_num {z : Int} {d : Nat} (hd : d ≠ 0) : (mkRat z d).num = z / (Nat.gcd z.natAbs d : Nat) ∧ (mkRat z d).den = d / Nat.gcd z.natAbs d := by
  rw [Rat.num_mkRat, Rat.den_mkRat, if_neg hd, if_neg hd, Nat.gcd_comm]; exact ⟨rfl, rfl⟩
theorem mkRat_parts {z : Int} {d : Nat} (hd : d ≠ 0) : (mkRat z d).num.natAbs = z.natAbs / Nat.gcd z.natAbs d ∧ (mkRat z d).den = d / Nat.gcd z.natAbs d := by
  refine ⟨?_, (mkRat_num hd).2⟩
  rw [(mkRat_num hd).1, Int.natAbs_ediv_of_dvd (Int.ofNat_dvd_left.2 (Nat.gcd_dvd_left _ _))]
  simp
theorem mkRat_neg {z : Int} {d : Nat} (hd : d ≠ 0) : (mkRat z d).num < 0 ↔ z < 0 := by
  rw [(mkRat_num hd).1]
  have hg : 0 < ((Nat.gcd z.natAbs d : Nat) : Int) := by have := Nat.gcd_pos_of_pos_right z.natAbs (Nat.pos_of_ne_zero hd); omega
  constructor
  · intro h
    by_cases h1 : z < 0
    · exact h1
    · exact absurd (Int.ediv_nonneg (Int.not_lt.1 h1) (Int.le_of_lt hg)) (Int.not_le.2 h)
  · intro h; exact Int.ediv_neg_of_neg_of_pos h hg
theorem z112 : zeroT Tryz.prog 112 = .agg [.v (.bool false), .v (.slice none 0 0), .v (.slice none 0 0)] := by kernel_rfl
theorem z32 : zeroT Tryz.prog 32 = .agg [.v (.bool false), .v (.slice none 0 0), .v (.slice none 0 0)] := by kernel_rfl
theorem cells1 {x : PV} (h : x.isAgg = false) : (AV.p x).cells = [.p x] := by cases x <;> first | rfl | simp [PV.isAgg] at h
theorem build3 {a b c z0 z1 z2 : PV} (ha : a.isAgg = false) (hb : b.isAgg = false) (hc : c.isAgg = false) : buildV (.agg [z0, z1, z2]) [(0, 0, 1), (1, 1, 1), (2, 2, 1)] [.p a, .p b, .p c] = some (.p (.agg [a, b, c])) := by
  simp only [buildV, List.zip_cons_cons, List.zip_nil_right, List.foldl_cons, List.foldl_nil, cells1 ha, cells1 hb, cells1 hc]
  rfl
theorem wr3 {a b c a' b' c' : PV} : (AV.p (.agg [a, b, c])).wr 0 (.p (.agg [a', b', c'])) = some (.p (.agg [a', b', c'])) := wr_0 rfl rfl
theorem psub3 {a b c : PV} : (PV.agg [a, b, c]).sub 0 true 3 = some (.agg [a, b, c]) := psub_0 rfl
theorem isAgg_nv {x : Nat} : (nv x).isAgg = false := rfl
theorem wid_nv {x : Nat} : (nv x).wid = 1 := rfl
theorem ok1_nv {x : Nat} : (nv x).ok1 = true := rfl
theorem len_nv {H : AHeap} {x : Nat} : semLen H (.p (nv x)) = some (natD x).length := by simp [nv, semLen]
theorem psubf_nv {x : Nat} : (nv x).sub 0 false 1 = some (nv x) := rfl
theorem build3n {z0 z1 z2 : PV} {b : Value} {x y : Nat} : buildV (.agg [z0, z1, z2]) [(0, 0, 1), (1, 1, 1), (2, 2, 1)] [.p (.v b), .p (nv x), .p (nv y)] = some (.p (.agg [.v b, nv x, nv y])) := build3 rfl rfl rfl
theorem isSome_s {α : Type} {a : α} : (some a).isSome = true := rfl
attribute [go_sem] build3n isSome_s wr3 psub3 isAgg_nv wid_nv ok1_nv len_nv psubf_nv
theorem reduced_call (neg : Bool) (n d : Nat) (hn : (natD n).length ≤ 100000) (hdl : (natD d).length ≤ 100000) (hd : d ≠ 0) : PCall Tryz.prog 127 [.v (.bool neg), nv n, nv d] (numV (mkRat (sg neg n) d)) := by
  refine pcall mixed k127 (by simp) fun H s hw h => ?_
  have h0 : s 0 = .p (.v (.bool neg)) := h 0 _ rfl
  have h1 : s 1 = .p (nv n) := h 1 _ rfl
  have h2 : s 2 = .p (nv d) := h 2 _ rfl
  unfold c127
  have hg0 : Nat.gcd n d ≠ 0 := by have := Nat.gcd_pos_of_pos_right n (Nat.pos_of_ne_zero hd); omega
  have hgd : Nat.gcd n d ≤ d := Nat.le_of_dvd (Nat.pos_of_ne_zero hd) (Nat.gcd_dvd_right _ _)
  have gl := natD_len_mono hgd
  simp only [go_sem, h0, h1, h2, ↓reduceIte, Nat.reduceEqDiff, Nat.reduceLT]
  refine ⟨_, gcd_call n d hn hdl, _, div_call n (Nat.gcd n d) hn (by omega) hg0, ?_⟩
  simp only [go_sem, h0, h1, h2, List.getElem?_cons_zero, List.getElem?_cons_succ, ↓reduceIte, Nat.reduceEqDiff, Nat.reduceLT]
  refine ⟨_, div_call d (Nat.gcd n d) hdl (by omega) hg0, ?_⟩
  simp only [go_sem, h0, h1, h2, List.getElem?_cons_zero, List.getElem?_cons_succ, ↓reduceIte, Nat.reduceEqDiff, Nat.reduceLT]
  have hp := mkRat_parts (z := sg neg n) hd
  have hneg := mkRat_neg (z := sg neg n) hd
  rw [sg_abs] at hp
  cases neg
  · simp only [go_sem, h0, h1, h2, z112, ↓reduceIte, Nat.reduceEqDiff, Nat.reduceLT]
    refine ⟨rfl, ?_, ((Sub.refl H).new hw _).g⟩
    have : decide ((mkRat (sg false n) d).num < 0) = false := by
      rw [decide_eq_false_iff_not, hneg]; simp [sg]
    unfold numV
    rw [this, hp.1, hp.2]; exact .refl _
  · have hn0 : decide ((0 : Int) < ((natD (n / Nat.gcd n d)).length : Int)) = decide ((mkRat (sg true n) d).num < 0) := by
      rw [decide_eq_decide, hneg]
      have h1 : (natD (n / Nat.gcd n d)).length = 0 ↔ n / Nat.gcd n d = 0 := natD_len0
      have h2 : n / Nat.gcd n d = 0 ↔ n = 0 := by
        constructor
        · intro h
          rcases Nat.div_eq_zero_iff.1 h with h | h
          · exact absurd h hg0
          · rcases Nat.eq_zero_or_pos n with h3 | h3
            · exact h3
            · exact absurd (Nat.gcd_le_left d h3) (by omega)
        · intro h; rw [h]; simp
      simp only [sg, if_true]
      omega
    simp only [go_sem, h0, h1, h2, z112, hn0, ↓reduceIte, Nat.reduceEqDiff, Nat.reduceLT]
    refine ⟨rfl, ?_, ((Sub.refl H).new hw _).g⟩
    unfold numV
    rw [hp.1, hp.2]; exact .refl _
end Bh
namespace Bh
open Go Go.Proofs
def SzQ (q : Rat) (k : Nat) : Prop := (natD q.num.natAbs).length ≤ k ∧ (natD q.den).length ≤ k
theorem SzQ.mono {q : Rat} {k k' : Nat} (h : SzQ q k) (hk : k ≤ k') : SzQ q k' := ⟨Nat.le_trans h.1 hk, Nat.le_trans h.2 hk⟩
theorem szQ_mk {z : Int} {d k : Nat} (hd : d ≠ 0) (h1 : (natD z.natAbs).length ≤ k) (h2 : (natD d).length ≤ k) : SzQ (mkRat z d) k := by
  have hp := mkRat_parts (z := z) hd
  exact ⟨by rw [hp.1]; exact Nat.le_trans (natD_len_mono (Nat.div_le_self _ _)) h1, by rw [hp.2]; exact Nat.le_trans (natD_len_mono (Nat.div_le_self _ _)) h2⟩
theorem SzQ.add {p q : Rat} {j k : Nat} (hp : SzQ p j) (hq : SzQ q k) : SzQ (p + q) (j + k + 1) := by
  rw [Rat.add_def']
  refine szQ_mk (Nat.mul_ne_zero p.den_nz q.den_nz) ?_ (Nat.le_trans mul_len (by have := hp.2; have := hq.2; omega))
  have h1 : (p.num * (q.den : Int) + q.num * (p.den : Int)).natAbs ≤ p.num.natAbs * q.den + q.num.natAbs * p.den := by
    have := Int.natAbs_add_le (p.num * (q.den : Int)) (q.num * (p.den : Int))
    simpa [Int.natAbs_mul] using this
  have h2 := mul_len (x := p.num.natAbs) (y := q.den)
  have h3 := mul_len (x := q.num.natAbs) (y := p.den)
  have h4 := add_len (x := p.num.natAbs * q.den) (y := q.num.natAbs * p.den)
  have := natD_len_mono h1
  have := hp.1; have := hp.2; have := hq.1; have := hq.2
  omega
theorem SzQ.mul {p q : Rat} {j k : Nat} (hp : SzQ p j) (hq : SzQ q k) : SzQ (p * q) (j + k) := by
  rw [Rat.mul_def, Rat.normalize_eq_mkRat]
  refine szQ_mk (Nat.mul_ne_zero p.den_nz q.den_nz) ?_ (Nat.le_trans mul_len (by have := hp.2; have := hq.2; omega))
  rw [Int.natAbs_mul]
  have h2 := mul_len (x := p.num.natAbs) (y := q.num.natAbs)
  have := hp.1; have := hq.1
  omega
theorem SzQ.neg {p : Rat} {k : Nat} (hp : SzQ p k) : SzQ (-p) k := ⟨by rw [Rat.neg_num, Int.natAbs_neg]; exact hp.1, hp.2⟩
theorem wrN {a b c : PV} {q : Rat} : (AV.p (.agg [a, b, c])).wr 0 (.p (numV q)) = some (.p (numV q)) := wr_0 rfl rfl
theorem subN {q : Rat} : (numV q).sub 0 true 3 = some (numV q) := psub_0 rfl
theorem widN {q : Rat} : (numV q).wid = 3 := rfl
theorem isAggN {q : Rat} : (numV q).isAgg = true := rfl
theorem ok1N {q : Rat} : (numV q).ok1 = true := rfl
theorem fldN0 {q : Rat} : (numV q).sub 0 false 1 = some (.v (.bool (decide (q.num < 0)))) := by unfold numV; rw [psub_f]; rfl
theorem fldN1 {q : Rat} : (numV q).sub 1 false 1 = some (nv q.num.natAbs) := by unfold numV; rw [psub_f]; rfl
theorem fldN2 {q : Rat} : (numV q).sub 2 false 1 = some (nv q.den) := by unfold numV; rw [psub_f]; rfl
attribute [go_sem] wrN subN widN isAggN ok1N fldN0 fldN1 fldN2
theorem sg_num (q : Rat) : sg (decide (q.num < 0)) q.num.natAbs = q.num := by
  unfold sg
  by_cases h : q.num < 0
  · simp [h]; omega
  · simp [h]; omega
theorem sg_mul {a b : Bool} {m n : Nat} : sg (a != b) (m * n) = sg a m * sg b n := by cases a <;> cases b <;> simp [sg, Int.neg_mul, Int.mul_neg]
theorem eqb_t {a b : Bool} : ((a == b) != true) = (a != b) := by cases a <;> cases b <;> rfl
theorem eqb_f {a b : Bool} : ((a == b) != false) = (a == b) := by cases a <;> cases b <;> rfl
attribute [go_sem] eqb_t eqb_f
theorem mulq_call (p q : Rat) (hp : SzQ p 40000) (hq : SzQ q 40000) : PCall Tryz.prog 125 [numV p, numV q] (numV (p * q)) := by
  refine pcall mixed k125 (by simp) fun H s hw h => ?_
  have h0 : s 0 = .p (numV p) := h 0 _ rfl
  have h1 : s 1 = .p (numV q) := h 1 _ rfl
  unfold c125
  have l1 := mul_len (x := p.num.natAbs) (y := q.num.natAbs)
  have l2 := mul_len (x := p.den) (y := q.den)
  obtain ⟨p1, p2⟩ := hp
  obtain ⟨q1, q2⟩ := hq
  have hr := reduced_call (decide (p.num < 0) != decide (q.num < 0)) (p.num.natAbs * q.num.natAbs) (p.den * q.den) (by omega) (by omega) (Nat.mul_ne_zero p.den_nz q.den_nz)
  have e : mkRat (sg (decide (p.num < 0) != decide (q.num < 0)) (p.num.natAbs * q.num.natAbs)) (p.den * q.den) = p * q := by
    rw [Rat.mul_def, Rat.normalize_eq_mkRat]
    congr 1
    rw [sg_mul, sg_num, sg_num]
  rw [e] at hr
  simp only [go_sem, h0, h1, z112, ↓reduceIte, Nat.reduceEqDiff, Nat.reduceLT]
  refine ⟨_, mul_call _ _ (by omega) (by omega), ?_⟩
  try simp only [go_sem, h0, h1, z112, ↓reduceIte, Nat.reduceEqDiff, Nat.reduceLT]
  refine ⟨_, mul_call _ _ (by omega) (by omega), _, hr, ?_⟩
  simp only [go_sem, h0, h1, z112, ↓reduceIte, Nat.reduceEqDiff, Nat.reduceLT]
  exact ⟨.refl _, ((Sub.refl H).new hw _).g⟩
theorem addq_call (p q : Rat) (hp : SzQ p 40000) (hq : SzQ q 40000) : PCall Tryz.prog 66 [numV p, numV q] (numV (p + q)) := by
  refine pcall mixed k66 (by simp) fun H s hw h => ?_
  have h0 : s 0 = .p (numV p) := h 0 _ rfl
  have h1 : s 1 = .p (numV q) := h 1 _ rfl
  unfold c66
  have l1 := mul_len (x := p.num.natAbs) (y := q.den)
  have l2 := mul_len (x := q.num.natAbs) (y := p.den)
  have l3 := mul_len (x := p.den) (y := q.den)
  have l4 := add_len (x := p.num.natAbs * q.den) (y := q.num.natAbs * p.den)
  obtain ⟨p1, p2⟩ := hp
  obtain ⟨q1, q2⟩ := hq
  have hd := Nat.mul_ne_zero p.den_nz q.den_nz
  have ep : p.num * (q.den : Int) = sg (decide (p.num < 0)) (p.num.natAbs * q.den) := by
    have := sg_mul (a := decide (p.num < 0)) (b := false) (m := p.num.natAbs) (n := q.den)
    rw [Bool.bne_false] at this
    rw [this, sg_num]; rfl
  have eq : q.num * (p.den : Int) = sg (decide (q.num < 0)) (q.num.natAbs * p.den) := by
    have := sg_mul (a := decide (q.num < 0)) (b := false) (m := q.num.natAbs) (n := p.den)
    rw [Bool.bne_false] at this
    rw [this, sg_num]; rfl
  rw [Rat.add_def', ep, eq]
  have npv : numV p = .agg [.v (.bool (decide (p.num < 0))), nv p.num.natAbs, nv p.den] := rfl
  have nqv : numV q = .agg [.v (.bool (decide (q.num < 0))), nv q.num.natAbs, nv q.den] := rfl
  have k1 := mul_call p.num.natAbs q.den (by omega) (by omega)
  have k2 := mul_call q.num.natAbs p.den (by omega) (by omega)
  have k3 := mul_call p.den q.den (by omega) (by omega)
  simp only [go_sem, h0, h1, z112, ↓reduceIte, Nat.reduceEqDiff, Nat.reduceLT]
  refine ⟨_, k1, _, k2, _, k3, ?_⟩
  try simp only [go_sem, h0, h1, z112, ↓reduceIte, Nat.reduceEqDiff, Nat.reduceLT]
  have hs := ((Sub.refl H).new hw (.box 112 (.p (numV (mkRat (sg (decide (p.num < 0)) (p.num.natAbs * q.den) + sg (decide (q.num < 0)) (q.num.natAbs * p.den)) (p.den * q.den)))))).g
  generalize hbp : decide (p.num < 0) = bp at *
  generalize hbq0 : decide (q.num < 0) = bq at *
  generalize p.num.natAbs * q.den = x at *
  generalize q.num.natAbs * p.den = y at *
  generalize p.den * q.den = d at *
  cases hb : (bp == bq)
  · have hbq : bq = !bp := by cases bp <;> cases bq <;> simp_all
    subst hbq
    simp only [go_sem, h0, h1, z112, hb, hbp, hbq0, ↓reduceIte, Nat.reduceEqDiff, Nat.reduceLT]
    refine ⟨_, compare_call x y (by omega) (by omega), ?_⟩
    by_cases hxy : x < y
    · have e1 : decide (cmpI x y < 0) = true := by rw [cmpI_neg]; exact decide_eq_true hxy
      have e2 : sg bp x + sg (!bp) y = sg (!bp) (y - x) := by cases bp <;> simp [sg] <;> omega
      rw [e2] at hs ⊢
      have lm := natD_len_mono (show y - x ≤ y by omega)
      simp only [go_sem, h0, h1, z112, e1, hbp, hbq0, ↓reduceIte, Nat.reduceEqDiff, Nat.reduceLT]
      refine ⟨_, sub_call y x (by omega) (by omega), _, reduced_call (!bp) (y - x) d (by omega) (by omega) hd, ?_⟩
      simp only [go_sem, h0, h1, z112, ↓reduceIte, Nat.reduceEqDiff, Nat.reduceLT]
      exact ⟨.refl _, hs⟩
    · have e1 : decide (cmpI x y < 0) = false := by rw [cmpI_neg]; exact decide_eq_false hxy
      have e2 : sg bp x + sg (!bp) y = sg bp (x - y) := by cases bp <;> simp [sg] <;> omega
      rw [e2] at hs ⊢
      have lm := natD_len_mono (show x - y ≤ x by omega)
      simp only [go_sem, h0, h1, z112, e1, hbp, hbq0, ↓reduceIte, Nat.reduceEqDiff, Nat.reduceLT]
      refine ⟨_, sub_call x y (by omega) (by omega), _, reduced_call bp (x - y) d (by omega) (by omega) hd, ?_⟩
      simp only [go_sem, h0, h1, z112, ↓reduceIte, Nat.reduceEqDiff, Nat.reduceLT]
      exact ⟨.refl _, hs⟩
  · have hbq : bq = bp := by cases bp <;> cases bq <;> simp_all
    subst hbq
    have e2 : sg bq x + sg bq y = sg bq (x + y) := by cases bq <;> simp [sg] <;> omega
    rw [e2] at hs ⊢
    simp only [go_sem, h0, h1, z112, hb, hbp, hbq0, ↓reduceIte, Nat.reduceEqDiff, Nat.reduceLT]
    refine ⟨_, add_call x y (by omega) (by omega), _, reduced_call bq (x + y) d (by omega) (by omega) hd, ?_⟩
    simp only [go_sem, h0, h1, z112, ↓reduceIte, Nat.reduceEqDiff, Nat.reduceLT]
    exact ⟨.refl _, hs⟩
end Bh
namespace Bh
open Go Go.Proofs
theorem neg_neg_num {q : Rat} : decide ((-q).num < 0) = (!decide (q.num < 0) && decide (0 < q.num.natAbs)) := by
  rw [Rat.neg_num]
  by_cases h : q.num < 0
  · rw [decide_eq_true h, decide_eq_false (show ¬ -q.num < 0 by omega)]; rfl
  · by_cases h2 : q.num = 0
    · rw [h2]; rfl
    · rw [decide_eq_false h, decide_eq_true (show -q.num < 0 by omega), decide_eq_true (show 0 < q.num.natAbs by omega)]; rfl
theorem lenpos {x : Nat} : decide ((0 : Int) < ((natD x).length : Int)) = decide (0 < x) := by
  rw [decide_eq_decide]
  have := natD_len0 (x := x)
  omega
theorem leneq0 {x : Nat} : (((natD x).length : Int) == 0) = decide (x = 0) := by
  have := natD_len0 (x := x)
  by_cases h : x = 0
  · subst h; simp [natD_0]
  · rw [decide_eq_false h, beq_eq_false_iff_ne]; omega
theorem minus_call (q : Rat) : PCall Tryz.prog 67 [numV q] (numV (-q)) := by
  refine pcall mixed k67 (by simp) fun H s hw h => ?_
  have h0 : s 0 = .p (numV q) := h 0 _ rfl
  unfold c67
  have e : numV (-q) = .agg [.v (.bool (!decide (q.num < 0) && decide (0 < q.num.natAbs))), nv q.num.natAbs, nv q.den] := by
    unfold numV; rw [neg_neg_num, Rat.neg_num, Int.natAbs_neg]; rfl
  rw [e]
  cases hb : decide (q.num < 0)
  · simp only [go_sem, h0, z112, hb, lenpos, Bool.not_false, ↓reduceIte, Nat.reduceEqDiff, Nat.reduceLT]
    exact ⟨rfl, .refl _, ((Sub.refl H).new hw _).g⟩
  · simp only [go_sem, h0, z112, hb, lenpos, Bool.not_true, ↓reduceIte, Nat.reduceEqDiff, Nat.reduceLT]
    exact ⟨rfl, .refl _, ((Sub.refl H).new hw _).g⟩
theorem zero_call (q : Rat) : PCall Tryz.prog 131 [numV q] (.v (.bool (decide (q = 0)))) := by
  refine pcall mixed k131 (by simp) fun H s hw h => ?_
  have h0 : s 0 = .p (numV q) := h 0 _ rfl
  unfold c131
  have e : decide (q = 0) = decide (q.num.natAbs = 0) := by
    rw [decide_eq_decide, Int.natAbs_eq_zero]
    exact ⟨fun h => by rw [h]; rfl, fun h => Rat.num_eq_zero.1 h⟩
  simp only [go_sem, h0, leneq0, ↓reduceIte, Nat.reduceEqDiff, Nat.reduceLT]
  rw [e]; exact ⟨.refl _, subG_refl _⟩
def sgnQ (q : Rat) : Int := if q = 0 then 0 else if q < 0 then -1 else 1
theorem num_neg_iff {q : Rat} : q.num < 0 ↔ q < 0 := by
  rw [← Rat.not_le, ← Rat.num_nonneg, Int.not_le]
theorem sign_call (q : Rat) : PCall Tryz.prog 68 [numV q] (.v (.int .i64 (sgnQ q))) := by
  refine pcall mixed k68 (by simp) fun H s hw h => ?_
  have h0 : s 0 = .p (numV q) := h 0 _ rfl
  unfold c68
  simp only [go_sem, h0, ↓reduceIte, Nat.reduceEqDiff, Nat.reduceLT]
  refine ⟨_, zero_call q, ?_⟩
  by_cases h1 : q = 0
  · simp only [go_sem, h0, dec_t h1, ↓reduceIte, Nat.reduceEqDiff, Nat.reduceLT]
    have : sgnQ q = 0 := if_pos h1
    rw [this]; exact ⟨.refl _, subG_refl _⟩
  · by_cases h2 : q.num < 0
    · simp only [go_sem, h0, dec_f h1, dec_t h2, ↓reduceIte, Nat.reduceEqDiff, Nat.reduceLT]
      have : sgnQ q = -1 := by unfold sgnQ; rw [if_neg h1, if_pos (num_neg_iff.1 h2)]
      rw [this]; exact ⟨.refl _, subG_refl _⟩
    · simp only [go_sem, h0, dec_f h1, dec_f h2, ↓reduceIte, Nat.reduceEqDiff, Nat.reduceLT]
      have : sgnQ q = 1 := by unfold sgnQ; rw [if_neg h1, if_neg (fun h => h2 (num_neg_iff.2 h))]
      rw [this]; exact ⟨.refl _, subG_refl _⟩
def frV (b : Bool) (n d : List Nat) : PV := .agg [.v (.bool b), natV n, natV d]
def frQ (b : Bool) (n d : List Nat) : Rat := mkRat (sg b (val n)) (if val d = 0 then 1 else val d)
theorem nv_natV {x : Nat} : nv x = natV (natD x) := rfl
theorem val_len {ds : List Nat} (h : ∀ d ∈ ds, d < W32) : (natD (val ds)).length ≤ ds.length := natD_len.2 (val_lt h)
theorem natD_1 : natD 1 = [1] := by rw [natD_pos (by decide)]; rw [show 1 / W32 = 0 from rfl, natD_0]; rfl
theorem isAgg_natV {l : List Nat} : (natV l).isAgg = false := rfl
theorem wid_natV {l : List Nat} : (natV l).wid = 1 := rfl
theorem ok1_natV {l : List Nat} : (natV l).ok1 = true := rfl
theorem sub_natV {l : List Nat} : (natV l).sub 0 false 1 = some (natV l) := rfl
theorem wid_frV {b : Bool} {n d : List Nat} : (frV b n d).wid = 3 := rfl
theorem isAgg_frV {b : Bool} {n d : List Nat} : (frV b n d).isAgg = true := rfl
theorem ok1_frV {b : Bool} {n d : List Nat} : (frV b n d).ok1 = true := rfl
theorem sub_frV {b : Bool} {n d : List Nat} : (frV b n d).sub 0 true 3 = some (frV b n d) := psub_0 rfl
theorem frF0 {b : Bool} {n d : List Nat} : (frV b n d).sub 0 false 1 = some (.v (.bool b)) := by unfold frV; rw [psub_f]; rfl
theorem frF1 {b : Bool} {n d : List Nat} : (frV b n d).sub 1 false 1 = some (natV n) := by unfold frV; rw [psub_f]; rfl
theorem frF2 {b : Bool} {n d : List Nat} : (frV b n d).sub 2 false 1 = some (natV d) := by unfold frV; rw [psub_f]; rfl
theorem wrF {x y z : PV} {b : Bool} {n d : List Nat} : (AV.p (.agg [x, y, z])).wr 0 (.p (frV b n d)) = some (.p (frV b n d)) := wr_0 rfl rfl
attribute [go_sem] isAgg_natV wid_natV ok1_natV sub_natV wid_frV isAgg_frV ok1_frV sub_frV frF0 frF1 frF2 wrF
structure FrOK (n d : List Nat) (k : Nat) : Prop where
  n1 : ∀ x ∈ n, x < W32
  d1 : ∀ x ∈ d, x < W32
  nl : n.length ≤ k
  dl : d.length ≤ k
theorem frQ_sz {b : Bool} {n d : List Nat} {k : Nat} (h : FrOK n d k) (hk : 1 ≤ k) : SzQ (frQ b n d) k := by
  unfold frQ
  refine szQ_mk (by split <;> omega) (by rw [sg_abs]; exact Nat.le_trans (val_len h.n1) h.nl) ?_
  split
  · rw [natD_1]; exact hk
  · exact Nat.le_trans (val_len h.d1) h.dl
theorem take_call (b : Bool) (n d : List Nat) (h : FrOK n d 40000) : PCall Tryz.prog 65 [frV b n d] (numV (frQ b n d)) := by
  refine pcall mixed k65 (by simp) fun H s hw ha => ?_
  have h0 : s 0 = .p (frV b n d) := ha 0 _ rfl
  unfold c65
  have l1 := val_len h.n1
  have l2 := val_len h.d1
  have hnl := h.nl
  have hdl := h.dl
  have t1 := trimmed_nv (ds := d) (by omega) h.d1
  have t2 := trimmed_nv (ds := n) (by omega) h.n1
  simp only [go_sem, h0, z112, ↓reduceIte, Nat.reduceEqDiff, Nat.reduceLT]
  refine ⟨_, t1, ?_⟩
  by_cases hd : val d = 0
  · have e1 : decide (val d = 0) = true := decide_eq_true hd
    have hr := reduced_call b (val n) 1 (by omega) (by rw [natD_1]; simp) (by omega)
    have e : frQ b n d = mkRat (sg b (val n)) 1 := by unfold frQ; rw [if_pos hd]
    rw [e]
    simp only [go_sem, h0, z112, leneq0, e1, ↓reduceIte, Nat.reduceEqDiff, Nat.reduceLT]
    refine ⟨_, small_call 1 (by omega), _, t2, _, hr, ?_⟩
    simp only [go_sem, h0, z112, ↓reduceIte, Nat.reduceEqDiff, Nat.reduceLT]
    exact ⟨.refl _, ((Sub.refl H).new hw _).g⟩
  · have e1 : decide (val d = 0) = false := decide_eq_false hd
    have hr := reduced_call b (val n) (val d) (by omega) (by omega) hd
    have e : frQ b n d = mkRat (sg b (val n)) (val d) := by unfold frQ; rw [if_neg hd]
    rw [e]
    simp only [go_sem, h0, z112, leneq0, e1, ↓reduceIte, Nat.reduceEqDiff, Nat.reduceLT]
    refine ⟨_, t2, _, hr, ?_⟩
    simp only [go_sem, h0, z112, ↓reduceIte, Nat.reduceEqDiff, Nat.reduceLT]
    exact ⟨.refl _, ((Sub.refl H).new hw _).g⟩
def canN (q : Rat) : List Nat := natD q.num.natAbs
def canD (q : Rat) : List Nat := if q.den = 1 then [] else natD q.den
def fracV (q : Rat) : PV := frV (decide (q.num < 0)) (canN q) (canD q)
theorem fracV_q (q : Rat) : frQ (decide (q.num < 0)) (canN q) (canD q) = q := by
  unfold frQ canN canD
  rw [val_natD, sg_num]
  by_cases h : q.den = 1
  · rw [if_pos h]
    simp only [val, if_true]
    rw [← h]; exact Rat.mkRat_self q
  · rw [if_neg h, val_natD, if_neg q.den_nz]; exact Rat.mkRat_self q
theorem fracV_ok {q : Rat} {k : Nat} (h : SzQ q k) : FrOK (canN q) (canD q) k := by
  refine ⟨natD_lt _, ?_, h.1, ?_⟩
  · unfold canD; split
    · intro x hx; simp at hx
    · exact natD_lt _
  · unfold canD; split
    · simp
    · exact h.2
theorem whole_call (n : Nat) (hn : n < 9223372036854775808) : PCall Tryz.prog 61 [.v (.int .i64 (n : Nat))] (numV (n : Int)) := by
  refine pcall mixed k61 (by simp) fun H s hw ha => ?_
  have h0 : s 0 = .p (.v (.int .i64 (n : Nat))) := ha 0 _ rfl
  unfold c61
  have e1 : decide ((n : Int) < 0) = false := decide_eq_false (by omega)
  have a1 := u64_nat (a := n) (by omega)
  simp only [go_sem, h0, z112, e1, a1, ↓reduceIte, Nat.reduceEqDiff, Nat.reduceLT]
  refine ⟨_, small_call n (by omega), _, small_call 1 (by omega), ?_⟩
  simp only [go_sem, h0, z112, ↓reduceIte, Nat.reduceEqDiff, Nat.reduceLT]
  have e : numV ((n : Int) : Rat) = .agg [.v (.bool false), nv n, nv 1] := by
    unfold numV
    have e1 : ((n : Int) : Rat).num = (n : Int) := rfl
    have e2 : ((n : Int) : Rat).den = 1 := rfl
    rw [e1, e2, decide_eq_false (by omega)]; rfl
  rw [e]
  exact ⟨rfl, .refl _, ((Sub.refl H).new hw _).g⟩
end Bh
namespace Bh
open Go Go.Proofs
theorem natV_all {l : List Nat} : natV l = .sl (l.map fun d => .v (.int .u32 (d : Nat))) := rfl
theorem cloneN (x : Nat) (hx : (natD x).length ≤ 900000) : PCall Tryz.prog 122 [nv x] (nv x) := clone2_call _ (all_dig _) (by simp; omega)
theorem build2_32 {z0 z1 z2 : PV} {b : Value} {x : Nat} : buildV (.agg [z0, z1, z2]) [(0, 0, 1), (1, 1, 1)] [.p (.v b), .p (nv x)] = some (.p (.agg [.v b, nv x, z2])) := by
  simp only [buildV, List.zip_cons_cons, List.zip_nil_right, List.foldl_cons, List.foldl_nil, cells1 (x := .v b) rfl, cells1 (x := nv x) rfl]
  rfl
theorem wr3_2 {a b c : PV} {x : Nat} : (AV.p (.agg [a, b, c])).wr 2 (.p (nv x)) = some (.p (.agg [a, b, nv x])) := by rw [wr_f rfl rfl (by simp)]; rfl
attribute [go_sem] build2_32 wr3_2
theorem give_call (q : Rat) (hq : SzQ q 900000) : PCall Tryz.prog 62 [numV q] (fracV q) := by
  refine pcall mixed k62 (by simp) fun H s hw ha => ?_
  have h0 : s 0 = .p (numV q) := ha 0 _ rfl
  obtain ⟨q1, q2⟩ := hq
  unfold c62
  simp only [go_sem, h0, z32, ↓reduceIte, Nat.reduceEqDiff, Nat.reduceLT]
  refine ⟨_, cloneN _ q1, ?_⟩
  simp only [go_sem, h0, z32, ↓reduceIte, Nat.reduceEqDiff, Nat.reduceLT]
  refine ⟨rfl, _, small_call 1 (by omega), _, compare_call q.den 1 (by omega) (by rw [natD_1]; simp), ?_⟩
  by_cases hd : q.den = 1
  · have e1 : (cmpI q.den 1 != 0) = false := by rw [hd]; rfl
    have e2 : fracV q = .agg [.v (.bool (decide (q.num < 0))), nv q.num.natAbs, .sl []] := by
      unfold fracV frV canN canD; rw [if_pos hd]; rfl
    rw [e2]
    simp (disch := omega) only [go_sem, h0, z32, e1, ite_lt, ite_gt, Nat.zero_add, ↓reduceIte, Nat.reduceEqDiff, Nat.reduceLT]
    refine ⟨.p _ _ (.agg _ _ rfl ?_), ?_⟩
    · intro j c d hc hd
      match j, hc, hd with
      | 0, hc, hd => simp at hc hd; subst hc; subst hd; exact .refl _
      | 1, hc, hd => simp at hc hd; subst hc; subst hd; exact .refl _
      | 2, hc, hd => simp at hc hd; subst hc; subst hd; exact .nil
    · exact (((((Sub.refl H).new hw _).new hw _).set hw (Nat.le_succ _) _).set hw (Nat.le_refl _) _).g
  · have e1 : (cmpI q.den 1 != 0) = true := by
      unfold cmpI
      split
      · rfl
      · rfl
    have e2 : fracV q = .agg [.v (.bool (decide (q.num < 0))), nv q.num.natAbs, nv q.den] := by
      unfold fracV frV canN canD; rw [if_neg hd]; rfl
    rw [e2]
    simp (disch := omega) only [go_sem, h0, z32, e1, ite_lt, ite_gt, Nat.zero_add, ↓reduceIte, Nat.reduceEqDiff, Nat.reduceLT]
    refine ⟨_, cloneN _ q2, ?_⟩
    simp (disch := omega) only [go_sem, h0, z32, e1, ite_lt, ite_gt, Nat.zero_add, ↓reduceIte, Nat.reduceEqDiff, Nat.reduceLT]
    exact ⟨.refl _, ((((((Sub.refl H).new hw _).new hw _).set hw (Nat.le_succ _) _).set hw (Nat.le_succ _) _).set hw (Nat.le_refl _) _).g⟩
structure Fr where
  b : Bool
  n : List Nat
  d : List Nat
def Fr.V (x : Fr) : PV := frV x.b x.n x.d
def Fr.q (x : Fr) : Rat := frQ x.b x.n x.d
def Fr.OK (x : Fr) (k : Nat) : Prop := FrOK x.n x.d k
def canF (q : Rat) : Fr := ⟨decide (q.num < 0), canN q, canD q⟩
theorem canF_V (q : Rat) : (canF q).V = fracV q := rfl
theorem canF_q (q : Rat) : (canF q).q = q := fracV_q q
theorem canF_ok {q : Rat} {k : Nat} (h : SzQ q k) : (canF q).OK k := fracV_ok h
theorem Fr.sz {x : Fr} {k : Nat} (h : x.OK k) (hk : 1 ≤ k) : SzQ x.q k := frQ_sz h hk
theorem takeF (x : Fr) (h : x.OK 40000) : PCall Tryz.prog 65 [x.V] (numV x.q) := take_call _ _ _ h
theorem of_call (n : Nat) (hn : n < 9223372036854775808) : PCall Tryz.prog 20 [.v (.int .i64 (n : Nat))] (fracV (n : Int)) := by
  refine pcall mixed k20 (by simp) fun H s hw ha => ?_
  have h0 : s 0 = .p (.v (.int .i64 (n : Nat))) := ha 0 _ rfl
  unfold c20
  have hz : SzQ ((n : Int) : Rat) 900000 := by
    refine ⟨?_, ?_⟩
    · have e : (((n : Int) : Rat).num).natAbs = n := rfl
      rw [e]; exact Nat.le_trans ((natD_len (k := 2)).2 (Nat.lt_of_lt_of_le hn (by decide))) (by omega)
    · have e : ((n : Int) : Rat).den = 1 := rfl
      rw [e, natD_1]; simp
  simp only [go_sem, h0, z32, ↓reduceIte, Nat.reduceEqDiff, Nat.reduceLT]
  refine ⟨_, whole_call n hn, _, give_call _ hz, ?_⟩
  unfold fracV
  simp only [go_sem, h0, z32, ↓reduceIte, Nat.reduceEqDiff, Nat.reduceLT]
  exact ⟨.refl _, ((Sub.refl H).new hw _).g⟩
theorem sgn_call (x : Fr) (h : x.OK 40000) : PCall Tryz.prog 32 [x.V] (.v (.int .i64 (sgnQ x.q))) := by
  refine pcall mixed k32 (by simp) fun H s hw ha => ?_
  have h0 : s 0 = .p x.V := ha 0 _ rfl
  have tk := takeF x h
  unfold Fr.V at h0 tk
  unfold c32
  simp only [go_sem, h0, z32, ↓reduceIte, Nat.reduceEqDiff, Nat.reduceLT]
  refine ⟨_, tk, _, sign_call _, ?_⟩
  exact ⟨.refl _, subG_refl _⟩
def cmpQ (p q : Rat) : Int := sgnQ (p + -q)
theorem cmp_call (x y : Fr) (hx : x.OK 40000) (hy : y.OK 40000) : PCall Tryz.prog 23 [x.V, y.V] (.v (.int .i64 (cmpQ x.q y.q))) := by
  refine pcall mixed k23 (by simp) fun H s hw ha => ?_
  have h0 : s 0 = .p x.V := ha 0 _ rfl
  have h1 : s 1 = .p y.V := ha 1 _ rfl
  have tx := takeF x hx
  have ty := takeF y hy
  have sx := Fr.sz hx (by omega)
  have sy := Fr.sz hy (by omega)
  unfold Fr.V at h0 h1 tx ty
  unfold c23
  simp only [go_sem, h0, h1, z32, ↓reduceIte, Nat.reduceEqDiff, Nat.reduceLT]
  refine ⟨_, tx, _, ty, _, minus_call _, _, addq_call _ _ sx sy.neg, _, sign_call _, ?_⟩
  exact ⟨.refl _, subG_refl _⟩
end Bh
namespace Bh
open Go Go.Proofs
theorem wrNN {p q : Rat} : (AV.p (numV p)).wr 0 (.p (numV q)) = some (.p (numV q)) := wr_0 rfl rfl
theorem isAggF {x : Fr} : x.V.isAgg = true := rfl
theorem widF {x : Fr} : x.V.wid = 3 := rfl
theorem ok1F {x : Fr} : x.V.ok1 = true := rfl
theorem subF {x : Fr} : x.V.sub 0 true 3 = some x.V := psub_0 rfl
theorem wrFr {a b c : PV} {x : Fr} : (AV.p (.agg [a, b, c])).wr 0 (.p x.V) = some (.p x.V) := wr_0 rfl rfl
attribute [go_sem] wrNN isAggF widF ok1F subF wrFr
def foldQ (op : Rat → Rat → Rat) (a : Rat) (xs : List Fr) : Rat := xs.foldl (fun a x => op a x.q) a
theorem foldQ_take {op : Rat → Rat → Rat} {a : Rat} {xs : List Fr} {i : Nat} (h : i < xs.length) : foldQ op a (xs.take (i + 1)) = op (foldQ op a (xs.take i)) xs[i].q := by
  unfold foldQ; rw [List.take_succ_eq_append_getElem h, List.foldl_append]; rfl
theorem fold_call (g : FuncId) (op : Rat → Rat → Rat) (hg : ∀ p q, SzQ p 40000 → SzQ q 40000 → PCall Tryz.prog g [numV p, numV q] (numV (op p q))) (a : Rat) (xs : List Fr) (hx : ∀ x ∈ xs, x.OK 40000) (hl : xs.length < 9223372036854775807)
    (hs : ∀ i, i ≤ xs.length → SzQ (foldQ op a (xs.take i)) 40000) : PCall Tryz.prog 124 [numV a, .clo g [], .sl (xs.map Fr.V)] (numV (foldQ op a xs)) := by
  refine pcall mixed k124 (by simp) fun H s hw h => ?_
  have h0 : s 0 = .p (numV a) := h 0 _ rfl
  have h1 : s 1 = .p (.clo g []) := h 1 _ rfl
  have h2 : s 2 = .p (.sl (xs.map Fr.V)) := h 2 _ rfl
  unfold c124
  simp only [go_sem, h0, h1, h2, z112, ↓reduceIte, Nat.reduceEqDiff, Nat.reduceLT]
  refine awp_loop (fun k s H' => ∃ i, i + k = xs.length ∧ SubG H H' ∧ H.nx + 1 < H'.nx ∧ H'.get H.nx = some (.box 112 (.p (numV (foldQ op a (xs.take i))))) ∧ (∃ x y z, H'.get (H.nx + 1) = some (.box 112 (.p (.agg [x, y, z])))) ∧
    s 1 = .p (.clo g []) ∧ s 3 = .pb H.nx 0 ∧ s 6 = .pb (H.nx + 1) 0 ∧ s 9 = .p (.sl (xs.map Fr.V)) ∧ s 10 = .p (.v (.int .i64 (xs.length : Nat))) ∧ s 11 = .p (.v (.int .i64 (i : Nat)))) xs.length ⟨0, by omega, ?_, ?_, ?_, ?_, ?_⟩ ?_
  · exact (((Sub.refl H).new hw _).new hw _).g
  · simp [AHeap.new]
  · simp [AHeap.new, foldQ]
  · exact ⟨.v (.bool false), .v (.slice none 0 0), .v (.slice none 0 0), by simp [AHeap.new]⟩
  · simp only [go_sem, h0, h1, h2, ↓reduceIte, Nat.reduceEqDiff, Nat.reduceLT]
    rfl
  · rintro k s' H' ⟨i, hik, hsub, hnx, hg0, ⟨x, y, z, hg1⟩, h1, h3, h6, h9, h10, h11⟩
    unfold c124l0
    by_cases hi : i < xs.length
    · have gx : xs[i]? = some xs[i] := List.getElem?_eq_getElem hi
      have tk := takeF xs[i] (hx _ (List.getElem_mem hi))
      have sz := Fr.sz (hx _ (List.getElem_mem hi)) (by omega)
      have pg := hg _ _ (hs i (by omega)) sz
      have ei1 : IntKind.wrap .i64 ((i : Int) + 1) = ((i + 1 : Nat) : Int) := addwi1 (by omega)
      simp (disch := omega) only [go_sem, h1, h3, h6, h9, h10, h11, lt_t hi, gx, z32, hg0, hg1, ite_lt, ite_gt, ↓reduceIte, Nat.reduceEqDiff, Nat.reduceLT]
      refine ⟨_, tk, _, pg, ?_⟩
      simp (disch := omega) only [go_sem, h1, h3, h6, h9, h10, h11, hg0, hg1, ite_lt, ite_gt, ei1, ↓reduceIte, Nat.reduceEqDiff, Nat.reduceLT]
      refine ⟨k - 1, by omega, i + 1, by omega, fun j o ho => ?_, by rw [foldQ_take hi], ⟨_, _, _, rfl⟩, rfl⟩
      have hl := hw j o ho
      simp (disch := omega) only [go_sem, ite_lt, ite_gt]
      exact hsub j o ho
    · have hi' : i = xs.length := by omega
      subst hi'
      rw [List.take_length] at hg0
      simp (disch := omega) only [go_sem, h1, h3, h6, h9, h10, h11, lt_f hi, hg0, hg1, ite_lt, ite_gt, ↓reduceIte, Nat.reduceEqDiff, Nat.reduceLT]
      refine ⟨.refl _, fun i o ho => ?_⟩
      have hl := hw i o ho
      simp (disch := omega) only [go_sem, ite_lt, ite_gt]
      exact hsub i o ho
theorem foldQ_sz {op : Rat → Rat → Rat} {f : Nat → Nat → Nat} (hop : ∀ p q j k, SzQ p j → SzQ q k → SzQ (op p q) (j + k + 1)) {m : Nat} (hm : 1 ≤ m) : ∀ {xs : List Fr} {a : Rat} {j : Nat}, SzQ a j → (∀ x ∈ xs, x.OK m) → SzQ (foldQ op a xs) (j + xs.length * (m + 1))
  | [], a, j, ha, _ => by simpa [foldQ] using ha
  | x :: xs, a, j, ha, hx => by
    have h1 := hop a x.q j m ha (Fr.sz (hx x (by simp)) hm)
    have := foldQ_sz (f := f) (xs := xs) hop hm h1 (fun y hy => hx y (List.mem_cons_of_mem _ hy))
    show SzQ (foldQ op (op a x.q) xs) _
    refine SzQ.mono this ?_
    simp only [List.length_cons, Nat.succ_mul]; omega
theorem szQ_int {n k : Nat} (hn : n < W32) (hk : 1 ≤ k) : SzQ ((n : Int) : Rat) k := by
  refine ⟨?_, ?_⟩
  · have e : (((n : Int) : Rat).num).natAbs = n := rfl
    rw [e]; exact Nat.le_trans (natD_len.2 (by simpa using hn)) hk
  · have e : ((n : Int) : Rat).den = 1 := rfl
    rw [e, natD_1]; simpa using hk
def sumF (xs : List Fr) : Rat := foldQ (· + ·) ((0 : Nat) : Int) xs
def prodF (xs : List Fr) : Rat := foldQ (· * ·) ((1 : Nat) : Int) xs
theorem subFr {q : Rat} : (fracV q).sub 0 true 3 = some (fracV q) := psub_0 rfl
theorem isAggFr {q : Rat} : (fracV q).isAgg = true := rfl
theorem widFr {q : Rat} : (fracV q).wid = 3 := rfl
theorem ok1Fr {q : Rat} : (fracV q).ok1 = true := rfl
theorem wrFrq {a b c : PV} {q : Rat} : (AV.p (.agg [a, b, c])).wr 0 (.p (fracV q)) = some (.p (fracV q)) := wr_0 rfl rfl
attribute [go_sem] subFr isAggFr widFr ok1Fr wrFrq
theorem op_sz {a : Nat} (ha : a < W32) {op : Rat → Rat → Rat} (hop : ∀ p q j k, SzQ p j → SzQ q k → SzQ (op p q) (j + k + 1)) {m : Nat} (hm : 1 ≤ m) {xs : List Fr} (hx : ∀ x ∈ xs, x.OK m) (hl : xs.length * (m + 1) + 1 ≤ 40000) (i : Nat) (hi : i ≤ xs.length) :
    SzQ (foldQ op ((a : Nat) : Int) (xs.take i)) 40000 := by
  have := foldQ_sz (f := fun a _ => a) (op := op) hop hm (xs := xs.take i) (a := ((a : Nat) : Int)) (j := 1) (szQ_int ha (Nat.le_refl _)) (fun x h => hx x (List.mem_of_mem_take h))
  refine this.mono ?_
  have h1 : (xs.take i).length ≤ xs.length := by simp; omega
  have := Nat.mul_le_mul_right (m + 1) h1
  omega
theorem sum_call (xs : List Fr) (m : Nat) (hm : 1 ≤ m) (hx : ∀ x ∈ xs, x.OK m) (hl : xs.length * (m + 1) + 1 ≤ 40000) : PCall Tryz.prog 63 [.sl (xs.map Fr.V)] (fracV (sumF xs)) := by
  refine pcall mixed k63 (by simp) fun H s hw h => ?_
  have h0 : s 0 = .p (.sl (xs.map Fr.V)) := h 0 _ rfl
  unfold c63
  have hsz := op_sz (a := 0) (by decide) (op := (· + ·)) (fun p q j k hp hq => hp.add hq) hm hx hl
  have hlen : xs.length ≤ 40000 := by
    have := Nat.mul_le_mul_left xs.length (show 1 ≤ m + 1 by omega); omega
  have hm' : xs = [] ∨ m ≤ 40000 := by
    rcases Nat.eq_zero_or_pos xs.length with h | h
    · exact .inl (List.length_eq_zero_iff.1 h)
    · have := Nat.mul_le_mul_right (m + 1) h; exact .inr (by omega)
  have hx' : ∀ x ∈ xs, x.OK 40000 := fun x hxm => by
    rcases hm' with h | h
    · subst h; simp at hxm
    · exact ⟨(hx x hxm).n1, (hx x hxm).d1, Nat.le_trans (hx x hxm).nl h, Nat.le_trans (hx x hxm).dl h⟩
  have fc := fold_call 66 (· + ·) (fun p q hp hq => addq_call p q hp hq) ((0 : Nat) : Int) xs hx' (by omega) hsz
  have e0 : foldQ (· + ·) ((0 : Nat) : Int) (xs.take xs.length) = sumF xs := by rw [List.take_length]; rfl
  have gv := give_call (sumF xs) (by rw [← e0]; exact (hsz _ (Nat.le_refl _)).mono (by omega))
  have wc := whole_call 0 (by omega)
  simp only [go_sem, h0, z32, ↓reduceIte, Nat.reduceEqDiff, Nat.reduceLT]
  refine ⟨_, wc, _, fc, _, gv, ?_⟩
  simp only [go_sem, h0, z32, ↓reduceIte, Nat.reduceEqDiff, Nat.reduceLT]
  exact ⟨.refl _, ((Sub.refl H).new hw _).g⟩
theorem mul_op_sz (p q : Rat) (j k : Nat) (hp : SzQ p j) (hq : SzQ q k) : SzQ (p * q) (j + k + 1) := (hp.mul hq).mono (by omega)
theorem prod_call (xs : List Fr) (m : Nat) (hm : 1 ≤ m) (hx : ∀ x ∈ xs, x.OK m) (hl : xs.length * (m + 1) + 1 ≤ 40000) : PCall Tryz.prog 64 [.sl (xs.map Fr.V)] (fracV (prodF xs)) := by
  refine pcall mixed k64 (by simp) fun H s hw h => ?_
  have h0 : s 0 = .p (.sl (xs.map Fr.V)) := h 0 _ rfl
  unfold c64
  have hsz := op_sz (a := 1) (by decide) (op := (· * ·)) mul_op_sz hm hx hl
  have hlen : xs.length ≤ 40000 := by
    have := Nat.mul_le_mul_left xs.length (show 1 ≤ m + 1 by omega); omega
  have hm' : xs = [] ∨ m ≤ 40000 := by
    rcases Nat.eq_zero_or_pos xs.length with h | h
    · exact .inl (List.length_eq_zero_iff.1 h)
    · have := Nat.mul_le_mul_right (m + 1) h; exact .inr (by omega)
  have hx' : ∀ x ∈ xs, x.OK 40000 := fun x hxm => by
    rcases hm' with h | h
    · subst h; simp at hxm
    · exact ⟨(hx x hxm).n1, (hx x hxm).d1, Nat.le_trans (hx x hxm).nl h, Nat.le_trans (hx x hxm).dl h⟩
  have fc := fold_call 125 (· * ·) (fun p q hp hq => mulq_call p q hp hq) ((1 : Nat) : Int) xs hx' (by omega) hsz
  have e0 : foldQ (· * ·) ((1 : Nat) : Int) (xs.take xs.length) = prodF xs := by rw [List.take_length]; rfl
  have gv := give_call (prodF xs) (by rw [← e0]; exact (hsz _ (Nat.le_refl _)).mono (by omega))
  have wc := whole_call 1 (by omega)
  simp only [go_sem, h0, z32, ↓reduceIte, Nat.reduceEqDiff, Nat.reduceLT]
  refine ⟨_, wc, _, fc, _, gv, ?_⟩
  simp only [go_sem, h0, z32, ↓reduceIte, Nat.reduceEqDiff, Nat.reduceLT]
  exact ⟨.refl _, ((Sub.refl H).new hw _).g⟩
theorem addF_call (x y : Fr) (hx : x.OK 10000) (hy : y.OK 10000) : PCall Tryz.prog 21 [x.V, y.V] (fracV (x.q + y.q)) := by
  refine pcall mixed k21 (by simp) fun H s hw h => ?_
  have h0 : s 0 = .p x.V := h 0 _ rfl
  have h1 : s 1 = .p y.V := h 1 _ rfl
  unfold c21
  have sc := sum_call [x, y] 10000 (by omega) (fun z hz => by rcases List.mem_cons.1 hz with hz | hz; subst hz; exact hx; simp at hz; subst hz; exact hy) (by simp)
  have e : sumF [x, y] = x.q + y.q := by
    show (((0 : Nat) : Int) : Rat) + x.q + y.q = _
    rw [show (((0 : Nat) : Int) : Rat) = 0 from rfl, Rat.zero_add]
  rw [e] at sc
  simp only [go_sem, h0, h1, z32, ↓reduceIte, Nat.reduceEqDiff, Nat.reduceLT]
  refine ⟨rfl, by omega, _, sc, ?_⟩
  simp only [go_sem, h0, h1, z32, ↓reduceIte, Nat.reduceEqDiff, Nat.reduceLT]
  exact ⟨.refl _, ((Sub.refl H).new hw _).g⟩
theorem mulF_call (x y : Fr) (hx : x.OK 10000) (hy : y.OK 10000) : PCall Tryz.prog 22 [x.V, y.V] (fracV (x.q * y.q)) := by
  refine pcall mixed k22 (by simp) fun H s hw h => ?_
  have h0 : s 0 = .p x.V := h 0 _ rfl
  have h1 : s 1 = .p y.V := h 1 _ rfl
  unfold c22
  have sc := prod_call [x, y] 10000 (by omega) (fun z hz => by rcases List.mem_cons.1 hz with hz | hz; subst hz; exact hx; simp at hz; subst hz; exact hy) (by simp)
  have e : prodF [x, y] = x.q * y.q := by
    show (((1 : Nat) : Int) : Rat) * x.q * y.q = _
    rw [show (((1 : Nat) : Int) : Rat) = 1 from rfl, Rat.one_mul]
  rw [e] at sc
  simp only [go_sem, h0, h1, z32, ↓reduceIte, Nat.reduceEqDiff, Nat.reduceLT]
  refine ⟨rfl, by omega, _, sc, ?_⟩
  simp only [go_sem, h0, h1, z32, ↓reduceIte, Nat.reduceEqDiff, Nat.reduceLT]
  exact ⟨.refl _, ((Sub.refl H).new hw _).g⟩
end Bh
namespace Go.Proofs
open Go.Shelf Go.RowKit Go.Lib
def Tryz.l106_ren : Ren :=
  ⟨fun n => match n with | 106 => 143 | 213 => 187 | 265 => 209 | n => n,
   fun n => match n with | 9 => 9 | 3 => 3 | n => n,
   fun n => n⟩
theorem Tryz.l106 : Lays.n106 Tryz.prog Tryz.l106_ren := by constructor <;> first | kernel_rfl | (intro w; kernel_rfl) | (constructor <;> first | kernel_rfl | (intro w; kernel_rfl)) | decide
end Go.Proofs
namespace Bh
open Go Go.Proofs
theorem pcall_v {P : Program} {f : FuncId} {xs : List Value} {y : Value} (he : Enters P f) (h : ∀ w, Calls P f xs.toArray w fun e w' => e = .returned y ∧ w' = w) : PCall P f (xs.map .v) (.v y) := by
  intro H
  refine ⟨he, fun γ Per w vs hY hH ha => ?_⟩
  have e : vs = xs := by
    apply List.ext_getElem?
    intro i
    have hl := ha.1
    by_cases hi : i < xs.length
    · have := ha.2 i (.p (.v xs[i])) (by simp [hi])
      have hv := this.v
      simp only [List.length_map] at hl
      rw [List.getElem?_eq_getElem hi, List.getElem?_eq_getElem (by omega), ← hv]
      simp [List.getD, show i < vs.length by omega]
    · simp only [List.length_map] at hl
      rw [List.getElem?_eq_none (by omega), List.getElem?_eq_none (by omega)]
  subst e
  refine (h w).mono ?_
  rintro e w' ⟨rfl, rfl⟩
  exact ⟨y, _, H, γ, Per, rfl, ⟨rfl, rfl⟩, .p _ _ (.v y), hH, More.refl _ _ _⟩
def cmpB (a b : ByteArray) : Int := Lib.compareBytes a.data.toList b.data.toList
theorem scompare_call (a b : ByteArray) : PCall Tryz.prog 143 [.v (.string a), .v (.string b)] (.v (.int .i64 (cmpB a b))) :=
  pcall_v (xs := [.string a, .string b]) (enters_of Tryz.func143 (by kernel_rfl) rfl) fun w => Any.strings_Compare Tryz.l106 a b w
end Bh
namespace Bh
open Go Go.Proofs
def cIF0 (agg : Bool) (k : Nat) : AC := (.seq (.ops [(.op ⟨(some 9), none, (.bin .lss), [(.tmp 8), (.tmp 7)]⟩)]) (.seq (.cond (.tmp 9) .skip (.exit 0)) (.seq (.block 1 (.seq (.ops [(.op ⟨(some 10), none, .mv, [(.tmp 8)]⟩), (.op ⟨(some 5), none, .mv, [(.tmp 10)]⟩)]) (.seq (.ops [(.op ⟨(some 11), none, .mv, [(.tmp 1)]⟩), (.op ⟨(some 12), none, .mv, [(.tmp 0)]⟩), (.op ⟨(some 13), none, .mv, [(.tmp 5)]⟩), (.op ⟨(some 14), none, (.idx k), [(.tmp 12), (.tmp 13)]⟩), (.op ⟨(some 15), none, (.load agg k), [(.tmp 14)]⟩), (.op ⟨(some 16), none, (.call false), [(.tmp 11), (.tmp 15)]⟩)]) (.cond (.tmp 16) (.seq (.ops [(.op ⟨(some 17), none, .mv, [(.tmp 5)]⟩), (.op ⟨(some 4), none, .mv, [(.tmp 17)]⟩)]) .ret) .skip)))) (.ops [(.op ⟨(some 18), none, (.bin .add), [(.tmp 8), (.const (.int .i64 1))]⟩), (.op ⟨(some 8), none, .mv, [(.tmp 18)]⟩)]))))
def cIF (agg : Bool) (k : Nat) : AC := (.seq (.ops [(.op ⟨(some 4), none, .mv, [(.const (.int .i64 0))]⟩)]) (.seq (.seq (.ops [(.op ⟨(some 6), none, .mv, [(.tmp 0)]⟩), (.op ⟨(some 7), none, (.len false), [(.tmp 6)]⟩), (.op ⟨(some 8), none, .mv, [(.const (.int .i64 0))]⟩)]) (.block 0 (.loop (cIF0 agg k)))) (.seq (.ops [(.op ⟨(some 4), none, .mv, [(.const (.int .i64 (-1)))]⟩)]) .ret)))
def idxF {α : Type} (p : α → Bool) (es : List α) : Int := match es.findIdx? p with | some i => (i : Int) | none => -1
theorem idxF_here {α : Type} {p : α → Bool} {es : List α} {i : Nat} (hi : i < es.length) (h0 : ∀ j, j < i → (hj : j < es.length) → p es[j] = false) (h1 : p es[i] = true) : idxF p es = (i : Int) := by
  have : es.findIdx? p = some i := by
    rw [List.findIdx?_eq_some_iff_getElem]
    exact ⟨hi, h1, fun j hj => by simp [h0 j hj (by omega)]⟩
  unfold idxF; rw [this]
theorem idxF_none {α : Type} {p : α → Bool} {es : List α} (h0 : ∀ j, (hj : j < es.length) → p es[j] = false) : idxF p es = -1 := by
  have : es.findIdx? p = none := by
    rw [List.findIdx?_eq_none_iff]
    intro x hx
    obtain ⟨j, hj, rfl⟩ := List.getElem_of_mem hx
    exact h0 j hj
  unfold idxF; rw [this]
theorem indexFunc_call {f : FuncId} {h : Hint} {agg : Bool} {k : Nat} (hk : look1 Tryz.prog h f = some (cIF agg k, 19, [(4, none)])) {α : Type} (V : α → PV) (es : List α) (hb : es.length < 9223372036854775807) (hw : ∀ e ∈ es, (V e).wid = k ∧ (V e).isAgg = agg) (g : FuncId) (caps : List PV) (p : α → Bool)
    (hp : ∀ e ∈ es, PCall Tryz.prog g (V e :: caps) (.v (.bool (p e)))) : PCall Tryz.prog f [.sl (es.map V), .clo g caps] (.v (.int .i64 (idxF p es))) := by
  refine pcall mixed hk (by simp) fun H s hwf h => ?_
  have h0 : s 0 = .p (.sl (es.map V)) := h 0 _ rfl
  have h1 : s 1 = .p (.clo g caps) := h 1 _ rfl
  unfold cIF
  simp only [go_sem, h0, h1, ↓reduceIte, Nat.reduceEqDiff, Nat.reduceLT]
  refine awp_loop (fun k s H' => ∃ i, H' = H ∧ i + k = es.length ∧ (∀ j, j < i → (hj : j < es.length) → p es[j] = false) ∧ s 0 = .p (.sl (es.map V)) ∧ s 1 = .p (.clo g caps) ∧ s 7 = .p (.v (.int .i64 (es.length : Nat))) ∧ s 8 = .p (.v (.int .i64 (i : Nat)))) es.length ⟨0, rfl, by omega, fun j hj => absurd hj (by omega), ?_⟩ ?_
  · simp only [go_sem, h0, h1, ↓reduceIte, Nat.reduceEqDiff, Nat.reduceLT]
    rfl
  · rintro k' s' H' ⟨i, rfl, hik, hpr, h0, h1, h7, h8⟩
    unfold cIF0
    by_cases hi : i < es.length
    · have gx : es[i]? = some es[i] := List.getElem?_eq_getElem hi
      have hm := List.getElem_mem hi
      have ei1 : IntKind.wrap .i64 ((i : Int) + 1) = ((i + 1 : Nat) : Int) := addwi1 (by omega)
      have hw' := hw _ hm
      simp only [go_sem, h0, h1, h7, h8, lt_t hi, gx, hw'.1, hw'.2, ↓reduceIte, Nat.reduceEqDiff, Nat.reduceLT]
      refine ⟨_, hp _ hm, ?_⟩
      cases hpe : p es[i]
      · simp only [go_sem, h0, h1, h7, h8, ei1, ↓reduceIte, Nat.reduceEqDiff, Nat.reduceLT]
        refine ⟨k' - 1, by omega, i + 1, by omega, fun j hj hj' => ?_, rfl⟩
        by_cases e : j = i
        · subst e; exact hpe
        · exact hpr j (by omega) hj'
      · simp only [go_sem, h0, h1, h7, h8, ↓reduceIte, Nat.reduceEqDiff, Nat.reduceLT]
        rw [idxF_here hi hpr hpe]
        exact ⟨.refl _, subG_refl _⟩
    · simp only [go_sem, h0, h1, h7, h8, lt_f hi, ↓reduceIte, Nat.reduceEqDiff, Nat.reduceLT]
      rw [idxF_none fun j hj => hpr j (by omega) hj]
      exact ⟨.refl _, subG_refl _⟩
theorem idxF_any {α : Type} {p : α → Bool} {es : List α} : decide ((0 : Int) ≤ idxF p es) = es.any p := by
  unfold idxF
  cases h : es.findIdx? p with
  | none =>
    have : es.any p = false := by
      rw [List.any_eq_false]; intro x hx; simpa using (List.findIdx?_eq_none_iff.1 h) x hx
    rw [this]; rfl
  | some i =>
    have : es.any p = true := by
      obtain ⟨h1, h2, _⟩ := List.findIdx?_eq_some_iff_getElem.1 h
      exact List.any_eq_true.2 ⟨_, List.getElem_mem h1, h2⟩
    rw [this]; exact decide_eq_true (Int.natCast_nonneg i)
def cCF (f : FuncId) : AC := (.seq (.ops [(.op ⟨(some 4), none, .mv, [(.const (.bool false))]⟩)]) (.seq (.ops [(.op ⟨(some 5), none, .mv, [(.tmp 0)]⟩), (.op ⟨(some 6), none, .mv, [(.tmp 1)]⟩), (.op ⟨(some 7), none, (.call false), [(.func f), (.tmp 5), (.tmp 6)]⟩), (.op ⟨(some 8), none, (.bin .geq), [(.tmp 7), (.const (.int .i64 0))]⟩), (.op ⟨(some 4), none, .mv, [(.tmp 8)]⟩)]) .ret))
theorem containsFunc_call {f f' : FuncId} {h : Hint} (hk : look1 Tryz.prog h f = some (cCF f', 9, [(4, none)])) {α : Type} (V : α → PV) (es : List α) (g : FuncId) (caps : List PV) (p : α → Bool) (hc : PCall Tryz.prog f' [.sl (es.map V), .clo g caps] (.v (.int .i64 (idxF p es)))) : PCall Tryz.prog f [.sl (es.map V), .clo g caps] (.v (.bool (es.any p))) := by
  refine pcall mixed hk (by simp) fun H s hwf h => ?_
  have h0 : s 0 = .p (.sl (es.map V)) := h 0 _ rfl
  have h1 : s 1 = .p (.clo g caps) := h 1 _ rfl
  unfold cCF
  simp only [go_sem, h0, h1, ↓reduceIte, Nat.reduceEqDiff, Nat.reduceLT]
  refine ⟨_, hc, ?_⟩
  simp only [go_sem, idxF_any, ↓reduceIte, Nat.reduceEqDiff, Nat.reduceLT]
  exact ⟨.refl _, subG_refl _⟩
def intV (z : Int) : PV := .v (.int .i64 z)
def intsV (l : List Int) : PV := .sl (l.map intV)
def badP (z : Int) : Bool := decide (z < 1) || decide (200 < z)
theorem badP_call (z : Int) : PCall Tryz.prog 116 [intV z] (.v (.bool (badP z))) := by
  refine pcall mixed k116 (by simp) fun H s hwf h => ?_
  have h0 : s 0 = .p (.v (.int .i64 z)) := h 0 _ rfl
  unfold c116 badP
  by_cases h1 : z < 1
  · simp only [go_sem, h0, dec_t h1, ↓reduceIte, Nat.reduceEqDiff, Nat.reduceLT, Bool.true_or]
    exact ⟨.refl _, subG_refl _⟩
  · simp only [go_sem, h0, dec_f h1, ↓reduceIte, Nat.reduceEqDiff, Nat.reduceLT, Bool.false_or]
    exact ⟨.refl _, subG_refl _⟩
def phonedB (l : List Int) (n : Nat) : Bool := decide (l.length ≤ n) && !l.any badP
theorem phoned_call (l : List Int) (n : Nat) (hl : l.length < 9223372036854775807) : PCall Tryz.prog 55 [intsV l, .v (.int .i64 (n : Nat))] (.v (.bool (phonedB l n))) := by
  have hif := indexFunc_call (f := 166) (agg := false) (k := 1) k166 intV l hl (fun e he => ⟨rfl, rfl⟩) 116 [] badP (fun e he => badP_call e)
  have hcf := containsFunc_call (f := 115) (f' := 166) k115 intV l 116 [] badP hif
  refine pcall mixed k55 (by simp) fun H s hwf h => ?_
  have h0 : s 0 = .p (.sl (l.map intV)) := h 0 _ rfl
  have h1 : s 1 = .p (.v (.int .i64 (n : Nat))) := h 1 _ rfl
  unfold c55 phonedB
  by_cases hle : l.length ≤ n
  · simp only [go_sem, h0, h1, le_t hle, dec_t hle, ↓reduceIte, Nat.reduceEqDiff, Nat.reduceLT, Bool.true_and]
    refine ⟨_, hcf, ?_⟩
    simp only [go_sem, ↓reduceIte, Nat.reduceEqDiff, Nat.reduceLT]
    exact ⟨.refl _, subG_refl _⟩
  · simp only [go_sem, h0, h1, le_f hle, dec_f hle, ↓reduceIte, Nat.reduceEqDiff, Nat.reduceLT, Bool.false_and]
    exact ⟨.refl _, subG_refl _⟩
end Bh
namespace Bh
open Go Go.Proofs
def cmpZ (x y : Int) : Int := if x < y then -1 else if y < x then 1 else 0
theorem isNaN_call (z : Int) : PCall Tryz.prog 183 [intV z] (.v (.bool false)) := by
  refine pcall mixed k183 (by simp) fun H s hwf h => ?_
  have h0 : s 0 = .p (.v (.int .i64 z)) := h 0 _ rfl
  unfold c183
  have e : (z != z) = false := by simp
  simp only [go_sem, h0, e, ↓reduceIte, Nat.reduceEqDiff, Nat.reduceLT]
  exact ⟨.refl _, subG_refl _⟩
theorem cmpInt_call (x y : Int) : PCall Tryz.prog 137 [intV x, intV y] (intV (cmpZ x y)) := by
  refine pcall mixed k137 (by simp) fun H s hwf h => ?_
  have h0 : s 0 = .p (.v (.int .i64 x)) := h 0 _ rfl
  have h1 : s 1 = .p (.v (.int .i64 y)) := h 1 _ rfl
  have n1 := isNaN_call x
  have n2 := isNaN_call y
  unfold intV at n1 n2 ⊢
  unfold c137
  simp only [go_sem, h0, h1, ↓reduceIte, Nat.reduceEqDiff, Nat.reduceLT]
  refine ⟨_, n1, _, n2, ?_⟩
  by_cases hl : x < y
  · have e : cmpZ x y = -1 := by unfold cmpZ; rw [if_pos hl]
    simp only [go_sem, h0, h1, dec_t hl, ↓reduceIte, Nat.reduceEqDiff, Nat.reduceLT]
    rw [e]; exact ⟨.refl _, subG_refl _⟩
  · by_cases hg : y < x
    · have e : cmpZ x y = 1 := by unfold cmpZ; rw [if_neg hl, if_pos hg]
      simp only [go_sem, h0, h1, dec_f hl, dec_t hg, ↓reduceIte, Nat.reduceEqDiff, Nat.reduceLT]
      rw [e]; exact ⟨.refl _, subG_refl _⟩
    · have e : cmpZ x y = 0 := by unfold cmpZ; rw [if_neg hl, if_neg hg]
      simp only [go_sem, h0, h1, dec_f hl, dec_f hg, ↓reduceIte, Nat.reduceEqDiff, Nat.reduceLT]
      rw [e]; exact ⟨.refl _, subG_refl _⟩
def cmpL : List Int → List Int → Int
  | [], [] => 0
  | [], _ :: _ => -1
  | _ :: _, [] => 1
  | x :: a, y :: b => if x < y then -1 else if y < x then 1 else cmpL a b
theorem cmpZ_0 {x y : Int} : cmpZ x y = 0 ↔ x = y := by unfold cmpZ; split <;> (try split) <;> constructor <;> intro h <;> omega
theorem cmpL_ne {x y : Int} {a b : List Int} (h : cmpZ x y ≠ 0) : cmpL (x :: a) (y :: b) = cmpZ x y := by
  unfold cmpL cmpZ at *
  split
  · rfl
  · split
    · rfl
    · rename_i h1 h2; simp [h1, h2] at h
theorem cmpL_eq {x y : Int} {a b : List Int} (h : cmpZ x y = 0) : cmpL (x :: a) (y :: b) = cmpL a b := by
  have : x = y := cmpZ_0.1 h
  subst this; simp [cmpL]
theorem cmpL_end {a b : List Int} (h : a = [] ∨ b = []) : cmpL a b = cmpZ a.length b.length := by
  unfold cmpZ
  rcases h with h | h <;> subst h
  · cases b with
    | nil => rfl
    | cons y b => rw [if_pos (by simp only [List.length_nil, List.length_cons]; omega)]; rfl
  · cases a with
    | nil => rfl
    | cons y a => rw [if_neg (by simp only [List.length_nil, List.length_cons]; omega), if_pos (by simp only [List.length_nil, List.length_cons]; omega)]; rfl
theorem getI {l : List Int} {i : Nat} (h : i < l.length) : l[i]? = some l[i] := List.getElem?_eq_getElem h
theorem compared_call (a b : List Int) (ha : a.length < 9223372036854775807) (hb : b.length < 9223372036854775807) : PCall Tryz.prog 105 [intsV a, intsV b] (intV (cmpL a b)) := by
  refine pcall mixed k105 (by simp) fun H s hwf h => ?_
  have h0 : s 0 = .p (.sl (a.map intV)) := h 0 _ rfl
  have h1 : s 1 = .p (.sl (b.map intV)) := h 1 _ rfl
  unfold c105
  simp only [go_sem, h0, h1, min_nat, ↓reduceIte, Nat.reduceEqDiff, Nat.reduceLT]
  refine awp_loop (fun k s H' => ∃ i, H' = H ∧ i + k = min a.length b.length ∧ cmpL (a.drop i) (b.drop i) = cmpL a b ∧ s 0 = .p (.sl (a.map intV)) ∧ s 1 = .p (.sl (b.map intV)) ∧ s 11 = .p (.v (.int .i64 (min a.length b.length : Nat))) ∧ s 12 = .p (.v (.int .i64 (i : Nat)))) (min a.length b.length) ⟨0, rfl, by omega, by simp, ?_⟩ ?_
  · simp only [go_sem, h0, h1, ↓reduceIte, Nat.reduceEqDiff, Nat.reduceLT]
    rfl
  · rintro k s' H' ⟨i, rfl, hik, hd, h0, h1, h11, h12⟩
    unfold c105l0
    by_cases hi : i < min a.length b.length
    · have hia : i < a.length := by omega
      have hib : i < b.length := by omega
      have ei1 : IntKind.wrap .i64 ((i : Int) + 1) = ((i + 1 : Nat) : Int) := addwi1 (by omega)
      have cc := cmpInt_call a[i] b[i]
      rw [List.drop_eq_getElem_cons hia, List.drop_eq_getElem_cons hib] at hd
      simp only [intV] at cc
      simp only [go_sem, h0, h1, h11, h12, lt_t hi, getI hia, getI hib, intV, ↓reduceIte, Nat.reduceEqDiff, Nat.reduceLT]
      refine ⟨_, cc, ?_⟩
      by_cases hz : cmpZ a[i] b[i] = 0
      · have e1 : (cmpZ a[i] b[i] != 0) = false := by simp [hz]
        rw [cmpL_eq hz] at hd
        simp only [go_sem, h0, h1, h11, h12, e1, ei1, ↓reduceIte, Nat.reduceEqDiff, Nat.reduceLT]
        exact ⟨k - 1, by omega, i + 1, by omega, hd, rfl⟩
      · have e1 : (cmpZ a[i] b[i] != 0) = true := by simp [hz]
        rw [cmpL_ne hz] at hd
        simp only [go_sem, h0, h1, h11, h12, e1, ↓reduceIte, Nat.reduceEqDiff, Nat.reduceLT]
        rw [hd]; exact ⟨.refl _, subG_refl _⟩
    · have he : a.drop i = [] ∨ b.drop i = [] := by simp only [List.drop_eq_nil_iff]; omega
      have cc := cmpInt_call (a.length : Nat) (b.length : Nat)
      have e : cmpL a b = cmpZ (a.length : Nat) (b.length : Nat) := by
        rw [← hd, cmpL_end he]
        simp only [List.length_drop]
        have : i = a.length ∨ i = b.length := by omega
        unfold cmpZ
        rcases this with h | h
        · split <;> split <;> (try split) <;> (try split) <;> omega
        · split <;> split <;> (try split) <;> (try split) <;> omega
      rw [e]
      simp only [intV] at cc
      simp only [go_sem, h0, h1, h11, h12, lt_f hi, ↓reduceIte, Nat.reduceEqDiff, Nat.reduceLT]
      refine ⟨_, cc, ?_⟩
      exact ⟨.refl _, subG_refl _⟩
def badC (c : Nat) : Bool := decide (c < 33) || decide (126 < c)
def spelledB (b : ByteArray) : Bool := (List.range b.size).all (fun i => !badC (atN b i)) && decide (1 ≤ b.size) && decide (b.size ≤ 40)
theorem atN_lt {b : ByteArray} {i : Nat} : atN b i < 256 := by unfold atN; split; exact UInt8.toNat_lt _; omega
theorem spelled_call (b : ByteArray) (hb : b.size < 9223372036854775807) : PCall Tryz.prog 82 [.v (.string b)] (.v (.bool (spelledB b))) := by
  refine pcall mixed k82 (by simp) fun H s hwf h => ?_
  have h0 : s 0 = .p (.v (.string b)) := h 0 _ rfl
  unfold c82
  simp only [go_sem, h0, ↓reduceIte, Nat.reduceEqDiff, Nat.reduceLT]
  refine awp_loop (fun k s H' => ∃ i, H' = H ∧ i + k = b.size ∧ (∀ j, j < i → badC (atN b j) = false) ∧ s 0 = .p (.v (.string b)) ∧ s 5 = .p (.v (.int .i64 (b.size : Nat))) ∧ s 6 = .p (.v (.int .i64 (i : Nat)))) b.size ⟨0, rfl, by omega, fun j hj => absurd hj (by omega), ?_⟩ ?_
  · simp only [go_sem, h0, ↓reduceIte, Nat.reduceEqDiff, Nat.reduceLT]
    rfl
  · rintro k s' H' ⟨i, rfl, hik, hj, h0, h5, h6⟩
    unfold c82l0
    by_cases hi : i < b.size
    · have ei1 : IntKind.wrap .i64 ((i : Int) + 1) = ((i + 1 : Nat) : Int) := addwi1 (by omega)
      have ix := sidx_at (b := b) (k := .i64) hi
      by_cases h33 : atN b i < 33
      · have e1 : decide ((atN b i : Int) < 33) = true := decide_eq_true (by omega)
        have hf : spelledB b = false := by
          unfold spelledB
          have : (List.range b.size).all (fun i => !badC (atN b i)) = false := by
            rw [List.all_eq_false]
            exact ⟨i, by simpa using hi, by simp [badC, h33]⟩
          rw [this]; rfl
        simp only [go_sem, h0, h5, h6, lt_t hi, ix, e1, ↓reduceIte, Nat.reduceEqDiff, Nat.reduceLT]
        rw [hf]; exact ⟨.refl _, subG_refl _⟩
      · have e1 : decide ((atN b i : Int) < 33) = false := decide_eq_false (by omega)
        by_cases h126 : 126 < atN b i
        · have e2 : decide ((126 : Int) < (atN b i : Int)) = true := decide_eq_true (by omega)
          have hf : spelledB b = false := by
            unfold spelledB
            have : (List.range b.size).all (fun i => !badC (atN b i)) = false := by
              rw [List.all_eq_false]
              exact ⟨i, by simpa using hi, by simp [badC, h126]⟩
            rw [this]; rfl
          simp only [go_sem, h0, h5, h6, lt_t hi, ix, e1, e2, ↓reduceIte, Nat.reduceEqDiff, Nat.reduceLT]
          rw [hf]; exact ⟨.refl _, subG_refl _⟩
        · have e2 : decide ((126 : Int) < (atN b i : Int)) = false := decide_eq_false (by omega)
          simp only [go_sem, h0, h5, h6, lt_t hi, ix, e1, e2, ei1, ↓reduceIte, Nat.reduceEqDiff, Nat.reduceLT]
          refine ⟨k - 1, by omega, i + 1, by omega, fun j hjl => ?_, rfl⟩
          by_cases e : j = i
          · subst e; simp [badC]; omega
          · exact hj j (by omega)
    · have hall : (List.range b.size).all (fun i => !badC (atN b i)) = true := by
        rw [List.all_eq_true]; intro j hjm; simp at hjm; rw [hj j (by omega)]; rfl
      by_cases h1 : 1 ≤ b.size
      · have e1 : decide ((1 : Int) ≤ (b.size : Int)) = true := decide_eq_true (by omega)
        have e2 : decide ((b.size : Int) ≤ 40) = decide (b.size ≤ 40) := by rw [decide_eq_decide]; omega
        simp only [go_sem, h0, h5, h6, lt_f hi, e1, e2, ↓reduceIte, Nat.reduceEqDiff, Nat.reduceLT]
        unfold spelledB; rw [hall, decide_eq_true h1]
        exact ⟨.refl _, subG_refl _⟩
      · have e1 : decide ((1 : Int) ≤ (b.size : Int)) = false := decide_eq_false (by omega)
        simp only [go_sem, h0, h5, h6, lt_f hi, e1, ↓reduceIte, Nat.reduceEqDiff, Nat.reduceLT]
        unfold spelledB; rw [hall, decide_eq_false h1]
        exact ⟨.refl _, subG_refl _⟩
end Bh
namespace Bh
open Go Go.Proofs
structure Ent where
  w : ByteArray
  ph : List Int
  wt : Fr
def Ent.V (e : Ent) : PV := .agg [.v (.string e.w), intsV e.ph, .v (.bool e.wt.b), natV e.wt.n, natV e.wt.d]
structure Ent.OK (e : Ent) (k : Nat) : Prop where
  ws : e.w.size ≤ 60
  ps : e.ph.length ≤ 60
  wt : e.wt.OK k
theorem entW {e : Ent} : e.V.sub 0 false 1 = some (.v (.string e.w)) := by unfold Ent.V; rw [psub_f]; rfl
theorem entP {e : Ent} : e.V.sub 1 false 1 = some (intsV e.ph) := by unfold Ent.V; rw [psub_f]; rfl
theorem entF {e : Ent} : e.V.sub 2 true 3 = some e.wt.V := by unfold Ent.V; rw [psub_t (by simp)]; rfl
theorem entA {e : Ent} : e.V.sub 0 true 5 = some e.V := psub_0 rfl
theorem widE {e : Ent} : e.V.wid = 5 := rfl
theorem isAggE {e : Ent} : e.V.isAgg = true := rfl
theorem ok1E {e : Ent} : e.V.ok1 = true := rfl
theorem wrE {a b c d x : PV} {e : Ent} : (AV.p (.agg [a, b, c, d, x])).wr 0 (.p e.V) = some (.p e.V) := wr_0 rfl rfl
theorem widI {l : List Int} : (intsV l).wid = 1 := rfl
theorem isAggI {l : List Int} : (intsV l).isAgg = false := rfl
theorem ok1I {l : List Int} : (intsV l).ok1 = true := rfl
theorem subI {l : List Int} : (intsV l).sub 0 false 1 = some (intsV l) := rfl
theorem lenI {H : AHeap} {l : List Int} : semLen H (.p (intsV l)) = some l.length := by simp [intsV, semLen]
attribute [go_sem] entW entP entF entA widE isAggE ok1E wrE widI isAggI ok1I subI lenI
theorem oneF_ok {k : Nat} (hk : 1 ≤ k) : (canF 1).OK k := canF_ok (szQ_int (n := 1) (by decide) hk)
theorem oneF_q : (canF 1).q = 1 := canF_q 1
def weightyB (x : Fr) : Bool := decide (0 < sgnQ x.q) && decide (cmpQ x.q 1 ≤ 0)
theorem weighty_call (x : Fr) (hx : x.OK 40000) : PCall Tryz.prog 83 [x.V] (.v (.bool (weightyB x))) := by
  refine pcall mixed k83 (by simp) fun H s hwf h => ?_
  have h0 : s 0 = .p x.V := h 0 _ rfl
  have sc := sgn_call x hx
  have oc := of_call 1 (by omega)
  have cc := cmp_call x (canF 1) hx (oneF_ok (by omega))
  rw [canF_V, oneF_q] at cc
  unfold c83 weightyB
  have e1 : (((1 : Nat) : Int) : Rat) = 1 := rfl
  rw [e1] at oc
  simp only [go_sem, h0, ↓reduceIte, Nat.reduceEqDiff, Nat.reduceLT]
  refine ⟨_, sc, ?_⟩
  by_cases hs : 0 < sgnQ x.q
  · simp only [go_sem, h0, dec_t hs, ↓reduceIte, Nat.reduceEqDiff, Nat.reduceLT, Bool.true_and]
    refine ⟨_, oc, _, cc, ?_⟩
    simp only [go_sem, ↓reduceIte, Nat.reduceEqDiff, Nat.reduceLT]
    exact ⟨.refl _, subG_refl _⟩
  · simp only [go_sem, h0, dec_f hs, ↓reduceIte, Nat.reduceEqDiff, Nat.reduceLT, Bool.false_and]
    exact ⟨.refl _, subG_refl _⟩
def befZ (a b : Ent) : Int := if cmpB a.w b.w = 0 then cmpL a.ph b.ph else cmpB a.w b.w
theorem before_call (a b : Ent) (ha : a.ph.length < 9223372036854775807) (hb : b.ph.length < 9223372036854775807) : PCall Tryz.prog 84 [a.V, b.V] (intV (befZ a b)) := by
  refine pcall mixed k84 (by simp) fun H s hwf h => ?_
  have h0 : s 0 = .p a.V := h 0 _ rfl
  have h1 : s 1 = .p b.V := h 1 _ rfl
  have sc := scompare_call a.w b.w
  have cc := compared_call a.ph b.ph ha hb
  unfold c84
  simp only [go_sem, h0, h1, ↓reduceIte, Nat.reduceEqDiff, Nat.reduceLT]
  refine ⟨_, sc, ?_⟩
  by_cases hz : cmpB a.w b.w = 0
  · have e : (cmpB a.w b.w != 0) = false := by simp [hz]
    have e2 : befZ a b = cmpL a.ph b.ph := if_pos hz
    simp only [go_sem, h0, h1, e, ↓reduceIte, Nat.reduceEqDiff, Nat.reduceLT]
    refine ⟨_, cc, ?_⟩
    rw [e2]; exact ⟨.refl _, subG_refl _⟩
  · have e : (cmpB a.w b.w != 0) = true := by simp [hz]
    have e2 : befZ a b = cmpB a.w b.w := if_neg hz
    simp only [go_sem, h0, h1, e, ↓reduceIte, Nat.reduceEqDiff, Nat.reduceLT]
    rw [e2]; exact ⟨.refl _, subG_refl _⟩
def lexV (es : List Ent) : PV := .agg [.sl (es.map Ent.V)]
theorem lexF {es : List Ent} : (lexV es).sub 0 false 1 = some (.sl (es.map Ent.V)) := by unfold lexV; rw [psub_f]; rfl
theorem widL {es : List Ent} : (lexV es).wid = 1 := rfl
theorem isAggL {es : List Ent} : (lexV es).isAgg = true := rfl
theorem ok1L {es : List Ent} : (lexV es).ok1 = true := rfl
theorem subL {es : List Ent} : (lexV es).sub 0 true 1 = some (lexV es) := psub_0 rfl
attribute [go_sem] lexF widL isAggL ok1L subL
theorem lexLen {H : AHeap} {es : List Ent} : semLen H (.p (.sl (es.map Ent.V))) = some es.length := by simp [semLen]
def entB (e : Ent) : Bool := spelledB e.w && phonedB e.ph 40 && weightyB e.wt
def ordB : List Ent → Bool
  | [] => true
  | [e] => entB e
  | a :: b :: l => entB a && decide (befZ a b < 0) && ordB (b :: l)
def sameW (a b : Ent) : Bool := a.w.toList == b.w.toList
def sumE (es : List Ent) : Rat := es.foldl (fun a e => a + e.wt.q) 0
def sumsB : Nat → List Ent → Bool
  | _, [] => true
  | 0, _ :: _ => true
  | n + 1, e :: es => decide (cmpQ (sumE ((e :: es).takeWhile (sameW · e))) 1 = 0) && sumsB n ((e :: es).dropWhile (sameW · e))
def validB (es : List Ent) : Bool := decide (es.length ≤ 1000) && ordB es && sumsB es.length es
def ordTo (es : List Ent) (i : Nat) : Prop := ∀ j, j < i → ∀ e, es[j]? = some e → entB e = true ∧ (0 < j → ∀ a, es[j - 1]? = some a → befZ a e < 0)
theorem ordB_iff : ∀ {es : List Ent}, ordB es = true ↔ ordTo es es.length
  | [] => ⟨fun _ j hj => absurd hj (by simp), fun _ => rfl⟩
  | [e] => by
    constructor
    · intro h j hj x hx
      have : j = 0 := by simp at hj; omega
      subst this
      simp at hx; subst hx
      exact ⟨h, fun h0 => absurd h0 (by omega)⟩
    · intro h; exact (h 0 (by simp) e rfl).1
  | a :: b :: l => by
    have ih := ordB_iff (es := b :: l)
    simp only [ordB, Bool.and_eq_true, decide_eq_true_eq]
    rw [ih]
    constructor
    · rintro ⟨⟨h1, h2⟩, h3⟩ j hj x hx
      cases j with
      | zero => simp at hx; subst hx; exact ⟨h1, fun h0 => absurd h0 (by omega)⟩
      | succ j =>
        have hx' : (b :: l)[j]? = some x := by simpa using hx
        have := h3 j (by simpa using hj) x hx'
        refine ⟨this.1, fun _ y hy => ?_⟩
        cases j with
        | zero => simp at hy hx'; subst hy; subst hx'; exact h2
        | succ j => exact this.2 (by omega) y (by simpa using hy)
    · intro h
      refine ⟨⟨(h 0 (by simp) a rfl).1, (h 1 (by simp) b rfl).2 (by omega) a rfl⟩, fun j hj x hx => ?_⟩
      have := h (j + 1) (by simpa using hj) x (by simpa using hx)
      refine ⟨this.1, fun h0 y hy => this.2 (by omega) y ?_⟩
      obtain ⟨j', rfl⟩ : ∃ j', j = j' + 1 := ⟨j - 1, by omega⟩
      simpa using hy
end Bh
namespace Bh
open Go Go.Proofs
theorem z87 : zeroT Tryz.prog 87 = .agg [.v (.string ⟨#[]⟩), .v (.slice none 0 0), .v (.bool false), .v (.slice none 0 0), .v (.slice none 0 0)] := by kernel_rfl
theorem entGet {es : List Ent} {i : Nat} (h : i < es.length) : (es.map Ent.V)[i]? = some es[i].V := by simp [h]
theorem gt0_t {i : Nat} (h : 0 < i) : decide ((0 : Int) < (i : Int)) = true := decide_eq_true (by omega)
theorem gt0_f {i : Nat} (h : ¬ 0 < i) : decide ((0 : Int) < (i : Int)) = false := decide_eq_false (by omega)
theorem ordTo_step {es : List Ent} {i : Nat} (h : ordTo es i) (hi : i < es.length) (h1 : entB es[i] = true) (h2 : 0 < i → ∀ a, es[i - 1]? = some a → befZ a es[i] < 0) : ordTo es (i + 1) := by
  intro j hj e he
  by_cases e' : j = i
  · subst e'
    rw [List.getElem?_eq_getElem hi] at he; injection he with he; subst he
    exact ⟨h1, h2⟩
  · exact h j (by omega) e he
theorem valid_bad1 {es : List Ent} {i : Nat} (hi : i < es.length) (h : entB es[i] = false ∨ (0 < i ∧ ∃ a, es[i - 1]? = some a ∧ ¬ befZ a es[i] < 0)) : validB es = false := by
  have : ordB es = false := by
    cases ho : ordB es with
    | false => rfl
    | true =>
      have := (ordB_iff.1 ho) i hi es[i] (List.getElem?_eq_getElem hi)
      rcases h with h | ⟨h0, a, ha, h⟩
      · rw [h] at this; cases this.1
      · exact absurd (this.2 h0 a ha) h
  unfold validB; rw [this]; simp
theorem dropWhile_len {α : Type} (p : α → Bool) : ∀ l : List α, (l.dropWhile p).length ≤ l.length
  | [] => by simp
  | a :: l => by
    rw [List.dropWhile_cons]
    split
    · exact Nat.le_succ_of_le (dropWhile_len p l)
    · exact Nat.le_refl _
theorem sumsB_fuel : ∀ (m : Nat) (l : List Ent), l.length ≤ m → sumsB m l = sumsB l.length l
  | 0, l, h => by have : l = [] := List.eq_nil_of_length_eq_zero (by omega); subst this; rfl
  | m + 1, [], _ => rfl
  | m + 1, e :: l, h => by
    have hs : (sameW e e) = true := by simp [sameW]
    have h1 : ((e :: l).dropWhile (sameW · e)).length ≤ l.length := by rw [List.dropWhile_cons, if_pos hs]; exact dropWhile_len _ l
    simp only [List.length_cons, sumsB]
    rw [sumsB_fuel m _ (by simp at h; omega), sumsB_fuel l.length _ h1]
def sumsA (l : List Ent) : Bool := sumsB l.length l
theorem sumsA_cons (e : Ent) (l : List Ent) : sumsA (e :: l) = (decide (cmpQ (sumE ((e :: l).takeWhile (sameW · e))) 1 = 0) && sumsA ((e :: l).dropWhile (sameW · e))) := by
  have hs : (sameW e e) = true := by simp [sameW]
  have h1 : ((e :: l).dropWhile (sameW · e)).length ≤ l.length := by rw [List.dropWhile_cons, if_pos hs]; exact dropWhile_len _ l
  unfold sumsA
  simp only [List.length_cons, sumsB]
  rw [sumsB_fuel l.length _ h1]
def sumA (a : Rat) (l : List Ent) : Rat := l.foldl (fun a e => a + e.wt.q) a
theorem wk_zero : Wk (.agg [.v (.bool false), .v (.slice none 0 0), .v (.slice none 0 0)]) (fracV 0) := by
  have e : fracV 0 = .agg [.v (.bool false), .sl [], .sl []] := by
    unfold fracV frV canN canD
    have e1 : (0 : Rat).num = 0 := rfl
    have e2 : (0 : Rat).den = 1 := rfl
    rw [e1, e2, if_pos rfl]; simp [natV, natD_0]
  rw [e]
  refine .agg _ _ rfl ?_
  intro j c d hc hd
  match j, hc, hd with
  | 0, hc, hd => simp at hc hd; subst hc; subst hd; exact .refl _
  | 1, hc, hd => simp at hc hd; subst hc; subst hd; exact .nil
  | 2, hc, hd => simp at hc hd; subst hc; subst hd; exact .nil
theorem pcall_wk2 {f : FuncId} {a a' b r : PV} (h : PCall Tryz.prog f [a', b] r) (ha : Wk a a') : PCall Tryz.prog f [a, b] r := h.wk rfl (fun j x y hx hy => by
  match j, hx, hy with
  | 0, hx, hy => simp at hx hy; subst hx; subst hy; exact ha
  | 1, hx, hy => simp at hx hy; subst hx; subst hy; exact .refl _) (.refl _)
theorem fracV_agg (q : Rat) : fracV q = .agg [.v (.bool (decide (q.num < 0))), natV (canN q), natV (canD q)] := rfl
theorem valid_call (es : List Ent) (hl : es.length ≤ 100000) (hok : es.length ≤ 1000 → ∀ e ∈ es, e.OK 4) : PCall Tryz.prog 34 [lexV es] (.v (.bool (validB es))) := by
  refine pcall mixed k34 (by simp) fun H s hwf h => ?_
  have h0 : s 0 = .p (lexV es) := h 0 _ rfl
  unfold c34
  by_cases hlong : 1000 < es.length
  · have e1 : decide ((1000 : Int) < (es.length : Int)) = true := decide_eq_true (by omega)
    have hv : validB es = false := by unfold validB; rw [decide_eq_false (by omega)]; rfl
    simp only [go_sem, h0, e1, ↓reduceIte, Nat.reduceEqDiff, Nat.reduceLT]
    rw [hv]; exact ⟨.refl _, subG_refl _⟩
  · have e1 : decide ((1000 : Int) < (es.length : Int)) = false := decide_eq_false (by omega)
    have hok := hok (by omega)
    simp only [go_sem, h0, e1, ↓reduceIte, Nat.reduceEqDiff, Nat.reduceLT]
    refine awp_loop (fun k s H' => ∃ i, i + k = es.length ∧ SubG H H' ∧ H.nx ≤ H'.nx ∧ ordTo es i ∧ s 1 = .p (.ref (lexV es)) ∧ s 13 = .p (.sl (es.map Ent.V)) ∧ s 14 = .p (.v (.int .i64 (es.length : Nat))) ∧ s 15 = .p (.v (.int .i64 (i : Nat)))) es.length ⟨0, by omega, subG_refl _, Nat.le_refl _, fun j hj => absurd hj (by omega), ?_⟩ ?_
    · simp only [go_sem, h0, ↓reduceIte, Nat.reduceEqDiff, Nat.reduceLT]
      rfl
    · rintro k s' H' ⟨i, hik, hsub, hnx, hord, h1, h13, h14, h15⟩
      unfold c34l2
      by_cases hi : i < es.length
      · have gx := entGet hi
        have he := hok _ (List.getElem_mem hi)
        have ei1 : IntKind.wrap .i64 ((i : Int) + 1) = ((i + 1 : Nat) : Int) := addwi1 (by omega)
        have p1 := spelled_call es[i].w (by have := he.ws; omega)
        have p2 := phoned_call es[i].ph 40 (by have := he.ps; omega)
        have p3 := weighty_call es[i].wt ⟨he.wt.n1, he.wt.d1, by have := he.wt.nl; omega, by have := he.wt.dl; omega⟩
        have sub2 : ∀ o, SubG H (H'.new o) := fun o j x hx => by
          have hl := hwf j x hx
          simp (disch := omega) only [go_sem, ite_lt]
          exact hsub j x hx
        have fin : ∀ o, validB es = false → WkA (.p (.v (.bool false))) (.p (.v (.bool (validB es)))) ∧ SubG H (H'.new o) := fun o hv => ⟨by rw [hv]; exact .refl _, sub2 o⟩
        simp only [go_sem, h1, h13, h14, h15, lt_t hi, gx, z87, ↓reduceIte, Nat.reduceEqDiff, Nat.reduceLT]
        refine ⟨_, p1, ?_⟩
        cases b1 : spelledB es[i].w
        · simp only [go_sem, h1, h13, h14, h15, ↓reduceIte, Nat.reduceEqDiff, Nat.reduceLT, Bool.not_false]
          exact fin _ (valid_bad1 hi (.inl (by simp [entB, b1])))
        · simp only [go_sem, h1, h13, h14, h15, ↓reduceIte, Nat.reduceEqDiff, Nat.reduceLT, Bool.not_true]
          refine ⟨_, p2, ?_⟩
          cases b2 : phonedB es[i].ph 40
          · simp only [go_sem, h1, h13, h14, h15, ↓reduceIte, Nat.reduceEqDiff, Nat.reduceLT, Bool.not_false]
            exact fin _ (valid_bad1 hi (.inl (by simp [entB, b2])))
          · simp only [go_sem, h1, h13, h14, h15, ↓reduceIte, Nat.reduceEqDiff, Nat.reduceLT, Bool.not_true]
            refine ⟨_, p3, ?_⟩
            cases b3 : weightyB es[i].wt
            · simp only [go_sem, h1, h13, h14, h15, ↓reduceIte, Nat.reduceEqDiff, Nat.reduceLT, Bool.not_false]
              exact fin _ (valid_bad1 hi (.inl (by simp [entB, b3])))
            · have hent : entB es[i] = true := by simp [entB, b1, b2, b3]
              by_cases hi0 : 0 < i
              · have gp := entGet (es := es) (i := i - 1) (by omega)
                have em1 : IntKind.wrap .i64 ((i : Int) - 1) = ((i - 1 : Nat) : Int) := subwi1 (by omega) hi0
                have hp := hok _ (List.getElem_mem (show i - 1 < es.length by omega))
                have p4 := before_call es[i - 1] es[i] (by have := hp.ps; omega) (by have := he.ps; omega)
                simp only [intV] at p4
                simp only [go_sem, h1, h13, h14, h15, gt0_t hi0, em1, gp, ↓reduceIte, Nat.reduceEqDiff, Nat.reduceLT, Bool.not_true]
                refine ⟨_, p4, ?_⟩
                by_cases hbef : befZ es[i - 1] es[i] < 0
                · have e2 : decide ((0 : Int) ≤ befZ es[i - 1] es[i]) = false := decide_eq_false (by omega)
                  simp only [go_sem, h1, h13, h14, h15, e2, ei1, ↓reduceIte, Nat.reduceEqDiff, Nat.reduceLT]
                  refine ⟨k - 1, by omega, i + 1, by omega, ?_, by omega, ordTo_step hord hi hent (fun _ a ha => ?_), rfl⟩
                  · intro j x hx
                    have hl := hwf j x hx
                    simp (disch := omega) only [go_sem, ite_lt]
                    exact hsub j x hx
                  · rw [List.getElem?_eq_getElem (by omega)] at ha; injection ha with ha; subst ha; exact hbef
                · have e2 : decide ((0 : Int) ≤ befZ es[i - 1] es[i]) = true := decide_eq_true (by omega)
                  simp only [go_sem, h1, h13, h14, h15, e2, ↓reduceIte, Nat.reduceEqDiff, Nat.reduceLT]
                  exact fin _ (valid_bad1 hi (.inr ⟨hi0, _, List.getElem?_eq_getElem (by omega), hbef⟩))
              · simp only [go_sem, h1, h13, h14, h15, gt0_f hi0, ei1, ↓reduceIte, Nat.reduceEqDiff, Nat.reduceLT, Bool.not_true]
                refine ⟨k - 1, by omega, i + 1, by omega, ?_, by omega, ordTo_step hord hi hent (fun h => absurd h hi0), rfl⟩
                intro j x hx
                have hl := hwf j x hx
                simp (disch := omega) only [go_sem, ite_lt]
                exact hsub j x hx
      · simp only [go_sem, h1, h13, h14, h15, lt_f hi, ↓reduceIte, Nat.reduceEqDiff, Nat.reduceLT]
        have hin : i = es.length := by omega
        have hord' : ordB es = true := ordB_iff.2 (by rw [← hin]; exact hord)
        have hv : validB es = sumsA es := by unfold validB; rw [hord', decide_eq_true (by omega)]; simp [sumsA]
        rw [hv]
        refine awp_loop (fun k s H' => ∃ i, i + k = es.length ∧ SubG H H' ∧ H.nx ≤ H'.nx ∧ sumsA es = sumsA (es.drop i) ∧ s 1 = .p (.ref (lexV es)) ∧ s 5 = .p (.v (.int .i64 (i : Nat)))) es.length ⟨0, by omega, hsub, hnx, by simp, ?_⟩ ?_
        · simp only [go_sem, h1, ↓reduceIte, Nat.reduceEqDiff, Nat.reduceLT]
          rfl
        · rintro k s' H' ⟨i, hik, hsub, hnx, hS, h1, h5⟩
          unfold c34l1
          by_cases hi : i < es.length
          · have gx := entGet hi
            have hdrop : es.drop i = es[i] :: es.drop (i + 1) := List.drop_eq_getElem_cons hi
            simp only [go_sem, h1, h5, lt_t hi, gx, z32, ↓reduceIte, Nat.reduceEqDiff, Nat.reduceLT]
            generalize hP : (fun x => sameW x es[i]) = P
            refine awp_loop (fun k2 s H2 => ∃ t acc a b c, i ≤ t ∧ t + k2 = es.length ∧ SubG H H2 ∧ H'.nx < H2.nx ∧ H2.get H'.nx = some (.box 32 (.p (.agg [a, b, c]))) ∧ Wk (.agg [a, b, c]) (fracV acc) ∧ SzQ acc (1 + 5 * (t - i)) ∧
              sumA acc ((es.drop t).takeWhile P) = sumE ((es.drop i).takeWhile P) ∧ (es.drop t).dropWhile P = (es.drop i).dropWhile P ∧
              s 1 = .p (.ref (lexV es)) ∧ s 5 = .p (.v (.int .i64 (t : Nat))) ∧ s 6 = .pb H'.nx 0 ∧ s 7 = .p (.v (.string es[i].w))) (es.length - i) ⟨i, 0, _, _, _, Nat.le_refl _, by omega, ?_, ?_, ?_, wk_zero, szQ_int (n := 0) (by decide) (by omega), rfl, rfl, ?_⟩ ?_
            · intro j x hx
              have hl := hwf j x hx
              simp (disch := omega) only [go_sem, ite_lt]
              exact hsub j x hx
            · simp only [go_sem]; omega
            · simp only [go_sem, ↓reduceIte]
            · simp only [go_sem, h1, h5, ↓reduceIte, Nat.reduceEqDiff, Nat.reduceLT]
            · rintro k2 s2 H2 ⟨t, acc, a, b, c, hit, htk, hsub2, hnx2, hg, hwk, hsz, hsum, hdw, h1, h5, h6, h7⟩
              unfold c34l0
              have hszb : SzQ acc 10000 := hsz.mono (by omega)
              by_cases ht : t < es.length
              · have gt := entGet ht
                have hdt : es.drop t = es[t] :: es.drop (t + 1) := List.drop_eq_getElem_cons ht
                cases hw : es[t].w.toList == es[i].w.toList
                · have hPt : P es[t] = false := by rw [← hP]; exact hw
                  rw [hdt, List.takeWhile_cons, hPt, if_neg (by simp)] at hsum
                  rw [hdt, List.dropWhile_cons, hPt, if_neg (by simp), ← hdt] at hdw
                  have hacc : acc = sumE ((es.drop i).takeWhile P) := hsum
                  have hnext : sumsA es = (decide (cmpQ acc 1 = 0) && sumsA (es.drop t)) := by
                    rw [hS, hdrop, sumsA_cons, ← hdrop, hP, hdw, hacc]
                  have hit' : i < t := by
                    have h1 : ((es.drop i).dropWhile P).length ≤ (es.drop (i + 1)).length := by
                      rw [hdrop, List.dropWhile_cons, if_pos (by rw [← hP]; simp [sameW])]; exact dropWhile_len _ _
                    rw [← hdw] at h1
                    simp only [List.length_drop] at h1
                    omega
                  have oc := of_call 1 (by omega)
                  have e1 : (((1 : Nat) : Int) : Rat) = 1 := rfl
                  rw [e1] at oc
                  have cc := cmp_call (canF acc) (canF 1) (canF_ok (hszb.mono (by omega))) (oneF_ok (by omega))
                  rw [canF_V, canF_V, canF_q, oneF_q] at cc
                  have cc := pcall_wk2 cc hwk
                  simp only [go_sem, h1, h5, h6, h7, lt_t ht, gt, hw, hg, ↓reduceIte, Nat.reduceEqDiff, Nat.reduceLT]
                  refine ⟨_, oc, _, cc, ?_⟩
                  by_cases hz : cmpQ acc 1 = 0
                  · have e2 : (cmpQ acc 1 != 0) = false := by simp [hz]
                    simp only [go_sem, h1, h5, h6, h7, e2, ↓reduceIte, Nat.reduceEqDiff, Nat.reduceLT]
                    refine ⟨k - (t - i), by omega, t, by omega, hsub2, by omega, ?_, rfl⟩
                    rw [hnext, decide_eq_true hz]; rfl
                  · have e2 : (cmpQ acc 1 != 0) = true := by simp [hz]
                    simp only [go_sem, h1, h5, h6, h7, e2, ↓reduceIte, Nat.reduceEqDiff, Nat.reduceLT]
                    have : sumsA es = false := by rw [hnext, decide_eq_false hz]; rfl
                    rw [this]; exact ⟨.refl _, hsub2⟩
                · have hPt : P es[t] = true := by rw [← hP]; exact hw
                  rw [hdt, List.takeWhile_cons, hPt, if_pos rfl] at hsum
                  rw [hdt, List.dropWhile_cons, hPt, if_pos rfl] at hdw
                  have he := hok _ (List.getElem_mem ht)
                  have he' : es[t].wt.OK 10000 := ⟨he.wt.n1, he.wt.d1, by have := he.wt.nl; omega, by have := he.wt.dl; omega⟩
                  have ac := addF_call (canF acc) es[t].wt (canF_ok hszb) he'
                  rw [canF_V, canF_q] at ac
                  have ac := pcall_wk2 ac hwk
                  have et1 : IntKind.wrap .i64 ((t : Int) + 1) = ((t + 1 : Nat) : Int) := addwi1 (by omega)
                  simp only [go_sem, h1, h5, h6, h7, lt_t ht, gt, hg, hw, ↓reduceIte, Nat.reduceEqDiff, Nat.reduceLT]
                  refine ⟨_, ac, ?_⟩
                  simp only [go_sem, h1, h5, h6, h7, hg, et1, ↓reduceIte, Nat.reduceEqDiff, Nat.reduceLT]
                  refine ⟨k2 - 1, by omega, t + 1, acc + es[t].wt.q, .v (.bool (decide ((acc + es[t].wt.q).num < 0))), natV (canN (acc + es[t].wt.q)), natV (canD (acc + es[t].wt.q)), by omega, by omega, ?_, by omega, rfl, ?_, ?_, hsum, hdw, rfl⟩
                  · intro j x hx
                    have hl := hwf j x hx
                    simp (disch := omega) only [go_sem, ite_lt]
                    exact hsub2 j x hx
                  · rw [← fracV_agg]; exact .refl _
                  · have := hsz.add (Fr.sz he.wt (by omega))
                    exact this.mono (by omega)
              · have hd0 : es.drop t = [] := List.drop_eq_nil_of_le (by omega)
                rw [hd0, List.takeWhile_nil] at hsum
                rw [hd0, List.dropWhile_nil, ← hd0] at hdw
                have hacc : acc = sumE ((es.drop i).takeWhile P) := hsum
                have hnext : sumsA es = (decide (cmpQ acc 1 = 0) && sumsA (es.drop t)) := by
                  rw [hS, hdrop, sumsA_cons, ← hdrop, hP, hdw, hacc]
                have hit' : i < t := by
                  have h1 : ((es.drop i).dropWhile P).length ≤ (es.drop (i + 1)).length := by
                    rw [hdrop, List.dropWhile_cons, if_pos (by rw [← hP]; simp [sameW])]; exact dropWhile_len _ _
                  rw [← hdw] at h1
                  simp only [List.length_drop] at h1
                  omega
                have oc := of_call 1 (by omega)
                have e1 : (((1 : Nat) : Int) : Rat) = 1 := rfl
                rw [e1] at oc
                have cc := cmp_call (canF acc) (canF 1) (canF_ok (hszb.mono (by omega))) (oneF_ok (by omega))
                rw [canF_V, canF_V, canF_q, oneF_q] at cc
                have cc := pcall_wk2 cc hwk
                simp only [go_sem, h1, h5, h6, h7, lt_f ht, hg, ↓reduceIte, Nat.reduceEqDiff, Nat.reduceLT]
                refine ⟨_, oc, _, cc, ?_⟩
                by_cases hz : cmpQ acc 1 = 0
                · have e2 : (cmpQ acc 1 != 0) = false := by simp [hz]
                  simp only [go_sem, h1, h5, h6, h7, e2, ↓reduceIte, Nat.reduceEqDiff, Nat.reduceLT]
                  refine ⟨k - (t - i), by omega, t, by omega, hsub2, by omega, ?_, rfl⟩
                  rw [hnext, decide_eq_true hz]; rfl
                · have e2 : (cmpQ acc 1 != 0) = true := by simp [hz]
                  simp only [go_sem, h1, h5, h6, h7, e2, ↓reduceIte, Nat.reduceEqDiff, Nat.reduceLT]
                  have : sumsA es = false := by rw [hnext, decide_eq_false hz]; rfl
                  rw [this]; exact ⟨.refl _, hsub2⟩
          · have hi' : i = es.length := by omega
            have : sumsA es = true := by rw [hS, hi', List.drop_length]; rfl
            simp only [go_sem, h1, h5, lt_f hi, ↓reduceIte, Nat.reduceEqDiff, Nat.reduceLT]
            rw [this]; exact ⟨.refl _, hsub⟩
end Bh
namespace Bh
open Go Go.Proofs
structure Rul where
  fr : List Int
  to : List Int
  l : List Int
  r : List Int
  wt : Fr
def Rul.V (x : Rul) : PV := .agg [intsV x.fr, intsV x.to, intsV x.l, intsV x.r, .v (.bool x.wt.b), natV x.wt.n, natV x.wt.d]
structure Rul.OK (x : Rul) (k : Nat) : Prop where
  fs : x.fr.length ≤ 1000
  ts : x.to.length ≤ 1000
  ls : x.l.length ≤ 1000
  rs : x.r.length ≤ 1000
  wt : x.wt.OK k
theorem rulF {x : Rul} : x.V.sub 0 false 1 = some (intsV x.fr) := by unfold Rul.V; rw [psub_f]; rfl
theorem rulT {x : Rul} : x.V.sub 1 false 1 = some (intsV x.to) := by unfold Rul.V; rw [psub_f]; rfl
theorem rulL {x : Rul} : x.V.sub 2 false 1 = some (intsV x.l) := by unfold Rul.V; rw [psub_f]; rfl
theorem rulR {x : Rul} : x.V.sub 3 false 1 = some (intsV x.r) := by unfold Rul.V; rw [psub_f]; rfl
theorem rulW {x : Rul} : x.V.sub 4 true 3 = some x.wt.V := by unfold Rul.V; rw [psub_t (by simp)]; rfl
theorem rulA {x : Rul} : x.V.sub 0 true 7 = some x.V := psub_0 rfl
theorem widR {x : Rul} : x.V.wid = 7 := rfl
theorem isAggR {x : Rul} : x.V.isAgg = true := rfl
theorem ok1R {x : Rul} : x.V.ok1 = true := rfl
attribute [go_sem] rulF rulT rulL rulR rulW rulA widR isAggR ok1R
def badX (l : List Int) (i : Nat) (p : Int) : Bool := decide (p < 0) || decide (200 < p) || (decide (0 < i) && decide (p ≤ l.getD (i - 1) 0))
def contextB (l : List Int) : Bool := (List.range l.length).all (fun i => !badX l i (l.getD i 0)) && decide (l.length ≤ 200)
theorem context_call (l : List Int) (hl : l.length < 9223372036854775807) : PCall Tryz.prog 113 [intsV l] (.v (.bool (contextB l))) := by
  refine pcall mixed k113 (by simp) fun H s hwf h => ?_
  have h0 : s 0 = .p (.sl (l.map intV)) := h 0 _ rfl
  unfold c113
  simp only [go_sem, h0, ↓reduceIte, Nat.reduceEqDiff, Nat.reduceLT]
  refine awp_loop (fun k s H' => ∃ i, H' = H ∧ i + k = l.length ∧ (∀ j, j < i → badX l j (l.getD j 0) = false) ∧ s 0 = .p (.sl (l.map intV)) ∧ s 5 = .p (.sl (l.map intV)) ∧ s 6 = .p (.v (.int .i64 (l.length : Nat))) ∧ s 7 = .p (.v (.int .i64 (i : Nat)))) l.length ⟨0, rfl, by omega, fun j hj => absurd hj (by omega), ?_⟩ ?_
  · simp only [go_sem, h0, ↓reduceIte, Nat.reduceEqDiff, Nat.reduceLT]
    rfl
  · rintro k s' H' ⟨i, rfl, hik, hj, h0, h5, h6, h7⟩
    unfold c113l0
    by_cases hi : i < l.length
    · have ei1 : IntKind.wrap .i64 ((i : Int) + 1) = ((i + 1 : Nat) : Int) := addwi1 (by omega)
      have gd : l.getD i 0 = l[i] := by simp [hi]
      have hbad : badX l i l[i] = true → contextB l = false := fun hb => by
        unfold contextB
        have : (List.range l.length).all (fun i => !badX l i (l.getD i 0)) = false := by
          rw [List.all_eq_false]
          exact ⟨i, by simpa using hi, by rw [gd, hb]; simp⟩
        rw [this]; rfl
      have hgood : badX l i l[i] = false → ∀ j, j < i + 1 → badX l j (l.getD j 0) = false := fun hb j hjl => by
        by_cases e : j = i
        · subst e; rw [gd]; exact hb
        · exact hj j (by omega)
      by_cases p0 : l[i] < 0
      · simp only [go_sem, h0, h5, h6, h7, lt_t hi, getI hi, intV, dec_t p0, ↓reduceIte, Nat.reduceEqDiff, Nat.reduceLT]
        rw [hbad (by simp [badX, p0])]; exact ⟨.refl _, subG_refl _⟩
      · by_cases p1 : 200 < l[i]
        · simp only [go_sem, h0, h5, h6, h7, lt_t hi, getI hi, intV, dec_f p0, dec_t p1, ↓reduceIte, Nat.reduceEqDiff, Nat.reduceLT]
          rw [hbad (by simp [badX, p1])]; exact ⟨.refl _, subG_refl _⟩
        · by_cases i0 : 0 < i
          · have em1 : IntKind.wrap .i64 ((i : Int) - 1) = ((i - 1 : Nat) : Int) := subwi1 (by omega) i0
            have hm : i - 1 < l.length := by omega
            have gd1 : l.getD (i - 1) 0 = l[i - 1] := by simp [hm]
            by_cases p2 : l[i] ≤ l[i - 1]
            · simp only [go_sem, h0, h5, h6, h7, lt_t hi, getI hi, getI hm, intV, dec_f p0, dec_f p1, gt0_t i0, em1, dec_t p2, ↓reduceIte, Nat.reduceEqDiff, Nat.reduceLT]
              rw [hbad (by unfold badX; rw [gd1, decide_eq_true p2, decide_eq_true i0]; simp)]; exact ⟨.refl _, subG_refl _⟩
            · simp only [go_sem, h0, h5, h6, h7, lt_t hi, getI hi, getI hm, intV, dec_f p0, dec_f p1, gt0_t i0, em1, dec_f p2, ei1, ↓reduceIte, Nat.reduceEqDiff, Nat.reduceLT]
              exact ⟨k - 1, by omega, i + 1, by omega, hgood (by unfold badX; rw [gd1, decide_eq_false p2, decide_eq_false p0, decide_eq_false p1]; simp), rfl⟩
          · simp only [go_sem, h0, h5, h6, h7, lt_t hi, getI hi, intV, dec_f p0, dec_f p1, gt0_f i0, ei1, ↓reduceIte, Nat.reduceEqDiff, Nat.reduceLT]
            exact ⟨k - 1, by omega, i + 1, by omega, hgood (by unfold badX; rw [decide_eq_false i0, decide_eq_false p0, decide_eq_false p1]; rfl), rfl⟩
    · have hall : (List.range l.length).all (fun i => !badX l i (l.getD i 0)) = true := by
        rw [List.all_eq_true]; intro j hjm; simp at hjm; rw [hj j (by omega)]; rfl
      have e2 : decide ((l.length : Int) ≤ 200) = decide (l.length ≤ 200) := by rw [decide_eq_decide]; omega
      simp only [go_sem, h0, h5, h6, h7, lt_f hi, e2, ↓reduceIte, Nat.reduceEqDiff, Nat.reduceLT]
      unfold contextB; rw [hall]
      exact ⟨.refl _, subG_refl _⟩
def badR (x : Rul) : Bool := decide (x.fr.length < 1) || !phonedB x.fr 4 || !phonedB x.to 4 || !contextB x.l || !contextB x.r || !weightyB x.wt
theorem badR_call (x : Rul) (hx : x.OK 4) : PCall Tryz.prog 112 [x.V] (.v (.bool (badR x))) := by
  refine pcall mixed k112 (by simp) fun H s hwf h => ?_
  have h0 : s 0 = .p x.V := h 0 _ rfl
  have p1 := phoned_call x.fr 4 (by have := hx.fs; omega)
  have p2 := phoned_call x.to 4 (by have := hx.ts; omega)
  have p3 := context_call x.l (by have := hx.ls; omega)
  have p4 := context_call x.r (by have := hx.rs; omega)
  have p5 := weighty_call x.wt ⟨hx.wt.n1, hx.wt.d1, by have := hx.wt.nl; omega, by have := hx.wt.dl; omega⟩
  unfold c112 badR
  by_cases b0 : x.fr.length < 1
  · have e0 : decide ((x.fr.length : Int) < 1) = true := decide_eq_true (by omega)
    simp only [go_sem, h0, e0, dec_t b0, ↓reduceIte, Nat.reduceEqDiff, Nat.reduceLT, Bool.true_or]
    exact ⟨.refl _, subG_refl _⟩
  · have e0 : decide ((x.fr.length : Int) < 1) = false := decide_eq_false (by omega)
    simp only [go_sem, h0, e0, dec_f b0, ↓reduceIte, Nat.reduceEqDiff, Nat.reduceLT, Bool.false_or]
    refine ⟨_, p1, ?_⟩
    cases b1 : phonedB x.fr 4
    · simp only [go_sem, h0, ↓reduceIte, Nat.reduceEqDiff, Nat.reduceLT, Bool.true_or, Bool.not_false]
      exact ⟨.refl _, subG_refl _⟩
    · simp only [go_sem, h0, ↓reduceIte, Nat.reduceEqDiff, Nat.reduceLT, Bool.false_or, Bool.not_true]
      refine ⟨_, p2, ?_⟩
      cases b2 : phonedB x.to 4
      · simp only [go_sem, h0, ↓reduceIte, Nat.reduceEqDiff, Nat.reduceLT, Bool.true_or, Bool.not_false]
        exact ⟨.refl _, subG_refl _⟩
      · simp only [go_sem, h0, ↓reduceIte, Nat.reduceEqDiff, Nat.reduceLT, Bool.false_or, Bool.not_true]
        refine ⟨_, p3, ?_⟩
        cases b3 : contextB x.l
        · simp only [go_sem, h0, ↓reduceIte, Nat.reduceEqDiff, Nat.reduceLT, Bool.true_or, Bool.not_false]
          exact ⟨.refl _, subG_refl _⟩
        · simp only [go_sem, h0, ↓reduceIte, Nat.reduceEqDiff, Nat.reduceLT, Bool.false_or, Bool.not_true]
          refine ⟨_, p4, ?_⟩
          cases b4 : contextB x.r
          · simp only [go_sem, h0, ↓reduceIte, Nat.reduceEqDiff, Nat.reduceLT, Bool.true_or, Bool.not_false]
            exact ⟨.refl _, subG_refl _⟩
          · simp only [go_sem, h0, ↓reduceIte, Nat.reduceEqDiff, Nat.reduceLT, Bool.false_or, Bool.not_true]
            refine ⟨_, p5, ?_⟩
            simp only [go_sem, h0, ↓reduceIte, Nat.reduceEqDiff, Nat.reduceLT, Bool.false_or, Bool.not_true]
            exact ⟨.refl _, subG_refl _⟩
def rulesB (r : List Rul) : Bool := decide (r.length ≤ 50) && !r.any badR
theorem rules_call (r : List Rul) (hl : r.length ≤ 1000) (hr : ∀ x ∈ r, x.OK 4) : PCall Tryz.prog 53 [.sl (r.map Rul.V)] (.v (.bool (rulesB r))) := by
  have hif := indexFunc_call (f := 165) (agg := true) (k := 7) k165 Rul.V r (by omega) (fun e he => ⟨rfl, rfl⟩) 112 [] badR (fun e he => badR_call e (hr e he))
  have hcf := containsFunc_call (f := 111) (f' := 165) k111 Rul.V r 112 [] badR hif
  refine pcall mixed k53 (by simp) fun H s hwf h => ?_
  have h0 : s 0 = .p (.sl (r.map Rul.V)) := h 0 _ rfl
  unfold c53 rulesB
  by_cases hle : r.length ≤ 50
  · have e1 : decide ((r.length : Int) ≤ 50) = true := decide_eq_true (by omega)
    simp only [go_sem, h0, e1, dec_t hle, ↓reduceIte, Nat.reduceEqDiff, Nat.reduceLT, Bool.true_and]
    refine ⟨_, hcf, ?_⟩
    simp only [go_sem, ↓reduceIte, Nat.reduceEqDiff, Nat.reduceLT]
    exact ⟨.refl _, subG_refl _⟩
  · have e1 : decide ((r.length : Int) ≤ 50) = false := decide_eq_false (by omega)
    simp only [go_sem, h0, e1, dec_f hle, ↓reduceIte, Nat.reduceEqDiff, Nat.reduceLT, Bool.false_and]
    exact ⟨.refl _, subG_refl _⟩
end Bh
namespace Bh
open Go Go.Proofs
def isW (w : ByteArray) (e : Ent) : Bool := e.w.toList == w.toList
theorem isW_call (w : ByteArray) (e : Ent) : PCall Tryz.prog 147 [e.V, .ref (.v (.string w))] (.v (.bool (isW w e))) := by
  refine pcall mixed k147 (by simp) fun H s hwf h => ?_
  have h0 : s 0 = .p e.V := h 0 _ rfl
  have h1 : s 1 = .p (.ref (.v (.string w))) := h 1 _ rfl
  unfold c147
  simp only [go_sem, h0, h1, ↓reduceIte, Nat.reduceEqDiff, Nat.reduceLT]
  exact ⟨.refl _, subG_refl _⟩
def entL (es : List Ent) (w : ByteArray) : List Ent := (es.dropWhile fun e => !isW w e).takeWhile (isW w)
theorem dropWhile_idx {α : Type} {p : α → Bool} : ∀ {l : List α} {i : Nat}, l.findIdx? p = some i → l.dropWhile (fun a => !p a) = l.drop i
  | [], i, h => by simp at h
  | a :: l, i, h => by
    rw [List.findIdx?_cons] at h
    rw [List.dropWhile_cons]
    cases hp : p a
    · rw [hp] at h
      simp only [Bool.false_eq_true, if_false, Option.map_eq_some_iff] at h
      obtain ⟨j, hj, rfl⟩ := h
      simp only [Bool.not_false, if_true, List.drop_succ_cons]
      exact dropWhile_idx hj
    · rw [hp] at h
      simp at h; subst h; simp
theorem dropWhile_none {α : Type} {p : α → Bool} {l : List α} (h0 : l.findIdx? p = none) : l.dropWhile (fun a => !p a) = [] := by
  have h := List.findIdx?_eq_none_iff.1 h0
  clear h0
  induction l with
  | nil => rfl
  | cons a l ih => rw [List.dropWhile_cons, if_pos (by simp [h a (by simp)])]; exact ih fun x hx => h x (by simp [hx])
theorem entries_call (es : List Ent) (w : ByteArray) (hl : es.length ≤ 100000) : PCall Tryz.prog 89 [lexV es, .v (.string w)] (.sl ((entL es w).map Ent.V)) := by
  have hif := indexFunc_call (f := 146) (agg := true) (k := 5) k146 Ent.V es (by omega) (fun e he => ⟨rfl, rfl⟩) 147 [.ref (.v (.string w))] (isW w) (fun e he => isW_call w e)
  refine pcall mixed k89 (by simp) fun H s hwf h => ?_
  have h0 : s 0 = .p (lexV es) := h 0 _ rfl
  have h1 : s 1 = .p (.v (.string w)) := h 1 _ rfl
  unfold c89
  simp only [go_sem, h0, h1, mkClo, ↓reduceIte, Nat.reduceEqDiff, Nat.reduceLT]
  refine ⟨_, hif, ?_⟩
  unfold idxF
  cases hf : es.findIdx? (isW w) with
  | none =>
    have e1 : decide ((-1 : Int) < 0) = true := rfl
    have e2 : entL es w = [] := by unfold entL; rw [dropWhile_none hf]; rfl
    simp only [go_sem, h0, h1, e1, ↓reduceIte, Nat.reduceEqDiff, Nat.reduceLT]
    rw [e2]
    exact ⟨.p _ _ .nil, subG_refl _⟩
  | some i =>
    have hi : i < es.length := (List.findIdx?_eq_some_iff_getElem.1 hf).1
    have e1 : decide ((i : Int) < 0) = false := i0_f i
    have e2 : entL es w = (es.drop i).takeWhile (isW w) := by unfold entL; rw [dropWhile_idx hf]
    simp only [go_sem, h0, h1, e1, ↓reduceIte, Nat.reduceEqDiff, Nat.reduceLT]
    refine awp_loop (fun k s H' => ∃ t, H' = H ∧ i ≤ t ∧ t + k = es.length ∧ (es.drop i).takeWhile (isW w) = (es.take t).drop i ++ (es.drop t).takeWhile (isW w) ∧ s 2 = .p (.ref (lexV es)) ∧ s 3 = .p (.ref (.v (.string w))) ∧ s 5 = .p (.v (.int .i64 (i : Nat))) ∧ s 6 = .p (.v (.int .i64 (t : Nat)))) (es.length - i) ⟨i, rfl, Nat.le_refl _, by omega, ?_, ?_⟩ ?_
    · have e : (es.take i).drop i = [] := List.drop_eq_nil_of_le (by simp; omega)
      rw [e]; rfl
    · simp only [go_sem, h0, h1, ↓reduceIte, Nat.reduceEqDiff, Nat.reduceLT]
    · rintro k s' H' ⟨t, rfl, hit, htk, htw, h2, h3, h5, h6⟩
      unfold c89l0
      have done : t ≤ es.length → (es.drop t).takeWhile (isW w) = [] → slC 5 (es.map Ent.V) i t = some (.p (.sl ((entL es w).map Ent.V))) := fun htl he => by
        rw [slC_s hit (by simpa using htl) (List.all_eq_true.2 fun x hx => by obtain ⟨e, _, rfl⟩ := List.mem_map.1 hx; rfl)]
        rw [e2, htw, he, List.append_nil, ← List.map_take, ← List.map_drop]
      by_cases ht : t < es.length
      · have gt := entGet ht
        have hdt : es.drop t = es[t] :: es.drop (t + 1) := List.drop_eq_getElem_cons ht
        have et1 : IntKind.wrap .i64 ((t : Int) + 1) = ((t + 1 : Nat) : Int) := addwi1 (by omega)
        cases hw : es[t].w.toList == w.toList
        · have hd := done (by omega) (by rw [hdt, List.takeWhile_cons, show isW w es[t] = false from hw, if_neg (by simp)])
          simp only [go_sem, h2, h3, h5, h6, lt_t ht, gt, hw, hd, ↓reduceIte, Nat.reduceEqDiff, Nat.reduceLT]
          exact ⟨.refl _, subG_refl _⟩
        · simp only [go_sem, h2, h3, h5, h6, lt_t ht, gt, hw, et1, ↓reduceIte, Nat.reduceEqDiff, Nat.reduceLT]
          refine ⟨k - 1, by omega, t + 1, by omega, by omega, ?_, rfl⟩
          rw [htw, hdt, List.takeWhile_cons, show isW w es[t] = true from hw, if_pos rfl]
          rw [List.take_succ_eq_append_getElem ht, List.drop_append_of_le_length (by simp; omega)]
          simp
      · have hd := done (by omega) (by rw [List.drop_eq_nil_of_le (by omega)]; rfl)
        simp only [go_sem, h2, h3, h5, h6, lt_f ht, hd, ↓reduceIte, Nat.reduceEqDiff, Nat.reduceLT]
        exact ⟨.refl _, subG_refl _⟩
end Bh
namespace Bh
open Go Go.Proofs
def entsV (l : List Ent) : PV := .sl (l.map Ent.V)
def strV (w : ByteArray) : PV := .v (.string w)
theorem isAggES {l : List Ent} : (entsV l).isAgg = false := rfl
theorem widES {l : List Ent} : (entsV l).wid = 1 := rfl
theorem ok1ES {l : List Ent} : (entsV l).ok1 = true := rfl
theorem subES {l : List Ent} : (entsV l).sub 0 false 1 = some (entsV l) := rfl
theorem lenES {H : AHeap} {l : List Ent} : semLen H (.p (entsV l)) = some l.length := by simp [entsV, semLen]
attribute [go_sem] Nat.zero_add isAggES widES ok1ES subES lenES
def maxPh (l : List Ent) : Nat := l.foldl (fun m e => max m e.ph.length) 0
def cntO (os : List (List Ent)) : Nat := os.foldl (fun n o => min (n * o.length) 5001) 1
def phO (os : List (List Ent)) : Nat := os.foldl (fun n o => n + maxPh o) 0
def chosenS (es : List Ent) (ws : List ByteArray) : List (List Ent) × Nat :=
  if ws.any (fun w => (entL es w).isEmpty) then ([], 7) else
  if 5000 < cntO (ws.map (entL es)) ∨ 400 < phO (ws.map (entL es)) then ([], 5) else (ws.map (entL es), 0)
def chosenV (x : List (List Ent) × Nat) : PV := .tup [.sl (x.1.map entsV), .v (.int .i64 (x.2 : Nat))]
theorem entL_len {es : List Ent} {w : ByteArray} : (entL es w).length ≤ es.length := by
  unfold entL
  exact Nat.le_trans ((List.takeWhile_sublist _).length_le) (dropWhile_len _ _)
theorem entL_mem {es : List Ent} {w : ByteArray} {e : Ent} (h : e ∈ entL es w) : e ∈ es :=
  (List.dropWhile_sublist _).mem ((List.takeWhile_sublist _).mem h)
theorem cntO_le {os : List (List Ent)} : ∀ {n : Nat}, n ≤ 5001 → os.foldl (fun n o => min (n * o.length) 5001) n ≤ 5001 := by
  induction os with
  | nil => intro n h; exact h
  | cons o os ih => intro n h; exact ih (Nat.min_le_right _ _)
theorem maxPh_le {l : List Ent} {k : Nat} (h : ∀ e ∈ l, e.ph.length ≤ k) : ∀ {m : Nat}, m ≤ k → l.foldl (fun m e => max m e.ph.length) m ≤ k := by
  induction l with
  | nil => intro m h; exact h
  | cons e l ih => intro m hm; exact ih (fun x hx => h x (by simp [hx])) (Nat.max_le.2 ⟨hm, h e (by simp)⟩)
theorem phO_le {os : List (List Ent)} {k : Nat} (h : ∀ o ∈ os, ∀ e ∈ o, e.ph.length ≤ k) : ∀ {m : Nat}, os.foldl (fun n o => n + maxPh o) m ≤ m + os.length * k := by
  induction os with
  | nil => intro m; simp
  | cons o os ih =>
    intro m
    have := ih (fun x hx => h x (by simp [hx])) (m := m + maxPh o)
    have h2 : maxPh o ≤ k := maxPh_le (h o (by simp)) (Nat.zero_le _)
    simp only [List.foldl_cons, List.length_cons, Nat.succ_mul]
    omega
theorem foldl_take {α β : Type} {f : β → α → β} {b : β} {l : List α} {i : Nat} (h : i < l.length) : (l.take (i + 1)).foldl f b = f ((l.take i).foldl f b) l[i] := by
  rw [List.take_succ_eq_append_getElem h, List.foldl_append]; rfl
theorem allP_mapf {α : Type} {f : α → PV} {l : List α} : allP (l.map fun x => AV.p (f x)) = some (l.map f) := by
  have := allP_map (l := l.map f)
  rwa [List.map_map] at this
theorem SubG.del' {H H' : AHeap} (hw : WF H) (h : SubG H H') {j : Nat} (hj : H.nx ≤ j) : SubG H (H'.del j) := fun i o hi => by
  have := hw i o hi
  simp only [AHeap.del]; rw [if_neg (by omega)]; exact h i o hi
theorem SubG.new' {H H' : AHeap} (hw : WF H) (h : SubG H H') (hn : H.nx ≤ H'.nx) (o : AObj) : SubG H (H'.new o) := fun i x hi => by
  have := hw i x hi
  simp only [AHeap.new]; rw [if_neg (by omega)]; exact h i x hi
theorem SubG.set' {H H' : AHeap} (hw : WF H) (h : SubG H H') {j : Nat} (hj : H.nx ≤ j) (o : AObj) : SubG H (H'.set j o) := fun i x hi => by
  have := hw i x hi
  simp only [AHeap.set]; rw [if_neg (by omega)]; exact h i x hi
theorem chosen_call (es : List Ent) (r : PV) (ws : List ByteArray) (hl : es.length ≤ 1000) (hps : ∀ e ∈ es, e.ph.length ≤ 60) (hw : ws.length ≤ 1000) : PCall Tryz.prog 56 [lexV es, r, .sl (ws.map strV)] (chosenV (chosenS es ws)) := by
  refine pcall mixed k56 (by simp) fun H s hwf h => ?_
  have h0 : s 0 = .p (lexV es) := h 0 _ rfl
  have h2 : s 2 = .p (.sl (ws.map strV)) := h 2 _ rfl
  unfold c56
  simp only [go_sem, h0, h2, ↓reduceIte, Nat.reduceEqDiff, Nat.reduceLT]
  refine awp_loop (fun k s H' => ∃ i j, i + k = ws.length ∧ SubG H H' ∧ H.nx ≤ j ∧ j < H'.nx ∧ H'.get j = some (.row 22 1 ((ws.take i).map fun w => .p (entsV (entL es w)))) ∧ (∀ w ∈ ws.take i, (entL es w).isEmpty = false) ∧ s 3 = .p (.ref (lexV es)) ∧ s 8 = .hd j ∧ s 19 = .p (.sl (ws.map strV)) ∧ s 20 = .p (.v (.int .i64 (ws.length : Nat))) ∧ s 21 = .p (.v (.int .i64 (i : Nat)))) ws.length ⟨0, H.nx, by omega, ?_, Nat.le_refl _, ?_, ?_, fun w hw => by simp at hw, ?_⟩ ?_
  · exact ((Sub.refl H).new hwf _).g
  · simp only [go_sem]; omega
  · simp only [go_sem, ↓reduceIte, List.take_zero, List.map_nil]
  · simp only [go_sem, h0, h2, ↓reduceIte, Nat.reduceEqDiff, Nat.reduceLT]
    rfl
  · rintro k s' H' ⟨i, j, hik, hsub, hj, hjn, hg, hne, h3, h8, h19, h20, h21⟩
    unfold c56l2
    by_cases hi : i < ws.length
    · have gw : (ws.map strV)[i]? = some (strV ws[i]) := by simp [hi]
      have ei1 : IntKind.wrap .i64 ((i : Int) + 1) = ((i + 1 : Nat) : Int) := addwi1 (by omega)
      have ec := entries_call es ws[i] (by omega)
      have en : PCall Tryz.prog 89 [lexV es, .v (.string ws[i])] (entsV (entL es ws[i])) := ec
      simp only [go_sem, h3, h8, h19, h20, h21, lt_t hi, gw, strV, ↓reduceIte, Nat.reduceEqDiff, Nat.reduceLT]
      refine ⟨_, en, ?_⟩
      cases he : (entL es ws[i]).isEmpty
      · have e0 : (((entL es ws[i]).length : Int) == 0) = false := by
          have : entL es ws[i] ≠ [] := by simpa using he
          have := List.length_pos_iff.2 this
          simp only [beq_eq_false_iff_ne, ne_eq]; omega
        simp only [go_sem, h3, h8, h19, h20, h21, e0, hg, ei1, List.all_cons, List.all_nil, beq_self_eq_true, Bool.and_true, ↓reduceIte, Nat.reduceEqDiff, Nat.reduceLT]
        have htk : (ws.take i).length = i := by simp; omega
        rw [htk]
        refine ⟨by omega, by omega, k - 1, by omega, i + 1, H'.nx, by omega, (hsub.del' hwf hj).new' hwf (by simp only [go_sem]; omega) _, by omega, by omega, ?_, fun w hwm => ?_, rfl, rfl⟩
        · rw [if_pos rfl, List.take_succ_eq_append_getElem hi, List.map_append]; rfl
        · rw [List.take_succ_eq_append_getElem hi] at hwm
          rcases List.mem_append.1 hwm with hwm | hwm
          · exact hne w hwm
          · simp at hwm; subst hwm; exact he
      · have e0 : (((entL es ws[i]).length : Int) == 0) = true := by
          have : entL es ws[i] = [] := by simpa using he
          rw [this]; rfl
        have hS : chosenS es ws = ([], 7) := by
          unfold chosenS; rw [if_pos (List.any_eq_true.2 ⟨ws[i], List.getElem_mem hi, he⟩)]
        simp only [go_sem, h3, h8, h19, h20, h21, e0, ↓reduceIte, Nat.reduceEqDiff, Nat.reduceLT]
        rw [hS]
        exact ⟨wk_tup2 .nil (.refl _), hsub⟩
    · have hi' : i = ws.length := by omega
      rw [hi', List.take_length] at hg hne
      have hnone : ws.any (fun w => (entL es w).isEmpty) = false := by
        rw [List.any_eq_false]; intro w hwm; rw [hne w hwm]; simp
      have hsub' := hsub.del' hwf hj
      simp (disch := omega) only [go_sem, h3, h8, h19, h20, h21, lt_f hi, hg, allP_mapf, ite_lt, ite_gt, ↓reduceIte, Nat.reduceEqDiff, Nat.reduceLT]
      have eos : List.map (fun w => entsV (entL es w)) ws = (ws.map (entL es)).map entsV := by rw [List.map_map]; rfl
      have hS : chosenS es ws = if 5000 < cntO (ws.map (entL es)) ∨ 400 < phO (ws.map (entL es)) then ([], 5) else (ws.map (entL es), 0) := by unfold chosenS; rw [hnone]; rfl
      have hol : ∀ o ∈ ws.map (entL es), o.length ≤ 1000 := fun o ho => by
        obtain ⟨w, _, rfl⟩ := List.mem_map.1 ho; exact Nat.le_trans entL_len hl
      have hph : ∀ o ∈ ws.map (entL es), ∀ e ∈ o, e.ph.length ≤ 60 := fun o ho e he => by
        obtain ⟨w, _, rfl⟩ := List.mem_map.1 ho; exact hps e (entL_mem he)
      have hlen : (ws.map (entL es)).length = ws.length := by simp
      rw [eos]
      rw [hS]
      generalize ws.map (entL es) = os at *
      refine awp_loop (fun k s H2 => ∃ t, t + k = os.length ∧ SubG H H2 ∧ H.nx ≤ H2.nx ∧ s 8 = .p (.sl (os.map entsV)) ∧ s 12 = .p (.v (.int .i64 ((os.take t).foldl (fun n o => min (n * o.length) 5001) 1 : Nat))) ∧ s 13 = .p (.v (.int .i64 ((os.take t).foldl (fun n o => n + maxPh o) 0 : Nat))) ∧ s 36 = .p (.sl (os.map entsV)) ∧ s 37 = .p (.v (.int .i64 (os.length : Nat))) ∧ s 38 = .p (.v (.int .i64 (t : Nat)))) os.length ⟨0, by omega, hsub', by simp only [go_sem]; omega, ?_⟩ ?_
      · simp only [go_sem, ↓reduceIte, Nat.reduceEqDiff, Nat.reduceLT]
        exact ⟨rfl, rfl, by rw [hlen], rfl⟩
      · rintro k s' H2 ⟨t, htk, hsub, hnx, h8, h12, h13, h36, h37, h38⟩
        unfold c56l1
        have hn := cntO_le (os := os.take t) (n := 1) (by omega)
        have hp := phO_le (os := os.take t) (k := 60) (fun o ho => hph o (List.mem_of_mem_take ho)) (m := 0)
        have htl : (os.take t).length ≤ os.length := by simp; omega
        have hp2 := Nat.mul_le_mul_right 60 htl
        by_cases ht : t < os.length
        · have gt : (os.map entsV)[t]? = some (entsV os[t]) := by simp [ht]
          have et1 : IntKind.wrap .i64 ((t : Int) + 1) = ((t + 1 : Nat) : Int) := addwi1 (by omega)
          have hlt := hol os[t] (List.getElem_mem ht)
          have hmul := Nat.mul_le_mul hn hlt
          have em : IntKind.wrap .i64 ((((os.take t).foldl (fun n o => min (n * o.length) 5001) 1 : Nat) : Int) * (os[t].length : Int)) = (((os.take t).foldl (fun n o => min (n * o.length) 5001) 1 * os[t].length : Nat) : Int) := by
            rw [← Int.natCast_mul]; exact i64_nat (by omega)
          have emin : ∀ x : Nat, min (x : Int) 5001 = ((min x 5001 : Nat) : Int) := fun x => by omega
          have hos : entsV os[t] = .sl (os[t].map Ent.V) := rfl
          simp only [go_sem, h8, h12, h13, h36, h37, h38, lt_t ht, gt, em, emin, ↓reduceIte, Nat.reduceEqDiff, Nat.reduceLT]
          refine awp_loop (fun k3 s H3 => ∃ u, u + k3 = os[t].length ∧ SubG H H3 ∧ H.nx ≤ H3.nx ∧ s 8 = .p (.sl (os.map entsV)) ∧ s 12 = .p (.v (.int .i64 (min ((os.take t).foldl (fun n o => min (n * o.length) 5001) 1 * os[t].length) 5001 : Nat))) ∧ s 13 = .p (.v (.int .i64 ((os.take t).foldl (fun n o => n + maxPh o) 0 : Nat))) ∧ s 36 = .p (.sl (os.map entsV)) ∧ s 37 = .p (.v (.int .i64 (os.length : Nat))) ∧ s 38 = .p (.v (.int .i64 (t : Nat))) ∧
            s 16 = .p (.v (.int .i64 ((os[t].take u).foldl (fun m e => max m e.ph.length) 0 : Nat))) ∧ s 47 = .p (entsV os[t]) ∧ s 48 = .p (.v (.int .i64 (os[t].length : Nat))) ∧ s 49 = .p (.v (.int .i64 (u : Nat)))) os[t].length ⟨0, by omega, hsub, hnx, ?_⟩ ?_
          · simp only [go_sem, h8, h12, h13, h36, h37, h38, ↓reduceIte, Nat.reduceEqDiff, Nat.reduceLT]
            exact ⟨rfl, rfl⟩
          · rintro k3 s3 H3 ⟨u, huk, hsub3, hnx3, h8, h12, h13, h36, h37, h38, h16, h47, h48, h49⟩
            unfold c56l0
            have hmx : (os[t].take u).foldl (fun m e => max m e.ph.length) 0 ≤ 60 := maxPh_le (fun e he => hph os[t] (List.getElem_mem ht) e (List.mem_of_mem_take he)) (Nat.zero_le _)
            rw [hos] at h47
            by_cases hu : u < os[t].length
            · have gu := entGet hu
              have eu1 : IntKind.wrap .i64 ((u : Int) + 1) = ((u + 1 : Nat) : Int) := addwi1 (by omega)
              simp only [go_sem, h8, h12, h13, h36, h37, h38, h16, h47, h48, h49, lt_t hu, gu, z87, max_nat, eu1, ↓reduceIte, Nat.reduceEqDiff, Nat.reduceLT]
              refine ⟨k3 - 1, by omega, u + 1, by omega, hsub3.new' hwf hnx3 _, by omega, ?_, rfl, rfl⟩
              rw [foldl_take hu]
            · have hu' : u = os[t].length := by omega
              rw [hu', List.take_length] at h16
              have h16' : s3 16 = .p (.v (.int .i64 (maxPh os[t] : Nat))) := h16
              rw [hu', List.take_length] at hmx
              have hmx' : maxPh os[t] ≤ 60 := hmx
              have ea := addwi (a := (os.take t).foldl (fun n o => n + maxPh o) 0) (b := maxPh os[t]) (by omega)
              simp only [go_sem, h8, h12, h13, h36, h37, h38, h16', h47, h48, h49, lt_f hu, ea, et1, ↓reduceIte, Nat.reduceEqDiff, Nat.reduceLT]
              refine ⟨k - 1, by omega, t + 1, by omega, hsub3, hnx3, ?_, ?_, rfl⟩
              · rw [foldl_take ht]
              · rw [foldl_take ht]
        · have ht' : t = os.length := by omega
          rw [ht', List.take_length] at h12 h13
          have h12' : s' 12 = .p (.v (.int .i64 (cntO os : Nat))) := h12
          have h13' : s' 13 = .p (.v (.int .i64 (phO os : Nat))) := h13
          by_cases c1 : 5000 < cntO os
          · have e1 : decide ((5000 : Int) < (cntO os : Int)) = true := decide_eq_true (by omega)
            rw [if_pos (.inl c1)]
            simp only [go_sem, h8, h12', h13', h36, h37, h38, lt_f ht, e1, ↓reduceIte, Nat.reduceEqDiff, Nat.reduceLT]
            exact ⟨wk_tup2 .nil (.refl _), hsub⟩
          · have e1 : decide ((5000 : Int) < (cntO os : Int)) = false := decide_eq_false (by omega)
            by_cases c2 : 400 < phO os
            · have e2 : decide ((400 : Int) < (phO os : Int)) = true := decide_eq_true (by omega)
              rw [if_pos (.inr c2)]
              simp only [go_sem, h8, h12', h13', h36, h37, h38, lt_f ht, e1, e2, ↓reduceIte, Nat.reduceEqDiff, Nat.reduceLT]
              exact ⟨wk_tup2 .nil (.refl _), hsub⟩
            · have e2 : decide ((400 : Int) < (phO os : Int)) = false := decide_eq_false (by omega)
              rw [if_neg (by omega)]
              simp only [go_sem, h8, h12', h13', h36, h37, h38, lt_f ht, e1, e2, ↓reduceIte, Nat.reduceEqDiff, Nat.reduceLT]
              exact ⟨.refl _, hsub⟩
end Bh
namespace Bh
open Go Go.Proofs
def phJ (l : List Ent) : List Int := l.flatMap (·.ph)
def wtJ (l : List Ent) : Rat := l.foldl (fun a e => a * e.wt.q) 1
theorem all_ints (l : List Int) : (l.map intV).all (fun e => e.wid == 1) = true := List.all_eq_true.2 fun x hx => by obtain ⟨z, _, rfl⟩ := List.mem_map.1 hx; rfl
theorem phJ_take {l : List Ent} {i : Nat} (h : i < l.length) : phJ (l.take (i + 1)) = phJ (l.take i) ++ l[i].ph := by
  unfold phJ; rw [List.take_succ_eq_append_getElem h, List.flatMap_append]; simp
theorem wtJ_sz {l : List Ent} : ∀ {a : Rat} {j : Nat}, SzQ a j → (∀ e ∈ l, e.wt.OK 4) → SzQ (l.foldl (fun a e => a * e.wt.q) a) (j + l.length * 4) := by
  induction l with
  | nil => intro a j h _; simpa using h
  | cons e l ih =>
    intro a j h ho
    have h1 := h.mul (Fr.sz (ho e (by simp)) (by omega))
    exact (ih h1 (fun x hx => ho x (by simp [hx]))).mono (by simp only [List.length_cons, Nat.succ_mul]; omega)
theorem phJ_len {l : List Ent} (h : ∀ e ∈ l, e.ph.length ≤ 60) : (phJ l).length ≤ l.length * 60 := by
  induction l with
  | nil => simp [phJ]
  | cons e l ih =>
    have := ih fun x hx => h x (by simp [hx])
    have h1 := h e (by simp)
    simp only [phJ, List.flatMap_cons, List.length_append, List.length_cons, Nat.succ_mul] at this ⊢
    omega
theorem subFz {q : Rat} : (AV.p (fracV q)).wid = 3 := rfl
theorem wrFF {p q : Rat} : (AV.p (fracV p)).wr 0 (.p (fracV q)) = some (.p (fracV q)) := wr_0 rfl rfl
attribute [go_sem] wrFF
theorem joined_call (l : List Ent) (hl : l.length ≤ 1000) (hok : ∀ e ∈ l, e.OK 4) : PCall Tryz.prog 58 [entsV l] (.tup [intsV (phJ l), fracV (wtJ l)]) := by
  refine pcall mixed k58 (by simp) fun H s hwf h => ?_
  have h0 : s 0 = .p (.sl (l.map Ent.V)) := h 0 _ rfl
  have oc := of_call 1 (by omega)
  have e1 : (((1 : Nat) : Int) : Rat) = 1 := rfl
  rw [e1] at oc
  unfold c58
  simp only [go_sem, h0, z32, ↓reduceIte, Nat.reduceEqDiff, Nat.reduceLT]
  refine ⟨_, oc, ?_⟩
  simp (disch := omega) only [go_sem, h0, z32, ite_lt, ite_gt, ↓reduceIte, Nat.reduceEqDiff, Nat.reduceLT]
  refine awp_loop (fun k s H' => ∃ i j, i + k = l.length ∧ SubG H H' ∧ H.nx < j ∧ j ≠ H.nx + 2 ∧ j < H'.nx ∧ H.nx + 2 < H'.nx ∧ (∃ a b c, H'.get H.nx = some (.box 32 (.p (.agg [a, b, c])))) ∧ H'.get (H.nx + 2) = some (.box 32 (.p (fracV (wtJ (l.take i))))) ∧ H'.get j = some (.row 3 1 ((phJ (l.take i)).map fun z => .p (intV z))) ∧
    s 3 = .pb H.nx 0 ∧ s 4 = .hd j ∧ s 5 = .pb (H.nx + 2) 0 ∧ s 9 = .p (.sl (l.map Ent.V)) ∧ s 10 = .p (.v (.int .i64 (l.length : Nat))) ∧ s 11 = .p (.v (.int .i64 (i : Nat)))) l.length ⟨0, H.nx + 1, by omega, ?_, by omega, by omega, ?_, ?_, ⟨.v (.bool false), .v (.slice none 0 0), .v (.slice none 0 0), ?_⟩, ?_, ?_, ?_⟩ ?_
  · intro i o hi
    have := hwf i o hi
    simp (disch := omega) only [go_sem, ite_lt, hi]
  · simp only [go_sem]; omega
  · simp only [go_sem]; omega
  · simp (disch := omega) only [go_sem, ite_lt, ite_gt, ↓reduceIte]
  · simp (disch := omega) only [go_sem, ite_lt, ite_gt, ↓reduceIte]; rfl
  · simp (disch := omega) only [go_sem, ite_lt, ite_gt, ↓reduceIte]; rfl
  · simp only [go_sem, h0, ↓reduceIte, Nat.reduceEqDiff, Nat.reduceLT]
    rfl
  · rintro k s' H' ⟨i, j, hik, hsub, hj0, hj2, hjn, hnx, ⟨a, b, c, hg0⟩, hg2, hgj, h3, h4, h5, h9, h10, h11⟩
    unfold c58l0
    by_cases hi : i < l.length
    · have gx := entGet hi
      have he := hok _ (List.getElem_mem hi)
      have ei1 : IntKind.wrap .i64 ((i : Int) + 1) = ((i + 1 : Nat) : Int) := addwi1 (by omega)
      have hsz : SzQ (wtJ (l.take i)) 10000 := by
        have := wtJ_sz (l := l.take i) (a := 1) (j := 1) (szQ_int (n := 1) (by decide) (Nat.le_refl _)) (fun e h => (hok e (List.mem_of_mem_take h)).wt)
        refine this.mono ?_
        have : (l.take i).length ≤ 1000 := by simp; omega
        omega
      have mc := mulF_call (canF (wtJ (l.take i))) l[i].wt (canF_ok hsz) ⟨he.wt.n1, he.wt.d1, by have := he.wt.nl; omega, by have := he.wt.dl; omega⟩
      rw [canF_V, canF_q] at mc
      have hpl : (phJ (l.take i)).length ≤ 60000 := by
        have := phJ_len (l := l.take i) (fun e h => (hok e (List.mem_of_mem_take h)).ps)
        have h2 : (l.take i).length ≤ 1000 := by simp; omega
        omega
      have hps := he.ps
      have hiv : intsV l[i].ph = .sl (l[i].ph.map intV) := rfl
      have n2 : ∀ a b : Option AObj, (if H.nx + 2 = j then a else b) = b := fun a b => if_neg (by omega)
      simp (disch := omega) only [go_sem, h3, h4, h5, h9, h10, h11, lt_t hi, gx, z87, hgj, hiv, all_ints, ite_lt, ite_gt, ↓reduceIte, Nat.reduceEqDiff, Nat.reduceLT]
      refine ⟨by omega, ?_⟩
      simp (disch := omega) only [go_sem, h3, h4, h5, h9, h10, h11, hg2, n2, ite_lt, ite_gt, ↓reduceIte, Nat.reduceEqDiff, Nat.reduceLT]
      refine ⟨_, mc, ?_⟩
      simp (disch := omega) only [go_sem, h3, h4, h5, h9, h10, h11, hg0, n2, ei1, ite_lt, ite_gt, ↓reduceIte, Nat.reduceEqDiff, Nat.reduceLT]
      have n0 : ∀ a b : Option AObj, (if H.nx = j then a else b) = b := fun a b => if_neg (by omega)
      have nj : ∀ a b : Option AObj, (if H'.nx + 1 = j then a else b) = b := fun a b => if_neg (by omega)
      refine ⟨k - 1, by omega, i + 1, H'.nx + 1, by omega, ?_, by omega, by omega, by omega, ⟨a, b, c, rfl⟩, ?_, ?_, rfl, rfl⟩
      · intro x o hx
        have := hwf x o hx
        have nx : ∀ a b : Option AObj, (if x = j then a else b) = b := fun a b => if_neg (by omega)
        simp (disch := omega) only [go_sem, ite_lt, nx]
        exact hsub x o hx
      · have : wtJ (l.take (i + 1)) = wtJ (l.take i) * l[i].wt.q := foldl_take hi
        rw [this]
      · simp (disch := omega) only [ite_gt, ite_eq]
        rw [phJ_take hi, List.map_append, List.map_map]; rfl
    · have hi' : i = l.length := by omega
      rw [hi', List.take_length] at hg2 hgj
      have n0 : ∀ a b : Option AObj, (if H.nx = j then a else b) = b := fun a b => if_neg (by omega)
      have n2 : ∀ a b : Option AObj, (if H.nx + 2 = j then a else b) = b := fun a b => if_neg (by omega)
      simp (disch := omega) only [go_sem, h3, h4, h5, h9, h10, h11, lt_f hi, hgj, hg0, hg2, n0, n2, allP_mapf, ite_lt, ite_gt, ↓reduceIte, Nat.reduceEqDiff, Nat.reduceLT]
      refine ⟨.refl _, ?_⟩
      intro x o hx
      have := hwf x o hx
      have nx : ∀ a b : Option AObj, (if x = j then a else b) = b := fun a b => if_neg (by omega)
      simp (disch := omega) only [go_sem, ite_lt, nx]
      exact hsub x o hx
end Bh
namespace Bh
open Go Go.Proofs
def nearZ (l : List Int) (i : Int) : Int := if i < 0 then 0 else l.getD i.toNat 0
theorem near_call (l : List Int) (i : Int) : PCall Tryz.prog 195 [intsV l, intV i] (intV (nearZ l i)) := by
  refine pcall mixed k195 (by simp) fun H s hwf h => ?_
  have h0 : s 0 = .p (.sl (l.map intV)) := h 0 _ rfl
  have h1 : s 1 = .p (.v (.int .i64 i)) := h 1 _ rfl
  unfold c195
  by_cases hi : i < 0
  · have e : nearZ l i = 0 := if_pos hi
    simp only [go_sem, h0, h1, dec_t hi, ↓reduceIte, Nat.reduceEqDiff, Nat.reduceLT]
    rw [e]; exact ⟨.refl _, subG_refl _⟩
  · obtain ⟨n, rfl⟩ : ∃ n : Nat, i = n := ⟨i.toNat, by omega⟩
    have e : nearZ l n = l.getD n 0 := by unfold nearZ; rw [if_neg hi]; rfl
    by_cases hn : n < l.length
    · have e1 := le_f (a := l.length) (b := n) (by omega)
      have e2 : l.getD n 0 = l[n] := by simp [hn]
      simp only [go_sem, h0, h1, dec_f hi, e1, getI hn, intV, ↓reduceIte, Nat.reduceEqDiff, Nat.reduceLT]
      rw [e, e2]; exact ⟨.refl _, subG_refl _⟩
    · have e1 := le_t (a := l.length) (b := n) (by omega)
      have e2 : l.getD n 0 = 0 := by simp [Nat.le_of_not_lt hn]
      simp only [go_sem, h0, h1, dec_f hi, e1, ↓reduceIte, Nat.reduceEqDiff, Nat.reduceLT]
      rw [e, e2]; exact ⟨.refl _, subG_refl _⟩
theorem subF_call (x y : Fr) (hx : x.OK 40000) (hy : y.OK 40000) : PCall Tryz.prog 168 [x.V, y.V] (fracV (x.q + -y.q)) := by
  refine pcall mixed k168 (by simp) fun H s hw ha => ?_
  have h0 : s 0 = .p x.V := ha 0 _ rfl
  have h1 : s 1 = .p y.V := ha 1 _ rfl
  have tx := takeF x hx
  have ty := takeF y hy
  have sx := Fr.sz hx (by omega)
  have sy := Fr.sz hy (by omega)
  unfold c168
  simp only [go_sem, h0, h1, z32, ↓reduceIte, Nat.reduceEqDiff, Nat.reduceLT]
  refine ⟨_, tx, _, ty, _, minus_call _, _, addq_call _ _ sx sy.neg, _, give_call _ ((sx.add sy.neg).mono (by omega)), ?_⟩
  simp only [go_sem, h0, h1, z32, ↓reduceIte, Nat.reduceEqDiff, Nat.reduceLT]
  exact ⟨.refl _, ((Sub.refl H).new hw _).g⟩
theorem index_call (l : List Int) (z : Int) (hl : l.length < 9223372036854775807) : PCall Tryz.prog 229 [intsV l, intV z] (.v (.int .i64 (idxF (fun y => z == y) l))) := by
  refine pcall mixed k229 (by simp) fun H s hwf h => ?_
  have h0 : s 0 = .p (.sl (l.map intV)) := h 0 _ rfl
  have h1 : s 1 = .p (.v (.int .i64 z)) := h 1 _ rfl
  unfold c229
  simp only [go_sem, h0, h1, ↓reduceIte, Nat.reduceEqDiff, Nat.reduceLT]
  refine awp_loop (fun k s H' => ∃ i, H' = H ∧ i + k = l.length ∧ (∀ j, j < i → (hj : j < l.length) → (z == l[j]) = false) ∧ s 0 = .p (.sl (l.map intV)) ∧ s 1 = .p (.v (.int .i64 z)) ∧ s 7 = .p (.v (.int .i64 (l.length : Nat))) ∧ s 8 = .p (.v (.int .i64 (i : Nat)))) l.length ⟨0, rfl, by omega, fun j hj => absurd hj (by omega), ?_⟩ ?_
  · simp only [go_sem, h0, h1, ↓reduceIte, Nat.reduceEqDiff, Nat.reduceLT]
    rfl
  · rintro k' s' H' ⟨i, rfl, hik, hpr, h0, h1, h7, h8⟩
    unfold c229l0
    by_cases hi : i < l.length
    · have ei1 : IntKind.wrap .i64 ((i : Int) + 1) = ((i + 1 : Nat) : Int) := addwi1 (by omega)
      cases hpe : z == l[i]
      · simp only [go_sem, h0, h1, h7, h8, lt_t hi, getI hi, intV, hpe, ei1, ↓reduceIte, Nat.reduceEqDiff, Nat.reduceLT]
        refine ⟨k' - 1, by omega, i + 1, by omega, fun j hj hj' => ?_, rfl⟩
        by_cases e : j = i
        · subst e; exact hpe
        · exact hpr j (by omega) hj'
      · simp only [go_sem, h0, h1, h7, h8, lt_t hi, getI hi, intV, hpe, ↓reduceIte, Nat.reduceEqDiff, Nat.reduceLT]
        rw [idxF_here (p := fun y => z == y) hi hpr hpe]
        exact ⟨.refl _, subG_refl _⟩
    · simp only [go_sem, h0, h1, h7, h8, lt_f hi, ↓reduceIte, Nat.reduceEqDiff, Nat.reduceLT]
      rw [idxF_none (p := fun y => z == y) fun j hj => hpr j (by omega) hj]
      exact ⟨.refl _, subG_refl _⟩
def hasZ (l : List Int) (z : Int) : Bool := l.any fun y => z == y
theorem contains_call (l : List Int) (z : Int) (hl : l.length < 9223372036854775807) : PCall Tryz.prog 196 [intsV l, intV z] (.v (.bool (hasZ l z))) := by
  refine pcall mixed k196 (by simp) fun H s hwf h => ?_
  have h0 : s 0 = .p (.sl (l.map intV)) := h 0 _ rfl
  have h1 : s 1 = .p (.v (.int .i64 z)) := h 1 _ rfl
  have ic := index_call l z hl
  unfold c196
  simp only [go_sem, h0, h1, ↓reduceIte, Nat.reduceEqDiff, Nat.reduceLT]
  refine ⟨_, ic, ?_⟩
  simp only [go_sem, idxF_any, ↓reduceIte, Nat.reduceEqDiff, Nat.reduceLT]
  exact ⟨.refl _, subG_refl _⟩
def fromB (x : Rul) (l : List Int) (i : Nat) : Bool := (List.range x.fr.length).all fun k => nearZ l (i + k : Nat) == x.fr.getD k 0
def sideL (x : Rul) (l : List Int) (i : Nat) : Bool := x.l.isEmpty || hasZ x.l (nearZ l ((i : Int) - 1))
def sideR (x : Rul) (l : List Int) (i : Nat) : Bool := x.r.isEmpty || hasZ x.r (nearZ l (i + x.fr.length : Nat))
def matchB (x : Rul) (l : List Int) (i : Nat) : Bool := fromB x l i && sideL x l i && sideR x l i
theorem z59 : zeroT Tryz.prog 59 = .agg [.v (.slice none 0 0), .v (.slice none 0 0), .v (.slice none 0 0), .v (.slice none 0 0), .v (.bool false), .v (.slice none 0 0), .v (.slice none 0 0)] := by kernel_rfl
theorem wrR {a b c d e f g : PV} {x : Rul} : (AV.p (.agg [a, b, c, d, e, f, g])).wr 0 (.p x.V) = some (.p x.V) := wr_0 rfl rfl
attribute [go_sem] wrR
theorem rulGet {r : List Rul} {i : Nat} (h : i < r.length) : (r.map Rul.V)[i]? = some r[i].V := by simp [h]
theorem matching_call (r : List Rul) (l : List Int) (i : Nat) (hr : r.length ≤ 1000) (hx : ∀ x ∈ r, x.OK 4) (hi : i ≤ 1000000) : PCall Tryz.prog 167 [.sl (r.map Rul.V), intsV l, .v (.int .i64 (i : Nat))] (.v (.int .i64 (idxF (fun x => matchB x l i) r))) := by
  refine pcall mixed k167 (by simp) fun H s hwf h => ?_
  have h0 : s 0 = .p (.sl (r.map Rul.V)) := h 0 _ rfl
  have h1 : s 1 = .p (intsV l) := h 1 _ rfl
  have h2 : s 2 = .p (.v (.int .i64 (i : Nat))) := h 2 _ rfl
  unfold c167
  simp only [go_sem, h0, h1, h2, ↓reduceIte, Nat.reduceEqDiff, Nat.reduceLT]
  refine awp_loop (fun k s H' => ∃ n, n + k = r.length ∧ SubG H H' ∧ H.nx ≤ H'.nx ∧ (∀ j, j < n → (hj : j < r.length) → matchB r[j] l i = false) ∧ s 1 = .p (intsV l) ∧ s 2 = .p (.v (.int .i64 (i : Nat))) ∧ s 11 = .p (.sl (r.map Rul.V)) ∧ s 12 = .p (.v (.int .i64 (r.length : Nat))) ∧ s 13 = .p (.v (.int .i64 (n : Nat)))) r.length ⟨0, by omega, subG_refl _, Nat.le_refl _, fun j hj => absurd hj (by omega), ?_⟩ ?_
  · simp only [go_sem, h0, h1, h2, ↓reduceIte, Nat.reduceEqDiff, Nat.reduceLT]
    rfl
  · rintro k s' H' ⟨n, hnk, hsub, hnx, hpr, h1, h2, h11, h12, h13⟩
    unfold c167l1
    by_cases hn : n < r.length
    · have gx := rulGet hn
      have hxn := hx _ (List.getElem_mem hn)
      have en1 : IntKind.wrap .i64 ((n : Int) + 1) = ((n + 1 : Nat) : Int) := addwi1 (by omega)
      simp only [go_sem, h1, h2, h11, h12, h13, lt_t hn, gx, z59, ↓reduceIte, Nat.reduceEqDiff, Nat.reduceLT]
      have hsub1 : ∀ o, SubG H (H'.new o) := fun o => hsub.new' hwf hnx o
      have hno : matchB r[n] l i = false → ∀ j, j < n + 1 → (hj : j < r.length) → matchB r[j] l i = false := fun hb j hj hj' => by
        by_cases e : j = n
        · subst e; exact hb
        · exact hpr j (by omega) hj'
      have hfs := hxn.fs
      refine awp_loop (fun k2 s H2 => ∃ t, t + k2 = r[n].fr.length ∧ H2 = H'.new (.box 59 (.p r[n].V)) ∧ (∀ u, u < t → (nearZ l (i + u : Nat) == r[n].fr.getD u 0) = true) ∧ s 1 = .p (intsV l) ∧ s 2 = .p (.v (.int .i64 (i : Nat))) ∧ s 7 = .p (.v (.int .i64 (n : Nat))) ∧ s 8 = .pb H'.nx 0 ∧ s 11 = .p (.sl (r.map Rul.V)) ∧ s 12 = .p (.v (.int .i64 (r.length : Nat))) ∧ s 13 = .p (.v (.int .i64 (n : Nat))) ∧
        s 19 = .p (intsV r[n].fr) ∧ s 20 = .p (.v (.int .i64 (r[n].fr.length : Nat))) ∧ s 21 = .p (.v (.int .i64 (t : Nat)))) r[n].fr.length ⟨0, by omega, rfl, fun u hu => absurd hu (by omega), ?_⟩ ?_
      · simp only [go_sem, h1, h2, h11, h12, h13, ↓reduceIte, Nat.reduceEqDiff, Nat.reduceLT]
        rfl
      · rintro k2 s2 H2 ⟨t, htk, rfl, hu, h1, h2, h7, h8, h11, h12, h13, h19, h20, h21⟩
        unfold c167l0
        by_cases ht : t < r[n].fr.length
        · have hfr : intsV r[n].fr = .sl (r[n].fr.map intV) := rfl
          rw [hfr] at h19
          have et1 : IntKind.wrap .i64 ((t : Int) + 1) = ((t + 1 : Nat) : Int) := addwi1 (by omega)
          have eit := addwi (a := i) (b := t) (by omega)
          have nc := near_call l (i + t : Nat)
          have gd : r[n].fr.getD t 0 = r[n].fr[t] := by simp [ht]
          simp only [intV] at nc
          simp only [go_sem, h1, h2, h7, h8, h11, h12, h13, h19, h20, h21, lt_t ht, getI ht, intV, eit, ↓reduceIte, Nat.reduceEqDiff, Nat.reduceLT]
          refine ⟨_, nc, ?_⟩
          cases he : nearZ l (i + t : Nat) == r[n].fr[t]
          · have e1 : (nearZ l (i + t : Nat) != r[n].fr[t]) = true := by simp only [bne, he]; rfl
            have hb : matchB r[n] l i = false := by
              have : fromB r[n] l i = false := by
                unfold fromB
                rw [List.all_eq_false]
                exact ⟨t, by simpa using ht, by rw [gd, he]; simp⟩
              unfold matchB; rw [this]; rfl
            simp only [go_sem, h1, h2, h7, h8, h11, h12, h13, h19, h20, h21, e1, en1, ↓reduceIte, Nat.reduceEqDiff, Nat.reduceLT]
            exact ⟨k - 1, by omega, n + 1, by omega, hsub1 _, by omega, hno hb, rfl⟩
          · have e1 : (nearZ l (i + t : Nat) != r[n].fr[t]) = false := by simp only [bne, he]; rfl
            simp only [go_sem, h1, h2, h7, h8, h11, h12, h13, h19, h20, h21, e1, et1, ↓reduceIte, Nat.reduceEqDiff, Nat.reduceLT]
            refine ⟨k2 - 1, by omega, t + 1, by omega, fun u huu => ?_, rfl, rfl⟩
            by_cases e : u = t
            · subst e; rw [gd]; exact he
            · exact hu u (by omega)
        · have hfrom : fromB r[n] l i = true := by
            unfold fromB
            rw [List.all_eq_true]; intro u hum; simp at hum; exact hu u (by omega)
          have eim : IntKind.wrap .i64 ((i : Int) - 1) = (i : Int) - 1 := by rw [wrap_i64] <;> omega
          have eif := addwi (a := i) (b := r[n].fr.length) (by omega)
          have n1 := near_call l ((i : Int) - 1)
          have n2 := near_call l (i + r[n].fr.length : Nat)
          have c1 := contains_call r[n].l (nearZ l ((i : Int) - 1)) (by have := hxn.ls; omega)
          have c2 := contains_call r[n].r (nearZ l (i + r[n].fr.length : Nat)) (by have := hxn.rs; omega)
          have hret : matchB r[n] l i = true → idxF (fun x => matchB x l i) r = (n : Int) := fun hb => idxF_here (p := fun x => matchB x l i) hn hpr hb
          simp only [intV] at n1 n2 c1 c2
          -- what lies to the right, once the left is right
          have right : ∀ b : Bool, sideL r[n] l i = true → b = sideR r[n] l i → matchB r[n] l i = b := fun b hL hb => by unfold matchB; rw [hfrom, hL, ← hb]; simp
          by_cases hle : 0 < r[n].l.length
          · have hL0 : r[n].l.isEmpty = false := by
              cases hl0 : r[n].l with
              | nil => rw [hl0] at hle; simp at hle
              | cons a b => rfl
            simp only [go_sem, h1, h2, h7, h8, h11, h12, h13, h19, h20, h21, lt_f ht, gt0_t hle, eim, ↓reduceIte, Nat.reduceEqDiff, Nat.reduceLT]
            refine ⟨_, n1, _, c1, ?_⟩
            cases hb1 : hasZ r[n].l (nearZ l ((i : Int) - 1))
            · have hb : matchB r[n] l i = false := by
                have : sideL r[n] l i = false := by unfold sideL; rw [hL0, hb1]; rfl
                unfold matchB; rw [this]; simp
              simp only [go_sem, h1, h2, h7, h8, h11, h12, h13, en1, ↓reduceIte, Nat.reduceEqDiff, Nat.reduceLT, Bool.not_false]
              exact ⟨k - 1, by omega, n + 1, by omega, hsub1 _, by omega, hno hb, rfl⟩
            · have hL : sideL r[n] l i = true := by unfold sideL; rw [hL0, hb1]; rfl
              by_cases hre : 0 < r[n].r.length
              · have hR0 : r[n].r.isEmpty = false := by
                  cases hl0 : r[n].r with
                  | nil => rw [hl0] at hre; simp at hre
                  | cons a b => rfl
                simp only [go_sem, h1, h2, h7, h8, h11, h12, h13, h19, h20, h21,  gt0_t hre, eif, ↓reduceIte, Nat.reduceEqDiff, Nat.reduceLT, Bool.not_true]
                refine ⟨_, n2, _, c2, ?_⟩
                cases hb2 : hasZ r[n].r (nearZ l (i + r[n].fr.length : Nat))
                · have hb : matchB r[n] l i = false := right false hL (by unfold sideR; rw [hR0, hb2]; rfl)
                  simp only [go_sem, h1, h2, h7, h8, h11, h12, h13, en1, ↓reduceIte, Nat.reduceEqDiff, Nat.reduceLT, Bool.not_false]
                  exact ⟨k - 1, by omega, n + 1, by omega, hsub1 _, by omega, hno hb, rfl⟩
                · have hb : matchB r[n] l i = true := right true hL (by unfold sideR; rw [hR0, hb2]; rfl)
                  simp only [go_sem, h1, h2, h7, h8, h11, h12, h13, en1, ↓reduceIte, Nat.reduceEqDiff, Nat.reduceLT, Bool.not_true]
                  rw [hret hb]; exact ⟨.refl _, hsub1 _⟩
              · have hR0 : r[n].r.isEmpty = true := by
                  cases hl0 : r[n].r with
                  | nil => rfl
                  | cons a b => rw [hl0] at hre; simp at hre
                have hb : matchB r[n] l i = true := right true hL (by unfold sideR; rw [hR0]; rfl)
                simp only [go_sem, h1, h2, h7, h8, h11, h12, h13, h19, h20, h21,  gt0_f hre, ↓reduceIte, Nat.reduceEqDiff, Nat.reduceLT, Bool.not_true]
                rw [hret hb]; exact ⟨.refl _, hsub1 _⟩
          · have hL0 : r[n].l.isEmpty = true := by
              cases hl0 : r[n].l with
              | nil => rfl
              | cons a b => rw [hl0] at hle; simp at hle
            have hL : sideL r[n] l i = true := by unfold sideL; rw [hL0]; rfl
            by_cases hre : 0 < r[n].r.length
            · have hR0 : r[n].r.isEmpty = false := by
                cases hl0 : r[n].r with
                | nil => rw [hl0] at hre; simp at hre
                | cons a b => rfl
              simp only [go_sem, h1, h2, h7, h8, h11, h12, h13, h19, h20, h21, lt_f ht, gt0_f hle, gt0_t hre, eif, ↓reduceIte, Nat.reduceEqDiff, Nat.reduceLT, Bool.not_true]
              refine ⟨_, n2, _, c2, ?_⟩
              cases hb2 : hasZ r[n].r (nearZ l (i + r[n].fr.length : Nat))
              · have hb : matchB r[n] l i = false := right false hL (by unfold sideR; rw [hR0, hb2]; rfl)
                simp only [go_sem, h1, h2, h7, h8, h11, h12, h13, en1, ↓reduceIte, Nat.reduceEqDiff, Nat.reduceLT, Bool.not_false]
                exact ⟨k - 1, by omega, n + 1, by omega, hsub1 _, by omega, hno hb, rfl⟩
              · have hb : matchB r[n] l i = true := right true hL (by unfold sideR; rw [hR0, hb2]; rfl)
                simp only [go_sem, h1, h2, h7, h8, h11, h12, h13, en1, ↓reduceIte, Nat.reduceEqDiff, Nat.reduceLT, Bool.not_true]
                rw [hret hb]; exact ⟨.refl _, hsub1 _⟩
            · have hR0 : r[n].r.isEmpty = true := by
                cases hl0 : r[n].r with
                | nil => rfl
                | cons a b => rw [hl0] at hre; simp at hre
              have hb : matchB r[n] l i = true := right true hL (by unfold sideR; rw [hR0]; rfl)
              simp only [go_sem, h1, h2, h7, h8, h11, h12, h13, h19, h20, h21, lt_f ht, gt0_f hle, gt0_f hre, ↓reduceIte, Nat.reduceEqDiff, Nat.reduceLT, Bool.not_true]
              rw [hret hb]; exact ⟨.refl _, hsub1 _⟩
    · simp only [go_sem, h1, h2, h11, h12, h13, lt_f hn, ↓reduceIte, Nat.reduceEqDiff, Nat.reduceLT]
      rw [idxF_none (p := fun x => matchB x l i) fun j hj => hpr j (by omega) hj]
      exact ⟨.refl _, hsub⟩
end Bh
namespace Bh
open Go Go.Proofs
structure Opt where
  wr : List Int
  pass : Nat
  w : Fr
def optV (wr : PV) (p : PV) (x : Fr) : PV := .agg [wr, p, .v (.bool x.b), natV x.n, natV x.d]
def Opt.V (o : Opt) : PV := optV (intsV o.wr) (.v (.int .i64 (o.pass : Nat))) o.w
theorem z170 : zeroT Tryz.prog 170 = .agg [.v (.slice none 0 0), .v (.int .i64 0), .v (.bool false), .v (.slice none 0 0), .v (.slice none 0 0)] := by kernel_rfl
theorem cellsF {x : Fr} : (AV.p x.V).cells = [.p (.v (.bool x.b)), .p (natV x.n), .p (natV x.d)] := rfl
theorem build5 {z0 z1 z2 z3 z4 : PV} {l : List Int} {v : Value} {x : Fr} : buildV (.agg [z0, z1, z2, z3, z4]) [(0, 0, 1), (1, 1, 1), (2, 2, 3)] [.p (intsV l), .p (.v v), .p x.V] = some (.p (optV (intsV l) (.v v) x)) := by
  simp only [buildV, List.zip_cons_cons, List.zip_nil_right, List.foldl_cons, List.foldl_nil, cells1 (x := intsV l) rfl, cells1 (x := .v v) rfl, cellsF]
  rfl
theorem wrO {a b c d e : PV} {p q : PV} {x : Fr} : (AV.p (.agg [a, b, c, d, e])).wr 0 (.p (optV p q x)) = some (.p (optV p q x)) := wr_0 rfl rfl
theorem wrOw {p q : PV} {x y : Fr} : (AV.p (optV p q x)).wr 2 (.p y.V) = some (.p (optV p q y)) := by
  unfold AV.wr
  rw [if_neg (by simp), if_pos ⟨rfl, Nat.le_refl 5⟩, cellsF]
  rfl
theorem optA {p q : PV} {x : Fr} : (optV p q x).sub 0 true 5 = some (optV p q x) := psub_0 rfl
theorem optW {p q : PV} {x : Fr} : (optV p q x).sub 0 false 1 = some p := by unfold optV; rw [psub_f]; rfl
theorem optP {p q : PV} {x : Fr} : (optV p q x).sub 1 false 1 = some q := by unfold optV; rw [psub_f]; rfl
theorem optF {p q : PV} {x : Fr} : (optV p q x).sub 2 true 3 = some x.V := by unfold optV; rw [psub_t (by simp)]; rfl
theorem widO {p q : PV} {x : Fr} : (optV p q x).wid = 5 := rfl
theorem isAggO {p q : PV} {x : Fr} : (optV p q x).isAgg = true := rfl
theorem ok1O {p q : PV} {x : Fr} : (optV p q x).ok1 = true := rfl
attribute [go_sem] build5 wrO wrOw optA optW optP optF widO isAggO ok1O
def optsS (r : List Rul) (l : List Int) (i : Nat) : List Opt :=
  match r.findIdx? (fun x => matchB x l i) with
  | none => [⟨[l.getD i 0], 1, canF 1⟩]
  | some n => match r[n]? with
    | some x => ⟨x.to, x.fr.length, x.wt⟩ :: (if 0 < sgnQ (1 + -x.wt.q) then [⟨[l.getD i 0], 1, canF (1 + -x.wt.q)⟩] else [])
    | none => []
theorem intsSl {l : List Int} {i : Nat} (hi : i < l.length) : slC 1 (l.map intV) i (i + 1) = some (.p (intsV [l.getD i 0])) := by
  rw [slC_s (by omega) (by simp; omega) (all_ints l), ← List.map_take, ← List.map_drop]
  have : (l.take (i + 1)).drop i = [l.getD i 0] := by
    rw [List.take_succ_eq_append_getElem hi, List.drop_append_of_le_length (by simp; omega), List.drop_eq_nil_of_le (by simp; omega)]
    simp [hi]
  rw [this]; rfl
theorem options_call (r : List Rul) (l : List Int) (i : Nat) (hr : r.length ≤ 1000) (hx : ∀ x ∈ r, x.OK 4) (hi : i < l.length) (hl : l.length ≤ 1000000) : PCall Tryz.prog 120 [.sl (r.map Rul.V), intsV l, .v (.int .i64 (i : Nat))] (.sl ((optsS r l i).map Opt.V)) := by
  refine pcall mixed k120 (by simp) fun H s hwf h => ?_
  have h0 : s 0 = .p (.sl (r.map Rul.V)) := h 0 _ rfl
  have h1 : s 1 = .p (.sl (l.map intV)) := h 1 _ rfl
  have h2 : s 2 = .p (.v (.int .i64 (i : Nat))) := h 2 _ rfl
  have oc := of_call 1 (by omega)
  have e1 : (((1 : Nat) : Int) : Rat) = 1 := rfl
  rw [e1, ← canF_V] at oc
  have ei1 : IntKind.wrap .i64 ((i : Int) + 1) = ((i + 1 : Nat) : Int) := addwi1 (by omega)
  have mc := matching_call r l i hr hx (by omega)
  unfold c120
  simp only [go_sem, h0, h1, h2, ei1, intsSl hi, z170, ↓reduceIte, Nat.reduceEqDiff, Nat.reduceLT]
  refine ⟨_, oc, ?_⟩
  simp only [go_sem, h0, h1, h2, ↓reduceIte, Nat.reduceEqDiff, Nat.reduceLT]
  cases hf : r.findIdx? (fun x => matchB x l i) with
  | none =>
    have hI : idxF (fun x => matchB x l i) r = -1 := by unfold idxF; rw [hf]
    have hS : optsS r l i = [⟨[l.getD i 0], 1, canF 1⟩] := by unfold optsS; rw [hf]
    rw [hI] at mc
    rw [hS]
    refine ⟨rfl, _, mc, ?_⟩
    have e2 : decide ((-1 : Int) < 0) = true := rfl
    simp only [go_sem, h0, h1, h2, e2, List.all_cons, List.all_nil, beq_self_eq_true, Bool.and_true, ↓reduceIte, Nat.reduceEqDiff, Nat.reduceLT]
    exact ⟨by omega, .refl _, ((Sub.refl H).new hwf _).g⟩
  | some n =>
    have hI : idxF (fun x => matchB x l i) r = (n : Int) := by unfold idxF; rw [hf]
    have hn : n < r.length := (List.findIdx?_eq_some_iff_getElem.1 hf).1
    have gx := rulGet hn
    have hxn := hx _ (List.getElem_mem hn)
    have gr : r[n]? = some r[n] := List.getElem?_eq_getElem hn
    have hw1 : r[n].wt.OK 40000 := ⟨hxn.wt.n1, hxn.wt.d1, by have := hxn.wt.nl; omega, by have := hxn.wt.dl; omega⟩
    have sc := subF_call (canF 1) r[n].wt (oneF_ok (by omega)) hw1
    rw [oneF_q, ← canF_V] at sc
    have hsz : SzQ (1 + -r[n].wt.q) 40000 := by
      have h1 : SzQ 1 1 := szQ_int (n := 1) (by decide) (Nat.le_refl _)
      have h2 := (Fr.sz hxn.wt (by omega)).neg
      exact (h1.add h2).mono (by omega)
    have gc := sgn_call (canF (1 + -r[n].wt.q)) (canF_ok hsz)
    rw [canF_q] at gc
    have hS : optsS r l i = ⟨r[n].to, r[n].fr.length, r[n].wt⟩ :: (if 0 < sgnQ (1 + -r[n].wt.q) then [⟨[l.getD i 0], 1, canF (1 + -r[n].wt.q)⟩] else []) := by unfold optsS; rw [hf]; dsimp only; rw [gr]
    rw [hI] at mc
    rw [hS]
    refine ⟨rfl, _, mc, ?_⟩
    simp (disch := omega) only [go_sem, h0, h1, h2, i0_f, gx, z170, List.all_cons, List.all_nil, beq_self_eq_true, Bool.and_true, ite_lt, ite_gt, ↓reduceIte, Nat.reduceEqDiff, Nat.reduceLT]
    refine ⟨by omega, _, sc, ?_⟩
    simp (disch := omega) only [go_sem, h0, h1, h2, ite_lt, ite_gt, ↓reduceIte, Nat.reduceEqDiff, Nat.reduceLT]
    refine ⟨_, gc, ?_⟩
    by_cases hs : 0 < sgnQ (1 + -r[n].wt.q)
    · rw [if_pos hs]
      simp (disch := omega) only [go_sem, h0, h1, h2, dec_t hs, List.all_cons, List.all_nil, beq_self_eq_true, Bool.and_true, ite_lt, ite_gt, ↓reduceIte, Nat.reduceEqDiff, Nat.reduceLT]
      refine ⟨by omega, by omega, .refl _, ?_⟩
      · intro x o hx
        have := hwf x o hx
        simp (disch := omega) only [go_sem, ite_lt, hx]
    · rw [if_neg hs]
      simp (disch := omega) only [go_sem, h0, h1, h2, dec_f hs, List.all_cons, List.all_nil, beq_self_eq_true, Bool.and_true, ite_lt, ite_gt, ↓reduceIte, Nat.reduceEqDiff, Nat.reduceLT]
      refine ⟨.refl _, ?_⟩
      · intro x o hx
        have := hwf x o hx
        simp (disch := omega) only [go_sem, ite_lt, hx]
end Bh
namespace Bh
open Go Go.Proofs
def eqZ (a b : List Int) : Bool := a == b
theorem equal_call (a b : List Int) (ha : a.length < 9223372036854775807) : PCall Tryz.prog 96 [intsV a, intsV b] (.v (.bool (eqZ a b))) := by
  refine pcall mixed k96 (by simp) fun H s hwf h => ?_
  have h0 : s 0 = .p (.sl (a.map intV)) := h 0 _ rfl
  have h1 : s 1 = .p (.sl (b.map intV)) := h 1 _ rfl
  unfold c96
  by_cases hl : a.length = b.length
  · have e0 : ((a.length : Int) != (b.length : Int)) = false := by simp [hl]
    simp only [go_sem, h0, h1, e0, ↓reduceIte, Nat.reduceEqDiff, Nat.reduceLT]
    refine awp_loop (fun k s H' => ∃ i, H' = H ∧ i + k = a.length ∧ a.take i = b.take i ∧ s 0 = .p (.sl (a.map intV)) ∧ s 1 = .p (.sl (b.map intV)) ∧ s 12 = .p (.v (.int .i64 (a.length : Nat))) ∧ s 13 = .p (.v (.int .i64 (i : Nat)))) a.length ⟨0, rfl, by omega, by simp, ?_⟩ ?_
    · simp only [go_sem, h0, h1, ↓reduceIte, Nat.reduceEqDiff, Nat.reduceLT]
      rfl
    · rintro k s' H' ⟨i, rfl, hik, ht, h0, h1, h12, h13⟩
      unfold c96l0
      by_cases hi : i < a.length
      · have hib : i < b.length := by omega
        have ei1 : IntKind.wrap .i64 ((i : Int) + 1) = ((i + 1 : Nat) : Int) := addwi1 (by omega)
        by_cases hz : a[i] = b[i]
        · have e1 : (a[i] != b[i]) = false := by simp [hz]
          simp only [go_sem, h0, h1, h12, h13, lt_t hi, getI hi, getI hib, intV, e1, ei1, ↓reduceIte, Nat.reduceEqDiff, Nat.reduceLT]
          exact ⟨k - 1, by omega, i + 1, by omega, by rw [List.take_succ_eq_append_getElem hi, List.take_succ_eq_append_getElem hib, ht, hz], rfl⟩
        · have e1 : (a[i] != b[i]) = true := by simp [hz]
          have : eqZ a b = false := by
            unfold eqZ
            rw [beq_eq_false_iff_ne]
            intro e; subst e; exact hz rfl
          simp only [go_sem, h0, h1, h12, h13, lt_t hi, getI hi, getI hib, intV, e1, ↓reduceIte, Nat.reduceEqDiff, Nat.reduceLT]
          rw [this]; exact ⟨.refl _, subG_refl _⟩
      · have hi' : i = a.length := by omega
        rw [hi', List.take_length, hl, List.take_length] at ht
        have : eqZ a b = true := by unfold eqZ; rw [ht]; simp
        simp only [go_sem, h0, h1, h12, h13, lt_f hi, ↓reduceIte, Nat.reduceEqDiff, Nat.reduceLT]
        rw [this]; exact ⟨.refl _, subG_refl _⟩
  · have e0 : ((a.length : Int) != (b.length : Int)) = true := by simp; omega
    have : eqZ a b = false := by
      unfold eqZ
      rw [beq_eq_false_iff_ne]
      intro e; exact hl (by rw [e])
    simp only [go_sem, h0, h1, e0, ↓reduceIte, Nat.reduceEqDiff, Nat.reduceLT]
    rw [this]; exact ⟨.refl _, subG_refl _⟩
def FQ (c : PV) (q : Rat) : Prop := ∃ a b d, c = .agg [a, b, d] ∧ Wk c (fracV q)
theorem FQ.frac (q : Rat) : FQ (fracV q) q := ⟨_, _, _, rfl, .refl _⟩
theorem FQ.zero : FQ (.agg [.v (.bool false), .v (.slice none 0 0), .v (.slice none 0 0)]) 0 := ⟨_, _, _, rfl, wk_zero⟩
theorem FQ.wid {c : PV} {q : Rat} (h : FQ c q) : c.wid = 3 ∧ c.isAgg = true ∧ c.ok1 = true := by obtain ⟨a, b, d, rfl, _⟩ := h; exact ⟨rfl, rfl, rfl⟩
theorem FQ.sub {c : PV} {q : Rat} (h : FQ c q) : c.sub 0 true 3 = some c := by obtain ⟨a, b, d, rfl, _⟩ := h; exact psub_0 rfl
theorem FQ.wr {c : PV} {q p : Rat} (h : FQ c q) : (AV.p c).wr 0 (.p (fracV p)) = some (.p (fracV p)) := by obtain ⟨a, b, d, rfl, _⟩ := h; exact wr_0 rfl rfl
def RowQ (es : List PV) (m : Nat) (T : Nat → Rat) : Prop := es.length = m ∧ ∀ k c, es[k]? = some c → FQ c (T k)
theorem RowQ.set {es : List PV} {m : Nat} {T : Nat → Rat} (h : RowQ es m T) {k : Nat} {q : Rat} : RowQ (es.set k (fracV q)) m (fun k' => if k' = k then q else T k') := by
  refine ⟨by simp [h.1], fun k' c hc => ?_⟩
  rw [List.getElem?_set] at hc
  by_cases e : k = k'
  · subst e
    rw [if_pos rfl] at hc
    split at hc
    · injection hc with hc; subst hc; simp only [if_true]; exact .frac q
    · cases hc
  · rw [if_neg e] at hc
    have := h.2 k' c hc
    simp only [if_neg (Ne.symm e)]; exact this
theorem RowQ.get {es : List PV} {m : Nat} {T : Nat → Rat} (h : RowQ es m T) {k : Nat} (hk : k < m) : ∃ c, es[k]? = some c ∧ FQ c (T k) := by
  have hk' : k < es.length := by rw [h.1]; exact hk
  exact ⟨es[k], List.getElem?_eq_getElem hk', h.2 k _ (List.getElem?_eq_getElem hk')⟩
structure Tab (H0 H : AHeap) (R : Nat) (js : List Nat) (m : Nat) (T : Nat → Nat → Rat) : Prop where
  sub : SubG H0 H
  res : ∃ a b c, H.get H0.nx = some (.box 32 (.p (.agg [a, b, c])))
  top : H.get R = some (.row 85 1 (js.map .hd))
  rlt : H0.nx < R ∧ R < H.nx
  rows : ∀ i j, js[i]? = some j → H0.nx < j ∧ j < H.nx ∧ j ≠ R ∧ ∃ es, H.get j = some (.row 32 3 (es.map .p)) ∧ RowQ es m (T i)
  nd : js.Nodup
theorem Tab.new {H0 H : AHeap} {R m : Nat} {js : List Nat} {T : Nat → Nat → Rat} (hw : WF H0) (h : Tab H0 H R js m T) (o : AObj) : Tab H0 (H.new o) R js m T := by
  have hn : H0.nx < H.nx := Nat.lt_trans h.rlt.1 h.rlt.2
  obtain ⟨a, b, c, hr⟩ := h.res
  refine ⟨h.sub.new' hw (by omega) o, ⟨a, b, c, ?_⟩, ?_, ⟨h.rlt.1, Nat.lt_succ_of_lt h.rlt.2⟩, fun i j hj => ?_, h.nd⟩
  · simp only [AHeap.new]; rw [if_neg (by omega)]; exact hr
  · simp only [AHeap.new]; rw [if_neg (by have := h.rlt.2; omega)]; exact h.top
  · obtain ⟨h1, h2, h3, es, h4, h5⟩ := h.rows i j hj
    exact ⟨h1, Nat.lt_succ_of_lt h2, h3, es, by simp only [AHeap.new]; rw [if_neg (by omega)]; exact h4, h5⟩
theorem Tab.set {H0 H : AHeap} {R m : Nat} {js : List Nat} {T : Nat → Nat → Rat} (hw : WF H0) (h : Tab H0 H R js m T) {i j k : Nat} {es : List PV} {q : Rat} (hj : js[i]? = some j) (hg : H.get j = some (.row 32 3 (es.map .p))) :
    Tab H0 (H.set j (.row 32 3 ((es.set k (fracV q)).map .p))) R js m (fun i' k' => if i' = i ∧ k' = k then q else T i' k') := by
  obtain ⟨h1, h2, h3, es', h4, h5⟩ := h.rows i j hj
  rw [hg] at h4; injection h4 with h4; injection h4 with _ _ h4
  have h4 : es = es' := by
    have := congrArg (List.map (fun a : AV => match a with | .p x => x | _ => .any)) h4
    simpa [List.map_map, Function.comp_def] using this
  subst h4
  obtain ⟨a, b, c, hr⟩ := h.res
  refine ⟨h.sub.set' hw (by omega) _, ⟨a, b, c, ?_⟩, ?_, h.rlt, fun i' j' hj' => ?_, h.nd⟩
  · simp only [AHeap.set]; rw [if_neg (by omega)]; exact hr
  · simp only [AHeap.set]; rw [if_neg (Ne.symm h3)]; exact h.top
  · obtain ⟨k1, k2, k3, es2, k4, k5⟩ := h.rows i' j' hj'
    refine ⟨k1, k2, k3, ?_⟩
    by_cases e : i' = i
    · subst e
      rw [hj] at hj'; injection hj' with hj'; subst hj'
      refine ⟨es.set k (fracV q), by simp [AHeap.set], ?_⟩
      have := h5.set (k := k) (q := q)
      simpa using this
    · have hne : j' ≠ j := fun ej => by
        subst ej
        have l1 := (List.getElem?_eq_some_iff.1 hj).1
        have l2 := (List.getElem?_eq_some_iff.1 hj').1
        have e1 := (List.getElem?_eq_some_iff.1 hj).2
        have e2 := (List.getElem?_eq_some_iff.1 hj').2
        exact e ((List.getElem_inj (h₀ := l2) (h₁ := l1) h.nd).1 (e2.trans e1.symm))
      refine ⟨es2, by simp only [AHeap.set]; rw [if_neg hne]; exact k4, ?_⟩
      simpa [e] using k5
end Bh
namespace Bh
open Go Go.Proofs
def wUpd (T : Nat → Nat → Rat) (a b : Nat) (q : Rat) : Nat → Nat → Rat := fun i k => if i = a ∧ k = b then q else T i k
def canGo (ps : List Int) (o : Opt) (k : Nat) (w : Rat) : Bool := decide (0 < sgnQ w) && decide (k + o.wr.length ≤ ps.length) && eqZ ((ps.take (k + o.wr.length)).drop k) o.wr
def wStep (ps : List Int) (i : Nat) (o : Opt) (T : Nat → Nat → Rat) (k : Nat) : Nat → Nat → Rat :=
  if canGo ps o k (T i k) then wUpd T (i + o.pass) (k + o.wr.length) (T (i + o.pass) (k + o.wr.length) + T i k * o.w.q) else T
def wOpt (ps : List Int) (i : Nat) (T : Nat → Nat → Rat) (o : Opt) : Nat → Nat → Rat := (List.range (ps.length + 1)).foldl (wStep ps i o) T
def wRow (r : List Rul) (l ps : List Int) (T : Nat → Nat → Rat) (i : Nat) : Nat → Nat → Rat := (optsS r l i).foldl (wOpt ps i) T
def wT0 : Nat → Nat → Rat := fun i k => if i = 0 ∧ k = 0 then 1 else 0
def wTab (r : List Rul) (l ps : List Int) (n : Nat) : Nat → Nat → Rat := (List.range n).foldl (wRow r l ps) wT0
def weightQ (r : List Rul) (l ps : List Int) : Rat := wTab r l ps l.length l.length ps.length
def wSmall (r : List Rul) (l ps : List Int) : Prop := ∀ i a b o, i < l.length → (optsS r l i)[a]? = some o → b ≤ ps.length + 1 → ∀ x y, SzQ ((List.range b).foldl (wStep ps i o) (((optsS r l i).take a).foldl (wOpt ps i) (wTab r l ps i)) x y) 4000
theorem z85 : zeroT Tryz.prog 85 = .v (.slice none 0 0) := by kernel_rfl
theorem wr_nh {j : Nat} : (AV.p (.v (.slice none 0 0))).wr 0 (.hd j) = some (.hd j) := wr_0 rfl rfl
attribute [go_sem] wr_nh
def zF : PV := .agg [.v (.bool false), .v (.slice none 0 0), .v (.slice none 0 0)]
theorem rowQ_zero (m : Nat) : RowQ (List.replicate m zF) m (fun _ => 0) := ⟨by simp, fun k c hc => by
  rw [List.getElem?_replicate] at hc
  split at hc
  · injection hc with hc; subst hc; exact .zero
  · cases hc⟩
theorem map_hd_get {js : List Nat} {i j : Nat} (h : js[i]? = some j) : (js.map AV.hd)[i]? = some (.hd j) := by rw [List.getElem?_map, h]; rfl
theorem mapp_get {es : List PV} {k : Nat} {c : PV} (h : es[k]? = some c) : (es.map AV.p)[k]? = some (.p c) := by rw [List.getElem?_map, h]; rfl
theorem set_end {js : List Nat} {n : Nat} {x : AV} {j : Nat} : (js.map AV.hd ++ List.replicate (n + 1) x).set js.length (.hd j) = (js ++ [j]).map AV.hd ++ List.replicate n x := by
  rw [List.set_append_right _ _ (by simp)]
  simp [List.replicate_succ]
theorem pcall_wk1 {f : FuncId} {a a' r : PV} (h : PCall Tryz.prog f [a'] r) (ha : Wk a a') : PCall Tryz.prog f [a] r := h.wk rfl (fun j x y hx hy => by
  match j, hx, hy with
  | 0, hx, hy => simp at hx hy; subst hx; subst hy; exact ha) (.refl _)
theorem weight_call (r : List Rul) (l ps : List Int) (hr : r.length ≤ 1000) (hx : ∀ x ∈ r, x.OK 4) (hl : l.length ≤ 100000) (hp : ps.length ≤ 100000)
    (hgo : ∀ i, i < l.length → ∀ o ∈ optsS r l i, 1 ≤ o.pass ∧ i + o.pass ≤ l.length ∧ o.wr.length ≤ 1000 ∧ o.w.OK 4000) (hsm : wSmall r l ps) : PCall Tryz.prog 59 [.sl (r.map Rul.V), intsV l, intsV ps] (fracV (weightQ r l ps)) := by
  refine pcall mixed k59 (by simp) fun H s hwf h => ?_
  have h0 : s 0 = .p (.sl (r.map Rul.V)) := h 0 _ rfl
  have h1 : s 1 = .p (intsV l) := h 1 _ rfl
  have h2 : s 2 = .p (intsV ps) := h 2 _ rfl
  have el := addwi1 (a := l.length) (by omega)
  have ep := addwi1 (a := ps.length) (by omega)
  unfold c59
  simp only [go_sem, h0, h1, h2, z32, el, z85, ↓reduceIte, Nat.reduceEqDiff, Nat.reduceLT]
  refine ⟨by omega, by omega, ?_⟩
  refine awp_loop (fun k s H' => ∃ js : List Nat, js.length + k = l.length + 1 ∧ SubG H H' ∧ H.nx + 1 < H'.nx ∧ H'.get H.nx = some (.box 32 (.p zF)) ∧ H'.get (H.nx + 1) = some (.row 85 1 (js.map .hd ++ List.replicate k (.p (.v (.slice none 0 0))))) ∧
    (∀ j ∈ js, H.nx < j ∧ j < H'.nx ∧ j ≠ H.nx + 1 ∧ H'.get j = some (.row 32 3 ((List.replicate (ps.length + 1) zF).map .p))) ∧ js.Nodup ∧
    s 0 = .p (.sl (r.map Rul.V)) ∧ s 1 = .p (intsV l) ∧ s 2 = .p (intsV ps) ∧ s 6 = .pb H.nx 0 ∧ s 7 = .hd (H.nx + 1) ∧ s 20 = .p (.v (.int .i64 (l.length + 1 : Nat))) ∧ s 21 = .p (.v (.int .i64 (js.length : Nat)))) (l.length + 1) ⟨[], by simp, ?_, ?_, ?_, ?_, fun j hj => by simp at hj, List.nodup_nil, ?_⟩ ?_
  · intro x o ho
    have := hwf x o ho
    simp (disch := omega) only [go_sem, ite_lt, ho]
  · simp only [go_sem]; omega
  · simp (disch := omega) only [go_sem, ite_lt, ite_gt, ↓reduceIte]; rfl
  · simp (disch := omega) only [go_sem, ite_lt, ite_gt, ↓reduceIte]
  · simp (disch := omega) only [go_sem, h0, h1, h2, List.length_replicate, ite_lt, ite_gt, ↓reduceIte, Nat.reduceEqDiff, Nat.reduceLT]
    rfl
  · rintro k s' H' ⟨js, hjk, hsub, hnx, hres, htop, hrows, hnd, h0, h1, h2, h6, h7, h20, h21⟩
    unfold c59l3
    by_cases hj : js.length < l.length + 1
    · obtain ⟨k', rfl⟩ : ∃ k', k = k' + 1 := ⟨k - 1, by omega⟩
      have ei1 := addwi1 (a := js.length) (by omega)
      have gi : ∀ es : List AV, js.length < es.length → ixR (H.nx + 1) js.length 1 (some (.row 85 1 es)) = some (.pe (H.nx + 1) js.length 1 0) := fun es h => ixR_s h
      have gi' := gi (js.map .hd ++ List.replicate (k' + 1) (.p (.v (.slice none 0 0)))) (by simp)
      have ge : (js.map AV.hd ++ List.replicate (k' + 1) (AV.p (.v (.slice none 0 0))))[js.length]? = some (.p (.v (.slice none 0 0))) := by
        rw [List.getElem?_append_right (by simp)]; simp
      simp (disch := omega) only [go_sem, h0, h1, h2, h6, h7, h20, h21, lt_t hj, ep, z32, htop, gi', ge, set_end, ei1, ite_lt, ite_gt, ↓reduceIte, Nat.reduceEqDiff, Nat.reduceLT]
      refine ⟨by omega, by omega, k', by omega, js ++ [H'.nx], by simp; omega, ?_, hres, rfl, ?_, ?_, ?_⟩
      · intro x o hx
        have := hwf x o hx
        simp (disch := omega) only [go_sem, ite_lt]
        exact hsub x o hx
      · intro j hjm
        rcases List.mem_append.1 hjm with hjm | hjm
        · obtain ⟨a1, a2, a3, a4⟩ := hrows j hjm
          refine ⟨a1, by omega, a3, ?_⟩
          rw [if_neg a3, if_neg (by omega)]; exact a4
        · simp at hjm; subst hjm
          refine ⟨by omega, by omega, by omega, ?_⟩
          rw [if_neg (by omega), if_pos rfl]; simp [zF]
      · rw [List.nodup_append]
        refine ⟨hnd, by simp, fun a ha b hb e => ?_⟩
        simp at hb; subst hb; subst e
        exact absurd (hrows _ ha).2.1 (Nat.lt_irrefl _)
      · simp
    · obtain rfl : k = 0 := by omega
      have hjl : js.length = l.length + 1 := by omega
      rw [List.replicate_zero, List.append_nil] at htop
      have tab : Tab H H' (H.nx + 1) js (ps.length + 1) (fun _ _ => 0) := ⟨hsub, ⟨_, _, _, hres⟩, htop, ⟨by omega, by omega⟩, fun i j hj => by
        have hm := List.mem_of_getElem? hj
        obtain ⟨a1, a2, a3, a4⟩ := hrows j hm
        exact ⟨a1, a2, a3, _, a4, rowQ_zero _⟩, hnd⟩
      clear hrows hres hnd
      obtain ⟨j0, hj0⟩ : ∃ j0, js[0]? = some j0 := ⟨js[0], List.getElem?_eq_getElem (by omega)⟩
      obtain ⟨b1, b2, b3, es0, b4, b5⟩ := tab.rows 0 j0 hj0
      obtain ⟨c0, hc0, fq0⟩ := b5.get (k := 0) (by omega)
      have oc := of_call 1 (by omega)
      have e1 : (((1 : Nat) : Int) : Rat) = 1 := rfl
      rw [e1] at oc
      have g7 : semIdx H' 1 (.hd (H.nx + 1)) (.p (.v (.int .i64 0))) = some (.pe (H.nx + 1) 0 1 0) := by
        have := semIdx_hd (H := H') (k := 1) (j := 0) (r := H.nx + 1) (kd := .i64)
        rw [show ((0 : Nat) : Int) = 0 from rfl, htop] at this
        rw [this]; exact ixR_s (by simp; omega)
      have g8 : semIdx H' 3 (.hd j0) (.p (.v (.int .i64 0))) = some (.pe j0 0 3 0) := by
        have := semIdx_hd (H := H') (k := 3) (j := 0) (r := j0) (kd := .i64)
        rw [show ((0 : Nat) : Int) = 0 from rfl, b4] at this
        rw [this]; exact ixR_s (by simp [b5.1])
      have w0 := fq0.wr (p := 1)
      have hset := tab.set hwf (k := 0) (q := 1) hj0 b4
      simp (disch := omega) only [go_sem, h0, h1, h2, h6, h7, h20, h21, lt_f hj, g7, htop, map_hd_get hj0, ite_lt, ite_gt, ↓reduceIte, Nat.reduceEqDiff, Nat.reduceLT]
      refine ⟨_, oc, ?_⟩
      simp (disch := omega) only [go_sem, h0, h1, h2, h6, h7, g8, b4, mapp_get hc0, w0, ite_lt, ite_gt, ↓reduceIte, Nat.reduceEqDiff, Nat.reduceLT]
      rw [← List.map_set]
      generalize H'.set j0 (.row 32 3 ((es0.set 0 (fracV 1)).map .p)) = H1 at *
      clear htop tab hj0 b1 b2 b3 b4 b5 hc0 fq0 g7 g8 w0 hsub hnx
      refine awp_loop (fun k s H' => ∃ n, n + k = l.length ∧ Tab H H' (H.nx + 1) js (ps.length + 1) (wTab r l ps n) ∧ s 0 = .p (.sl (r.map Rul.V)) ∧ s 1 = .p (intsV l) ∧ s 2 = .p (intsV ps) ∧ s 6 = .pb H.nx 0 ∧ s 7 = .hd (H.nx + 1) ∧ s 38 = .p (.v (.int .i64 (l.length : Nat))) ∧ s 39 = .p (.v (.int .i64 (n : Nat)))) l.length ⟨0, by omega, hset, ?_⟩ ?_
      · simp only [go_sem, h0, h1, h2, h6, h7, ↓reduceIte, Nat.reduceEqDiff, Nat.reduceLT]
        rfl
      · rintro k s' H' ⟨n, hnk, tab, h0, h1, h2, h6, h7, h38, h39⟩
        unfold c59l2
        by_cases hn : n < l.length
        · have oc := options_call r l n hr hx hn (by omega)
          have en1 := addwi1 (a := n) (by omega)
          have hgo := hgo n hn
          have hsm := fun a b o => hsm n a b o hn
          simp only [go_sem, h0, h1, h2, h6, h7, h38, h39, lt_t hn, ↓reduceIte, Nat.reduceEqDiff, Nat.reduceLT]
          refine ⟨_, oc, ?_⟩
          have hrow : wTab r l ps (n + 1) = (optsS r l n).foldl (wOpt ps n) (wTab r l ps n) := by unfold wTab; rw [List.range_succ, List.foldl_append]; rfl
          generalize hos : optsS r l n = os at *
          have hosl : os.length ≤ 2 := by
            rw [← hos]; unfold optsS
            split
            · simp
            · split
              · split <;> simp
              · simp
          simp only [go_sem, h0, h1, h2, h6, h7, h38, h39, ↓reduceIte, Nat.reduceEqDiff, Nat.reduceLT]
          refine awp_loop (fun k2 s H' => ∃ t, t + k2 = os.length ∧ Tab H H' (H.nx + 1) js (ps.length + 1) ((os.take t).foldl (wOpt ps n) (wTab r l ps n)) ∧ s 0 = .p (.sl (r.map Rul.V)) ∧ s 1 = .p (intsV l) ∧ s 2 = .p (intsV ps) ∧ s 6 = .pb H.nx 0 ∧ s 7 = .hd (H.nx + 1) ∧ s 38 = .p (.v (.int .i64 (l.length : Nat))) ∧ s 39 = .p (.v (.int .i64 (n : Nat))) ∧
            s 9 = .p (.v (.int .i64 (n : Nat))) ∧ s 45 = .p (.sl (os.map Opt.V)) ∧ s 46 = .p (.v (.int .i64 (os.length : Nat))) ∧ s 47 = .p (.v (.int .i64 (t : Nat)))) os.length ⟨0, by omega, tab, ?_⟩ ?_
          · simp only [go_sem, h0, h1, h2, h6, h7, h38, h39, ↓reduceIte, Nat.reduceEqDiff, Nat.reduceLT]
            rfl
          · rintro k2 s' H' ⟨t, htk, tab, h0, h1, h2, h6, h7, h38, h39, h9, h45, h46, h47⟩
            unfold c59l1
            by_cases ht : t < os.length
            · have go : (os.map Opt.V)[t]? = some os[t].V := by simp [ht]
              have hom := hgo _ (List.getElem_mem ht)
              have et1 := addwi1 (a := t) (by omega)
              obtain ⟨jn, hjn⟩ : ∃ j, js[n]? = some j := ⟨js[n], List.getElem?_eq_getElem (by omega)⟩
              obtain ⟨b1, b2, b3, es1, b4, b5⟩ := tab.rows n jn hjn
              have hoV : os[t].V = optV (intsV os[t].wr) (.v (.int .i64 (os[t].pass : Nat))) os[t].w := rfl
              have gR : ixR (H.nx + 1) n 1 (some (.row 85 1 (js.map AV.hd))) = some (.pe (H.nx + 1) n 1 0) := ixR_s (by simp; omega)
              have rlt := tab.rlt
              simp (disch := omega) only [go_sem, h0, h1, h2, h6, h7, h38, h39, h9, h45, h46, h47, lt_t ht, go, hoV, z170, tab.top, gR, map_hd_get hjn, b4, List.length_map, b5.1, ite_lt, ite_gt, ↓reduceIte, Nat.reduceEqDiff, Nat.reduceLT]
              generalize hTt : (os.take t).foldl (wOpt ps n) (wTab r l ps n) = Tt at *
              have hjB : ∀ i j, js[i]? = some j → j < H'.nx := fun i j hj => (tab.rows i j hj).2.1
              have tab1 := tab.new hwf (.box 170 (.p (optV (intsV os[t].wr) (.v (.int .i64 (os[t].pass : Nat))) os[t].w)))
              have hsm := fun b hb => hsm t b os[t] (List.getElem?_eq_getElem ht) hb
              rw [hTt] at hsm
              have hopt : wOpt ps n Tt os[t] = (List.range (ps.length + 1)).foldl (wStep ps n os[t]) Tt := rfl
              have htake : (os.take (t + 1)).foldl (wOpt ps n) (wTab r l ps n) = wOpt ps n Tt os[t] := by rw [foldl_take ht, hTt]
              generalize hB : H'.nx = B at *
              have hBget : (H'.new (.box 170 (.p (optV (intsV os[t].wr) (.v (.int .i64 (os[t].pass : Nat))) os[t].w)))).get B = some (.box 170 (.p (optV (intsV os[t].wr) (.v (.int .i64 (os[t].pass : Nat))) os[t].w))) := by
                simp only [AHeap.new]; rw [if_pos hB.symm]
              have hBn : B < (H'.new (.box 170 (.p (optV (intsV os[t].wr) (.v (.int .i64 (os[t].pass : Nat))) os[t].w)))).nx := by simp only [AHeap.new]; omega
              generalize H'.new (.box 170 (.p (optV (intsV os[t].wr) (.v (.int .i64 (os[t].pass : Nat))) os[t].w))) = H2 at *
              generalize hx0 : os[t] = o at *
              obtain ⟨p1, p2, p3, p4⟩ := hom
              clear b4 b5 es1 b2
              refine awp_loop (fun k3 s H' => ∃ b, b + k3 = ps.length + 1 ∧ Tab H H' (H.nx + 1) js (ps.length + 1) ((List.range b).foldl (wStep ps n o) Tt) ∧ H'.get B = some (.box 170 (.p (optV (intsV o.wr) (.v (.int .i64 (o.pass : Nat))) o.w))) ∧ B < H'.nx ∧
                s 0 = .p (.sl (r.map Rul.V)) ∧ s 1 = .p (intsV l) ∧ s 2 = .p (intsV ps) ∧ s 6 = .pb H.nx 0 ∧ s 7 = .hd (H.nx + 1) ∧ s 38 = .p (.v (.int .i64 (l.length : Nat))) ∧ s 39 = .p (.v (.int .i64 (n : Nat))) ∧ s 9 = .p (.v (.int .i64 (n : Nat))) ∧ s 45 = .p (.sl (os.map Opt.V)) ∧ s 46 = .p (.v (.int .i64 (os.length : Nat))) ∧ s 47 = .p (.v (.int .i64 (t : Nat))) ∧
                s 11 = .pb B 0 ∧ s 54 = .hd jn ∧ s 55 = .p (.v (.int .i64 (ps.length + 1 : Nat))) ∧ s 56 = .p (.v (.int .i64 (b : Nat)))) (ps.length + 1) ⟨0, by omega, tab1, hBget, hBn, ?_⟩ ?_
              · simp only [go_sem, h0, h1, h2, h6, h7, h38, h39, h9, h45, h46, h47, ↓reduceIte, Nat.reduceEqDiff, Nat.reduceLT]
                first | rfl | exact ⟨rfl, rfl⟩
              · rintro k3 s' H3 ⟨b, hbk, tab, hgB, hBn, h0, h1, h2, h6, h7, h38, h39, h9, h45, h46, h47, h11, h54, h55, h56⟩
                unfold c59l0
                by_cases hb : b < ps.length + 1
                · have eb1 := addwi1 (a := b) (by omega)
                  have hfold : (List.range (b + 1)).foldl (wStep ps n o) Tt = wStep ps n o ((List.range b).foldl (wStep ps n o) Tt) b := by rw [List.range_succ, List.foldl_append]; rfl
                  have hsz := hsm b (by omega)
                  generalize (List.range b).foldl (wStep ps n o) Tt = T at *
                  obtain ⟨b1, b2, b3, es1, b4, b5⟩ := tab.rows n jn hjn
                  obtain ⟨c, hc, ca, cb, cd, rfl, wk⟩ := b5.get (k := b) hb
                  have gJ : ixR jn b 3 (some (.row 32 3 (es1.map .p))) = some (.pe jn b 3 0) := ixR_s (by simp [b5.1]; omega)
                  have sc := sgn_call (canF (T n b)) (canF_ok ((hsz n b).mono (by omega)))
                  rw [canF_V, canF_q] at sc
                  have sc := pcall_wk1 sc wk
                  have eto := addwi (a := b) (b := o.wr.length) (by omega)
                  have tab2 := tab.new hwf (.box 32 (.p (.agg [ca, cb, cd])))
                  have rlt := tab.rlt
                  simp (disch := omega) only [go_sem, h0, h1, h2, h6, h7, h38, h39, h9, h45, h46, h47, h11, h54, h55, h56, lt_t hb, b4, gJ, mapp_get hc, z32, hgB, eto, ite_lt, ite_gt, ↓reduceIte, Nat.reduceEqDiff, Nat.reduceLT]
                  refine ⟨_, sc, ?_⟩
                  have stay : canGo ps o b (T n b) = false → Tab H (H3.new (.box 32 (.p (.agg [ca, cb, cd])))) (H.nx + 1) js (ps.length + 1) ((List.range (b + 1)).foldl (wStep ps n o) Tt) := fun hcg => by
                    rw [hfold]
                    have : wStep ps n o T b = T := by unfold wStep; rw [hcg]; rfl
                    rw [this]; exact tab2
                  by_cases g1 : 0 < sgnQ (T n b)
                  · by_cases g2 : b + o.wr.length ≤ ps.length
                    · have hsl : slC 1 (ps.map intV) b (b + o.wr.length) = some (.p (intsV ((ps.take (b + o.wr.length)).drop b))) := by
                        rw [slC_s (by omega) (by simpa using g2) (all_ints ps), ← List.map_take, ← List.map_drop]; rfl
                      have hpv : intsV ps = .sl (ps.map intV) := rfl
                      have ec := equal_call ((ps.take (b + o.wr.length)).drop b) o.wr (by simp; omega)
                      have h2' := h2
                      rw [hpv] at h2'
                      simp (disch := omega) only [go_sem, h0, h1, h2', h6, h7, h38, h39, h9, h45, h46, h47, h11, h54, h55, h56, hgB, dec_t g1, le_t g2, hsl, ite_lt, ite_gt, ↓reduceIte, Nat.reduceEqDiff, Nat.reduceLT]
                      refine ⟨_, ec, ?_⟩
                      cases g3 : eqZ ((ps.take (b + o.wr.length)).drop b) o.wr
                      · have hcg : canGo ps o b (T n b) = false := by unfold canGo; rw [g3]; simp
                        simp (disch := omega) only [go_sem, h0, h1, h2', h6, h7, h38, h39, h9, h45, h46, h47, h11, h54, h55, h56, hgB, eb1, ite_lt, ite_gt, ↓reduceIte, Nat.reduceEqDiff, Nat.reduceLT]
                        exact ⟨k3 - 1, by omega, b + 1, by omega, stay hcg, rfl, rfl⟩
                      · have hcg : canGo ps o b (T n b) = true := by unfold canGo; rw [g3, decide_eq_true g1, decide_eq_true g2]; rfl
                        obtain ⟨jq, hjq⟩ : ∃ j, js[n + o.pass]? = some j := ⟨js[n + o.pass], List.getElem?_eq_getElem (by omega)⟩
                        obtain ⟨q1, q2, q3, es2, q4, q5⟩ := tab.rows (n + o.pass) jq hjq
                        obtain ⟨c2, hc2, qa, qb, qd, rfl, wk2⟩ := q5.get (k := b + o.wr.length) (by omega)
                        have hqB := hjB _ _ hjq
                        have enp := addwi (a := n) (b := o.pass) (by omega)
                        have gR2 : ixR (H.nx + 1) (n + o.pass) 1 (some (.row 85 1 (js.map AV.hd))) = some (.pe (H.nx + 1) (n + o.pass) 1 0) := ixR_s (by simp; omega)
                        have gQ : ixR jq (b + o.wr.length) 3 (some (.row 32 3 (es2.map .p))) = some (.pe jq (b + o.wr.length) 3 0) := ixR_s (by simp [q5.1]; omega)
                        have ow : o.w.OK 10000 := ⟨p4.n1, p4.d1, Nat.le_trans p4.nl (by omega), Nat.le_trans p4.dl (by omega)⟩
                        have mc := mulF_call (canF (T n b)) o.w (canF_ok ((hsz n b).mono (by omega))) ow
                        rw [canF_V, canF_q] at mc
                        have mc := pcall_wk2 mc wk
                        have hprod : SzQ (T n b * o.w.q) 10000 := ((hsz n b).mul (Fr.sz p4 (by omega))).mono (by omega)
                        have ac := addF_call (canF (T (n + o.pass) (b + o.wr.length))) (canF (T n b * o.w.q)) (canF_ok ((hsz _ _).mono (by omega))) (canF_ok hprod)
                        rw [canF_V, canF_V, canF_q, canF_q] at ac
                        have ac := pcall_wk2 ac wk2
                        have hgq : (H3.new (.box 32 (.p (.agg [ca, cb, cd])))).get jq = some (.row 32 3 (es2.map .p)) := by
                          simp only [AHeap.new]; rw [if_neg (by omega)]; exact q4
                        have tab3 := tab2.set hwf (k := b + o.wr.length) (q := T (n + o.pass) (b + o.wr.length) + T n b * o.w.q) hjq hgq
                        have hT3 : (List.range (b + 1)).foldl (wStep ps n o) Tt = fun i' k' => if i' = n + o.pass ∧ k' = b + o.wr.length then T (n + o.pass) (b + o.wr.length) + T n b * o.w.q else T i' k' := by
                          rw [hfold]; unfold wStep; rw [hcg]; rfl
                        have e3 := mapp_get hc2
                        simp (disch := omega) only [go_sem, h0, h1, h2', h6, h7, h38, h39, h9, h45, h46, h47, h11, h54, h55, h56, hgB, enp, tab.top, gR2, map_hd_get hjq, q4, gQ, e3, ite_lt, ite_gt, ↓reduceIte, Nat.reduceEqDiff, Nat.reduceLT]
                        refine ⟨_, mc, _, ac, ?_⟩
                        have nq : ∀ a b : Option AObj, (if B = jq then a else b) = b := fun a b => if_neg (by omega)
                        simp (disch := omega) only [go_sem, h0, h1, h2', h6, h7, h38, h39, h9, h45, h46, h47, h11, h54, h55, h56, hgB, gQ, q4, e3, eb1, nq, ite_lt, ite_gt, ↓reduceIte, Nat.reduceEqDiff, Nat.reduceLT]
                        refine ⟨k3 - 1, by omega, b + 1, by omega, ?_, rfl, rfl⟩
                        rw [hT3, ← List.map_set]
                        exact tab3
                    · have hcg : canGo ps o b (T n b) = false := by unfold canGo; rw [decide_eq_false g2]; simp
                      simp (disch := omega) only [go_sem, h0, h1, h2, h6, h7, h38, h39, h9, h45, h46, h47, h11, h54, h55, h56, hgB, dec_t g1, le_f g2, eb1, ite_lt, ite_gt, ↓reduceIte, Nat.reduceEqDiff, Nat.reduceLT]
                      exact ⟨k3 - 1, by omega, b + 1, by omega, stay hcg, rfl⟩
                  · have hcg : canGo ps o b (T n b) = false := by unfold canGo; rw [decide_eq_false g1]; rfl
                    simp (disch := omega) only [go_sem, h0, h1, h2, h6, h7, h38, h39, h9, h45, h46, h47, h11, h54, h55, h56, hgB, dec_f g1, eb1, ite_lt, ite_gt, ↓reduceIte, Nat.reduceEqDiff, Nat.reduceLT]
                    exact ⟨k3 - 1, by omega, b + 1, by omega, stay hcg, rfl⟩
                · have hb' : b = ps.length + 1 := by omega
                  rw [hb', ← hopt, ← htake] at tab
                  simp (disch := omega) only [go_sem, h0, h1, h2, h6, h7, h38, h39, h9, h45, h46, h47, h11, h54, h55, h56, lt_f hb, et1, ite_lt, ite_gt, ↓reduceIte, Nat.reduceEqDiff, Nat.reduceLT]
                  exact ⟨k2 - 1, by omega, t + 1, by omega, tab, rfl⟩
            · have ht' : t = os.length := by omega
              rw [ht', List.take_length, ← hrow] at tab
              simp only [go_sem, h0, h1, h2, h6, h7, h38, h39, h9, h45, h46, h47, lt_f ht, en1, ↓reduceIte, Nat.reduceEqDiff, Nat.reduceLT]
              exact ⟨k - 1, by omega, n + 1, by omega, tab, rfl⟩
        · have hn' : n = l.length := by omega
          subst hn'
          obtain ⟨jn, hjn⟩ : ∃ j, js[l.length]? = some j := ⟨js[l.length], List.getElem?_eq_getElem (by omega)⟩
          obtain ⟨b1, b2, b3, es1, b4, b5⟩ := tab.rows l.length jn hjn
          obtain ⟨c, hc, a, b, d, rfl, wk⟩ := b5.get (k := ps.length) (by omega)
          have gR : ixR (H.nx + 1) l.length 1 (some (.row 85 1 (js.map AV.hd))) = some (.pe (H.nx + 1) l.length 1 0) := ixR_s (by simp; omega)
          have gJ : ixR jn ps.length 3 (some (.row 32 3 (es1.map .p))) = some (.pe jn ps.length 3 0) := ixR_s (by simp [b5.1])
          obtain ⟨a', b', c', hres⟩ := tab.res
          simp (disch := omega) only [go_sem, h0, h1, h2, h6, h7, h38, h39, lt_f hn, tab.top, gR, map_hd_get hjn, b4, gJ, mapp_get hc, hres, ite_lt, ite_gt, ↓reduceIte, Nat.reduceEqDiff, Nat.reduceLT]
          exact ⟨.p _ _ wk, tab.sub.set' hwf (Nat.le_refl _) _⟩
end Bh
namespace Bh
open Go Go.Proofs
theorem clone119_nil (H : AHeap) : HCall Tryz.prog noY 119 [.p (.v (.slice none 0 0))] H fun r H1 => r = .p (.v (.slice none 0 0)) ∧ H1 = H := by
  refine hcall mixed k119n (by simp) fun s hw h => ?_
  have h0 : s 0 = .p (.v (.slice none 0 0)) := h 0 _ rfl
  unfold c119n
  simp only [go_sem, h0, ↓reduceIte, Nat.reduceEqDiff, Nat.reduceLT, show (true != false) = true from rfl]
  exact ⟨_, _, ⟨rfl, rfl⟩, .refl _, rfl, fun i o h => h⟩
theorem clone119 (es : List PV) (hne : es ≠ []) (hk : es.all (fun e => e.wid == 5) = true) (hb : es.length ≤ 1000000) (H : AHeap) : HCall Tryz.prog noY 119 [.p (.sl es)] H fun r H1 => r = .hd (H.nx + 1) ∧ H1 = (bump 1 H).new (.row 87 5 (es.map .p)) := by
  refine hcall mixed k119h (by simp) fun s hw h => ?_
  have h0 : s 0 = .p (.sl es) := h 0 _ rfl
  unfold c119h
  simp only [go_sem, h0, ↓reduceIte, Nat.reduceEqDiff, Nat.reduceLT]
  intro b hbe
  cases b
  · simp only [go_sem, h0, hk, ↓reduceIte, Nat.reduceEqDiff, Nat.reduceLT, Bool.bne_false]
    refine ⟨by omega, by omega, _, _, ⟨rfl, rfl⟩, .refl _, rfl, fun i o h => by rw [← new_del_bump hw (o := .row 87 5 [])] at h; exact h⟩
  · exact absurd (by simpa using hbe rfl) hne
end Bh
namespace Bh
open Go Go.Proofs
def combL : List (List Ent) → List (List Ent)
  | [] => [[]]
  | x :: xs => x.flatMap fun e => (combL xs).map (e :: ·)
theorem bump_get {k i : Nat} {H : AHeap} : (bump k H).get i = H.get i := rfl
theorem bump_nx {k : Nat} {H : AHeap} : (bump k H).nx = H.nx + k := rfl
structure ChE (l : List (List Ent)) (n0 b2 b3 y : Nat) (Y : YS) (R : List (List Ent) → AHeap → Prop) : Prop where
  st : ∀ past H H', (∀ i, i < n0 → H'.get i = H.get i) → R past H → R past H'
  x2 : ∀ past H, R past H → H.get b2 = some (.box 94 (.hd y))
  x3 : ∀ past H, R past H → H.get b3 = some (.box 94 (.cl 118 [.p (.ref (.sl (l.map entsV))), .pb b2 0, .pb b3 0]))
  lt : b2 < n0 ∧ b3 < n0
  yd : ∀ past c H, past ++ [c] <+: combL l → WF H → n0 ≤ H.nx → R past H → ∃ Pt, Y y [.p (entsV c)] H Pt ∧ ∀ r H', Pt r H' → r = .p (.v (.bool true)) ∧ R (past ++ [c]) H' ∧ n0 ≤ H'.nx
theorem pfx_at {done : List Ent} {past : List (List Ent)} {X : List Ent} {rest : List (List Ent)} {i n : Nat} (hi : i < X.length) {l : List (List Ent)} (hn : l.drop n = rest) :
    past ++ ((X.take i).flatMap fun e => (combL rest).map (e :: ·)).map (done ++ ·) ++ (combL (l.drop n)).map (done ++ [X[i]] ++ ·) <+: past ++ (combL (X :: rest)).map (done ++ ·) := by
  rw [hn]
  have : X = X.take i ++ X[i] :: X.drop (i + 1) := by rw [← List.drop_eq_getElem_cons hi, List.take_append_drop]
  refine ⟨((X.drop (i + 1)).flatMap fun e => (combL rest).map (e :: ·)).map (done ++ ·), ?_⟩
  show _ = past ++ (X.flatMap fun e => (combL rest).map (e :: ·)).map (done ++ ·)
  have h2 : (X.flatMap fun e => (combL rest).map (e :: ·)) = (X.take i ++ X[i] :: X.drop (i + 1)).flatMap fun e => (combL rest).map (e :: ·) := by rw [← this]
  rw [h2, List.flatMap_append, List.flatMap_cons]
  simp [List.append_assoc, List.map_map, Function.comp_def]
theorem ch118 {l : List (List Ent)} {n0 b2 b3 y : Nat} {Y : YS} {R : List (List Ent) → AHeap → Prop} (E : ChE l n0 b2 b3 y Y R) (hl : l.length ≤ 1000) (hls : ∀ x ∈ l, x.length ≤ 1000) :
    ∀ (k : Nat) (done : List Ent) (past : List (List Ent)) (H : AHeap) (j : Nat), done.length + k = l.length → done ≠ [] → R past H → n0 ≤ j → H.get j = some (.row 87 5 ((done.map Ent.V).map .p)) → n0 ≤ H.nx → past ++ (combL (l.drop done.length)).map (done ++ ·) <+: combL l →
      HCall Tryz.prog Y 118 [.hd j, .p (.ref (.sl (l.map entsV))), .pb b2 0, .pb b3 0] H fun r H' => r = .p (.v (.bool true)) ∧ R (past ++ (combL (l.drop done.length)).map (done ++ ·)) H' ∧ n0 ≤ H'.nx := by
  intro k
  induction k with
  | zero =>
    intro done past H j hk hd hR hj hrow hn hT
    refine hcall mixed k118f (by simp) fun s hw h => ?_
    have h0 : s 0 = .hd j := h 0 _ rfl
    have h1 : s 1 = .p (.ref (.sl (l.map entsV))) := h 1 _ rfl
    have h2 : s 2 = .pb b2 0 := h 2 _ rfl
    have h3 : s 3 = .pb b3 0 := h 3 _ rfl
    have g2 := E.x2 _ _ hR
    unfold c118f
    simp only [go_sem, h0, h1, h2, h3, hrow, g2, ↓reduceIte, Nat.reduceEqDiff, Nat.reduceLT]
    have hlt := E.lt
    have e0 : ((done.length : Int) == (l.length : Int)) = true := by simp; omega
    have n2 : ¬ b2 = j := by omega
    simp only [go_sem, h2, e0, get_del, n2, g2, ↓reduceIte, Nat.reduceEqDiff, Nat.reduceLT]
    have hst : R past (H.del j) := E.st _ _ _ (fun i hi => by rw [get_del, if_neg (by omega)]) hR
    have hwd : WF (H.del j) := fun i o h => by
      rw [get_del] at h; split at h
      · cases h
      · exact hw i o h
    have e1 : l.drop done.length = [] := by simp; omega
    obtain ⟨Pt, hy, hp⟩ := E.yd past done (H.del j) (by rw [e1] at hT; simpa [combL] using hT) hwd hn hst
    refine ⟨Pt, hy, fun r H' h => ?_⟩
    obtain ⟨rfl, hR', hn'⟩ := hp r H' h
    try simp only [go_sem, ↓reduceIte, Nat.reduceEqDiff, Nat.reduceLT]
    refine ⟨_, _, ⟨rfl, ?_, hn'⟩, .refl _, rfl, fun i o h => h⟩
    rw [e1]; simpa [combL] using hR'
  | succ k ih =>
    intro done past H j hk hd hR hj hrow hn hT
    refine hcall mixed k118f (by simp) fun s hw h => ?_
    have h0 : s 0 = .hd j := h 0 _ rfl
    have h1 : s 1 = .p (.ref (.sl (l.map entsV))) := h 1 _ rfl
    have h2 : s 2 = .pb b2 0 := h 2 _ rfl
    have h3 : s 3 = .pb b3 0 := h 3 _ rfl
    have e0 : ((done.length : Int) == (l.length : Int)) = false := by simp; omega
    have hlt := E.lt
    have hst : R past (H.del j) := E.st _ _ _ (fun i hi => by rw [get_del, if_neg (by omega)]) hR
    have e2 : done.length < l.length := by omega
    have e3 : (l.map entsV)[done.length]? = some (entsV (l[done.length])) := by simp [e2]
    unfold c118f
    simp only [go_sem, h0, h1, h2, h3, hrow, e0, e3, ↓reduceIte, Nat.reduceEqDiff, Nat.reduceLT, List.length_map, entsV]
    have hX := hls _ (List.getElem_mem e2)
    have eD : l.drop done.length = l[done.length] :: l.drop (done.length + 1) := List.drop_eq_getElem_cons e2
    revert hX eD
    generalize l[done.length] = X
    intro hX eD
    refine awp_loop (fun k s H' => ∃ i, i + k = X.length ∧ R (past ++ ((X.take i).flatMap fun e => (combL (l.drop (done.length + 1))).map (e :: ·)).map (done ++ ·)) H' ∧ n0 ≤ H'.nx ∧ s 0 = .p (.sl (done.map Ent.V)) ∧ s 3 = .pb b3 0 ∧ s 20 = .p (.sl (X.map Ent.V)) ∧ s 21 = .p (.v (.int .i64 (X.length : Nat))) ∧ s 22 = .p (.v (.int .i64 (i : Nat)))) X.length ⟨0, by omega, by simpa using hst, hn, ?_, ?_, ?_, ?_, ?_⟩ ?_
    · simp only [go_sem, ↓reduceIte, Nat.reduceEqDiff]
    · simp only [go_sem, h3, ↓reduceIte, Nat.reduceEqDiff]
    · simp only [go_sem, ↓reduceIte, Nat.reduceEqDiff]
    · simp only [go_sem, ↓reduceIte, Nat.reduceEqDiff]
    · simp only [go_sem, ↓reduceIte, Nat.reduceEqDiff]; rfl
    · rintro k' s' H' ⟨i, hik, hR', hn', q0, q3, q20, q21, q22⟩
      unfold c118fl0
      by_cases hi : i < X.length
      · have ei1 : IntKind.wrap .i64 ((i : Int) + 1) = ((i + 1 : Nat) : Int) := addwi1 (by omega)
        have gx := entGet hi
        have eV : (PV.agg [.v (.string X[i].w), intsV X[i].ph, .v (.bool X[i].wt.b), natV X[i].wt.n, natV X[i].wt.d]) = X[i].V := rfl
        have hk5 : (done.map Ent.V).all (fun e => e.wid == 5) = true := by simp [Ent.V, PV.wid]
        have hc := fun Hx => clone119 (done.map Ent.V) (by simpa using hd) hk5 (by simp; omega) Hx
        have b3n : ∀ a b : Option AObj, (if b3 = H'.nx then a else b) = b := fun a b => if_neg (by omega)
        have dlt : decide ((i : Int) < (X.length : Int)) = true := by simp; omega
        simp only [go_sem, q0, q3, q20, q21, q22, gx, z87, dlt, ↓reduceIte, Nat.reduceEqDiff, Nat.reduceLT]
        refine ⟨_, _, hc _, ?_, ?_, ?_, ?_⟩
        · exact fun hw => wf_new (wf_bump hw)
        · simp only [go_sem, bump_nx]; omega
        · intro x hx o ho
          simp only [go_sem, bump_nx] at hx ho
          simp only [bump_get] at ho
          have nn : ∀ a b : Option AObj, (if x = H'.nx + 1 + 1 then a else b) = b := fun a b => if_neg (by omega)
          simp only [go_sem, nn] at ho ⊢
          exact ho
        have rw1 : ∀ (P Q : Option AObj), (if H'.nx = H'.nx + 1 + 1 then P else Q) = Q := fun P Q => if_neg (by omega)
        have rw2 : ∀ (P Q : Option AObj), (if b3 = H'.nx + 1 + 1 then P else Q) = Q := fun P Q => if_neg (by omega)
        have rw3 : ∀ (P Q : Option AObj), (if b3 = H'.nx + 1 + 1 + 1 then P else Q) = Q := fun P Q => if_neg (by omega)
        have g3 := E.x3 _ _ hR'
        have hv : ∀ e : Ent, e.V.sub 0 true 5 = some e.V := fun e => rfl
        have hal : ([X[i].V].all fun e => e.wid == 5) = true := rfl
        have hv2 : ∀ e : Ent, (e.V.wid == 5) = true := fun e => rfl
        simp (disch := omega) only [go_sem, bump_get, bump_nx, q0, q3, q20, q21, q22, rw1, rw2, rw3, b3n, g3, hv, hv2, hk5, hal, ite_lt, ite_gt, ↓reduceIte, Nat.reduceEqDiff, Nat.reduceLT]
        have erow : List.map AV.p (List.map Ent.V done) ++ [AV.p X[i].V] = ((done ++ [X[i]]).map Ent.V).map .p := by simp
        rw [erow]
        refine ⟨rfl, by omega, by omega, _, ih (done ++ [X[i]]) _ _ (H'.nx + 1 + 1 + 1) (by simp; omega) (by simp) (E.st _ _ _ (fun x hx => ?_) hR') (by omega) ?_ (by simp only [go_sem, bump_nx]; omega) ?_, ?_⟩
        · have nn : ∀ a b : Option AObj, (if x = H'.nx + 1 + 1 + 1 then a else b) = b := fun a b => if_neg (by omega)
          have nn2 : ∀ a b : Option AObj, (if x = H'.nx + 1 + 1 then a else b) = b := fun a b => if_neg (by omega)
          have nn3 : ∀ a b : Option AObj, (if x = H'.nx then a else b) = b := fun a b => if_neg (by omega)
          simp only [go_sem, bump_get, bump_nx, nn, nn2, nn3]
        · simp only [go_sem, bump_get, bump_nx, ↓reduceIte]
        · rw [eD] at hT
          exact .trans (pfx_at hi (by simp)) hT
        · rintro r H2 ⟨rfl, hR2, hn2⟩
          simp only [go_sem, q0, q3, q20, q21, q22, ei1, show (!true) = false from rfl, ↓reduceIte, Nat.reduceEqDiff, Nat.reduceLT]
          refine ⟨k' - 1, by omega, i + 1, by omega, ?_, hn2, ?_⟩
          · have e1 : (done ++ [X[i]]).length = done.length + 1 := by simp
            rw [e1] at hR2
            have e2 : ∀ f : Ent → List (List Ent), (X.take (i + 1)).flatMap f = (X.take i).flatMap f ++ f X[i] := fun f => by
              rw [List.take_succ_eq_append_getElem hi, List.flatMap_append]; simp only [List.flatMap_cons, List.flatMap_nil, List.append_nil]
            rw [e2]
            simpa [List.append_assoc, List.map_map, Function.comp_def] using hR2
          · simp
      · have hi' : i = X.length := by omega
        have dlt : decide ((i : Int) < (X.length : Int)) = false := by simp; omega
        simp only [go_sem, q0, q3, q20, q21, q22, dlt, ↓reduceIte, Nat.reduceEqDiff, Nat.reduceLT]
        refine ⟨_, _, ⟨rfl, ?_, hn'⟩, .refl _, rfl, fun i o h => h⟩
        rw [eD]
        rw [hi', List.take_length] at hR'
        exact hR'
end Bh
namespace Bh
open Go Go.Proofs
theorem ch118z {l : List (List Ent)} {n0 b2 b3 y : Nat} {Y : YS} {R : List (List Ent) → AHeap → Prop} (E : ChE l n0 b2 b3 y Y R) (hl : l.length ≤ 1000) (hls : ∀ x ∈ l, x.length ≤ 1000)
    (h00 : l.length = 0 → ∀ H, WF H → n0 ≤ H.nx → R [] H → ∃ Pt, Y y [.p (.v (.slice none 0 0))] H Pt ∧ ∀ r H', Pt r H' → r = .p (.v (.bool true)) ∧ R [[]] H' ∧ n0 ≤ H'.nx)
    (H : AHeap) (hR : R [] H) (hn : n0 ≤ H.nx) :
      HCall Tryz.prog Y 118 [.p (.v (.slice none 0 0)), .p (.ref (.sl (l.map entsV))), .pb b2 0, .pb b3 0] H fun r H' => r = .p (.v (.bool true)) ∧ R (combL l) H' ∧ n0 ≤ H'.nx := by
  have hlt := E.lt
  refine hcall mixed k118z (by simp) fun s hw h => ?_
  have h0 : s 0 = .p (.v (.slice none 0 0)) := h 0 _ rfl
  have h1 : s 1 = .p (.ref (.sl (l.map entsV))) := h 1 _ rfl
  have h2 : s 2 = .pb b2 0 := h 2 _ rfl
  have h3 : s 3 = .pb b3 0 := h 3 _ rfl
  have g2 := E.x2 _ _ hR
  unfold c118z
  by_cases hz : l.length = 0
  · have e0 : (((0 : Nat) : Int) == (l.length : Int)) = true := by simp; omega
    simp only [go_sem, h0, h1, h2, h3, g2, e0, List.length_map, ↓reduceIte, Nat.reduceEqDiff, Nat.reduceLT]
    obtain ⟨Pt, hy, hp⟩ := h00 hz H hw hn hR
    refine ⟨Pt, hy, fun r H' h => ?_⟩
    obtain ⟨rfl, hR', hn'⟩ := hp r H' h
    try simp only [go_sem, ↓reduceIte, Nat.reduceEqDiff, Nat.reduceLT]
    refine ⟨_, _, ⟨rfl, ?_, hn'⟩, .refl _, rfl, fun i o h => h⟩
    have : l = [] := by simpa using hz
    rw [this]; simpa [combL] using hR'
  · have e0 : (((0 : Nat) : Int) == (l.length : Int)) = false := by simp; omega
    have e2 : 0 < l.length := by omega
    have e3 : (l.map entsV)[0]? = some (entsV (l[0])) := by simp [e2]
    simp only [go_sem, h0, h1, h2, h3, g2, e0, e3, List.length_map, entsV, ↓reduceIte, Nat.reduceEqDiff, Nat.reduceLT]
    have hX := hls _ (List.getElem_mem e2)
    have eD : l = l[0] :: l.drop 1 := by
      have := List.drop_eq_getElem_cons e2
      simpa using this
    revert hX eD
    generalize l[0] = X
    intro hX eD
    refine awp_loop (fun k s H' => ∃ i, i + k = X.length ∧ R ((X.take i).flatMap fun e => (combL (l.drop 1)).map (e :: ·)) H' ∧ n0 ≤ H'.nx ∧ s 0 = .p (.v (.slice none 0 0)) ∧ s 3 = .pb b3 0 ∧ s 20 = .p (.sl (X.map Ent.V)) ∧ s 21 = .p (.v (.int .i64 (X.length : Nat))) ∧ s 22 = .p (.v (.int .i64 (i : Nat)))) X.length ⟨0, by omega, by simpa using hR, hn, ?_, ?_, ?_, ?_, ?_⟩ ?_
    · simp only [go_sem, h0, ↓reduceIte, Nat.reduceEqDiff]
    · simp only [go_sem, h3, ↓reduceIte, Nat.reduceEqDiff]
    · simp only [go_sem, ↓reduceIte, Nat.reduceEqDiff]
    · simp only [go_sem, ↓reduceIte, Nat.reduceEqDiff]
    · simp only [go_sem, ↓reduceIte, Nat.reduceEqDiff]; rfl
    · rintro k' s' H' ⟨i, hik, hR', hn', q0, q3, q20, q21, q22⟩
      unfold c118zl0
      by_cases hi : i < X.length
      · have ei1 : IntKind.wrap .i64 ((i : Int) + 1) = ((i + 1 : Nat) : Int) := addwi1 (by omega)
        have gx := entGet hi
        have hc := fun Hx => clone119_nil Hx
        have b3n : ∀ a b : Option AObj, (if b3 = H'.nx then a else b) = b := fun a b => if_neg (by omega)
        have dlt : decide ((i : Int) < (X.length : Int)) = true := by simp; omega
        simp only [go_sem, q0, q3, q20, q21, q22, gx, z87, dlt, ↓reduceIte, Nat.reduceEqDiff, Nat.reduceLT]
        refine ⟨_, _, hc _, ?_, ?_, ?_, ?_⟩
        · exact fun hw => hw
        · simp only [go_sem]; omega
        · exact fun x hx o ho => ho
        have rw2 : ∀ (P Q : Option AObj), (if b3 = H'.nx + 1 then P else Q) = Q := fun P Q => if_neg (by omega)
        have g3 := E.x3 _ _ hR'
        have hv : ∀ e : Ent, e.V.sub 0 true 5 = some e.V := fun e => rfl
        have hal : ([X[i].V].all fun e => e.wid == 5) = true := rfl
        have hv2 : ∀ e : Ent, (e.V.wid == 5) = true := fun e => rfl
        simp (disch := omega) only [go_sem, q0, q3, q20, q21, q22, rw2, b3n, g3, hv, hv2, hal, ite_lt, ite_gt, ↓reduceIte, Nat.reduceEqDiff, Nat.reduceLT]
        have hk1 : [X[i]].length + (l.length - 1) = l.length := by simp; omega
        refine ⟨rfl, by omega, by omega, _, ch118 E hl hls (l.length - 1) [X[i]] _ _ (H'.nx + 1) hk1 (by simp) (E.st _ _ _ (fun x hx => ?_) hR') (by omega) ?_ (by simp only [go_sem]; omega) ?_, ?_⟩
        · have nn2 : ∀ a b : Option AObj, (if x = H'.nx + 1 then a else b) = b := fun a b => if_neg (by omega)
          have nn3 : ∀ a b : Option AObj, (if x = H'.nx then a else b) = b := fun a b => if_neg (by omega)
          simp only [go_sem, nn2, nn3]
        · simp only [go_sem, ↓reduceIte, List.map_cons, List.map_nil]
        · have := pfx_at (done := []) (past := []) hi (l := l) (n := 1) rfl
          rw [← eD] at this
          simpa [List.map_map, Function.comp_def] using this
        · rintro r H2 ⟨rfl, hR2, hn2⟩
          simp only [go_sem, q0, q3, q20, q21, q22, ei1, show (!true) = false from rfl, ↓reduceIte, Nat.reduceEqDiff, Nat.reduceLT]
          refine ⟨k' - 1, by omega, i + 1, by omega, ?_, hn2, ?_⟩
          · have e1 : [X[i]].length = 1 := rfl
            rw [e1] at hR2
            rw [List.take_succ_eq_append_getElem hi, List.flatMap_append]
            simp only [List.flatMap_cons, List.flatMap_nil, List.append_nil]
            exact hR2
          · simp
      · have hi' : i = X.length := by omega
        have dlt : decide ((i : Int) < (X.length : Int)) = false := by simp; omega
        simp only [go_sem, q0, q3, q20, q21, q22, dlt, ↓reduceIte, Nat.reduceEqDiff, Nat.reduceLT]
        refine ⟨_, _, ⟨rfl, ?_, hn'⟩, .refl _, rfl, fun i o h => h⟩
        rw [hi', List.take_length] at hR'
        rw [eD]
        exact hR'
end Bh
namespace Bh
open Go Go.Proofs
theorem choices_call (es : List PV) : PCall Tryz.prog 57 [.sl es] (.clo 117 [.ref (.sl es)]) := by
  refine pcall mixed k57 (by simp) fun H s hw h => ?_
  have h0 : s 0 = .p (.sl es) := h 0 _ rfl
  unfold c57
  simp only [go_sem, h0, ↓reduceIte, Nat.reduceEqDiff, Nat.reduceLT]
  exact ⟨.refl _, fun i o h => h⟩
structure ChC (l : List (List Ent)) (m0 y : Nat) (Y : YS) (R : List (List Ent) → AHeap → Prop) : Prop where
  st : ∀ past H H', (∀ i, i < m0 → H'.get i = H.get i) → R past H → R past H'
  yd : ∀ past c H, past ++ [c] <+: combL l → WF H → m0 ≤ H.nx → R past H → ∃ Pt, Y y [.p (entsV c)] H Pt ∧ ∀ r H', Pt r H' → r = .p (.v (.bool true)) ∧ R (past ++ [c]) H' ∧ H.nx ≤ H'.nx ∧ ∀ i, m0 ≤ i → i < H.nx → H'.get i = H.get i
  y0 : l.length = 0 → ∀ H, WF H → m0 ≤ H.nx → R [] H → ∃ Pt, Y y [.p (.v (.slice none 0 0))] H Pt ∧ ∀ r H', Pt r H' → r = .p (.v (.bool true)) ∧ R [[]] H' ∧ H.nx ≤ H'.nx ∧ ∀ i, m0 ≤ i → i < H.nx → H'.get i = H.get i
theorem ch117 {l : List (List Ent)} {y : Nat} {Y : YS} {R : List (List Ent) → AHeap → Prop} {H : AHeap} (C : ChC l H.nx y Y R) (hl : l.length ≤ 1000) (hls : ∀ x ∈ l, x.length ≤ 1000) (hR : R [] H) :
    HCall Tryz.prog Y 117 [.hd y, .p (.ref (.sl (l.map entsV)))] H fun r H' => R (combL l) H' := by
  refine hcall mixed k117 (by simp) fun s hw h => ?_
  have h0 : s 0 = .hd y := h 0 _ rfl
  have h1 : s 1 = .p (.ref (.sl (l.map entsV))) := h 1 _ rfl
  have z94 : zeroT Tryz.prog 94 = .v .nilFunc := by kernel_rfl
  unfold c117
  have mk1 : mkClo 118 [AV.p (PV.sl (List.map entsV l)).ref, AV.pb H.nx 0, AV.pb (H.nx + 1) 0] = .cl 118 [AV.p (PV.sl (List.map entsV l)).ref, AV.pb H.nx 0, AV.pb (H.nx + 1) 0] := rfl
  have mk2 : ((AV.cl 118 [AV.p (PV.sl (List.map entsV l)).ref, AV.pb H.nx 0, AV.pb (H.nx + 1) 0]).wid = 1 ∧ (AV.cl 118 [AV.p (PV.sl (List.map entsV l)).ref, AV.pb H.nx 0, AV.pb (H.nx + 1) 0]).ok1 = true) = True := eq_true ⟨rfl, rfl⟩
  have mk3 : (AV.p (PV.v Value.nilFunc)).wr 0 (AV.cl 118 [AV.p (PV.sl (List.map entsV l)).ref, AV.pb H.nx 0, AV.pb (H.nx + 1) 0]) = some (AV.cl 118 [AV.p (PV.sl (List.map entsV l)).ref, AV.pb H.nx 0, AV.pb (H.nx + 1) 0]) := rfl
  simp (disch := omega) only [go_sem, h0, h1, z94, mk1, mk2, mk3, ite_lt, ite_gt, ↓reduceIte, Nat.reduceEqDiff, Nat.reduceLT]
  have E : ChE l (H.nx + 2) H.nx (H.nx + 1) y Y fun past H' => R past H' ∧ H'.get H.nx = some (.box 94 (.hd y)) ∧ H'.get (H.nx + 1) = some (.box 94 (.cl 118 [.p (.ref (.sl (l.map entsV))), .pb H.nx 0, .pb (H.nx + 1) 0])) := by
    refine ⟨fun past H1 H2 hi h => ⟨C.st past H1 H2 (fun i h => hi i (by omega)) h.1, (hi _ (by omega)).trans h.2.1, (hi _ (by omega)).trans h.2.2⟩, fun past H1 h => h.2.1, fun past H1 h => h.2.2, ⟨by omega, by omega⟩, fun past c H1 hpf hw1 hn1 h => ?_⟩
    obtain ⟨Pt, hy, hp⟩ := C.yd past c H1 hpf hw1 (by omega) h.1
    refine ⟨Pt, hy, fun r H2 hr => ?_⟩
    obtain ⟨k1, k2, k3, k4⟩ := hp r H2 hr
    exact ⟨k1, ⟨k2, (k4 _ (by omega) (by omega)).trans h.2.1, (k4 _ (by omega) (by omega)).trans h.2.2⟩, by omega⟩
  refine ⟨_, ch118z E hl hls (fun hz H1 hw1 hn1 h => ?_) _ ⟨?_, ?_, ?_⟩ ?_, ?_⟩
  · obtain ⟨Pt, hy, hp⟩ := C.y0 hz H1 hw1 (by omega) h.1
    refine ⟨Pt, hy, fun r H2 hr => ?_⟩
    obtain ⟨k1, k2, k3, k4⟩ := hp r H2 hr
    exact ⟨k1, ⟨k2, (k4 _ (by omega) (by omega)).trans h.2.1, (k4 _ (by omega) (by omega)).trans h.2.2⟩, by omega⟩
  · refine C.st _ _ _ (fun i hi => ?_) hR
    simp (disch := omega) only [go_sem, ite_lt]
  · simp (disch := omega) only [go_sem, ite_lt, ite_gt, ↓reduceIte]
  · simp (disch := omega) only [go_sem, ite_lt, ite_gt, ↓reduceIte]
  · simp only [go_sem]; omega
  · rintro r H' ⟨_, h, _⟩
    exact ⟨_, _, by simpa using h.1, .refl _, rfl, fun i o h => h⟩
end Bh
namespace Bh
open Go Go.Proofs
theorem enters_look {P : Program} {h : Hint} {f : FuncId} {x : AC × Nat × List (Nat × Option (Bool × Nat))} (hl : look1 P h f = some x) : Enters P f := by
  unfold look1 at hl
  split at hl
  · rename_i fn hf
    unfold lookF at hl
    split at hl
    · cases hl
    · rename_i hname
      split at hl
      · rename_i c hb
        exact enters_of hf (by simpa using hname) hb
      · cases hl
  · cases hl
def sumQ (r : List Rul) (ps : List Int) (cs : List (List Ent)) : Rat := cs.foldl (fun a c => a + wtJ c * weightQ r (phJ c) ps) 0
def c18r : AC := .rf (.tmp 47) [48] (.ops [(.op ⟨(some 13), none, .mv, [(.tmp 48)]⟩)]) (.block 1 (.seq (.ops [(.op ⟨(some 50), none, .mv, [(.tmp 13)]⟩), (.op ⟨(some 51), none, (.call false), [(.func 58), (.tmp 50)]⟩), (.op ⟨(some 49), none, .mv, [(.tmp 51)]⟩), (.op ⟨(some 52), none, (.ext 0), [(.tmp 49)]⟩), (.op ⟨(some 53), none, (.ext 1), [(.tmp 49)]⟩), (.op ⟨(some 15), none, (.alloc 32), []⟩), (.op ⟨(some 14), none, .mv, [(.tmp 52)]⟩), (.op ⟨none, none, (.store 3), [(.tmp 15), (.tmp 53)]⟩)]) (.draw [⟨(some 54), none, (.load true 3), [(.tmp 12)]⟩, ⟨(some 55), none, (.load true 3), [(.tmp 15)]⟩, ⟨(some 56), none, (.load false 1), [(.tmp 5)]⟩, ⟨(some 57), none, .mv, [(.tmp 14)]⟩, ⟨(some 58), none, (.load false 1), [(.tmp 7)]⟩, ⟨(some 59), none, (.call false), [(.func 59), (.tmp 56), (.tmp 57), (.tmp 58)]⟩, ⟨(some 60), none, (.call false), [(.func 22), (.tmp 55), (.tmp 59)]⟩, ⟨(some 61), none, (.call false), [(.func 21), (.tmp 54), (.tmp 60)]⟩, ⟨none, none, (.store 3), [(.tmp 12), (.tmp 61)]⟩])))
structure WgH (r : List Rul) (ps : List Int) (l : List (List Ent)) : Prop where
  len : ∀ c ∈ combL l, c.length ≤ 1000 ∧ ∀ e ∈ c, e.OK 4
  wt : ∀ c ∈ combL l, PCall Tryz.prog 59 [.sl (r.map Rul.V), intsV (phJ c), intsV ps] (fracV (weightQ r (phJ c) ps)) ∧ SzQ (wtJ c) 10000 ∧ SzQ (weightQ r (phJ c) ps) 10000 ∧ SzQ (wtJ c * weightQ r (phJ c) ps) 10000
  sm : ∀ past, past <+: combL l → SzQ (sumQ r ps past) 10000
theorem weigh_rf {H1 : AHeap} {s : AS} {Q : Post} {b : Nat} (l : List (List Ent)) (r : List Rul) (ps : List Int) (hw : WgH r ps l) (hl : l.length ≤ 1000) (hls : ∀ x ∈ l, x.length ≤ 1000)
    (e5 : s 5 = .p (.ref (.sl (r.map Rul.V)))) (e7 : s 7 = .p (.ref (intsV ps))) (e12 : s 12 = .pb b 0) (e47 : s 47 = .p (.clo 117 [.ref (.sl (l.map entsV))])) (hb : b < H1.nx)
    (g12 : H1.get b = some (.box 32 (.p (.agg [.v (.bool false), .v (.slice none 0 0), .v (.slice none 0 0)]))))
    (hQ : ∀ H3, (∀ i, i < H1.nx → i ≠ b → H3.get i = H1.get i) → (∃ c, H3.get b = some (.box 32 (.p c)) ∧ FQ c (sumQ r ps (combL l))) → Q .normal s H3) : awp Tryz.prog noY 63 c18r s H1 Q := by
  unfold c18r
  refine ⟨rfl, 117, [.p (.ref (.sl (l.map entsV)))], by rw [ev_tmp, e47]; rfl, ?_, fun R => ⟨fun _ H3 => (∀ i, i < H1.nx → i ≠ b → H3.get i = H1.get i) ∧ (∃ c, H3.get b = some (.box 32 (.p c)) ∧ FQ c (sumQ r ps (combL l))) ∧ H3.get H1.nx = some (.loop R .ready none), fun Y' hle hY' => ?_, fun x H3 h3 => ?_⟩⟩
  · exact enters_look k117
  · have round : ∀ (x : PV) (past : List (List Ent)) (c : List Ent) (cc : PV) (H2 : AHeap), past ++ [c] <+: combL l → c ∈ combL l → PCall Tryz.prog 58 [x] (.tup [intsV (phJ c), fracV (wtJ c)]) → H1.nx + 1 ≤ H2.nx → (∀ (i : Nat), i < H1.nx → i ≠ b → H2.get i = H1.get i) → H2.get b = some (.box 32 (.p cc)) → FQ cc (sumQ r ps past) → H2.get H1.nx = some (.loop R .ready none) →
        Y' H1.nx [.p x] H2 fun v H' => v = .p (.v (.bool true)) ∧ ((∀ i, i < H1.nx → i ≠ b → H'.get i = H1.get i) ∧ (∃ c', H'.get b = some (.box 32 (.p c')) ∧ FQ c' (sumQ r ps (past ++ [c]))) ∧ H'.get H1.nx = some (.loop R .ready none)) ∧ H2.nx ≤ H'.nx ∧ ∀ i, H1.nx + 1 ≤ i → i < H2.nx → H'.get i = H2.get i := by
      intro x past c cc H2 hpf hc hjc hn2 h1 h2 h3 h4
      obtain ⟨wc, sz1, sz2, sz3⟩ := hw.wt c hc
      have mc := mulF_call (canF (wtJ c)) (canF (weightQ r (phJ c) ps)) (canF_ok sz1) (canF_ok sz2)
      have ac := addF_call (canF (sumQ r ps past)) (canF (wtJ c * weightQ r (phJ c) ps)) (canF_ok (hw.sm past (.trans ⟨[c], rfl⟩ hpf))) (canF_ok sz3)
      rw [canF_V, canF_q, canF_V, canF_q] at mc ac
      refine hY' _ _ _ rfl h4 ?_
      have es : setS s [48] [AV.p x] = s.upd 48 (.p x) := rfl
      have nb : ∀ P Q : Option AObj, (if b = H1.nx then P else Q) = Q := fun P Q => if_neg (by omega)
      have nb2 : ∀ P Q : Option AObj, (if b = H2.nx then P else Q) = Q := fun P Q => if_neg (by omega)
      have n12 : ∀ P Q : Option AObj, (if H1.nx = H2.nx then P else Q) = Q := fun P Q => if_neg (by omega)
      have n21 : ∀ P Q : Option AObj, (if H2.nx = H1.nx then P else Q) = Q := fun P Q => if_neg (by omega)
      have n1b : ∀ P Q : Option AObj, (if H1.nx = b then P else Q) = Q := fun P Q => if_neg (by omega)
      have n2b : ∀ P Q : Option AObj, (if H2.nx = b then P else Q) = Q := fun P Q => if_neg (by omega)
      have hs3 := h3.sub
      simp only [go_sem, es, e5, e7, e12, h4, ↓reduceIte, Nat.reduceEqDiff, Nat.reduceLT]
      refine ⟨_, hjc, ?_⟩
      simp only [go_sem, e5, e7, e12, h2, h4, hs3, z32, List.getElem?_cons_zero, List.getElem?_cons_succ, nb, nb2, n12, n21, n1b, n2b, ↓reduceIte, Nat.reduceEqDiff, Nat.reduceLT]
      have wkc : Wk cc (fracV (sumQ r ps past)) := by obtain ⟨_, _, _, _, h⟩ := h3; exact h
      refine ⟨_, wc, _, mc, _, pcall_wk2 ac wkc, ?_⟩
      have wf3 : ((fracV (sumQ r ps past + wtJ c * weightQ r (phJ c) ps)).wid = 3 ∧ (fracV (sumQ r ps past + wtJ c * weightQ r (phJ c) ps)).ok1 = true) = True := eq_true ⟨(FQ.frac _).wid.1, (FQ.frac _).wid.2.2⟩
      have wr3 := h3.wr (p := sumQ r ps past + wtJ c * weightQ r (phJ c) ps)
      have esum : sumQ r ps (past ++ [c]) = sumQ r ps past + wtJ c * weightQ r (phJ c) ps := by simp [sumQ]
      simp only [go_sem, wf3, wr3, nb, nb2, n12, n21, n1b, n2b, h4, ↓reduceIte, Nat.reduceEqDiff, Nat.reduceLT, true_and]
      refine ⟨⟨fun i hi hne => ?_, ⟨_, rfl, ?_⟩⟩, by omega, fun i h1i h2i => ?_⟩
      · have m1 : ∀ P Q : Option AObj, (if i = H1.nx then P else Q) = Q := fun P Q => if_neg (by omega)
        have m2 : ∀ P Q : Option AObj, (if i = H2.nx then P else Q) = Q := fun P Q => if_neg (by omega)
        have m3 : ∀ P Q : Option AObj, (if i = b then P else Q) = Q := fun P Q => if_neg hne
        simp only [m1, m2, m3]; exact h1 i hi hne
      · rw [esum]; exact .frac _
      · have m1 : ∀ P Q : Option AObj, (if i = H1.nx then P else Q) = Q := fun P Q => if_neg (by omega)
        have m2 : ∀ P Q : Option AObj, (if i = H2.nx then P else Q) = Q := fun P Q => if_neg (by omega)
        have m3 : ∀ P Q : Option AObj, (if i = b then P else Q) = Q := fun P Q => if_neg (by omega)
        simp only [m1, m2, m3]
    refine HCall.post (ch117 (R := fun past H3 => (∀ i, i < H1.nx → i ≠ b → H3.get i = H1.get i) ∧ (∃ c, H3.get b = some (.box 32 (.p c)) ∧ FQ c (sumQ r ps past)) ∧ H3.get H1.nx = some (.loop R .ready none)) ?_ hl hls ?_) fun x H3 h => h
    · refine ⟨fun past H2 H3 hi h => ?_, fun past c H2 hpf hw2 hn2 h => ?_, fun hz H2 hw2 hn2 h => ?_⟩
      · obtain ⟨h1, ⟨c, h2, h3⟩, h4⟩ := h
        have lt : ∀ i, i < H1.nx + 1 → H3.get i = H2.get i := fun i h => hi i (by simp only [go_sem]; omega)
        exact ⟨fun i hi hne => (lt i (by omega)).trans (h1 i hi hne), ⟨c, (lt b (by omega)).trans h2, h3⟩, (lt _ (by omega)).trans h4⟩
      · simp only [go_sem] at hn2
        obtain ⟨h1, ⟨cc, h2, h3⟩, h4⟩ := h
        refine ⟨fun v H' => v = .p (.v (.bool true)) ∧ ((∀ i, i < H1.nx → i ≠ b → H'.get i = H1.get i) ∧ (∃ c', H'.get b = some (.box 32 (.p c')) ∧ FQ c' (sumQ r ps (past ++ [c]))) ∧ H'.get H1.nx = some (.loop R .ready none)) ∧ H2.nx ≤ H'.nx ∧ ∀ i, H1.nx + 1 ≤ i → i < H2.nx → H'.get i = H2.get i, ?_, fun x H' h => h⟩
        have hc : c ∈ combL l := hpf.subset (by simp)
        exact round (entsV c) past c cc H2 hpf hc (joined_call c (hw.len c hc).1 (hw.len c hc).2) hn2 h1 h2 h3 h4
      · simp only [go_sem] at hn2
        obtain ⟨h1, ⟨cc, h2, h3⟩, h4⟩ := h
        have hl0 : l = [] := by simpa using hz
        have hpf : ([] : List (List Ent)) ++ [[]] <+: combL l := by rw [hl0]; exact List.prefix_rfl
        have hc : ([] : List Ent) ∈ combL l := hpf.subset (by simp)
        exact ⟨_, round (.v (.slice none 0 0)) [] [] cc H2 hpf hc (pcall_wk1 (joined_call [] (hw.len _ hc).1 (hw.len _ hc).2) .nil) hn2 h1 h2 h3 h4, fun x H' h => h⟩
    · refine ⟨fun i hi hne => ?_, ⟨_, ?_, .zero⟩, ?_⟩
      · simp (disch := omega) only [go_sem, ite_lt]
      · simp (disch := omega) only [go_sem, ite_lt]; exact g12
      · simp only [go_sem, ↓reduceIte]
  · refine ⟨.ready, none, h3.2.2, by simp, ?_⟩
    refine hQ _ (fun i hi hne => ?_) ?_
    · have nn : ∀ a b : Option AObj, (if i = H1.nx then a else b) = b := fun a b => if_neg (by omega)
      simp only [go_sem, nn]; exact h3.1 i hi hne
    · obtain ⟨c, h1, h2⟩ := h3.2.1
      have nn : ∀ x y : Option AObj, (if b = H1.nx then x else y) = y := fun x y => if_neg (by omega)
      exact ⟨c, by simp only [go_sem, nn]; exact h1, h2⟩
end Bh
namespace Bh
open Go Go.Proofs
def okB (es : List Ent) (r : List Rul) (n : Nat) (ps : List Int) : Bool := validB es && rulesB r && decide (n ≤ 40) && phonedB ps 400
def weighV (es : List Ent) (r : List Rul) (ws : List ByteArray) (ps : List Int) : PV :=
  if okB es r ws.length ps then (if (chosenS es ws).2 = 0 then .tup [fracV (sumQ r ps (combL (chosenS es ws).1)), .v (.int .i64 0)] else .tup [zF, .v (.int .i64 ((chosenS es ws).2 : Nat))]) else .tup [zF, .v (.int .i64 2)]
theorem bz32 : buildV (PV.agg [.v (.bool false), .v (.slice none 0 0), .v (.slice none 0 0)]) [] [] = some (.p (PV.agg [.v (.bool false), .v (.slice none 0 0), .v (.slice none 0 0)])) := rfl
theorem weigh_call (es : List Ent) (r : List Rul) (ws : List ByteArray) (ps : List Int) (he : es.length ≤ 100000) (hok : es.length ≤ 1000 → ∀ e ∈ es, e.OK 4) (hr : r.length ≤ 1000) (hx : ∀ x ∈ r, x.OK 4) (hw : ws.length ≤ 1000) (hp : ps.length ≤ 100000) (hg : okB es r ws.length ps = true → (chosenS es ws).2 = 0 → WgH r ps (chosenS es ws).1) :
    PCall Tryz.prog 18 [lexV es, .sl (r.map Rul.V), .sl (ws.map strV), intsV ps] (weighV es r ws ps) := by
  refine pcall mixed k18 (by simp) fun H s hwf h => ?_
  have h0 : s 0 = .p (lexV es) := h 0 _ rfl
  have h1 : s 1 = .p (.sl (r.map Rul.V)) := h 1 _ rfl
  have h2 : s 2 = .p (.sl (ws.map strV)) := h 2 _ rfl
  have h3 : s 3 = .p (intsV ps) := h 3 _ rfl
  have vc := valid_call es he hok
  have rc := rules_call r hr hx
  have pc := phoned_call ps 400 (by omega)
  unfold c18
  simp (disch := omega) only [go_sem, h0, h1, h2, h3, ite_lt, ite_gt, ↓reduceIte, Nat.reduceEqDiff, Nat.reduceLT]
  have n1 : (!false) = true := rfl
  have n2 : (!true) = false := rfl
  refine ⟨_, vc, ?_⟩
  cases hv : validB es
  · have hB : okB es r ws.length ps = false := by simp [okB, hv]
    simp (disch := omega) only [go_sem, n1, n2, h0, h1, h2, h3, z32, bz32, ite_lt, ite_gt, ↓reduceIte, Nat.reduceEqDiff, Nat.reduceLT, List.length_map, weighV, hB, Bool.false_eq_true]
    exact ⟨.refl _, fun i o hi => by have := hwf i o hi; simp (disch := omega) only [go_sem, ite_lt, hi]⟩
  simp (disch := omega) only [go_sem, n1, n2, h0, h1, h2, h3, ite_lt, ite_gt, ↓reduceIte, Nat.reduceEqDiff, Nat.reduceLT]
  refine ⟨_, rc, ?_⟩
  cases hrb : rulesB r
  · have hB : okB es r ws.length ps = false := by simp [okB, hrb]
    simp (disch := omega) only [go_sem, n1, n2, h0, h1, h2, h3, z32, bz32, ite_lt, ite_gt, ↓reduceIte, Nat.reduceEqDiff, Nat.reduceLT, List.length_map, weighV, hB, Bool.false_eq_true]
    exact ⟨.refl _, fun i o hi => by have := hwf i o hi; simp (disch := omega) only [go_sem, ite_lt, hi]⟩
  cases hwl : decide ((ws.length : Int) > 40)
  case true =>
    have hB : okB es r ws.length ps = false := by
      have : ¬ ws.length ≤ 40 := by have := of_decide_eq_true hwl; omega
      simp [okB, this]
    simp (disch := omega) only [go_sem, hwl, n1, n2, h0, h1, h2, h3, z32, bz32, ite_lt, ite_gt, ↓reduceIte, Nat.reduceEqDiff, Nat.reduceLT, List.length_map, weighV, hB, Bool.false_eq_true]
    exact ⟨.refl _, fun i o hi => by have := hwf i o hi; simp (disch := omega) only [go_sem, ite_lt, hi]⟩
  simp (disch := omega) only [go_sem, hwl, n1, n2, h0, h1, h2, h3, List.length_map, ite_lt, ite_gt, ↓reduceIte, Nat.reduceEqDiff, Nat.reduceLT]
  refine ⟨_, pc, ?_⟩
  cases hpb : phonedB ps 400
  · have hB : okB es r ws.length ps = false := by simp [okB, hpb]
    simp (disch := omega) only [go_sem, hwl, n1, n2, h0, h1, h2, h3, z32, bz32, ite_lt, ite_gt, ↓reduceIte, Nat.reduceEqDiff, Nat.reduceLT, List.length_map, weighV, hB, Bool.false_eq_true]
    exact ⟨.refl _, fun i o hi => by have := hwf i o hi; simp (disch := omega) only [go_sem, ite_lt, hi]⟩
  have hB : okB es r ws.length ps = true := by
    have : ws.length ≤ 40 := by have := of_decide_eq_false hwl; omega
    simp [okB, hv, hrb, hpb, this]
  simp (disch := omega) only [go_sem, hwl, n1, n2, h0, h1, h2, h3, List.length_map, ite_lt, ite_gt, ↓reduceIte, Nat.reduceEqDiff, Nat.reduceLT]
  have hel : es.length ≤ 1000 := by simp only [validB, Bool.and_eq_true, decide_eq_true_eq] at hv; exact hv.1.1
  have hok' := hok hel
  refine ⟨_, chosen_call es _ ws hel (fun e h => (hok' e h).ps) hw, ?_⟩
  unfold chosenV
  cases hc : (chosenS es ws).2 == 0
  · have hc' : ¬ (chosenS es ws).2 = 0 := by simpa using hc
    have hne : (((((chosenS es ws).2 : Nat) : Int) == (0 : Int))) = false := by simpa using hc'
    have hn2 : (((((chosenS es ws).2 : Nat) : Int) != (0 : Int))) = true := by simpa using hc'
    simp (disch := omega) only [go_sem, List.getElem?_cons_zero, List.getElem?_cons_succ, hne, hn2, hc', n1, n2, h0, h1, h2, h3, z32, bz32, ite_lt, ite_gt, ↓reduceIte, Nat.reduceEqDiff, Nat.reduceLT, weighV, hB]
    exact ⟨.refl _, fun i o hi => by have := hwf i o hi; simp (disch := omega) only [go_sem, ite_lt, hi]⟩
  · have hc' : (chosenS es ws).2 = 0 := by simpa using hc
    have hne : (((((chosenS es ws).2 : Nat) : Int) == (0 : Int))) = true := by simpa using hc'
    have hn2 : (((((chosenS es ws).2 : Nat) : Int) != (0 : Int))) = false := by simpa using hc'
    have hW : weighV es r ws ps = .tup [fracV (sumQ r ps (combL (chosenS es ws).1)), .v (.int .i64 0)] := by simp only [weighV, hB, hc', if_true]
    rw [hW]
    generalize hl : (chosenS es ws).1 = l
    simp (disch := omega) only [go_sem, List.getElem?_cons_zero, List.getElem?_cons_succ, hn2, n1, n2, h0, h1, h2, h3, z32, bz32, ite_lt, ite_gt, ↓reduceIte, Nat.reduceEqDiff, Nat.reduceLT]
    refine ⟨_, choices_call _, ?_⟩
    try simp (disch := omega) only [go_sem, ↓reduceIte, Nat.reduceEqDiff, Nat.reduceLT]
    have hg' := hg hB hc'
    rw [hl] at hg'
    have hll : l.length ≤ 1000 ∧ ∀ x ∈ l, x.length ≤ 1000 := by
      rw [← hl]
      unfold chosenS
      split
      · simp
      · split
        · simp
        · refine ⟨by simpa using hw, fun x hx => ?_⟩
          simp only [List.mem_map] at hx
          obtain ⟨w, _, rfl⟩ := hx
          exact Nat.le_trans entL_len hel
    refine weigh_rf (b := H.nx + 1) l r ps hg' hll.1 hll.2 ?_ ?_ ?_ ?_ ?_ ?_ fun H3 hlow h3 => ?_
    · simp only [go_sem, ↓reduceIte, Nat.reduceEqDiff]
    · simp only [go_sem, ↓reduceIte, Nat.reduceEqDiff]
    · simp only [go_sem, ↓reduceIte, Nat.reduceEqDiff]
    · simp only [go_sem, ↓reduceIte, Nat.reduceEqDiff]
    · simp only [go_sem]; omega
    · simp (disch := omega) only [go_sem, ite_lt, ite_gt, ↓reduceIte]
    · obtain ⟨c, g12, hq⟩ := h3
      have g8 : H3.get H.nx = some (.box 32 (.p (.agg [.v (.bool false), .v (.slice none 0 0), .v (.slice none 0 0)]))) := by
        rw [hlow H.nx (by simp only [go_sem]; omega) (by omega)]
        simp (disch := omega) only [go_sem, ite_lt, ite_gt, ↓reduceIte]
      have wc3 : (c.wid = 3 ∧ c.ok1 = true) = True := eq_true ⟨hq.wid.1, hq.wid.2.2⟩
      have wr3 : (AV.p (.agg [.v (.bool false), .v (.slice none 0 0), .v (.slice none 0 0)])).wr 0 (.p c) = some (.p c) := by obtain ⟨a, b, d, rfl, _⟩ := hq; exact wr_0 rfl rfl
      simp (disch := omega) only [go_sem, g8, g12, hq.sub, wc3, wr3, ite_lt, ite_gt, ↓reduceIte, Nat.reduceEqDiff, Nat.reduceLT]
      obtain ⟨a, b', d, hcq, wk⟩ := hq
      refine ⟨wk_tup2 wk (.refl _), fun i o hi => ?_⟩
      have hin := hwf i o hi
      simp (disch := omega) only [go_sem, ite_lt]
      rw [hlow i (by simp only [go_sem]; omega) (by omega)]
      simp (disch := omega) only [go_sem, ite_lt, hi]
end Bh
namespace Bh
open Go Go.Proofs
def c14l0 : AC := (.seq (.seq (.ops [.op ⟨some 24, none, .mv, [.tmp 5]⟩, .op ⟨some 25, none, .fld 0 false 1, [.tmp 2]⟩, .op ⟨some 26, none, .load false 1, [.tmp 25]⟩, .op ⟨some 27, none, .len false, [.tmp 26]⟩, .op ⟨some 28, none, .bin .lss, [.tmp 24, .tmp 27]⟩]) (.cond (.tmp 28) .skip (.exit 0))) (.seq (.block 1 (.seq (.ops [.op ⟨some 31, none, .fld 0 false 1, [.tmp 2]⟩, .op ⟨some 32, none, .load false 1, [.tmp 31]⟩, .op ⟨some 33, none, .mv, [.tmp 5]⟩, .op ⟨some 34, none, (.idx 5), [.tmp 32, .tmp 33]⟩, .op ⟨some 35, none, .load true 5, [.tmp 34]⟩, .op ⟨some 6, none, .alloc 87, []⟩, .op ⟨none, none, .store 5, [.tmp 6, .tmp 35]⟩]) (.seq (.ops [.op ⟨some 36, none, .fld 0 false 1, [.tmp 6]⟩, .op ⟨some 37, none, .load false 1, [.tmp 36]⟩, .op ⟨some 38, none, .len true, [.tmp 37]⟩, .op ⟨some 39, none, .bin .gtr, [.tmp 38, .const (.int .i64 60)]⟩, .op ⟨some 40, none, .mv, [.tmp 39]⟩, .op ⟨some 41, (some (40, false)), .fld 1 false 1, [.tmp 6]⟩, .op ⟨some 42, (some (40, false)), .load false 1, [.tmp 41]⟩, .op ⟨some 43, (some (40, false)), .len false, [.tmp 42]⟩, .op ⟨some 44, (some (40, false)), .bin .gtr, [.tmp 43, .const (.int .i64 60)]⟩, .op ⟨some 45, none, .pick, [.tmp 40, .const (.bool true), .tmp 44]⟩, .op ⟨some 46, none, .mv, [.tmp 45]⟩, .op ⟨some 47, (some (46, false)), .fld 2 true 3, [.tmp 6]⟩, .op ⟨some 48, (some (46, false)), .load true 3, [.tmp 47]⟩, .op ⟨some 49, (some (46, false)), .call false, [.func 51, .tmp 48]⟩, .op ⟨some 50, (some (46, false)), .un .not, [.tmp 49]⟩, .op ⟨some 51, none, .pick, [.tmp 46, .const (.bool true), .tmp 50]⟩]) (.cond (.tmp 51) (.seq (.ops [.op ⟨some 4, none, .mv, [.const (.bool false)]⟩]) .ret) .skip)))) (.ops [.op ⟨some 29, none, .mv, [.tmp 5]⟩, .op ⟨some 30, none, .bin .add, [.tmp 29, .const (.int .i64 1)]⟩, .op ⟨some 5, none, .mv, [.tmp 30]⟩])))
def c14 : AC := (.seq (.ops [.op ⟨some 2, none, .box true 24, [.tmp 0]⟩, .op ⟨some 4, none, .mv, [.const (.bool false)]⟩]) (.seq (.seq (.ops [.op ⟨some 7, none, .fld 0 false 1, [.tmp 2]⟩, .op ⟨some 8, none, .load false 1, [.tmp 7]⟩, .op ⟨some 9, none, .len false, [.tmp 8]⟩, .op ⟨some 10, none, .mv, [.tmp 1]⟩, .op ⟨some 11, none, .bin .gtr, [.tmp 9, .tmp 10]⟩, .op ⟨some 12, none, .mv, [.tmp 11]⟩, .op ⟨some 13, (some (12, true)), .fld 0 false 1, [.tmp 2]⟩, .op ⟨some 14, (some (12, true)), .load false 1, [.tmp 13]⟩, .op ⟨some 15, (some (12, true)), .len false, [.tmp 14]⟩, .op ⟨some 16, (some (12, true)), .bin .leq, [.tmp 15, .const (.int .i64 1000)]⟩, .op ⟨some 17, none, .pick, [.tmp 12, .tmp 16, .const (.bool false)]⟩, .op ⟨some 18, none, .mv, [.tmp 17]⟩, .op ⟨some 19, (some (18, false)), .fld 0 false 1, [.tmp 2]⟩, .op ⟨some 20, (some (18, false)), .load false 1, [.tmp 19]⟩, .op ⟨some 21, (some (18, false)), .len false, [.tmp 20]⟩, .op ⟨some 22, (some (18, false)), .bin .gtr, [.tmp 21, .const (.int .i64 1100)]⟩, .op ⟨some 23, none, .pick, [.tmp 18, .const (.bool true), .tmp 22]⟩]) (.cond (.tmp 23) (.seq (.ops [.op ⟨some 4, none, .mv, [.const (.bool false)]⟩]) .ret) .skip)) (.seq (.seq (.ops [.op ⟨some 5, none, .mv, [.const (.int .i64 0)]⟩]) (.block 0 (.loop c14l0))) (.seq (.ops [.op ⟨some 4, none, .mv, [.const (.bool true)]⟩]) .ret))))
theorem k14 : look1 Tryz.prog ⟨[], [], [], [], [], []⟩ 14 = some (c14, 52, [(4, none)]) := by kernel_rfl
def c15l0 : AC := (.seq (.seq (.ops [.op ⟨some 6, none, .mv, [.tmp 5]⟩, .op ⟨some 7, none, .mv, [.tmp 0]⟩, .op ⟨some 8, none, .len false, [.tmp 7]⟩, .op ⟨some 9, none, .bin .lss, [.tmp 6, .tmp 8]⟩, .op ⟨some 10, none, .mv, [.tmp 9]⟩, .op ⟨some 11, (some (10, true)), .mv, [.tmp 5]⟩, .op ⟨some 12, (some (10, true)), .mv, [.tmp 1]⟩, .op ⟨some 13, (some (10, true)), .bin .leq, [.tmp 11, .tmp 12]⟩, .op ⟨some 14, none, .pick, [.tmp 10, .tmp 13, .const (.bool false)]⟩]) (.cond (.tmp 14) .skip (.exit 0))) (.seq (.block 1 (.seq (.ops [.op ⟨some 17, none, .mv, [.tmp 0]⟩, .op ⟨some 18, none, .mv, [.tmp 5]⟩, .op ⟨some 19, none, (.idx 1), [.tmp 17, .tmp 18]⟩, .op ⟨some 20, none, .load false 1, [.tmp 19]⟩, .op ⟨some 21, none, .len true, [.tmp 20]⟩, .op ⟨some 22, none, .bin .gtr, [.tmp 21, .const (.int .i64 60)]⟩]) (.cond (.tmp 22) (.seq (.ops [.op ⟨some 4, none, .mv, [.const (.bool false)]⟩]) .ret) .skip))) (.ops [.op ⟨some 15, none, .mv, [.tmp 5]⟩, .op ⟨some 16, none, .bin .add, [.tmp 15, .const (.int .i64 1)]⟩, .op ⟨some 5, none, .mv, [.tmp 16]⟩])))
def c15 : AC := (.seq (.ops [.op ⟨some 4, none, .mv, [.const (.bool false)]⟩]) (.seq (.seq (.ops [.op ⟨some 5, none, .mv, [.const (.int .i64 0)]⟩]) (.block 0 (.loop c15l0))) (.seq (.ops [.op ⟨some 23, none, .mv, [.tmp 0]⟩, .op ⟨some 24, none, .len false, [.tmp 23]⟩, .op ⟨some 25, none, .mv, [.tmp 1]⟩, .op ⟨some 26, none, .bin .leq, [.tmp 24, .tmp 25]⟩, .op ⟨some 4, none, .mv, [.tmp 26]⟩]) .ret)))
theorem k15 : look1 Tryz.prog ⟨[], [], [], [], [], []⟩ 15 = some (c15, 27, [(4, none)]) := by kernel_rfl
def c16l0 : AC := (.seq (.seq (.ops [.op ⟨some 6, none, .mv, [.tmp 5]⟩, .op ⟨some 7, none, .fld 0 false 1, [.tmp 2]⟩, .op ⟨some 8, none, .load false 1, [.tmp 7]⟩, .op ⟨some 9, none, .len false, [.tmp 8]⟩, .op ⟨some 10, none, .bin .lss, [.tmp 6, .tmp 9]⟩]) (.cond (.tmp 10) .skip (.exit 0))) (.seq (.block 1 (.seq (.ops [.op ⟨some 13, none, .fld 0 false 1, [.tmp 2]⟩, .op ⟨some 14, none, .load false 1, [.tmp 13]⟩, .op ⟨some 15, none, .mv, [.tmp 5]⟩, .op ⟨some 16, none, (.idx 5), [.tmp 14, .tmp 15]⟩, .op ⟨some 17, none, .fld 1 false 1, [.tmp 16]⟩, .op ⟨some 18, none, .load false 1, [.tmp 17]⟩, .op ⟨some 19, none, .len false, [.tmp 18]⟩, .op ⟨some 20, none, .mv, [.tmp 1]⟩, .op ⟨some 21, none, .bin .gtr, [.tmp 19, .tmp 20]⟩]) (.cond (.tmp 21) (.seq (.ops [.op ⟨some 4, none, .mv, [.const (.bool true)]⟩]) .ret) .skip))) (.ops [.op ⟨some 11, none, .mv, [.tmp 5]⟩, .op ⟨some 12, none, .bin .add, [.tmp 11, .const (.int .i64 1)]⟩, .op ⟨some 5, none, .mv, [.tmp 12]⟩])))
def c16 : AC := (.seq (.ops [.op ⟨some 2, none, .box true 24, [.tmp 0]⟩, .op ⟨some 4, none, .mv, [.const (.bool false)]⟩]) (.seq (.seq (.ops [.op ⟨some 5, none, .mv, [.const (.int .i64 0)]⟩]) (.block 0 (.loop c16l0))) (.seq (.ops [.op ⟨some 4, none, .mv, [.const (.bool false)]⟩]) .ret)))
theorem k16 : look1 Tryz.prog ⟨[], [], [], [], [], []⟩ 16 = some (c16, 22, [(4, none)]) := by kernel_rfl
def c51 : AC := (.seq (.ops [.op ⟨some 1, none, .box true 32, [.tmp 0]⟩, .op ⟨some 2, none, .mv, [.const (.bool false)]⟩]) (.seq (.ops [.op ⟨some 3, none, .fld 1 false 1, [.tmp 1]⟩, .op ⟨some 4, none, .load false 1, [.tmp 3]⟩, .op ⟨some 5, none, .len false, [.tmp 4]⟩, .op ⟨some 6, none, .bin .leq, [.tmp 5, .const (.int .i64 4)]⟩, .op ⟨some 7, none, .mv, [.tmp 6]⟩, .op ⟨some 8, (some (7, true)), .fld 2 false 1, [.tmp 1]⟩, .op ⟨some 9, (some (7, true)), .load false 1, [.tmp 8]⟩, .op ⟨some 10, (some (7, true)), .len false, [.tmp 9]⟩, .op ⟨some 11, (some (7, true)), .bin .leq, [.tmp 10, .const (.int .i64 4)]⟩, .op ⟨some 12, none, .pick, [.tmp 7, .tmp 11, .const (.bool false)]⟩, .op ⟨some 2, none, .mv, [.tmp 12]⟩]) .ret))
theorem k51 : look1 Tryz.prog ⟨[], [], [], [], [], []⟩ 51 = some (c51, 13, [(2, none)]) := by kernel_rfl
def c52 : AC := (.seq (.ops [.op ⟨some 0, none, .alloc 24, []⟩, .op ⟨some 1, none, .mv, [.const (.slice none 0 0)]⟩]) (.seq (.ops [.op ⟨some 3, none, (.bsl false 3 1), [.const (.int .i64 1)]⟩, .op ⟨some 4, none, .call false, [.func 54, .const (.int .i64 1), .const (.int .i64 2)]⟩, .op ⟨some 5, none, (.build 87 [(0, (0, 1)), (1, (1, 1)), (2, (2, 3))]), [(.const (.string (.mk #[97]))), .tmp 3, .tmp 4]⟩, .op ⟨some 6, none, (.bsl false 3 1), [.const (.int .i64 2)]⟩, .op ⟨some 7, none, .call false, [.func 54, .const (.int .i64 1), .const (.int .i64 2)]⟩, .op ⟨some 8, none, (.build 87 [(0, (0, 1)), (1, (1, 1)), (2, (2, 3))]), [(.const (.string (.mk #[97]))), .tmp 6, .tmp 7]⟩, .op ⟨some 9, none, (.bsl false 3 1), [.const (.int .i64 3)]⟩, .op ⟨some 10, none, .call false, [.func 54, .const (.int .i64 1), .const (.int .i64 1)]⟩, .op ⟨some 11, none, (.build 87 [(0, (0, 1)), (1, (1, 1)), (2, (2, 3))]), [(.const (.string (.mk #[98]))), .tmp 9, .tmp 10]⟩, .op ⟨some 12, none, (.bsl false 87 5), [.tmp 5, .tmp 8, .tmp 11]⟩, .op ⟨some 13, none, (.build 24 [(0, (0, 1))]), [.tmp 12]⟩, .op ⟨some 2, none, .alloc 24, []⟩, .op ⟨none, none, .store 1, [.tmp 2, .tmp 13]⟩]) (.seq (.draw [⟨some 14, none, .load true 1, [.tmp 2]⟩, ⟨some 15, none, (.bsl false 3 1), [.const (.int .i64 1)]⟩, ⟨some 16, none, (.bsl false 3 1), [.const (.int .i64 4)]⟩, ⟨some 17, none, (.bsl false 3 1), [.const (.int .i64 3)]⟩, ⟨some 18, none, .call false, [.func 54, .const (.int .i64 1), .const (.int .i64 3)]⟩, ⟨some 19, none, (.build 59 [(0, (0, 1)), (1, (1, 1)), (3, (3, 1)), (4, (4, 3))]), [.tmp 15, .tmp 16, .tmp 17, .tmp 18]⟩, ⟨some 20, none, (.bsl false 59 7), [.tmp 19]⟩, ⟨none, none, .store 1, [.tmp 0, .tmp 14]⟩, ⟨some 1, none, .mv, [.tmp 20]⟩]) .ret)))
theorem k52 : look1 Tryz.prog ⟨[], [], [], [], [], []⟩ 52 = some (c52, 21, [(0, (some (true, 1))), (1, none)]) := by kernel_rfl
end Bh
namespace Bh
open Go Go.Proofs
def smallB (x : Fr) : Bool := decide (x.n.length ≤ 4) && decide (x.d.length ≤ 4)
theorem smallW_call (x : Fr) : PCall Tryz.prog 51 [x.V] (.v (.bool (smallB x))) := by
  refine pcall mixed k51 (by simp) fun H s hw h => ?_
  have h0 : s 0 = .p (.agg [.v (.bool x.b), natV x.n, natV x.d]) := h 0 _ rfl
  unfold c51
  have w4 : ∀ n : Nat, decide ((n : Int) ≤ 4) = decide (n ≤ 4) := fun n => by simp; omega
  have e : ∀ b : Bool, decide (x.n.length ≤ 4) = b → smallB x = (b && decide (x.d.length ≤ 4)) := fun b hb => by rw [smallB, hb]
  cases hn : decide (x.n.length ≤ 4)
  · rw [e _ hn]
    simp only [go_sem, h0, natV, w4, hn, Bool.false_and, List.getElem?_cons_zero, List.getElem?_cons_succ, ↓reduceIte, Nat.reduceEqDiff, Nat.reduceLT, List.length_map]
    exact ⟨.refl _, fun i o h => h⟩
  · rw [e _ hn]
    simp only [go_sem, h0, natV, w4, hn, Bool.true_and, List.getElem?_cons_zero, List.getElem?_cons_succ, ↓reduceIte, Nat.reduceEqDiff, Nat.reduceLT, List.length_map]
    exact ⟨.refl _, fun i o h => h⟩
def longB (es : List Ent) (n : Int) : Bool := es.any fun e => decide ((e.ph.length : Int) > n)
theorem long_call (es : List Ent) (n : Int) (hl : es.length ≤ 9223372036854775807) : PCall Tryz.prog 16 [lexV es, .v (.int .i64 n)] (.v (.bool (longB es n))) := by
  refine pcall mixed k16 (by simp) fun H s hw h => ?_
  have h0 : s 0 = .p (.agg [.sl (es.map Ent.V)]) := h 0 _ rfl
  have h1 : s 1 = .p (.v (.int .i64 n)) := h 1 _ rfl
  unfold c16
  simp only [go_sem, h0, h1, ↓reduceIte, Nat.reduceEqDiff, Nat.reduceLT]
  refine awp_loop (fun k s H' => ∃ i, i + k = es.length ∧ H' = H ∧ longB (es.take i) n = false ∧ s 2 = .p (.ref (.agg [.sl (es.map Ent.V)])) ∧ s 1 = .p (.v (.int .i64 n)) ∧ s 5 = .p (.v (.int .i64 (i : Nat)))) es.length ⟨0, by omega, rfl, rfl, ?_, ?_, ?_⟩ ?_
  · simp only [go_sem, ↓reduceIte, Nat.reduceEqDiff]
  · simp only [go_sem, h1, ↓reduceIte, Nat.reduceEqDiff]
  · simp only [go_sem, ↓reduceIte, Nat.reduceEqDiff]; rfl
  · rintro k s' H' ⟨i, hik, rfl, hL, q2, q1, q5⟩
    unfold c16l0
    by_cases hi : i < es.length
    · have ei1 : IntKind.wrap .i64 ((i : Int) + 1) = ((i + 1 : Nat) : Int) := addwi1 (by omega)
      have gx : (es.map Ent.V)[i]? = some (.agg [.v (.string es[i].w), .sl (es[i].ph.map intV), .v (.bool es[i].wt.b), natV es[i].wt.n, natV es[i].wt.d]) := entGet hi
      have dlt : decide ((i : Int) < (es.length : Int)) = true := by simp; omega
      have hiv : intsV es[i].ph = .sl (es[i].ph.map intV) := rfl
      have hT : longB (es.take (i + 1)) n = decide ((es[i].ph.length : Int) > n) := by
        unfold longB at hL ⊢
        rw [List.take_succ_eq_append_getElem hi, List.any_append, hL]; simp
      cases hd : decide ((es[i].ph.length : Int) > n)
      · simp only [go_sem, q1, q2, q5, gx, List.getElem?_cons_zero, List.getElem?_cons_succ, dlt, hd, ei1, List.length_map, ↓reduceIte, Nat.reduceEqDiff, Nat.reduceLT]
        exact ⟨k - 1, by omega, i + 1, by omega, by rw [hT, hd], rfl⟩
      · simp only [go_sem, q1, q2, q5, gx, List.getElem?_cons_zero, List.getElem?_cons_succ, dlt, hd, ei1, List.length_map, ↓reduceIte, Nat.reduceEqDiff, Nat.reduceLT]
        have : longB es n = true := by
          unfold longB; rw [List.any_eq_true]; exact ⟨es[i], List.getElem_mem hi, hd⟩
        rw [this]; exact ⟨.refl _, fun i o h => h⟩
    · have dlt : decide ((i : Int) < (es.length : Int)) = false := by simp; omega
      have hi' : i = es.length := by omega
      rw [hi', List.take_length] at hL
      simp only [go_sem, q1, q2, q5, List.getElem?_cons_zero, List.getElem?_cons_succ, dlt, hL, List.length_map, ↓reduceIte, Nat.reduceEqDiff, Nat.reduceLT]
      exact ⟨.refl _, fun i o h => h⟩
end Bh
namespace Bh
open Go Go.Proofs
def saidB (ws : List ByteArray) (n : Nat) : Bool := ((ws.take (n + 1)).all fun w => decide ((w.size : Int) ≤ 60)) && decide (ws.length ≤ n)
theorem said_call (ws : List ByteArray) (n : Nat) (hl : ws.length ≤ 9223372036854775807) (hn : n ≤ 100000) : PCall Tryz.prog 15 [.sl (ws.map strV), .v (.int .i64 (n : Nat))] (.v (.bool (saidB ws n))) := by
  refine pcall mixed k15 (by simp) fun H s hw h => ?_
  have h0 : s 0 = .p (.sl (ws.map strV)) := h 0 _ rfl
  have h1 : s 1 = .p (.v (.int .i64 (n : Nat))) := h 1 _ rfl
  unfold c15
  simp only [go_sem, h0, h1, ↓reduceIte, Nat.reduceEqDiff, Nat.reduceLT]
  refine awp_loop (fun k s H' => ∃ i, i + k = ws.length ∧ i ≤ n + 1 ∧ H' = H ∧ ((ws.take i).all fun w => decide ((w.size : Int) ≤ 60)) = true ∧ s 0 = .p (.sl (ws.map strV)) ∧ s 1 = .p (.v (.int .i64 (n : Nat))) ∧ s 5 = .p (.v (.int .i64 (i : Nat)))) ws.length ⟨0, by omega, by omega, rfl, rfl, ?_, ?_, ?_⟩ ?_
  · simp only [go_sem, h0, ↓reduceIte, Nat.reduceEqDiff]
  · simp only [go_sem, h1, ↓reduceIte, Nat.reduceEqDiff]
  · simp only [go_sem, ↓reduceIte, Nat.reduceEqDiff]; rfl
  · rintro k s' H' ⟨i, hik, hin, rfl, hL, q0, q1, q5⟩
    unfold c15l0
    by_cases hi : i < ws.length
    · have dlt : decide ((i : Int) < (ws.length : Int)) = true := by simp; omega
      by_cases hin' : i ≤ n
      · have dle : decide ((i : Int) ≤ (n : Int)) = true := by simp; omega
        have ei1 : IntKind.wrap .i64 ((i : Int) + 1) = ((i + 1 : Nat) : Int) := addwi1 (by omega)
        have gx : (ws.map strV)[i]? = some (.v (.string ws[i])) := by simp [hi, strV]
        have hT : ((ws.take (i + 1)).all fun w => decide ((w.size : Int) ≤ 60)) = decide ((ws[i].size : Int) ≤ 60) := by
          rw [List.take_succ_eq_append_getElem hi, List.all_append, hL]; simp
        cases hd : decide ((ws[i].size : Int) > 60)
        · simp only [go_sem, q0, q1, q5, gx, dlt, dle, hd, ei1, List.length_map, ↓reduceIte, Nat.reduceEqDiff, Nat.reduceLT]
          have := of_decide_eq_false hd
          exact ⟨k - 1, by omega, i + 1, by omega, by omega, by rw [hT]; simp; omega, rfl⟩
        · simp only [go_sem, q0, q1, q5, gx, dlt, dle, hd, ei1, List.length_map, ↓reduceIte, Nat.reduceEqDiff, Nat.reduceLT]
          have : saidB ws n = false := by
            have hd := of_decide_eq_true hd
            unfold saidB
            rw [Bool.and_eq_false_iff]; left
            rw [List.all_eq_false]
            exact ⟨ws[i], List.mem_take_iff_getElem.2 ⟨i, by omega, rfl⟩, by simp; omega⟩
          rw [this]; exact ⟨.refl _, fun i o h => h⟩
      · have dle : decide ((i : Int) ≤ (n : Int)) = false := by simp; omega
        have dl2 : decide ((ws.length : Int) ≤ (n : Int)) = false := by simp; omega
        have : saidB ws n = false := by
          have : decide (ws.length ≤ n) = false := by simp; omega
          rw [saidB, this, Bool.and_false]
        simp only [go_sem, q0, q1, q5, dlt, dle, dl2, this, List.length_map, ↓reduceIte, Nat.reduceEqDiff, Nat.reduceLT]
        exact ⟨.refl _, fun i o h => h⟩
    · have dlt : decide ((i : Int) < (ws.length : Int)) = false := by simp; omega
      have hi' : i = ws.length := by omega
      have : saidB ws n = decide ((ws.length : Int) ≤ (n : Int)) := by
        have e1 : ws.take (n + 1) = ws := List.take_of_length_le (by omega)
        rw [hi', List.take_length] at hL
        rw [saidB, e1, hL, Bool.true_and]; simp
      rw [this]
      simp only [go_sem, q0, q1, q5, dlt, List.length_map, ↓reduceIte, Nat.reduceEqDiff, Nat.reduceLT]
      exact ⟨.refl _, fun i o h => h⟩
end Bh
