/- Proved: part 4 of the proof that the law RationalLimits returns true at all its arguments (no further conditions). -/
import Derived.Test.YtfbahcfojiaeaaaGreatDoorT2
import Derived.Lib.ItoaNum
import Derived.Lib.AtoiAll
import Derived.Test.YtfbahcfojiaeaaaGreatDoorT1
import Derived.Test.YtfbahcfojiaeaaaGreatDoorProg

set_option linter.unusedVariables false
set_option linter.unusedSimpArgs false
namespace Go.Proofs.YtfbahcfojiaeaaaGreatDoor
open Go Th Go.Proofs
def val (b : Nat) : List Nat → Nat
  | [] => 0
  | d :: r => d + b * val b r
def toL (b : Nat) (n : Nat) : List Nat :=
  if h : n = 0 ∨ b < 2 then [] else n % b :: toL b (n / b)
termination_by n
decreasing_by
  have : 2 ≤ b := by omega
  exact Nat.div_lt_self (by omega) this
theorem toL_zero (b : Nat) : toL b 0 = [] := by unfold toL; simp
theorem toL_pos {b n : Nat} (hb : 2 ≤ b) (h : n ≠ 0) : toL b n = n % b :: toL b (n / b) := by
  conv => lhs; unfold toL
  rw [dif_neg (by omega)]
theorem val_toL {b : Nat} (hb : 2 ≤ b) (n : Nat) : val b (toL b n) = n := by
  induction n using Nat.strongRecOn with
  | _ n ih =>
    by_cases h : n = 0
    · subst h; rw [toL_zero]; rfl
    · rw [toL_pos hb h, val, ih (n / b) (Nat.div_lt_self (by omega) hb)]
      exact Nat.mod_add_div n b
theorem toL_lt {b : Nat} (hb : 2 ≤ b) (n : Nat) : ∀ d ∈ toL b n, d < b := by
  induction n using Nat.strongRecOn with
  | _ n ih =>
    by_cases h : n = 0
    · subst h; rw [toL_zero]; intro d hd; cases hd
    · rw [toL_pos hb h]
      intro d hd
      rcases List.mem_cons.1 hd with rfl | hd
      · exact Nat.mod_lt _ (by omega)
      · exact ih (n / b) (Nat.div_lt_self (by omega) hb) d hd
theorem toL_eq_nil {b n : Nat} (hb : 2 ≤ b) : toL b n = [] ↔ n = 0 := by
  constructor
  · intro h
    have := val_toL hb n
    rw [h] at this
    exact this.symm
  · rintro rfl; exact toL_zero b
theorem val_append (b : Nat) : ∀ (x y : List Nat), val b (x ++ y) = val b x + b ^ x.length * val b y
  | [], y => by simp [val]
  | d :: x, y => by
    simp only [List.cons_append, val, List.length_cons, val_append b x y, Nat.pow_succ]
    rw [Nat.mul_add, ← Nat.mul_assoc, Nat.mul_comm (b ^ x.length) b]; omega
theorem val_snoc (b : Nat) (x : List Nat) (d : Nat) : val b (x ++ [d]) = val b x + b ^ x.length * d := by
  rw [val_append]; simp [val]
theorem val_zeros (b k : Nat) : val b (List.replicate k 0) = 0 := by
  induction k with
  | zero => rfl
  | succ k ih => simp [List.replicate_succ, val, ih]
theorem val_lt {b : Nat} (hb : 2 ≤ b) : ∀ (l : List Nat), (∀ d ∈ l, d < b) → val b l < b ^ l.length
  | [], _ => by simp [val]
  | d :: r, h => by
    have h1 := val_lt hb r fun x hx => h x (List.mem_cons_of_mem _ hx)
    have h2 := h d (List.mem_cons_self ..)
    simp only [val, List.length_cons, Nat.pow_succ]
    have : b * val b r + b ≤ b ^ r.length * b := by
      rw [Nat.mul_comm (b ^ r.length) b, ← Nat.mul_succ]
      exact Nat.mul_le_mul_left b h1
    omega
theorem toL_val {b : Nat} (hb : 2 ≤ b) : ∀ (l : List Nat), (∀ d ∈ l, d < b) → l.getLast? ≠ some 0 → toL b (val b l) = l
  | [], _, _ => toL_zero b
  | d :: r, h, hl => by
    have hd := h d (List.mem_cons_self ..)
    have hr : r.getLast? ≠ some 0 := by
      intro e
      cases r with
      | nil => cases e
      | cons x r => rw [List.getLast?_cons_cons] at hl; exact hl e
    have ih := toL_val hb r (fun x hx => h x (List.mem_cons_of_mem _ hx)) hr
    have hne : val b (d :: r) ≠ 0 := by
      intro e
      simp only [val, Nat.add_eq_zero_iff, Nat.mul_eq_zero] at e
      have hv : val b r = 0 := by omega
      rw [hv, toL_zero] at ih
      rw [← ih] at hl
      exact hl (by rw [e.1]; rfl)
    rw [toL_pos hb hne]
    simp only [val]
    rw [Nat.add_mul_mod_self_left, Nat.mod_eq_of_lt hd, Nat.add_mul_div_left _ _ (by omega), Nat.div_eq_of_lt hd, Nat.zero_add, ih]
theorem val_snoc_zero (b : Nat) (l : List Nat) : val b (l ++ [0]) = val b l := by rw [val_snoc]; simp
theorem toL_len {b : Nat} (hb : 2 ≤ b) (n k : Nat) : (toL b n).length ≤ k ↔ n < b ^ k := by
  induction k generalizing n with
  | zero =>
    rw [Nat.pow_zero]
    constructor
    · intro h
      have : toL b n = [] := List.eq_nil_of_length_eq_zero (by omega)
      rw [toL_eq_nil hb] at this; omega
    · intro h
      have : n = 0 := by omega
      subst this
      rw [toL_zero]; exact Nat.le_refl _
  | succ k ih =>
    by_cases h : n = 0
    · subst h; rw [toL_zero]; simp; exact Nat.pow_pos (by omega)
    · rw [toL_pos hb h, List.length_cons, Nat.succ_le_succ_iff, ih, Nat.pow_succ, Nat.mul_comm, Nat.div_lt_iff_lt_mul (by omega), Nat.mul_comm]
theorem toL_lt_len {b : Nat} (hb : 2 ≤ b) {x y : Nat} (h : (toL b x).length < (toL b y).length) : x < y := by
  have h1 := (toL_len hb x (toL b x).length).1 (Nat.le_refl _)
  have h2 : ¬ y < b ^ (toL b x).length := fun q => by have := (toL_len hb y _).2 q; omega
  omega
theorem toL_last {b : Nat} (hb : 2 ≤ b) (n : Nat) : (toL b n).getLast? ≠ some 0 := by
  induction n using Nat.strongRecOn with
  | _ n ih =>
    by_cases h : n = 0
    · subst h; rw [toL_zero]; simp
    · rw [toL_pos hb h]
      by_cases h2 : n / b = 0
      · rw [h2, toL_zero]
        have : n < b := by
          rcases (Nat.div_eq_zero_iff).1 h2 with q | q <;> omega
        rw [Nat.mod_eq_of_lt this]
        simpa using h
      · have := ih (n / b) (Nat.div_lt_self (by omega) hb)
        rw [toL_pos hb h2] at this ⊢
        rw [List.getLast?_cons_cons]
        exact this
theorem take_succ_getD {l : List Nat} {i : Nat} (h : i < l.length) : l.take (i + 1) = l.take i ++ [l.getD i 0] := by
  rw [List.take_succ_eq_append_getElem h, List.getD_eq_getElem?_getD, List.getElem?_eq_getElem h]; rfl
theorem val_take_succ (b : Nat) {l : List Nat} {i : Nat} (h : i < l.length) : val b (l.take (i + 1)) = val b (l.take i) + b ^ i * l.getD i 0 := by
  rw [take_succ_getD h, val_snoc, List.length_take, Nat.min_eq_left (by omega)]
theorem val_take_lt {b : Nat} (hb : 2 ≤ b) {l : List Nat} (hl : ∀ d ∈ l, d < b) {i : Nat} (h : i ≤ l.length) : val b (l.take i) < b ^ i := by
  have := val_lt hb (l.take i) fun x hx => hl x (List.mem_of_mem_take hx)
  rwa [List.length_take, Nat.min_eq_left h] at this
theorem getD_lt {b : Nat} (hb : 2 ≤ b) {l : List Nat} (hl : ∀ d ∈ l, d < b) (i : Nat) : l.getD i 0 < b := by
  rw [List.getD_eq_getElem?_getD]
  cases h : l[i]? with
  | none => simp; omega
  | some x => exact hl x (List.mem_of_getElem? h)
theorem val_drop (b : Nat) (l : List Nat) (i : Nat) (h : i ≤ l.length) : val b l = val b (l.take i) + b ^ i * val b (l.drop i) := by
  conv => lhs; rw [← List.take_append_drop i l]
  rw [val_append, List.length_take, Nat.min_eq_left h]
theorem set_take {l : List Nat} {i : Nat} (d : Nat) (h : i < l.length) : (l.set i d).take (i + 1) = l.take i ++ [d] := by
  rw [take_succ_getD (by rw [List.length_set]; exact h), List.take_set_of_le (Nat.le_refl _), List.getD_eq_getElem?_getD, List.getElem?_set_self h]; rfl
theorem set_lt {b : Nat} {l : List Nat} (hl : ∀ d ∈ l, d < b) {x : Nat} (hx : x < b) (i : Nat) : ∀ d ∈ l.set i x, d < b := by
  intro d hd
  rcases List.mem_or_eq_of_mem_set hd with h | h
  · exact hl d h
  · rw [h]; exact hx
theorem val_set (b : Nat) {l : List Nat} {i : Nat} (d : Nat) (h : i < l.length) : val b (l.set i d) + b ^ i * l.getD i 0 = val b l + b ^ i * d := by
  have h1 := val_drop b (l.set i d) (i + 1) (by rw [List.length_set]; omega)
  have h2 := val_drop b l (i + 1) (by omega)
  rw [set_take d h, List.drop_set_of_lt (by omega), val_snoc, List.length_take, Nat.min_eq_left (by omega)] at h1
  rw [val_take_succ b h] at h2
  omega
theorem rep_lt {b : Nat} (hb : 2 ≤ b) (n : Nat) : ∀ d ∈ List.replicate n 0, d < b := by
  intro d hd
  rw [List.mem_replicate] at hd
  omega
theorem val_take_succ' (b : Nat) (l : List Nat) (i : Nat) : val b (l.take (i + 1)) = val b (l.take i) + b ^ i * l.getD i 0 := by
  by_cases h : i < l.length
  · exact val_take_succ b h
  · rw [List.take_of_length_le (by omega), List.take_of_length_le (by omega), List.getD_eq_getElem?_getD, List.getElem?_eq_none (by omega)]; simp
theorem getD_out {l : List Nat} {i : Nat} (h : l.length ≤ i) : l.getD i 0 = 0 := by rw [List.getD_eq_getElem?_getD, List.getElem?_eq_none h]; rfl
theorem digit_step (b i v c s : Nat) (hb : 0 < b) : v + b ^ i * (s % b) + b ^ (i + 1) * (s / b) = v + b ^ i * s := by
  rw [Nat.pow_succ, Nat.mul_assoc, Nat.add_assoc, ← Nat.mul_add, Nat.mod_add_div]
theorem take_full {l : List Nat} {i : Nat} (h : l.length = i + 1) (d : Nat) : l.set i d = l.take i ++ [d] := by
  have := set_take d (l := l) (i := i) (by omega)
  rw [List.take_of_length_le (by rw [List.length_set]; omega)] at this
  exact this
end Go.Proofs.YtfbahcfojiaeaaaGreatDoor


set_option linter.unusedVariables false
set_option linter.unusedSimpArgs false
namespace Go.Proofs.YtfbahcfojiaeaaaGreatDoor
open Go Th Go.Proofs
theorem hT2 : 2 ≤ 10 := by decide
def ch (d : Nat) : UInt8 := UInt8.ofNat (48 + d)
theorem ch_toNat {d : Nat} (h : d < 10) : (ch d).toNat = 48 + d := by
  unfold ch; rw [UInt8.toNat_ofNat']; omega
def DL (a : Nat) : List Nat := (toL 10 a).reverse
abbrev dec (a : Nat) : List UInt8 := Lib.decDigits a
theorem dec_small {a : Nat} (h : a < 10) : dec a = [ch a] := by unfold dec; rw [Lib.decDigits, dif_pos h]; rfl
theorem dec_big {a : Nat} (h : 10 ≤ a) : dec a = dec (a / 10) ++ [ch (a % 10)] := by
  unfold dec; rw [Lib.decDigits, dif_neg (by omega)]; rfl
theorem dec_zero : dec 0 = [48] := dec_small (by omega)
theorem toL_dig {x : Nat} (h0 : x ≠ 0) (hx : x < 10) : toL 10 x = [x] := by
  rw [toL_pos hT2 h0, Nat.mod_eq_of_lt hx, Nat.div_eq_of_lt hx, toL_zero]
theorem dec_pos (a : Nat) (h : a ≠ 0) : dec a = (DL a).map ch := by
  induction a using Nat.strongRecOn with
  | _ a ih =>
    unfold DL
    by_cases h1 : a < 10
    · rw [dec_small h1, toL_dig h h1]; rfl
    · rw [dec_big (by omega), ih (a / 10) (by omega) (by omega), toL_pos hT2 h, List.reverse_cons, List.map_append]; rfl
theorem DL_lt (a : Nat) : ∀ d ∈ DL a, d < 10 := fun d h => toL_lt hT2 a d (List.mem_reverse.1 h)
theorem DL_zero : DL 0 = [] := by unfold DL; rw [toL_zero]; rfl
theorem DL_nil {a : Nat} : DL a = [] ↔ a = 0 := by unfold DL; rw [List.reverse_eq_nil_iff, toL_eq_nil hT2]
theorem DL_len (a k : Nat) : (DL a).length ≤ k ↔ a < 10 ^ k := by unfold DL; rw [List.length_reverse, toL_len hT2]
def vb (l : List Nat) : Nat := val 10 l.reverse
theorem vb_nil : vb [] = 0 := rfl
theorem vb_append (x y : List Nat) : vb (x ++ y) = vb x * 10 ^ y.length + vb y := by
  unfold vb; rw [List.reverse_append, val_append, List.length_reverse, Nat.mul_comm]; omega
theorem vb_cons (d : Nat) (l : List Nat) : vb (d :: l) = d * 10 ^ l.length + vb l := by
  have := vb_append [d] l
  rw [show vb [d] = d from by simp [vb, val]] at this
  exact this
theorem vb_DL (a : Nat) : vb (DL a) = a := by unfold vb DL; rw [List.reverse_reverse, val_toL hT2]
theorem vb_lt (l : List Nat) (h : ∀ d ∈ l, d < 10) : vb l < 10 ^ l.length := by
  have := val_lt hT2 l.reverse fun d hd => h d (List.mem_reverse.1 hd)
  rwa [List.length_reverse] at this
theorem DL_vb {l : List Nat} (h : ∀ d ∈ l, d < 10) (hl : l.head? ≠ some 0) : DL (vb l) = l := by
  unfold DL vb
  rw [toL_val hT2 l.reverse (fun d hd => h d (List.mem_reverse.1 hd)) (by rw [List.getLast?_reverse]; exact hl), List.reverse_reverse]
theorem DL_head (a : Nat) : (DL a).head? ≠ some 0 := by
  unfold DL; rw [List.head?_reverse]; exact toL_last hT2 a
def isD (c : UInt8) : Bool := decide (48 ≤ c.toNat) && decide (c.toNat ≤ 57)
theorem isD_iff {c : UInt8} : isD c = true ↔ 48 ≤ c.toNat ∧ c.toNat ≤ 57 := by simp [isD]
def dg (s : List UInt8) : List Nat := s.map fun c => c.toNat - 48
theorem dg_lt {s : List UInt8} (h : ∀ c ∈ s, isD c = true) : ∀ d ∈ dg s, d < 10 := by
  intro d hd
  simp only [dg, List.mem_map] at hd
  obtain ⟨c, hc, rfl⟩ := hd
  have := isD_iff.1 (h c hc)
  omega
theorem ch_dg {s : List UInt8} (h : ∀ c ∈ s, isD c = true) : (dg s).map ch = s := by
  unfold dg
  rw [List.map_map]
  conv => rhs; rw [← List.map_id s]
  apply List.map_congr_left
  intro c hc
  have := isD_iff.1 (h c hc)
  simp only [Function.comp, id]
  apply UInt8.toNat_inj.1
  rw [ch_toNat (by omega)]; omega
theorem dg_ch {l : List Nat} (h : ∀ d ∈ l, d < 10) : dg (l.map ch) = l := by
  unfold dg
  rw [List.map_map]
  conv => rhs; rw [← List.map_id l]
  apply List.map_congr_left
  intro d hd
  simp only [Function.comp, id]
  rw [ch_toNat (h d hd)]; omega
theorem isD_ch {l : List Nat} (h : ∀ d ∈ l, d < 10) : ∀ c ∈ l.map ch, isD c = true := by
  intro c hc
  rw [List.mem_map] at hc
  obtain ⟨d, hd, rfl⟩ := hc
  have := h d hd
  rw [isD_iff, ch_toNat this]; omega
def ofD (s : List UInt8) : Nat := vb (dg s)
theorem ofD_append (s t : List UInt8) : ofD (s ++ t) = ofD s * 10 ^ t.length + ofD t := by
  unfold ofD dg; rw [List.map_append, vb_append, List.length_map]
theorem ofD_lt {s : List UInt8} (h : ∀ c ∈ s, isD c = true) : ofD s < 10 ^ s.length := by
  have := vb_lt (dg s) (dg_lt h)
  rwa [dg, List.length_map] at this
theorem dec_isD (a : Nat) : ∀ c ∈ dec a, isD c = true := by
  by_cases h : a = 0
  · subst h; rw [dec_zero]; intro c hc; simp at hc; subst hc; rfl
  · rw [dec_pos a h]; exact isD_ch (DL_lt a)
theorem ofD_dec (a : Nat) : ofD (dec a) = a := by
  by_cases h : a = 0
  · subst h; rw [dec_zero]; rfl
  · rw [dec_pos a h, ofD, dg_ch (DL_lt a), vb_DL]
theorem dec_inj {a b : Nat} (h : dec a = dec b) : a = b := by rw [← ofD_dec a, h, ofD_dec]
theorem dec_ne (a : Nat) : dec a ≠ [] := by
  by_cases h : a = 0
  · subst h; rw [dec_zero]; simp
  · rw [dec_pos a h]; simp [DL_nil, h]
theorem dec_len (a k : Nat) (hk : 1 ≤ k) : (dec a).length ≤ k ↔ a < 10 ^ k := by
  by_cases h : a = 0
  · subst h; rw [dec_zero]
    have : 0 < 10 ^ k := Nat.pow_pos (by omega)
    simp [hk, this]
  · rw [dec_pos a h, List.length_map, DL_len]
theorem dec_ofD {s : List UInt8} (h : ∀ c ∈ s, isD c = true) (h0 : s ≠ []) (h1 : s.head? ≠ some 48 ∨ s.length = 1) : dec (ofD s) = s := by
  by_cases hz : s = [48]
  · subst hz; rw [show ofD [48] = 0 from rfl, dec_zero]
  · have hh : s.head? ≠ some 48 := by
      rcases h1 with h1 | h1
      · exact h1
      · intro e
        match s, h1, e with
        | [c], _, e => simp at e; subst e; exact hz rfl
    have hd : (dg s).head? ≠ some 0 := by
      match s, h0 with
      | c :: r, _ =>
        simp only [dg, List.map_cons, List.head?_cons, ne_eq, Option.some.injEq] at hh ⊢
        have := isD_iff.1 (h c (List.mem_cons_self ..))
        intro e
        exact hh (by apply UInt8.toNat_inj.1; show c.toNat = 48; omega)
    have hD := DL_vb (dg_lt h) hd
    have hne : ofD s ≠ 0 := by
      intro e
      unfold ofD at e
      rw [e, DL_zero] at hD
      simp [dg] at hD
      exact h0 (by first | exact hD | exact hD.symm)
    rw [dec_pos _ hne]
    unfold ofD
    rw [hD, ch_dg h]
theorem dec_head (a : Nat) : (dec a).head? ≠ some 48 ∨ (dec a).length = 1 := by
  by_cases h : a = 0
  · subst h; rw [dec_zero]; right; rfl
  · left
    rw [dec_pos a h]
    have := DL_head a
    have hl := DL_lt a
    cases hD : DL a with
    | nil => simp
    | cons d r =>
      rw [hD] at this hl
      simp only [List.map_cons, List.head?_cons, ne_eq, Option.some.injEq] at this ⊢
      intro e
      have h2 := congrArg UInt8.toNat e
      rw [ch_toNat (hl d (List.mem_cons_self ..))] at h2
      have : (48 : UInt8).toNat = 48 := rfl
      omega
def pad : Nat → Nat → List UInt8
  | 0, _ => []
  | k + 1, d => pad k (d / 10) ++ [ch (d % 10)]
theorem pad_zero (k : Nat) : pad k 0 = List.replicate k 48 := by
  induction k with
  | zero => rfl
  | succ k ih => rw [pad, Nat.zero_div, ih, List.replicate_succ']; rfl
theorem pad_eq : ∀ (k d : Nat), d < 10 ^ (k + 1) → List.replicate (k + 1 - (dec d).length) 48 ++ dec d = pad (k + 1) d
  | 0, d, h => by
    have h' : d < 10 := by simpa using h
    rw [dec_small h', pad, pad, Nat.mod_eq_of_lt h']; rfl
  | k + 1, d, h => by
    by_cases h1 : d < 10
    · rw [dec_small h1, pad, Nat.mod_eq_of_lt h1, Nat.div_eq_of_lt h1, pad_zero]; rfl
    · have ih := pad_eq k (d / 10) (by rw [Nat.pow_succ] at h; omega)
      rw [dec_big (by omega), pad, ← ih, List.length_append, List.length_singleton, ← List.append_assoc]
      congr 3
      omega
theorem dec_step : ∀ (k h d : Nat), h ≠ 0 → d < 10 ^ k → dec (h * 10 ^ k + d) = dec h ++ pad k d
  | 0, h, d, h0, hd => by
    have : d = 0 := by simpa using hd
    subst this
    simp [pad]
  | k + 1, h, d, h0, hd => by
    have hp : 0 < 10 ^ k := Nat.pow_pos (by omega)
    have e : h * 10 ^ (k + 1) = 10 * (h * 10 ^ k) := by rw [Nat.pow_succ]; grind
    have hge : 1 * 1 ≤ h * 10 ^ k := Nat.mul_le_mul (by omega) hp
    rw [Nat.pow_succ] at hd
    rw [dec_big (by omega), pad, ← List.append_assoc, ← dec_step k h (d / 10) h0 (by omega)]
    congr 3
    · omega
    · omega
theorem parseUint_dig : ∀ (s : List UInt8) (acc : Nat), (∀ c ∈ s, isD c = true) → (acc + 1) * 10 ^ s.length ≤ 1000000000000000000 → Lib.parseUint10 acc s = .ok (acc * 10 ^ s.length + ofD s)
  | [], acc, _, _ => by simp [Lib.parseUint10, ofD, dg, vb_nil]
  | c :: r, acc, h, hb => by
    have hc := isD_iff.1 (h c (List.mem_cons_self ..))
    rw [List.length_cons, Nat.pow_succ] at hb
    have hp : 0 < 10 ^ r.length := Nat.pow_pos (by omega)
    have h1 : (acc + 1) * 10 ≤ (acc + 1) * (10 ^ r.length * 10) := Nat.mul_le_mul_left _ (by omega)
    have ih := parseUint_dig r (acc * 10 + (c.toNat - 48)) (fun x hx => h x (List.mem_cons_of_mem _ hx)) (by
      have : (acc * 10 + (c.toNat - 48) + 1) * 10 ^ r.length ≤ ((acc + 1) * 10) * 10 ^ r.length := Nat.mul_le_mul_right _ (by omega)
      have e : (acc + 1) * (10 ^ r.length * 10) = ((acc + 1) * 10) * 10 ^ r.length := by grind
      omega)
    rw [Lib.parseUint10, if_pos hc, if_neg (by omega), if_neg (by omega), ih]
    congr 1
    have : ofD (c :: r) = (c.toNat - 48) * 10 ^ r.length + ofD r := by
      unfold ofD dg; rw [List.map_cons, vb_cons, List.length_map]
    rw [this, List.length_cons, Nat.pow_succ]
    grind
theorem atoi_dig (s : List UInt8) (h : ∀ c ∈ s, isD c = true) (h0 : s ≠ []) (hl : s.length ≤ 18) : Lib.atoiAll s = .ok (ofD s : Int) := by
  match s, h0 with
  | c :: r, _ =>
    have hc := isD_iff.1 (h c (List.mem_cons_self ..))
    have hlt := ofD_lt h
    have hp : 10 ^ (c :: r).length ≤ 10 ^ 18 := Nat.pow_le_pow_right (by omega) hl
    have hu := parseUint_dig (c :: r) 0 h (by rw [Nat.zero_add, Nat.one_mul]; exact hp)
    rw [Nat.zero_mul, Nat.zero_add] at hu
    have e1 : ¬ (c.toNat = 43 ∨ c.toNat = 45) := by omega
    have e2 : ¬ c.toNat = 45 := by omega
    unfold Lib.atoiAll
    simp only [if_neg e1, Lib.parseMag, List.cons_ne_nil, if_false, hu]
    rw [if_neg (by omega), if_neg (by omega), if_neg e2]
end Go.Proofs.YtfbahcfojiaeaaaGreatDoor


set_option linter.unusedVariables false
set_option maxRecDepth 100000
namespace Go.Proofs.YtfbahcfojiaeaaaGreatDoor
open Go Th Go.Proofs
abbrev GI : GInv := GInv.tab Tryz.prog "internal/strconv.uint64pow10" .u64 Lib.pow10Tab 1 (by kernel_rfl)
def layr166 : Go.Shelf.Ren := ⟨fun | 166 => 97 | 240 => 123 | 276 => 143 | n => n, fun | 0 => 0 | 3 => 3 | 4 => 4 | 5 => 5 | 9 => 9 | 20 => 20 | 37 => 52 | 70 => 112 | 72 => 114 | 75 => 95 | 80 => 102 | 164 => 161 | n => n, fun | n => n⟩
theorem layb166 : Go.Proofs.Lays.n166 Tryz.prog layr166 := {
  mixed := by kernel_rfl
  f166 := Tryz.func97.trans (congrArg some (by kernel_rfl))
  f240 := Tryz.func123.trans (congrArg some (by kernel_rfl))
  f276 := Tryz.func143.trans (congrArg some (by kernel_rfl))
  t0 := Tryz.underlying0
  a0 := Tryz.isAgg0
  z0 := Tryz.sizeOf0
  v0 := Tryz.zeroValue0
  t3 := Tryz.underlying3
  a3 := Tryz.isAgg3
  z3 := Tryz.sizeOf3
  v3 := Tryz.zeroValue3
  t4 := Tryz.underlying4
  a4 := Tryz.isAgg4
  z4 := Tryz.sizeOf4
  v4 := Tryz.zeroValue4
  t9 := Tryz.underlying9
  a9 := Tryz.isAgg9
  z9 := Tryz.sizeOf9
  v9 := Tryz.zeroValue9
  t20 := Tryz.underlying20
  a20 := Tryz.isAgg20
  z20 := Tryz.sizeOf20
  v20 := Tryz.zeroValue20
  t37 := Tryz.underlying52
  a37 := Tryz.isAgg52
  z37 := Tryz.sizeOf52
  v37 := Tryz.zeroValue52
  t70 := Tryz.underlying112
  a70 := Tryz.isAgg112
  z70 := Tryz.sizeOf112
  v70 := Tryz.zeroValue112
  t72 := Tryz.underlying114
  a72 := Tryz.isAgg114
  z72 := Tryz.sizeOf114
  v72 := Tryz.zeroValue114
  t75 := Tryz.underlying95
  a75 := Tryz.isAgg95
  z75 := Tryz.sizeOf95
  v75 := Tryz.zeroValue95
  t164 := Tryz.underlying161
  a164 := Tryz.isAgg161
  z164 := Tryz.sizeOf161
  v164 := Tryz.zeroValue161 }
theorem layx166 : Builder.Extra Tryz.prog layr166 := {
  sizeBuilder := by kernel_rfl
  liesBuilder := by kernel_rfl
  t5 := Tryz.underlying5
  a5 := Tryz.isAgg5
  z5 := Tryz.sizeOf5
  v5 := Tryz.zeroValue5
  infoByte := by kernel_rfl
  cellsByte := by kernel_rfl
  sizeByte := by kernel_rfl
  neB5 := by decide }
noncomputable def fs63 (n : Nat) : FS := fsFormatInt
theorem ok63 (n : Nat) : FSound Tryz.prog GI 63 (fs63 n) := ok_FormatInt (fn_of Tryz.func63 (by kernel_rfl) (by kernel_rfl)) (fun F W h => h.2) Tryz.strconv_FormatInt_10
noncomputable def fs77 (n : Nat) : FS := fsAtoi
theorem ok77 (n : Nat) : FSound Tryz.prog GI 77 (fs77 n) := ok_Atoi (fn_of Tryz.func77 (by kernel_rfl) (by kernel_rfl)) (fun s h1 v h2 w => Tryz.strconv_Atoi_ok s h1 v h2 w)
noncomputable def fs91 (n : Nat) : FS := fsTrim
theorem ok91 (n : Nat) : FSound Tryz.prog GI 91 (fs91 n) := ok_Trim (fn_of Tryz.func91 (by kernel_rfl) (by kernel_rfl)) (fun s t w h1 h2 h3 => Any.strings_Trim_laid Tryz.lays160 (by kernel_rfl) s t w h1 h2 h3)
noncomputable def fs95 (n : Nat) : FS := fsItoa
theorem ok95 (n : Nat) : FSound Tryz.prog GI 95 (fs95 n) := ok_Itoa (fn_of Tryz.func95 (by kernel_rfl) (by kernel_rfl)) (fun F W h => h.2) Tryz.strconv_Itoa
noncomputable def fs96 (n : Nat) : FS := fsRepeat
theorem ok96 (n : Nat) : FSound Tryz.prog GI 96 (fs96 n) := ok_Repeat (fn_of Tryz.func96 (by kernel_rfl) (by kernel_rfl)) (fun s c w h1 h2 => Tryz.strings_Repeat s c w h1 h2)
noncomputable def fs97 (n : Nat) : FS := fsWriteString 114 5
theorem ok97 (n : Nat) : FSound Tryz.prog GI 97 (fs97 n) := ok_WriteString layb166 layx166 (fn_of Tryz.func97 (by kernel_rfl) (by kernel_rfl))
noncomputable def fs98 (n : Nat) : FS := fsString 114 5
theorem ok98 (n : Nat) : FSound Tryz.prog GI 98 (fs98 n) := ok_String Tryz.lays169 Tryz.Builder_Extra_169 (fn_of Tryz.func98 (by kernel_rfl) (by kernel_rfl))
noncomputable def fs100 (n : Nat) : FS := fsIndex1
theorem ok100 (n : Nat) : FSound Tryz.prog GI 100 (fs100 n) := ok_Index1 (fn_of Tryz.func100 (by kernel_rfl) (by kernel_rfl)) Tryz.stringslite_Index_one
end Go.Proofs.YtfbahcfojiaeaaaGreatDoor


set_option linter.unusedVariables false
set_option maxRecDepth 100000
namespace Go.Proofs.YtfbahcfojiaeaaaGreatDoor
open Go Th Go.Proofs
def ann78 : Ann := { loops := [(1, [(0, .id)], [(0, .id), (2, .id)])], cuts := [], frz := [], rm := [.id] }
noncomputable abbrev env78 (n : Nat) : Env := fun _ => none
theorem envok78 (n : Nat) : EnvOK Tryz.prog GI (env78 n) := EnvOK.nil
noncomputable def p78_l1B {R : Type} (n : Nat) (l0 : List PV → Option R) (x1 : List PV) (k0 : List PV → Option R) : Option R :=
  bif (decide (((x1).length : Int) > 0)) then (bif true then (bif true then (bif true then (let v2 := IntKind.i64.wrap (((x1).length : Int) - 1); bif true then (bif (inR v2 ((x1).length)) then (getI .u32 ((x1).getD ((v2 : Int).toNat) (.v (.bool false))) fun e3 => bif true then (bif true then (bif (bif true then (e3 == 0) else false) then (let v4 := IntKind.i64.wrap (((x1).length : Int) - 1); bif (hdSz 1 x1 && cutR 0 v4 ((x1).length)) then (l0 (((x1).take (v4 : Int).toNat).drop (0 : Int).toNat)) else none) else (k0 x1)) else none) else none) else none) else none) else none) else none) else none) else (bif false then none else (bif false then none else (bif false then none else (bif false then none else (bif false then none else (bif false then none else (bif false then none else (bif false then none else (k0 x1)))))))))
noncomputable def p78_l1L {R : Type} (n : Nat) : Nat → List PV → (List PV → Option R) → Option R
  | 0, _, _ => none
  | m + 1, x1, k0 => p78_l1B n (fun x1 => p78_l1L n m x1 k0) x1 k0
noncomputable def p78_l1 {R : Type} (n : Nat) (x1 : List PV) (k0 : List PV → Option R) : Option R := p78_l1L n n x1 k0
noncomputable def p78 {R : Type} (n : Nat) (x1 : List PV) (k0 : List PV → Option R) : Option R :=
  p78_l1 n x1 (fun y2 => k0 y2)
noncomputable abbrev E78 {R : Type} (n : Nat) (c : Code) : Fr → Kc R → Option R := evC Tryz.prog (env78 n) ann78 n (21, []) c
noncomputable def c78_l1 : Code := subC (bodyOf Tryz.f78) [1, 0, 0, 0]
abbrev t78_l1 : Sl (List SV) := (.c (sP sSh) .n)
noncomputable abbrev f78_l1 {R : Type} (n m : Nat) (K : Kc R) : t78_l1.T (Option R) := fun x1 => p78_l1L n m x1 (fun y1 => K (.exit 0) (lk (outA ann78.loops 1) [.p (.sh y1), .dead]))
noncomputable abbrev o78_l1 {R : Type} (n : Nat) (vs : List SV) (K : Kc R) : Option R := oget (t78_l1.ap vs (f78_l1 n n K)) (loopE ann78 1 (E78 n c78_l1) n vs K)
noncomputable abbrev lo78 {R : Type} (n : Nat) : Orc R := fun i vs K => dcnd (Nat.beq i 1) (o78_l1 n vs K) (none)
noncomputable abbrev cu78 {R : Type} (n : Nat) : Orc R := fun i vs K => none
section
variable {R : Type}
noncomputable abbrev V78 (n : Nat) (c : Code) : Fr → Kc R → Option R := evOi Tryz.prog (env78 n) ann78 (21, []) (lo78 n) (cu78 n) c
abbrev K78 (R : Type) (n : Nat) := PartOK (R := R) Tryz.prog (env78 n) ann78 n (21, []) (lo78 n) (cu78 n)
theorem pa78_l1 (n : Nat) : allP (K78 R n) (partsOf ann78 c78_l1) := by
  rw [show partsOf ann78 c78_l1 = [] from by kernel_rfl]; exact trivial
theorem sp78_l1 (n m : Nat) (x1 : List PV) (K : Kc R) : loopE ann78 1 (V78 n c78_l1) (m + 1) [.p (.sh x1)] K = p78_l1B n (fun x1 => loopE ann78 1 (V78 n c78_l1) m [.p (.sh x1)] K) x1 (fun y1 => K (.exit 0) (lk (outA ann78.loops 1) [.p (.sh y1), .dead])) := by kernel_rfl
theorem ep78_l1 (n : Nat) (K : Kc R) : ∀ (m : Nat) (x1 : List PV), loopE ann78 1 (V78 n c78_l1) m [.p (.sh x1)] K = f78_l1 n m K x1
  | 0, _ => rfl
  | m + 1, x1 => (sp78_l1 n m x1 K).trans (congrArg (fun l0 => p78_l1B n l0 x1 (fun y1 => K (.exit 0) (lk (outA ann78.loops 1) [.p (.sh y1), .dead]))) (funext fun z0 => ep78_l1 n K m z0))
theorem q78_l1 (n : Nat) : K78 R n (false, 1, c78_l1) := part_loop (pa78_l1 n) t78_l1 (f78_l1 n n) (fun K x1 => ep78_l1 n K n x1) fun _ _ => rfl
theorem pa78 (n : Nat) : allP (K78 R n) (partsOf ann78 (bodyOf Tryz.f78)) := by
  rw [show partsOf ann78 (bodyOf Tryz.f78) = [(false, 1, c78_l1)] from by kernel_rfl]; exact ⟨q78_l1 n, trivial⟩
end
abbrev t78 : Sl (List SV) := (.c (sP sSh) .n)
noncomputable abbrev f78 (n : Nat) {R : Type} (K : List SV → Option R) : t78.T (Option R) := fun x1 => p78 n x1 (fun y1 => K [.p (.sh y1)])
theorem ep78 {R : Type} (n : Nat) (K : List SV → Option R) (x1 : List PV) : evFn Tryz.prog (env78 n) ann78 n Tryz.f78 [.p (.sh x1)] K = f78 n K x1 := by
  rw [evFn_evOi (c := bodyOf Tryz.f78) (by kernel_rfl) (pa78 n)]; kernel_rfl
noncomputable abbrev fs78 (n : Nat) : FS := { om := [false], run := fun args K => oget (t78.ap args (f78 n K)) none }
theorem ok78 (n : Nat) : FSound Tryz.prog GI 78 (fs78 n) :=
  FSound.good (envok78 n) (ann := ann78) (n := n) Tryz.func78
    (.cons (envok78 n) t78 (f78 n) (fun K x1 => ep78 n K x1) .nil)
    (by kernel_rfl) (by kernel_rfl) (by kernel_rfl)
end Go.Proofs.YtfbahcfojiaeaaaGreatDoor


set_option linter.unusedVariables false
set_option maxRecDepth 100000
namespace Go.Proofs.YtfbahcfojiaeaaaGreatDoor
open Go Th Go.Proofs
def ann73 : Ann := { loops := [(6, [(0, .id), (1, .id), (5, .id)], [(4, .id)])], cuts := [], frz := [], rm := [.id] }
noncomputable abbrev env73 (n : Nat) : Env := fun _ => none
theorem envok73 (n : Nat) : EnvOK Tryz.prog GI (env73 n) := EnvOK.nil
noncomputable def p73_l6B {R : Type} (n : Nat) (l0 : List PV → List PV → Int → Option R) (x1 x2 : List PV) (x3 : Int) (k0 : Int → Option R) (k1 : Option R) : Option R :=
  bif (decide (x3 ≥ 0)) then (bif (inR x3 ((x1).length)) then (getI .u32 ((x1).getD ((x3 : Int).toNat) (.v (.bool false))) fun e4 => bif (inR x3 ((x2).length)) then (getI .u32 ((x2).getD ((x3 : Int).toNat) (.v (.bool false))) fun e5 => bif (e4 != e5) then (bif (inR x3 ((x1).length)) then (getI .u32 ((x1).getD ((x3 : Int).toNat) (.v (.bool false))) fun e6 => bif (inR x3 ((x2).length)) then (getI .u32 ((x2).getD ((x3 : Int).toNat) (.v (.bool false))) fun e7 => bif (decide (e6 < e7)) then (k0 (-1)) else (k0 1)) else none) else none) else (l0 x1 x2 (IntKind.i64.wrap (x3 - 1)))) else none) else none) else (k1)
noncomputable def p73_l6L {R : Type} (n : Nat) : Nat → List PV → List PV → Int → (Int → Option R) → (Option R) → Option R
  | 0, _, _, _, _, _ => none
  | m + 1, x1, x2, x3, k0, k1 => p73_l6B n (fun x1 x2 x3 => p73_l6L n m x1 x2 x3 k0 k1) x1 x2 x3 k0 k1
noncomputable def p73_l6 {R : Type} (n : Nat) (x1 x2 : List PV) (x3 : Int) (k0 : Int → Option R) (k1 : Option R) : Option R := p73_l6L n n x1 x2 x3 k0 k1
noncomputable def p73 {R : Type} (n : Nat) (x1 x2 : List PV) (k0 : Int → Option R) : Option R :=
  bif (((x1).length : Int) != ((x2).length : Int)) then (bif (decide (((x1).length : Int) < ((x2).length : Int))) then (k0 (-1)) else (k0 1)) else (let v3 := IntKind.i64.wrap (((x1).length : Int) - 1); p73_l6 n x1 x2 v3 (fun y4 => k0 y4) (k0 0))
noncomputable abbrev E73 {R : Type} (n : Nat) (c : Code) : Fr → Kc R → Option R := evC Tryz.prog (env73 n) ann73 n (41, []) c
noncomputable def c73_l6 : Code := subC (bodyOf Tryz.f73) [1, 1, 0, 1, 0, 0]
abbrev t73_l6 : Sl (List SV) := (.c (sP sSh) (.c (sP sSh) (.c (sP (sInt .i64)) .n)))
noncomputable abbrev f73_l6 {R : Type} (n m : Nat) (K : Kc R) : t73_l6.T (Option R) := fun x1 x2 x3 => p73_l6L n m x1 x2 x3 (fun y1 => K .ret (lk (outA ann73.loops 6) [.p (.v (.int .i64 y1))])) (K (.exit 0) (lk (outA ann73.loops 6) [.dead]))
noncomputable abbrev o73_l6 {R : Type} (n : Nat) (vs : List SV) (K : Kc R) : Option R := oget (t73_l6.ap vs (f73_l6 n n K)) (loopE ann73 6 (E73 n c73_l6) n vs K)
noncomputable abbrev lo73 {R : Type} (n : Nat) : Orc R := fun i vs K => dcnd (Nat.beq i 6) (o73_l6 n vs K) (none)
noncomputable abbrev cu73 {R : Type} (n : Nat) : Orc R := fun i vs K => none
section
variable {R : Type}
noncomputable abbrev V73 (n : Nat) (c : Code) : Fr → Kc R → Option R := evOi Tryz.prog (env73 n) ann73 (41, []) (lo73 n) (cu73 n) c
abbrev K73 (R : Type) (n : Nat) := PartOK (R := R) Tryz.prog (env73 n) ann73 n (41, []) (lo73 n) (cu73 n)
theorem pa73_l6 (n : Nat) : allP (K73 R n) (partsOf ann73 c73_l6) := by
  rw [show partsOf ann73 c73_l6 = [] from by kernel_rfl]; exact trivial
theorem sp73_l6 (n m : Nat) (x1 x2 : List PV) (x3 : Int) (K : Kc R) : loopE ann73 6 (V73 n c73_l6) (m + 1) [.p (.sh x1), .p (.sh x2), .p (.v (.int .i64 x3))] K = p73_l6B n (fun x1 x2 x3 => loopE ann73 6 (V73 n c73_l6) m [.p (.sh x1), .p (.sh x2), .p (.v (.int .i64 x3))] K) x1 x2 x3 (fun y1 => K .ret (lk (outA ann73.loops 6) [.p (.v (.int .i64 y1))])) (K (.exit 0) (lk (outA ann73.loops 6) [.dead])) := by kernel_rfl
theorem ep73_l6 (n : Nat) (K : Kc R) : ∀ (m : Nat) (x1 x2 : List PV) (x3 : Int), loopE ann73 6 (V73 n c73_l6) m [.p (.sh x1), .p (.sh x2), .p (.v (.int .i64 x3))] K = f73_l6 n m K x1 x2 x3
  | 0, _, _, _ => rfl
  | m + 1, x1, x2, x3 => (sp73_l6 n m x1 x2 x3 K).trans (congrArg (fun l0 => p73_l6B n l0 x1 x2 x3 (fun y1 => K .ret (lk (outA ann73.loops 6) [.p (.v (.int .i64 y1))])) (K (.exit 0) (lk (outA ann73.loops 6) [.dead]))) (funext fun z0 => funext fun z1 => funext fun z2 => ep73_l6 n K m z0 z1 z2))
theorem q73_l6 (n : Nat) : K73 R n (false, 6, c73_l6) := part_loop (pa73_l6 n) t73_l6 (f73_l6 n n) (fun K x1 x2 x3 => ep73_l6 n K n x1 x2 x3) fun _ _ => rfl
theorem pa73 (n : Nat) : allP (K73 R n) (partsOf ann73 (bodyOf Tryz.f73)) := by
  rw [show partsOf ann73 (bodyOf Tryz.f73) = [(false, 6, c73_l6)] from by kernel_rfl]; exact ⟨q73_l6 n, trivial⟩
end
abbrev t73 : Sl (List SV) := (.c (sP sSh) (.c (sP sSh) .n))
noncomputable abbrev f73 (n : Nat) {R : Type} (K : List SV → Option R) : t73.T (Option R) := fun x1 x2 => p73 n x1 x2 (fun y1 => K [.p (.v (.int .i64 y1))])
theorem ep73 {R : Type} (n : Nat) (K : List SV → Option R) (x1 x2 : List PV) : evFn Tryz.prog (env73 n) ann73 n Tryz.f73 [.p (.sh x1), .p (.sh x2)] K = f73 n K x1 x2 := by
  rw [evFn_evOi (c := bodyOf Tryz.f73) (by kernel_rfl) (pa73 n)]; kernel_rfl
noncomputable abbrev fs73 (n : Nat) : FS := { om := [false, false], run := fun args K => oget (t73.ap args (f73 n K)) none }
theorem ok73 (n : Nat) : FSound Tryz.prog GI 73 (fs73 n) :=
  FSound.good (envok73 n) (ann := ann73) (n := n) Tryz.func73
    (.cons (envok73 n) t73 (f73 n) (fun K x1 x2 => ep73 n K x1 x2) .nil)
    (by kernel_rfl) (by kernel_rfl) (by kernel_rfl)
end Go.Proofs.YtfbahcfojiaeaaaGreatDoor


set_option linter.unusedVariables false
set_option maxRecDepth 100000
namespace Go.Proofs.YtfbahcfojiaeaaaGreatDoor
open Go Th Go.Proofs
def ann88 : Ann := { loops := [(6, [(0, .id), (1, .id), (5, .id), (6, .id), (20, .id), (21, .id)], [(0, .id), (4, .id), (5, .id), (6, .id)])], cuts := [(3, [(0, .id), (1, .id)], [(4, .id)]), (11, [(0, .id), (1, .id), (5, .id), (6, .id), (7, .id), (20, .id), (21, .id)], [(0, .id), (1, .id), (4, .id), (5, .id), (6, .id), (20, .id), (21, .id)])], frz := [], rm := [.id] }
noncomputable abbrev env88 (n : Nat) : Env := fun i => bif Nat.beq i 78 then some (fs78 n) else (fun _ => none) i
theorem envok88 (n : Nat) : EnvOK Tryz.prog GI (env88 n) := EnvOK.cons (EnvOK.nil) (ok78 n)
noncomputable def p88_c11 {R : Type} (n : Nat) (x1 x2 x3 : List PV) (x4 x5 x6 x7 : Int) (k0 : List PV → List PV → List PV → Int → Int → Int → Option R) : Option R :=
  bif decide (1000000000 = 0) then none else (bif (inR x5 ((x3).length)) then (getI .u32 ((x3).getD ((x5 : Int).toNat) (.v (.bool false))) fun e8 => bif decide (1000000000 = 0) then none else (let v9 := IntKind.u32.wrap (Int.tdiv x4 1000000000); k0 x1 x2 ((x3).set ((x5 : Int).toNat) (.v (.int .u32 (Int.tmod x4 1000000000)))) v9 x6 x7)) else none)
noncomputable def p88_l6B {R : Type} (n : Nat) (l0 : List PV → List PV → List PV → Int → Int → Int → Option R) (x1 x2 x3 : List PV) (x4 x5 x6 : Int) (k0 : List PV → List PV → Int → Option R) : Option R :=
  bif (decide (x6 < x5)) then (bif (inR x6 ((x1).length)) then (getI .u32 ((x1).getD ((x6 : Int).toNat) (.v (.bool false))) fun e7 => bif (decide (x6 < ((x2).length : Int))) then (bif (inR x6 ((x2).length)) then (getI .u32 ((x2).getD ((x6 : Int).toNat) (.v (.bool false))) fun e8 => let v9 := IntKind.u32.wrap ((IntKind.u32.wrap (x4 + e7)) + e8); p88_c11 n x1 x2 x3 v9 x6 x5 x6 (fun y10 y11 y12 y13 y14 y15 => l0 y10 y11 y12 y13 y14 (IntKind.i64.wrap (y15 + 1)))) else none) else (p88_c11 n x1 x2 x3 (IntKind.u32.wrap (x4 + e7)) x6 x5 x6 (fun y16 y17 y18 y19 y20 y21 => l0 y16 y17 y18 y19 y20 (IntKind.i64.wrap (y21 + 1))))) else none) else (k0 x1 x3 x4)
noncomputable def p88_l6L {R : Type} (n : Nat) : Nat → List PV → List PV → List PV → Int → Int → Int → (List PV → List PV → Int → Option R) → Option R
  | 0, _, _, _, _, _, _, _ => none
  | m + 1, x1, x2, x3, x4, x5, x6, k0 => p88_l6B n (fun x1 x2 x3 x4 x5 x6 => p88_l6L n m x1 x2 x3 x4 x5 x6 k0) x1 x2 x3 x4 x5 x6 k0
noncomputable def p88_l6 {R : Type} (n : Nat) (x1 x2 x3 : List PV) (x4 x5 x6 : Int) (k0 : List PV → List PV → Int → Option R) : Option R := p88_l6L n n x1 x2 x3 x4 x5 x6 k0
noncomputable def p88_c3 {R : Type} (n : Nat) (x1 x2 : List PV) (k0 : List PV → Option R) : Option R :=
  let v3 := IntKind.i64.wrap (((x1).length : Int) + 1); bif (decide ((0 : Int) ≤ v3) && decide ((v3 : Int) ≤ v3) && lenOK (v3 : Int).toNat 4) then (p88_l6 n x1 x2 (List.replicate (v3 : Int).toNat (.v (.int .u32 0) : PV)) 0 ((x1).length : Int) 0 (fun y4 y5 y6 => bif (inR ((y4).length : Int) ((y5).length)) then (getI .u32 ((y5).getD ((((y4).length : Int) : Int).toNat) (.v (.bool false))) fun e7 => p78 n ((y5).set ((((y4).length : Int) : Int).toNat) (.v (.int .u32 y6))) (fun y8 => k0 y8)) else none)) else none
noncomputable def p88 {R : Type} (n : Nat) (x1 x2 : List PV) (k0 : List PV → Option R) : Option R :=
  bif (decide (((x1).length : Int) < ((x2).length : Int))) then (p88_c3 n x2 x1 (fun y3 => k0 y3)) else (p88_c3 n x1 x2 (fun y4 => k0 y4))
noncomputable abbrev E88 {R : Type} (n : Nat) (c : Code) : Fr → Kc R → Option R := evC Tryz.prog (env88 n) ann88 n (55, []) c
noncomputable def c88_c3 : Code := subC (bodyOf Tryz.f88) [1, 1]
abbrev t88_c3 : Sl (List SV) := (.c (sP sSh) (.c (sP sSh) .n))
noncomputable abbrev f88_c3 {R : Type} (n : Nat) (K : Kc R) : t88_c3.T (Option R) := fun x1 x2 => p88_c3 n x1 x2 (fun y1 => K .ret (lk (outA ann88.cuts 3) [.p (.sh y1)]))
noncomputable abbrev o88_c3 {R : Type} (n : Nat) (vs : List SV) (K : Kc R) : Option R := oget (t88_c3.ap vs (f88_c3 n K)) (cutE ann88 3 (E88 n c88_c3) vs K)
noncomputable def c88_c11 : Code := subC (bodyOf Tryz.f88) [1, 1, 1, 1, 0, 1, 0, 0, 1, 1, 0, 0, 1, 1, 1]
abbrev t88_c11 : Sl (List SV) := (.c (sP sSh) (.c (sP sSh) (.c (sOwn 98) (.c (sP (sInt .u32)) (.c (sP (sInt .i64)) (.c (sP (sInt .i64)) (.c (sP (sInt .i64)) .n)))))))
noncomputable abbrev f88_c11 {R : Type} (n : Nat) (K : Kc R) : t88_c11.T (Option R) := fun x1 x2 x3 x4 x5 x6 x7 => p88_c11 n x1 x2 x3 x4 x5 x6 x7 (fun y1 y2 y3 y4 y5 y6 => K .normal (lk (outA ann88.cuts 11) [.p (.sh y1), .p (.sh y2), .dead, .own 98 y3, .p (.v (.int .u32 y4)), .p (.v (.int .i64 y5)), .p (.v (.int .i64 y6))]))
noncomputable abbrev o88_c11 {R : Type} (n : Nat) (vs : List SV) (K : Kc R) : Option R := oget (t88_c11.ap vs (f88_c11 n K)) (cutE ann88 11 (E88 n c88_c11) vs K)
noncomputable def c88_l6 : Code := subC (bodyOf Tryz.f88) [1, 1, 1, 1, 0, 1, 0, 0]
abbrev t88_l6 : Sl (List SV) := (.c (sP sSh) (.c (sP sSh) (.c (sOwn 98) (.c (sP (sInt .u32)) (.c (sP (sInt .i64)) (.c (sP (sInt .i64)) .n))))))
noncomputable abbrev f88_l6 {R : Type} (n m : Nat) (K : Kc R) : t88_l6.T (Option R) := fun x1 x2 x3 x4 x5 x6 => p88_l6L n m x1 x2 x3 x4 x5 x6 (fun y1 y2 y3 => K (.exit 0) (lk (outA ann88.loops 6) [.p (.sh y1), .dead, .own 98 y2, .p (.v (.int .u32 y3))]))
noncomputable abbrev o88_l6 {R : Type} (n : Nat) (vs : List SV) (K : Kc R) : Option R := oget (t88_l6.ap vs (f88_l6 n n K)) (loopE ann88 6 (E88 n c88_l6) n vs K)
noncomputable abbrev lo88 {R : Type} (n : Nat) : Orc R := fun i vs K => dcnd (Nat.beq i 6) (o88_l6 n vs K) (none)
noncomputable abbrev cu88 {R : Type} (n : Nat) : Orc R := fun i vs K => dcnd (Nat.beq i 11) (o88_c11 n vs K) (dcnd (Nat.beq i 3) (o88_c3 n vs K) (none))
section
variable {R : Type}
noncomputable abbrev V88 (n : Nat) (c : Code) : Fr → Kc R → Option R := evOi Tryz.prog (env88 n) ann88 (55, []) (lo88 n) (cu88 n) c
abbrev K88 (R : Type) (n : Nat) := PartOK (R := R) Tryz.prog (env88 n) ann88 n (55, []) (lo88 n) (cu88 n)
theorem pa88_c11 (n : Nat) : allP (K88 R n) (partsOf ann88 c88_c11) := by
  rw [show partsOf ann88 c88_c11 = [] from by kernel_rfl]; exact trivial
theorem q88_c11 (n : Nat) : K88 R n (true, 11, c88_c11) := part_cut (pa88_c11 n) t88_c11 (f88_c11 n) (fun K x1 x2 x3 x4 x5 x6 x7 => by show cutE _ _ _ _ _ = _; kernel_rfl) fun _ _ => rfl
theorem pa88_l6 (n : Nat) : allP (K88 R n) (partsOf ann88 c88_l6) := by
  rw [show partsOf ann88 c88_l6 = [(true, 11, c88_c11)] from by kernel_rfl]; exact ⟨q88_c11 n, trivial⟩
theorem sp88_l6 (n m : Nat) (x1 x2 x3 : List PV) (x4 x5 x6 : Int) (K : Kc R) : loopE ann88 6 (V88 n c88_l6) (m + 1) [.p (.sh x1), .p (.sh x2), .own 98 x3, .p (.v (.int .u32 x4)), .p (.v (.int .i64 x5)), .p (.v (.int .i64 x6))] K = p88_l6B n (fun x1 x2 x3 x4 x5 x6 => loopE ann88 6 (V88 n c88_l6) m [.p (.sh x1), .p (.sh x2), .own 98 x3, .p (.v (.int .u32 x4)), .p (.v (.int .i64 x5)), .p (.v (.int .i64 x6))] K) x1 x2 x3 x4 x5 x6 (fun y1 y2 y3 => K (.exit 0) (lk (outA ann88.loops 6) [.p (.sh y1), .dead, .own 98 y2, .p (.v (.int .u32 y3))])) := by kernel_rfl
theorem ep88_l6 (n : Nat) (K : Kc R) : ∀ (m : Nat) (x1 x2 x3 : List PV) (x4 x5 x6 : Int), loopE ann88 6 (V88 n c88_l6) m [.p (.sh x1), .p (.sh x2), .own 98 x3, .p (.v (.int .u32 x4)), .p (.v (.int .i64 x5)), .p (.v (.int .i64 x6))] K = f88_l6 n m K x1 x2 x3 x4 x5 x6
  | 0, _, _, _, _, _, _ => rfl
  | m + 1, x1, x2, x3, x4, x5, x6 => (sp88_l6 n m x1 x2 x3 x4 x5 x6 K).trans (congrArg (fun l0 => p88_l6B n l0 x1 x2 x3 x4 x5 x6 (fun y1 y2 y3 => K (.exit 0) (lk (outA ann88.loops 6) [.p (.sh y1), .dead, .own 98 y2, .p (.v (.int .u32 y3))]))) (funext fun z0 => funext fun z1 => funext fun z2 => funext fun z3 => funext fun z4 => funext fun z5 => ep88_l6 n K m z0 z1 z2 z3 z4 z5))
theorem q88_l6 (n : Nat) : K88 R n (false, 6, c88_l6) := part_loop (pa88_l6 n) t88_l6 (f88_l6 n n) (fun K x1 x2 x3 x4 x5 x6 => ep88_l6 n K n x1 x2 x3 x4 x5 x6) fun _ _ => rfl
theorem pa88_c3 (n : Nat) : allP (K88 R n) (partsOf ann88 c88_c3) := by
  rw [show partsOf ann88 c88_c3 = [(false, 6, c88_l6)] from by kernel_rfl]; exact ⟨q88_l6 n, trivial⟩
theorem q88_c3 (n : Nat) : K88 R n (true, 3, c88_c3) := part_cut (pa88_c3 n) t88_c3 (f88_c3 n) (fun K x1 x2 => by show cutE _ _ _ _ _ = _; kernel_rfl) fun _ _ => rfl
theorem pa88 (n : Nat) : allP (K88 R n) (partsOf ann88 (bodyOf Tryz.f88)) := by
  rw [show partsOf ann88 (bodyOf Tryz.f88) = [(true, 3, c88_c3)] from by kernel_rfl]; exact ⟨q88_c3 n, trivial⟩
end
abbrev t88 : Sl (List SV) := (.c (sP sSh) (.c (sP sSh) .n))
noncomputable abbrev f88 (n : Nat) {R : Type} (K : List SV → Option R) : t88.T (Option R) := fun x1 x2 => p88 n x1 x2 (fun y1 => K [.p (.sh y1)])
theorem ep88 {R : Type} (n : Nat) (K : List SV → Option R) (x1 x2 : List PV) : evFn Tryz.prog (env88 n) ann88 n Tryz.f88 [.p (.sh x1), .p (.sh x2)] K = f88 n K x1 x2 := by
  rw [evFn_evOi (c := bodyOf Tryz.f88) (by kernel_rfl) (pa88 n)]; kernel_rfl
noncomputable abbrev fs88 (n : Nat) : FS := { om := [false, false], run := fun args K => oget (t88.ap args (f88 n K)) none }
theorem ok88 (n : Nat) : FSound Tryz.prog GI 88 (fs88 n) :=
  FSound.good (envok88 n) (ann := ann88) (n := n) Tryz.func88
    (.cons (envok88 n) t88 (f88 n) (fun K x1 x2 => ep88 n K x1 x2) .nil)
    (by kernel_rfl) (by kernel_rfl) (by kernel_rfl)
end Go.Proofs.YtfbahcfojiaeaaaGreatDoor


set_option linter.unusedVariables false
set_option maxRecDepth 100000
namespace Go.Proofs.YtfbahcfojiaeaaaGreatDoor
open Go Th Go.Proofs
def ann89 : Ann := { loops := [(4, [(0, .id), (1, .id), (5, .id), (6, .id), (13, .id), (14, .id)], [(4, .id), (5, .id)])], cuts := [(9, [(0, .id), (1, .id), (5, .id), (7, .id), (8, .id), (13, .id), (14, .id)], [(0, .id), (1, .id), (4, .id), (5, .id), (6, .id), (13, .id), (14, .id)]), (13, [(0, .id), (1, .id), (5, .id), (6, .id), (7, .id), (8, .id), (13, .id), (14, .id)], [(0, .id), (1, .id), (4, .id), (5, .id), (6, .id), (13, .id), (14, .id)])], frz := [], rm := [.id] }
noncomputable abbrev env89 (n : Nat) : Env := fun i => bif Nat.beq i 78 then some (fs78 n) else (fun _ => none) i
theorem envok89 (n : Nat) : EnvOK Tryz.prog GI (env89 n) := EnvOK.cons (EnvOK.nil) (ok78 n)
noncomputable def p89_c13 {R : Type} (n : Nat) (x1 x2 x3 : List PV) (x4 x5 x6 x7 x8 : Int) (k0 : List PV → List PV → List PV → Int → Int → Int → Option R) : Option R :=
  bif (inR x5 ((x3).length)) then (getI .u32 ((x3).getD ((x5 : Int).toNat) (.v (.bool false))) fun e9 => k0 x1 x2 ((x3).set ((x5 : Int).toNat) (.v (.int .u32 (IntKind.u32.wrap (x6))))) x4 x7 x8) else none
noncomputable def p89_c9 {R : Type} (n : Nat) (x1 x2 x3 : List PV) (x4 x5 x6 x7 : Int) (k0 : List PV → List PV → List PV → Int → Int → Int → Option R) : Option R :=
  bif (decide (x5 < 0)) then (p89_c13 n x1 x2 x3 1 x4 (IntKind.i64.wrap (x5 + 1000000000)) x6 x7 (fun y8 y9 y10 y11 y12 y13 => k0 y8 y9 y10 y11 y12 y13)) else (p89_c13 n x1 x2 x3 0 x4 x5 x6 x7 (fun y14 y15 y16 y17 y18 y19 => k0 y14 y15 y16 y17 y18 y19))
noncomputable def p89_l4B {R : Type} (n : Nat) (l0 : List PV → List PV → List PV → Int → Int → Int → Option R) (x1 x2 x3 : List PV) (x4 x5 x6 : Int) (k0 : List PV → Option R) : Option R :=
  bif (decide (x6 < x5)) then (bif (inR x6 ((x1).length)) then (getI .u32 ((x1).getD ((x6 : Int).toNat) (.v (.bool false))) fun e7 => let v8 := IntKind.i64.wrap ((IntKind.i64.wrap (e7)) - x4); bif (decide (x6 < ((x2).length : Int))) then (bif (inR x6 ((x2).length)) then (getI .u32 ((x2).getD ((x6 : Int).toNat) (.v (.bool false))) fun e9 => let v10 := IntKind.i64.wrap (v8 - (IntKind.i64.wrap (e9))); p89_c9 n x1 x2 x3 x6 v10 x5 x6 (fun y11 y12 y13 y14 y15 y16 => l0 y11 y12 y13 y14 y15 (IntKind.i64.wrap (y16 + 1)))) else none) else (p89_c9 n x1 x2 x3 x6 v8 x5 x6 (fun y17 y18 y19 y20 y21 y22 => l0 y17 y18 y19 y20 y21 (IntKind.i64.wrap (y22 + 1))))) else none) else (k0 x3)
noncomputable def p89_l4L {R : Type} (n : Nat) : Nat → List PV → List PV → List PV → Int → Int → Int → (List PV → Option R) → Option R
  | 0, _, _, _, _, _, _, _ => none
  | m + 1, x1, x2, x3, x4, x5, x6, k0 => p89_l4B n (fun x1 x2 x3 x4 x5 x6 => p89_l4L n m x1 x2 x3 x4 x5 x6 k0) x1 x2 x3 x4 x5 x6 k0
noncomputable def p89_l4 {R : Type} (n : Nat) (x1 x2 x3 : List PV) (x4 x5 x6 : Int) (k0 : List PV → Option R) : Option R := p89_l4L n n x1 x2 x3 x4 x5 x6 k0
noncomputable def p89 {R : Type} (n : Nat) (x1 x2 : List PV) (k0 : List PV → Option R) : Option R :=
  bif (decide ((0 : Int) ≤ ((x1).length : Int)) && decide ((((x1).length : Int) : Int) ≤ ((x1).length : Int)) && lenOK (((x1).length : Int) : Int).toNat 4) then (p89_l4 n x1 x2 (List.replicate (((x1).length : Int) : Int).toNat (.v (.int .u32 0) : PV)) 0 ((x1).length : Int) 0 (fun y3 => p78 n y3 (fun y4 => k0 y4))) else none
noncomputable abbrev E89 {R : Type} (n : Nat) (c : Code) : Fr → Kc R → Option R := evC Tryz.prog (env89 n) ann89 n (47, []) c
noncomputable def c89_c9 : Code := subC (bodyOf Tryz.f89) [1, 1, 1, 0, 1, 0, 0, 1, 1, 0, 0, 1, 1, 1]
abbrev t89_c9 : Sl (List SV) := (.c (sP sSh) (.c (sP sSh) (.c (sOwn 98) (.c (sP (sInt .i64)) (.c (sP (sInt .i64)) (.c (sP (sInt .i64)) (.c (sP (sInt .i64)) .n)))))))
noncomputable abbrev f89_c9 {R : Type} (n : Nat) (K : Kc R) : t89_c9.T (Option R) := fun x1 x2 x3 x4 x5 x6 x7 => p89_c9 n x1 x2 x3 x4 x5 x6 x7 (fun y1 y2 y3 y4 y5 y6 => K .normal (lk (outA ann89.cuts 9) [.p (.sh y1), .p (.sh y2), .dead, .own 98 y3, .p (.v (.int .i64 y4)), .p (.v (.int .i64 y5)), .p (.v (.int .i64 y6))]))
noncomputable abbrev o89_c9 {R : Type} (n : Nat) (vs : List SV) (K : Kc R) : Option R := oget (t89_c9.ap vs (f89_c9 n K)) (cutE ann89 9 (E89 n c89_c9) vs K)
noncomputable def c89_c13 : Code := subC (bodyOf Tryz.f89) [1, 1, 1, 0, 1, 0, 0, 1, 1, 0, 0, 1, 1, 1, 1, 1]
abbrev t89_c13 : Sl (List SV) := (.c (sP sSh) (.c (sP sSh) (.c (sOwn 98) (.c (sP (sInt .i64)) (.c (sP (sInt .i64)) (.c (sP (sInt .i64)) (.c (sP (sInt .i64)) (.c (sP (sInt .i64)) .n))))))))
noncomputable abbrev f89_c13 {R : Type} (n : Nat) (K : Kc R) : t89_c13.T (Option R) := fun x1 x2 x3 x4 x5 x6 x7 x8 => p89_c13 n x1 x2 x3 x4 x5 x6 x7 x8 (fun y1 y2 y3 y4 y5 y6 => K .normal (lk (outA ann89.cuts 13) [.p (.sh y1), .p (.sh y2), .dead, .own 98 y3, .p (.v (.int .i64 y4)), .p (.v (.int .i64 y5)), .p (.v (.int .i64 y6))]))
noncomputable abbrev o89_c13 {R : Type} (n : Nat) (vs : List SV) (K : Kc R) : Option R := oget (t89_c13.ap vs (f89_c13 n K)) (cutE ann89 13 (E89 n c89_c13) vs K)
noncomputable def c89_l4 : Code := subC (bodyOf Tryz.f89) [1, 1, 1, 0, 1, 0, 0]
abbrev t89_l4 : Sl (List SV) := (.c (sP sSh) (.c (sP sSh) (.c (sOwn 98) (.c (sP (sInt .i64)) (.c (sP (sInt .i64)) (.c (sP (sInt .i64)) .n))))))
noncomputable abbrev f89_l4 {R : Type} (n m : Nat) (K : Kc R) : t89_l4.T (Option R) := fun x1 x2 x3 x4 x5 x6 => p89_l4L n m x1 x2 x3 x4 x5 x6 (fun y1 => K (.exit 0) (lk (outA ann89.loops 4) [.dead, .own 98 y1]))
noncomputable abbrev o89_l4 {R : Type} (n : Nat) (vs : List SV) (K : Kc R) : Option R := oget (t89_l4.ap vs (f89_l4 n n K)) (loopE ann89 4 (E89 n c89_l4) n vs K)
noncomputable abbrev lo89 {R : Type} (n : Nat) : Orc R := fun i vs K => dcnd (Nat.beq i 4) (o89_l4 n vs K) (none)
noncomputable abbrev cu89 {R : Type} (n : Nat) : Orc R := fun i vs K => dcnd (Nat.beq i 13) (o89_c13 n vs K) (dcnd (Nat.beq i 9) (o89_c9 n vs K) (none))
section
variable {R : Type}
noncomputable abbrev V89 (n : Nat) (c : Code) : Fr → Kc R → Option R := evOi Tryz.prog (env89 n) ann89 (47, []) (lo89 n) (cu89 n) c
abbrev K89 (R : Type) (n : Nat) := PartOK (R := R) Tryz.prog (env89 n) ann89 n (47, []) (lo89 n) (cu89 n)
theorem pa89_c13 (n : Nat) : allP (K89 R n) (partsOf ann89 c89_c13) := by
  rw [show partsOf ann89 c89_c13 = [] from by kernel_rfl]; exact trivial
theorem q89_c13 (n : Nat) : K89 R n (true, 13, c89_c13) := part_cut (pa89_c13 n) t89_c13 (f89_c13 n) (fun K x1 x2 x3 x4 x5 x6 x7 x8 => by show cutE _ _ _ _ _ = _; kernel_rfl) fun _ _ => rfl
theorem pa89_c9 (n : Nat) : allP (K89 R n) (partsOf ann89 c89_c9) := by
  rw [show partsOf ann89 c89_c9 = [(true, 13, c89_c13)] from by kernel_rfl]; exact ⟨q89_c13 n, trivial⟩
theorem q89_c9 (n : Nat) : K89 R n (true, 9, c89_c9) := part_cut (pa89_c9 n) t89_c9 (f89_c9 n) (fun K x1 x2 x3 x4 x5 x6 x7 => by show cutE _ _ _ _ _ = _; kernel_rfl) fun _ _ => rfl
theorem pa89_l4 (n : Nat) : allP (K89 R n) (partsOf ann89 c89_l4) := by
  rw [show partsOf ann89 c89_l4 = [(true, 9, c89_c9)] from by kernel_rfl]; exact ⟨q89_c9 n, trivial⟩
theorem sp89_l4 (n m : Nat) (x1 x2 x3 : List PV) (x4 x5 x6 : Int) (K : Kc R) : loopE ann89 4 (V89 n c89_l4) (m + 1) [.p (.sh x1), .p (.sh x2), .own 98 x3, .p (.v (.int .i64 x4)), .p (.v (.int .i64 x5)), .p (.v (.int .i64 x6))] K = p89_l4B n (fun x1 x2 x3 x4 x5 x6 => loopE ann89 4 (V89 n c89_l4) m [.p (.sh x1), .p (.sh x2), .own 98 x3, .p (.v (.int .i64 x4)), .p (.v (.int .i64 x5)), .p (.v (.int .i64 x6))] K) x1 x2 x3 x4 x5 x6 (fun y1 => K (.exit 0) (lk (outA ann89.loops 4) [.dead, .own 98 y1])) := by kernel_rfl
theorem ep89_l4 (n : Nat) (K : Kc R) : ∀ (m : Nat) (x1 x2 x3 : List PV) (x4 x5 x6 : Int), loopE ann89 4 (V89 n c89_l4) m [.p (.sh x1), .p (.sh x2), .own 98 x3, .p (.v (.int .i64 x4)), .p (.v (.int .i64 x5)), .p (.v (.int .i64 x6))] K = f89_l4 n m K x1 x2 x3 x4 x5 x6
  | 0, _, _, _, _, _, _ => rfl
  | m + 1, x1, x2, x3, x4, x5, x6 => (sp89_l4 n m x1 x2 x3 x4 x5 x6 K).trans (congrArg (fun l0 => p89_l4B n l0 x1 x2 x3 x4 x5 x6 (fun y1 => K (.exit 0) (lk (outA ann89.loops 4) [.dead, .own 98 y1]))) (funext fun z0 => funext fun z1 => funext fun z2 => funext fun z3 => funext fun z4 => funext fun z5 => ep89_l4 n K m z0 z1 z2 z3 z4 z5))
theorem q89_l4 (n : Nat) : K89 R n (false, 4, c89_l4) := part_loop (pa89_l4 n) t89_l4 (f89_l4 n n) (fun K x1 x2 x3 x4 x5 x6 => ep89_l4 n K n x1 x2 x3 x4 x5 x6) fun _ _ => rfl
theorem pa89 (n : Nat) : allP (K89 R n) (partsOf ann89 (bodyOf Tryz.f89)) := by
  rw [show partsOf ann89 (bodyOf Tryz.f89) = [(false, 4, c89_l4)] from by kernel_rfl]; exact ⟨q89_l4 n, trivial⟩
end
abbrev t89 : Sl (List SV) := (.c (sP sSh) (.c (sP sSh) .n))
noncomputable abbrev f89 (n : Nat) {R : Type} (K : List SV → Option R) : t89.T (Option R) := fun x1 x2 => p89 n x1 x2 (fun y1 => K [.p (.sh y1)])
theorem ep89 {R : Type} (n : Nat) (K : List SV → Option R) (x1 x2 : List PV) : evFn Tryz.prog (env89 n) ann89 n Tryz.f89 [.p (.sh x1), .p (.sh x2)] K = f89 n K x1 x2 := by
  rw [evFn_evOi (c := bodyOf Tryz.f89) (by kernel_rfl) (pa89 n)]; kernel_rfl
noncomputable abbrev fs89 (n : Nat) : FS := { om := [false, false], run := fun args K => oget (t89.ap args (f89 n K)) none }
theorem ok89 (n : Nat) : FSound Tryz.prog GI 89 (fs89 n) :=
  FSound.good (envok89 n) (ann := ann89) (n := n) Tryz.func89
    (.cons (envok89 n) t89 (f89 n) (fun K x1 x2 => ep89 n K x1 x2) .nil)
    (by kernel_rfl) (by kernel_rfl) (by kernel_rfl)
end Go.Proofs.YtfbahcfojiaeaaaGreatDoor


set_option linter.unusedVariables false
set_option maxRecDepth 100000
namespace Go.Proofs.YtfbahcfojiaeaaaGreatDoor
open Go Th Go.Proofs
def ann70 : Ann := { loops := [(3, [(0, .id), (1, .id), (5, .id), (16, .id), (17, .id)], [(4, .id), (5, .id)]), (7, [(0, .id), (1, .id), (5, .id), (6, .id), (7, .id), (16, .id), (17, .id), (21, .id), (22, .id)], [(0, .id), (1, .id), (4, .id), (5, .id), (6, .id), (7, .id), (16, .id), (17, .id)])], cuts := [], frz := [], rm := [.id] }
noncomputable abbrev env70 (n : Nat) : Env := fun i => bif Nat.beq i 78 then some (fs78 n) else (fun _ => none) i
theorem envok70 (n : Nat) : EnvOK Tryz.prog GI (env70 n) := EnvOK.cons (EnvOK.nil) (ok78 n)
noncomputable def p70_l7B {R : Type} (n : Nat) (l0 : List PV → List PV → List PV → Int → Int → Int → Int → Int → Int → Option R) (x1 x2 x3 : List PV) (x4 x5 x6 x7 x8 x9 : Int) (k0 : List PV → List PV → List PV → Int → Int → Int → Int → Option R) : Option R :=
  bif (decide (x9 < x8)) then (bif (inR x4 ((x1).length)) then (getI .u32 ((x1).getD ((x4 : Int).toNat) (.v (.bool false))) fun e10 => bif (inR x9 ((x2).length)) then (getI .u32 ((x2).getD ((x9 : Int).toNat) (.v (.bool false))) fun e11 => let v12 := IntKind.u64.wrap ((IntKind.u64.wrap (e10)) * (IntKind.u64.wrap (e11))); bif (inR (IntKind.i64.wrap (x4 + x9)) ((x3).length)) then (getI .u32 ((x3).getD ((IntKind.i64.wrap (x4 + x9) : Int).toNat) (.v (.bool false))) fun e13 => let v14 := IntKind.u64.wrap (v12 + (IntKind.u64.wrap (e13))); bif decide (1000000000 = 0) then none else (let v15 := Int.tmod (IntKind.u64.wrap (x5 + v14)) 1000000000; bif (inR (IntKind.i64.wrap (x4 + x9)) ((x3).length)) then (getI .u32 ((x3).getD ((IntKind.i64.wrap (x4 + x9) : Int).toNat) (.v (.bool false))) fun e16 => bif decide (1000000000 = 0) then none else (let v17 := IntKind.u64.wrap (Int.tdiv (IntKind.u64.wrap (x5 + v14)) 1000000000); l0 x1 x2 ((x3).set ((IntKind.i64.wrap (x4 + x9) : Int).toNat) (.v (.int .u32 (IntKind.u32.wrap (v15))))) x4 v17 x6 x7 x8 (IntKind.i64.wrap (x9 + 1)))) else none)) else none) else none) else none) else (k0 x1 x2 x3 x4 x5 x6 x7)
noncomputable def p70_l7L {R : Type} (n : Nat) : Nat → List PV → List PV → List PV → Int → Int → Int → Int → Int → Int → (List PV → List PV → List PV → Int → Int → Int → Int → Option R) → Option R
  | 0, _, _, _, _, _, _, _, _, _, _ => none
  | m + 1, x1, x2, x3, x4, x5, x6, x7, x8, x9, k0 => p70_l7B n (fun x1 x2 x3 x4 x5 x6 x7 x8 x9 => p70_l7L n m x1 x2 x3 x4 x5 x6 x7 x8 x9 k0) x1 x2 x3 x4 x5 x6 x7 x8 x9 k0
noncomputable def p70_l7 {R : Type} (n : Nat) (x1 x2 x3 : List PV) (x4 x5 x6 x7 x8 x9 : Int) (k0 : List PV → List PV → List PV → Int → Int → Int → Int → Option R) : Option R := p70_l7L n n x1 x2 x3 x4 x5 x6 x7 x8 x9 k0
noncomputable def p70_l3B {R : Type} (n : Nat) (l0 : List PV → List PV → List PV → Int → Int → Option R) (x1 x2 x3 : List PV) (x4 x5 : Int) (k0 : List PV → Option R) : Option R :=
  bif (decide (x5 < x4)) then (p70_l7 n x1 x2 x3 x5 0 x4 x5 ((x2).length : Int) 0 (fun y6 y7 y8 y9 y10 y11 y12 => let v13 := IntKind.i64.wrap (y9 + ((y7).length : Int)); bif (inR v13 ((y8).length)) then (getI .u32 ((y8).getD ((v13 : Int).toNat) (.v (.bool false))) fun e14 => l0 y6 y7 ((y8).set ((v13 : Int).toNat) (.v (.int .u32 (IntKind.u32.wrap (y10))))) y11 (IntKind.i64.wrap (y12 + 1))) else none)) else (k0 x3)
noncomputable def p70_l3L {R : Type} (n : Nat) : Nat → List PV → List PV → List PV → Int → Int → (List PV → Option R) → Option R
  | 0, _, _, _, _, _, _ => none
  | m + 1, x1, x2, x3, x4, x5, k0 => p70_l3B n (fun x1 x2 x3 x4 x5 => p70_l3L n m x1 x2 x3 x4 x5 k0) x1 x2 x3 x4 x5 k0
noncomputable def p70_l3 {R : Type} (n : Nat) (x1 x2 x3 : List PV) (x4 x5 : Int) (k0 : List PV → Option R) : Option R := p70_l3L n n x1 x2 x3 x4 x5 k0
noncomputable def p70 {R : Type} (n : Nat) (x1 x2 : List PV) (k0 : List PV → Option R) : Option R :=
  let v3 := IntKind.i64.wrap (((x1).length : Int) + ((x2).length : Int)); bif (decide ((0 : Int) ≤ v3) && decide ((v3 : Int) ≤ v3) && lenOK (v3 : Int).toNat 4) then (p70_l3 n x1 x2 (List.replicate (v3 : Int).toNat (.v (.int .u32 0) : PV)) ((x1).length : Int) 0 (fun y4 => p78 n y4 (fun y5 => k0 y5))) else none
noncomputable abbrev E70 {R : Type} (n : Nat) (c : Code) : Fr → Kc R → Option R := evC Tryz.prog (env70 n) ann70 n (68, []) c
noncomputable def c70_l3 : Code := subC (bodyOf Tryz.f70) [1, 1, 0, 1, 0, 0]
abbrev t70_l3 : Sl (List SV) := (.c (sP sSh) (.c (sP sSh) (.c (sOwn 98) (.c (sP (sInt .i64)) (.c (sP (sInt .i64)) .n)))))
noncomputable abbrev f70_l3 {R : Type} (n m : Nat) (K : Kc R) : t70_l3.T (Option R) := fun x1 x2 x3 x4 x5 => p70_l3L n m x1 x2 x3 x4 x5 (fun y1 => K (.exit 0) (lk (outA ann70.loops 3) [.dead, .own 98 y1]))
noncomputable abbrev o70_l3 {R : Type} (n : Nat) (vs : List SV) (K : Kc R) : Option R := oget (t70_l3.ap vs (f70_l3 n n K)) (loopE ann70 3 (E70 n c70_l3) n vs K)
noncomputable def c70_l7 : Code := subC (bodyOf Tryz.f70) [1, 1, 0, 1, 0, 0, 1, 1, 0, 0, 1, 1, 0, 1, 0, 0]
abbrev t70_l7 : Sl (List SV) := (.c (sP sSh) (.c (sP sSh) (.c (sOwn 98) (.c (sP (sInt .i64)) (.c (sP (sInt .u64)) (.c (sP (sInt .i64)) (.c (sP (sInt .i64)) (.c (sP (sInt .i64)) (.c (sP (sInt .i64)) .n)))))))))
noncomputable abbrev f70_l7 {R : Type} (n m : Nat) (K : Kc R) : t70_l7.T (Option R) := fun x1 x2 x3 x4 x5 x6 x7 x8 x9 => p70_l7L n m x1 x2 x3 x4 x5 x6 x7 x8 x9 (fun y1 y2 y3 y4 y5 y6 y7 => K (.exit 2) (lk (outA ann70.loops 7) [.p (.sh y1), .p (.sh y2), .dead, .own 98 y3, .p (.v (.int .i64 y4)), .p (.v (.int .u64 y5)), .p (.v (.int .i64 y6)), .p (.v (.int .i64 y7))]))
noncomputable abbrev o70_l7 {R : Type} (n : Nat) (vs : List SV) (K : Kc R) : Option R := oget (t70_l7.ap vs (f70_l7 n n K)) (loopE ann70 7 (E70 n c70_l7) n vs K)
noncomputable abbrev lo70 {R : Type} (n : Nat) : Orc R := fun i vs K => dcnd (Nat.beq i 7) (o70_l7 n vs K) (dcnd (Nat.beq i 3) (o70_l3 n vs K) (none))
noncomputable abbrev cu70 {R : Type} (n : Nat) : Orc R := fun i vs K => none
section
variable {R : Type}
noncomputable abbrev V70 (n : Nat) (c : Code) : Fr → Kc R → Option R := evOi Tryz.prog (env70 n) ann70 (68, []) (lo70 n) (cu70 n) c
abbrev K70 (R : Type) (n : Nat) := PartOK (R := R) Tryz.prog (env70 n) ann70 n (68, []) (lo70 n) (cu70 n)
theorem pa70_l7 (n : Nat) : allP (K70 R n) (partsOf ann70 c70_l7) := by
  rw [show partsOf ann70 c70_l7 = [] from by kernel_rfl]; exact trivial
theorem sp70_l7 (n m : Nat) (x1 x2 x3 : List PV) (x4 x5 x6 x7 x8 x9 : Int) (K : Kc R) : loopE ann70 7 (V70 n c70_l7) (m + 1) [.p (.sh x1), .p (.sh x2), .own 98 x3, .p (.v (.int .i64 x4)), .p (.v (.int .u64 x5)), .p (.v (.int .i64 x6)), .p (.v (.int .i64 x7)), .p (.v (.int .i64 x8)), .p (.v (.int .i64 x9))] K = p70_l7B n (fun x1 x2 x3 x4 x5 x6 x7 x8 x9 => loopE ann70 7 (V70 n c70_l7) m [.p (.sh x1), .p (.sh x2), .own 98 x3, .p (.v (.int .i64 x4)), .p (.v (.int .u64 x5)), .p (.v (.int .i64 x6)), .p (.v (.int .i64 x7)), .p (.v (.int .i64 x8)), .p (.v (.int .i64 x9))] K) x1 x2 x3 x4 x5 x6 x7 x8 x9 (fun y1 y2 y3 y4 y5 y6 y7 => K (.exit 2) (lk (outA ann70.loops 7) [.p (.sh y1), .p (.sh y2), .dead, .own 98 y3, .p (.v (.int .i64 y4)), .p (.v (.int .u64 y5)), .p (.v (.int .i64 y6)), .p (.v (.int .i64 y7))])) := by kernel_rfl
theorem ep70_l7 (n : Nat) (K : Kc R) : ∀ (m : Nat) (x1 x2 x3 : List PV) (x4 x5 x6 x7 x8 x9 : Int), loopE ann70 7 (V70 n c70_l7) m [.p (.sh x1), .p (.sh x2), .own 98 x3, .p (.v (.int .i64 x4)), .p (.v (.int .u64 x5)), .p (.v (.int .i64 x6)), .p (.v (.int .i64 x7)), .p (.v (.int .i64 x8)), .p (.v (.int .i64 x9))] K = f70_l7 n m K x1 x2 x3 x4 x5 x6 x7 x8 x9
  | 0, _, _, _, _, _, _, _, _, _ => rfl
  | m + 1, x1, x2, x3, x4, x5, x6, x7, x8, x9 => (sp70_l7 n m x1 x2 x3 x4 x5 x6 x7 x8 x9 K).trans (congrArg (fun l0 => p70_l7B n l0 x1 x2 x3 x4 x5 x6 x7 x8 x9 (fun y1 y2 y3 y4 y5 y6 y7 => K (.exit 2) (lk (outA ann70.loops 7) [.p (.sh y1), .p (.sh y2), .dead, .own 98 y3, .p (.v (.int .i64 y4)), .p (.v (.int .u64 y5)), .p (.v (.int .i64 y6)), .p (.v (.int .i64 y7))]))) (funext fun z0 => funext fun z1 => funext fun z2 => funext fun z3 => funext fun z4 => funext fun z5 => funext fun z6 => funext fun z7 => funext fun z8 => ep70_l7 n K m z0 z1 z2 z3 z4 z5 z6 z7 z8))
theorem q70_l7 (n : Nat) : K70 R n (false, 7, c70_l7) := part_loop (pa70_l7 n) t70_l7 (f70_l7 n n) (fun K x1 x2 x3 x4 x5 x6 x7 x8 x9 => ep70_l7 n K n x1 x2 x3 x4 x5 x6 x7 x8 x9) fun _ _ => rfl
theorem pa70_l3 (n : Nat) : allP (K70 R n) (partsOf ann70 c70_l3) := by
  rw [show partsOf ann70 c70_l3 = [(false, 7, c70_l7)] from by kernel_rfl]; exact ⟨q70_l7 n, trivial⟩
theorem sp70_l3 (n m : Nat) (x1 x2 x3 : List PV) (x4 x5 : Int) (K : Kc R) : loopE ann70 3 (V70 n c70_l3) (m + 1) [.p (.sh x1), .p (.sh x2), .own 98 x3, .p (.v (.int .i64 x4)), .p (.v (.int .i64 x5))] K = p70_l3B n (fun x1 x2 x3 x4 x5 => loopE ann70 3 (V70 n c70_l3) m [.p (.sh x1), .p (.sh x2), .own 98 x3, .p (.v (.int .i64 x4)), .p (.v (.int .i64 x5))] K) x1 x2 x3 x4 x5 (fun y1 => K (.exit 0) (lk (outA ann70.loops 3) [.dead, .own 98 y1])) := by kernel_rfl
theorem ep70_l3 (n : Nat) (K : Kc R) : ∀ (m : Nat) (x1 x2 x3 : List PV) (x4 x5 : Int), loopE ann70 3 (V70 n c70_l3) m [.p (.sh x1), .p (.sh x2), .own 98 x3, .p (.v (.int .i64 x4)), .p (.v (.int .i64 x5))] K = f70_l3 n m K x1 x2 x3 x4 x5
  | 0, _, _, _, _, _ => rfl
  | m + 1, x1, x2, x3, x4, x5 => (sp70_l3 n m x1 x2 x3 x4 x5 K).trans (congrArg (fun l0 => p70_l3B n l0 x1 x2 x3 x4 x5 (fun y1 => K (.exit 0) (lk (outA ann70.loops 3) [.dead, .own 98 y1]))) (funext fun z0 => funext fun z1 => funext fun z2 => funext fun z3 => funext fun z4 => ep70_l3 n K m z0 z1 z2 z3 z4))
theorem q70_l3 (n : Nat) : K70 R n (false, 3, c70_l3) := part_loop (pa70_l3 n) t70_l3 (f70_l3 n n) (fun K x1 x2 x3 x4 x5 => ep70_l3 n K n x1 x2 x3 x4 x5) fun _ _ => rfl
theorem pa70 (n : Nat) : allP (K70 R n) (partsOf ann70 (bodyOf Tryz.f70)) := by
  rw [show partsOf ann70 (bodyOf Tryz.f70) = [(false, 3, c70_l3)] from by kernel_rfl]; exact ⟨q70_l3 n, trivial⟩
end
abbrev t70 : Sl (List SV) := (.c (sP sSh) (.c (sP sSh) .n))
noncomputable abbrev f70 (n : Nat) {R : Type} (K : List SV → Option R) : t70.T (Option R) := fun x1 x2 => p70 n x1 x2 (fun y1 => K [.p (.sh y1)])
theorem ep70 {R : Type} (n : Nat) (K : List SV → Option R) (x1 x2 : List PV) : evFn Tryz.prog (env70 n) ann70 n Tryz.f70 [.p (.sh x1), .p (.sh x2)] K = f70 n K x1 x2 := by
  rw [evFn_evOi (c := bodyOf Tryz.f70) (by kernel_rfl) (pa70 n)]; kernel_rfl
noncomputable abbrev fs70 (n : Nat) : FS := { om := [false, false], run := fun args K => oget (t70.ap args (f70 n K)) none }
theorem ok70 (n : Nat) : FSound Tryz.prog GI 70 (fs70 n) :=
  FSound.good (envok70 n) (ann := ann70) (n := n) Tryz.func70
    (.cons (envok70 n) t70 (f70 n) (fun K x1 x2 => ep70 n K x1 x2) .nil)
    (by kernel_rfl) (by kernel_rfl) (by kernel_rfl)
end Go.Proofs.YtfbahcfojiaeaaaGreatDoor


set_option linter.unusedVariables false
set_option maxRecDepth 100000
namespace Go.Proofs.YtfbahcfojiaeaaaGreatDoor
open Go Th Go.Proofs
def ann94 : Ann := { loops := [(4, [(0, .id), (1, .id), (6, .id), (7, .id), (8, .id)], [(4, .id), (5, .id), (6, .id), (7, .id)])], cuts := [], frz := [], rm := [.id, .id] }
noncomputable abbrev env94 (n : Nat) : Env := fun i => bif Nat.beq i 78 then some (fs78 n) else (fun _ => none) i
theorem envok94 (n : Nat) : EnvOK Tryz.prog GI (env94 n) := EnvOK.cons (EnvOK.nil) (ok78 n)
noncomputable def p94_l4B {R : Type} (n : Nat) (l0 : List PV → Int → List PV → Int → Int → Option R) (x1 : List PV) (x2 : Int) (x3 : List PV) (x4 x5 : Int) (k0 : List PV → Int → Option R) : Option R :=
  bif (decide (x5 ≥ 0)) then (bif (inR x5 ((x1).length)) then (getI .u32 ((x1).getD ((x5 : Int).toNat) (.v (.bool false))) fun e6 => let v7 := IntKind.u64.wrap ((IntKind.u64.wrap (x4 * 1000000000)) + (IntKind.u64.wrap (e6))); bif decide (IntKind.u64.wrap (x2) = 0) then none else (let v8 := IntKind.u64.wrap (Int.tdiv v7 (IntKind.u64.wrap (x2))); bif (inR x5 ((x3).length)) then (getI .u32 ((x3).getD ((x5 : Int).toNat) (.v (.bool false))) fun e9 => bif decide (IntKind.u64.wrap (x2) = 0) then none else (let v10 := Int.tmod v7 (IntKind.u64.wrap (x2)); l0 x1 x2 ((x3).set ((x5 : Int).toNat) (.v (.int .u32 (IntKind.u32.wrap (v8))))) v10 (IntKind.i64.wrap (x5 - 1)))) else none)) else none) else (k0 x3 x4)
noncomputable def p94_l4L {R : Type} (n : Nat) : Nat → List PV → Int → List PV → Int → Int → (List PV → Int → Option R) → Option R
  | 0, _, _, _, _, _, _ => none
  | m + 1, x1, x2, x3, x4, x5, k0 => p94_l4B n (fun x1 x2 x3 x4 x5 => p94_l4L n m x1 x2 x3 x4 x5 k0) x1 x2 x3 x4 x5 k0
noncomputable def p94_l4 {R : Type} (n : Nat) (x1 : List PV) (x2 : Int) (x3 : List PV) (x4 x5 : Int) (k0 : List PV → Int → Option R) : Option R := p94_l4L n n x1 x2 x3 x4 x5 k0
noncomputable def p94 {R : Type} (n : Nat) (x1 : List PV) (x2 : Int) (k0 : List PV → Int → Option R) : Option R :=
  bif (decide ((0 : Int) ≤ ((x1).length : Int)) && decide ((((x1).length : Int) : Int) ≤ ((x1).length : Int)) && lenOK (((x1).length : Int) : Int).toNat 4) then (let v3 := IntKind.i64.wrap (((x1).length : Int) - 1); p94_l4 n x1 x2 (List.replicate (((x1).length : Int) : Int).toNat (.v (.int .u32 0) : PV)) 0 v3 (fun y4 y5 => p78 n y4 (fun y6 => k0 y6 (IntKind.u32.wrap (y5))))) else none
noncomputable abbrev E94 {R : Type} (n : Nat) (c : Code) : Fr → Kc R → Option R := evC Tryz.prog (env94 n) ann94 n (43, []) c
noncomputable def c94_l4 : Code := subC (bodyOf Tryz.f94) [1, 1, 1, 0, 1, 0, 0]
abbrev t94_l4 : Sl (List SV) := (.c (sP sSh) (.c (sP (sInt .u32)) (.c (sOwn 98) (.c (sP (sInt .u64)) (.c (sP (sInt .i64)) .n)))))
noncomputable abbrev f94_l4 {R : Type} (n m : Nat) (K : Kc R) : t94_l4.T (Option R) := fun x1 x2 x3 x4 x5 => p94_l4L n m x1 x2 x3 x4 x5 (fun y1 y2 => K (.exit 0) (lk (outA ann94.loops 4) [.dead, .dead, .own 98 y1, .p (.v (.int .u64 y2))]))
noncomputable abbrev o94_l4 {R : Type} (n : Nat) (vs : List SV) (K : Kc R) : Option R := oget (t94_l4.ap vs (f94_l4 n n K)) (loopE ann94 4 (E94 n c94_l4) n vs K)
noncomputable abbrev lo94 {R : Type} (n : Nat) : Orc R := fun i vs K => dcnd (Nat.beq i 4) (o94_l4 n vs K) (none)
noncomputable abbrev cu94 {R : Type} (n : Nat) : Orc R := fun i vs K => none
section
variable {R : Type}
noncomputable abbrev V94 (n : Nat) (c : Code) : Fr → Kc R → Option R := evOi Tryz.prog (env94 n) ann94 (43, []) (lo94 n) (cu94 n) c
abbrev K94 (R : Type) (n : Nat) := PartOK (R := R) Tryz.prog (env94 n) ann94 n (43, []) (lo94 n) (cu94 n)
theorem pa94_l4 (n : Nat) : allP (K94 R n) (partsOf ann94 c94_l4) := by
  rw [show partsOf ann94 c94_l4 = [] from by kernel_rfl]; exact trivial
theorem sp94_l4 (n m : Nat) (x1 : List PV) (x2 : Int) (x3 : List PV) (x4 x5 : Int) (K : Kc R) : loopE ann94 4 (V94 n c94_l4) (m + 1) [.p (.sh x1), .p (.v (.int .u32 x2)), .own 98 x3, .p (.v (.int .u64 x4)), .p (.v (.int .i64 x5))] K = p94_l4B n (fun x1 x2 x3 x4 x5 => loopE ann94 4 (V94 n c94_l4) m [.p (.sh x1), .p (.v (.int .u32 x2)), .own 98 x3, .p (.v (.int .u64 x4)), .p (.v (.int .i64 x5))] K) x1 x2 x3 x4 x5 (fun y1 y2 => K (.exit 0) (lk (outA ann94.loops 4) [.dead, .dead, .own 98 y1, .p (.v (.int .u64 y2))])) := by kernel_rfl
theorem ep94_l4 (n : Nat) (K : Kc R) : ∀ (m : Nat) (x1 : List PV) (x2 : Int) (x3 : List PV) (x4 x5 : Int), loopE ann94 4 (V94 n c94_l4) m [.p (.sh x1), .p (.v (.int .u32 x2)), .own 98 x3, .p (.v (.int .u64 x4)), .p (.v (.int .i64 x5))] K = f94_l4 n m K x1 x2 x3 x4 x5
  | 0, _, _, _, _, _ => rfl
  | m + 1, x1, x2, x3, x4, x5 => (sp94_l4 n m x1 x2 x3 x4 x5 K).trans (congrArg (fun l0 => p94_l4B n l0 x1 x2 x3 x4 x5 (fun y1 y2 => K (.exit 0) (lk (outA ann94.loops 4) [.dead, .dead, .own 98 y1, .p (.v (.int .u64 y2))]))) (funext fun z0 => funext fun z1 => funext fun z2 => funext fun z3 => funext fun z4 => ep94_l4 n K m z0 z1 z2 z3 z4))
theorem q94_l4 (n : Nat) : K94 R n (false, 4, c94_l4) := part_loop (pa94_l4 n) t94_l4 (f94_l4 n n) (fun K x1 x2 x3 x4 x5 => ep94_l4 n K n x1 x2 x3 x4 x5) fun _ _ => rfl
theorem pa94 (n : Nat) : allP (K94 R n) (partsOf ann94 (bodyOf Tryz.f94)) := by
  rw [show partsOf ann94 (bodyOf Tryz.f94) = [(false, 4, c94_l4)] from by kernel_rfl]; exact ⟨q94_l4 n, trivial⟩
end
abbrev t94 : Sl (List SV) := (.c (sP sSh) (.c (sP (sInt .u32)) .n))
noncomputable abbrev f94 (n : Nat) {R : Type} (K : List SV → Option R) : t94.T (Option R) := fun x1 x2 => p94 n x1 x2 (fun y1 y2 => K [.p (.sh y1), .p (.v (.int .u32 y2))])
theorem ep94 {R : Type} (n : Nat) (K : List SV → Option R) (x1 : List PV) (x2 : Int) : evFn Tryz.prog (env94 n) ann94 n Tryz.f94 [.p (.sh x1), .p (.v (.int .u32 x2))] K = f94 n K x1 x2 := by
  rw [evFn_evOi (c := bodyOf Tryz.f94) (by kernel_rfl) (pa94 n)]; kernel_rfl
noncomputable abbrev fs94 (n : Nat) : FS := { om := [false, false], run := fun args K => oget (t94.ap args (f94 n K)) none }
theorem ok94 (n : Nat) : FSound Tryz.prog GI 94 (fs94 n) :=
  FSound.good (envok94 n) (ann := ann94) (n := n) Tryz.func94
    (.cons (envok94 n) t94 (f94 n) (fun K x1 x2 => ep94 n K x1 x2) .nil)
    (by kernel_rfl) (by kernel_rfl) (by kernel_rfl)
end Go.Proofs.YtfbahcfojiaeaaaGreatDoor


set_option linter.unusedVariables false
set_option linter.unusedSimpArgs false
namespace Go.Proofs.YtfbahcfojiaeaaaGreatDoor
open Go Th Go.Proofs
variable {R : Type}
theorem hB2 : 2 ≤ 1000000000 := by decide
def NN (a : Nat) : List PV := nl .u32 (toL 1000000000 a)
theorem trim_loop (n : Nat) (k0 : List PV → Option R) : ∀ (m : Nat) (l : List Nat), (∀ d ∈ l, d < 1000000000) → l.length < m → l.length < 2 ^ 40 → p78_l1L n m (nl .u32 l) k0 = k0 (NN (val 1000000000 l))
  | m + 1, l, hl, hm, hb => by
    simp only [p78_l1L, p78_l1B]
    rcases List.eq_nil_or_concat l with rfl | ⟨r, d, rfl⟩
    · simp (disch := (first | omega | (simp only [List.length_append, List.length_cons, List.length_nil, List.length_replicate, List.length_take, List.length_drop]; omega))) only [↓c_pos, ↓c_neg, dec_t, dec_f, Bool.and_true, Bool.true_and, Bool.and_false, Bool.false_and, Bool.not_true, Bool.not_false, cond_true, cond_false, inR_t, cutR_t, roomB_t, lenOK_t, w64, bs_size, List.length_append, List.length_cons, List.length_nil, bs_extract, bs_append, bs_push, bs_data, bs_empty, bs_lit, catS_bs, eqS_bs, ite_pos', ite_neg', decide_true, decide_false, if_true, if_false, toNatC, getI_nl, nl_len, nl_set, nl_set0, nl_take, nl_drop, nl_rep, nl_app, hdSz_nl, drop0, wu32, wu64, wu8, List.length_set, List.length_replicate]
      unfold NN
      rw [show val 1000000000 [] = 0 from rfl, toL_zero]
    · rw [List.concat_eq_append] at *
      have hlen : (r ++ [d]).length = r.length + 1 := by simp
      have hg : (r ++ [d]).getD r.length 0 = d := by rw [List.getD_eq_getElem?_getD, List.getElem?_append_right (Nat.le_refl _)]; simp
      have ht : (r ++ [d]).take r.length = r := List.take_left
      have e1 : ((r.length + (0 + 1) : Nat) : Int) - 1 = (r.length : Int) := by omega
      rw [hlen] at hm hb
      by_cases hd : d = 0
      · subst hd
        have ih := trim_loop n k0 m r (fun x hx => hl x (by simp [hx])) (by omega) (by omega)
        simp (disch := (first | omega | (simp only [List.length_append, List.length_cons, List.length_nil, List.length_replicate, List.length_take, List.length_drop]; omega))) only [↓c_pos, ↓c_neg, dec_t, dec_f, Bool.and_true, Bool.true_and, Bool.and_false, Bool.false_and, Bool.not_true, Bool.not_false, cond_true, cond_false, inR_t, cutR_t, roomB_t, lenOK_t, w64, bs_size, List.length_append, List.length_cons, List.length_nil, bs_extract, bs_append, bs_push, bs_data, bs_empty, bs_lit, catS_bs, eqS_bs, ite_pos', ite_neg', decide_true, decide_false, if_true, if_false, toNatC, getI_nl, nl_len, nl_set, nl_set0, nl_take, nl_drop, nl_rep, nl_app, hdSz_nl, drop0, wu32, wu64, wu8, List.length_set, List.length_replicate, e1, hg, beqInt0, ht, ih]
        rw [val_snoc_zero]
        rfl
      · have hne : (d == 0) = false := by simpa using hd
        simp (disch := (first | omega | (simp only [List.length_append, List.length_cons, List.length_nil, List.length_replicate, List.length_take, List.length_drop]; omega))) only [↓c_pos, ↓c_neg, dec_t, dec_f, Bool.and_true, Bool.true_and, Bool.and_false, Bool.false_and, Bool.not_true, Bool.not_false, cond_true, cond_false, inR_t, cutR_t, roomB_t, lenOK_t, w64, bs_size, List.length_append, List.length_cons, List.length_nil, bs_extract, bs_append, bs_push, bs_data, bs_empty, bs_lit, catS_bs, eqS_bs, ite_pos', ite_neg', decide_true, decide_false, if_true, if_false, toNatC, getI_nl, nl_len, nl_set, nl_set0, nl_take, nl_drop, nl_rep, nl_app, hdSz_nl, drop0, wu32, wu64, wu8, List.length_set, List.length_replicate, e1, hg, beqInt0, hne]
        congr 1
        unfold NN
        rw [toL_val hB2 _ hl (by rw [List.getLast?_append]; simpa using hd)]
theorem trim_eq (n : Nat) (l : List Nat) (hl : ∀ d ∈ l, d < 1000000000) (hn : l.length < n) (hb : l.length < 2 ^ 40) (k0 : List PV → Option R) : p78 n (nl .u32 l) k0 = k0 (NN (val 1000000000 l)) := by
  unfold p78 p78_l1
  exact trim_loop n _ n l hl hn hb
def cmpN (a b : Nat) : Int := if a < b then -1 else if b < a then 1 else 0
theorem cmp_loop (n : Nat) (la lb : List Nat) (ha : ∀ d ∈ la, d < 1000000000) (hb : ∀ d ∈ lb, d < 1000000000) (hlen : la.length = lb.length) (hl : la.length < 2 ^ 40) (k0 : Int → Option R) (k1 : Option R) :
    ∀ (i m : Nat), i ≤ la.length → i < m → p73_l6L n m (nl .u32 la) (nl .u32 lb) ((i : Int) - 1) k0 k1 =
      if val 1000000000 (la.take i) < val 1000000000 (lb.take i) then k0 (-1) else if val 1000000000 (lb.take i) < val 1000000000 (la.take i) then k0 1 else k1
  | 0, m + 1, _, _ => by
    simp only [p73_l6L, p73_l6B]
    simp (disch := (first | omega | (simp only [List.length_append, List.length_cons, List.length_nil, List.length_replicate, List.length_take, List.length_drop]; omega))) only [↓c_pos, ↓c_neg, dec_t, dec_f, Bool.and_true, Bool.true_and, Bool.and_false, Bool.false_and, Bool.not_true, Bool.not_false, cond_true, cond_false, inR_t, cutR_t, roomB_t, lenOK_t, w64, bs_size, List.length_append, List.length_cons, List.length_nil, bs_extract, bs_append, bs_push, bs_data, bs_empty, bs_lit, catS_bs, eqS_bs, ite_pos', ite_neg', decide_true, decide_false, if_true, if_false, toNatC, getI_nl, nl_len, nl_set, nl_set0, nl_take, nl_drop, nl_rep, nl_app, hdSz_nl, drop0, wu32, wu64, wu8, List.length_set, List.length_replicate]
    rfl
  | i + 1, m + 1, h, hm => by
    have ih := cmp_loop n la lb ha hb hlen hl k0 k1 i m (by omega) (by omega)
    have e1 : ((i + 1 : Nat) : Int) - 1 = (i : Int) := by omega
    have va := val_take_lt hB2 ha (i := i) (by omega)
    have vb := val_take_lt hB2 hb (i := i) (by omega)
    rw [val_take_succ 1000000000 (by omega : i < la.length), val_take_succ 1000000000 (by omega : i < lb.length)]
    simp only [p73_l6L, p73_l6B]
    simp (disch := (first | omega | (simp only [List.length_append, List.length_cons, List.length_nil, List.length_replicate, List.length_take, List.length_drop]; omega))) only [↓c_pos, ↓c_neg, dec_t, dec_f, Bool.and_true, Bool.true_and, Bool.and_false, Bool.false_and, Bool.not_true, Bool.not_false, cond_true, cond_false, inR_t, cutR_t, roomB_t, lenOK_t, w64, bs_size, List.length_append, List.length_cons, List.length_nil, bs_extract, bs_append, bs_push, bs_data, bs_empty, bs_lit, catS_bs, eqS_bs, ite_pos', ite_neg', decide_true, decide_false, if_true, if_false, toNatC, getI_nl, nl_len, nl_set, nl_set0, nl_take, nl_drop, nl_rep, nl_app, hdSz_nl, drop0, wu32, wu64, wu8, List.length_set, List.length_replicate, e1, bneInt_nat]
    have hd := getD_lt hB2 ha i
    have hd2 := getD_lt hB2 hb i
    generalize la.getD i 0 = x at *
    generalize lb.getD i 0 = y at *
    by_cases he : x = y
    · subst he
      rw [bne_self_eq_false, cond_false, ih]
      simp only [Nat.add_lt_add_iff_right]
    · rw [bne_iff_ne.2 he, cond_true]
      by_cases hlt : x < y
      · have : 1000000000 ^ i * x + 1000000000 ^ i ≤ 1000000000 ^ i * y := by rw [← Nat.mul_succ]; exact Nat.mul_le_mul_left _ hlt
        rw [c_pos (by omega), if_pos (by omega)]
      · have hgt : y < x := by omega
        have : 1000000000 ^ i * y + 1000000000 ^ i ≤ 1000000000 ^ i * x := by rw [← Nat.mul_succ]; exact Nat.mul_le_mul_left _ hgt
        rw [c_neg (by omega), if_neg (by omega), if_pos (by omega)]
theorem cmp_eq (n a b : Nat) (hla : (toL 1000000000 a).length < 2 ^ 40) (hlb : (toL 1000000000 b).length < 2 ^ 40) (hn : (toL 1000000000 a).length < n) (k0 : Int → Option R) : p73 n (NN a) (NN b) k0 = k0 (cmpN a b) := by
  unfold p73 NN cmpN
  by_cases he : (toL 1000000000 a).length = (toL 1000000000 b).length
  · have : ((toL 1000000000 a).length != (toL 1000000000 b).length) = false := by simp [he]
    have hlp := cmp_loop n _ _ (toL_lt hB2 a) (toL_lt hB2 b) he hla (fun y4 => k0 y4) (k0 0) (toL 1000000000 a).length n (Nat.le_refl _) hn
    rw [List.take_length, show (toL 1000000000 b).take (toL 1000000000 a).length = toL 1000000000 b from by rw [he, List.take_length], val_toL hB2, val_toL hB2] at hlp
    simp only [nl_len]
    rw [bneInt_nat, this, cond_false, w64 (by omega) (by omega)]
    unfold p73_l6
    rw [hlp]
    split
    · rfl
    · split <;> rfl
  · have : ((toL 1000000000 a).length != (toL 1000000000 b).length) = true := by simpa using he
    by_cases hlt : (toL 1000000000 a).length < (toL 1000000000 b).length
    · have h2 := toL_lt_len hB2 hlt
      simp (disch := (first | omega | (simp only [List.length_append, List.length_cons, List.length_nil, List.length_replicate, List.length_take, List.length_drop]; omega))) only [↓c_pos, ↓c_neg, dec_t, dec_f, Bool.and_true, Bool.true_and, Bool.and_false, Bool.false_and, Bool.not_true, Bool.not_false, cond_true, cond_false, inR_t, cutR_t, roomB_t, lenOK_t, w64, bs_size, List.length_append, List.length_cons, List.length_nil, bs_extract, bs_append, bs_push, bs_data, bs_empty, bs_lit, catS_bs, eqS_bs, ite_pos', ite_neg', decide_true, decide_false, if_true, if_false, toNatC, getI_nl, nl_len, nl_set, nl_set0, nl_take, nl_drop, nl_rep, nl_app, hdSz_nl, drop0, wu32, wu64, wu8, List.length_set, List.length_replicate, bneInt_nat, this]
    · have h2 := toL_lt_len hB2 (x := b) (y := a) (by omega)
      simp (disch := (first | omega | (simp only [List.length_append, List.length_cons, List.length_nil, List.length_replicate, List.length_take, List.length_drop]; omega))) only [↓c_pos, ↓c_neg, dec_t, dec_f, Bool.and_true, Bool.true_and, Bool.and_false, Bool.false_and, Bool.not_true, Bool.not_false, cond_true, cond_false, inR_t, cutR_t, roomB_t, lenOK_t, w64, bs_size, List.length_append, List.length_cons, List.length_nil, bs_extract, bs_append, bs_push, bs_data, bs_empty, bs_lit, catS_bs, eqS_bs, ite_pos', ite_neg', decide_true, decide_false, if_true, if_false, toNatC, getI_nl, nl_len, nl_set, nl_set0, nl_take, nl_drop, nl_rep, nl_app, hdSz_nl, drop0, wu32, wu64, wu8, List.length_set, List.length_replicate, bneInt_nat, this]
theorem plus_loop (n : Nat) (la lb : List Nat) (ha : ∀ d ∈ la, d < 1000000000) (hb : ∀ d ∈ lb, d < 1000000000) (hab : lb.length ≤ la.length) (hl : la.length < 2 ^ 40) :
    ∀ (d m i : Nat) (o : List Nat) (c : Nat), d + i = la.length → d < m → o.length = la.length + 1 → (∀ x ∈ o, x < 1000000000) → c ≤ 1 → val 1000000000 (o.take i) + 1000000000 ^ i * c = val 1000000000 (la.take i) + val 1000000000 (lb.take i) →
      ∃ (o' : List Nat) (c' : Nat), (∀ k0 : List PV → List PV → Int → Option R, p88_l6L n m (nl .u32 la) (nl .u32 lb) (nl .u32 o) c la.length i k0 = k0 (nl .u32 la) (nl .u32 o') c') ∧ o'.length = la.length + 1 ∧ (∀ x ∈ o', x < 1000000000) ∧ c' ≤ 1 ∧
        val 1000000000 (o'.take la.length) + 1000000000 ^ la.length * c' = val 1000000000 la + val 1000000000 lb
  | 0, m + 1, i, o, c, hd, hm, ho, hlt, hc, hv => by
    have hi : i = la.length := by omega
    subst hi
    refine ⟨o, c, fun k0 => ?_, ho, hlt, hc, ?_⟩
    · simp only [p88_l6L, p88_l6B]
      simp (disch := (first | omega | (simp only [List.length_append, List.length_cons, List.length_nil, List.length_replicate, List.length_take, List.length_drop]; omega))) only [↓c_pos, ↓c_neg, dec_t, dec_f, Bool.and_true, Bool.true_and, Bool.and_false, Bool.false_and, Bool.not_true, Bool.not_false, cond_true, cond_false, inR_t, cutR_t, roomB_t, lenOK_t, w64, bs_size, List.length_append, List.length_cons, List.length_nil, bs_extract, bs_append, bs_push, bs_data, bs_empty, bs_lit, catS_bs, eqS_bs, ite_pos', ite_neg', decide_true, decide_false, if_true, if_false, toNatC, getI_nl, nl_len, nl_set, nl_set0, nl_take, nl_drop, nl_rep, nl_app, hdSz_nl, drop0, wu32, wu64, wu8, List.length_set, List.length_replicate]
    · rw [hv, List.take_length, List.take_of_length_le hab]
  | d + 1, m + 1, i, o, c, hd, hm, ho, hlt, hc, hv => by
    have hx := getD_lt hB2 ha i
    have hy := getD_lt hB2 hb i
    have hs2 : c + la.getD i 0 + lb.getD i 0 < 2 * 1000000000 := by omega
    have step := plus_loop n la lb ha hb hab hl d m (i + 1) (o.set i ((c + la.getD i 0 + lb.getD i 0) % 1000000000)) ((c + la.getD i 0 + lb.getD i 0) / 1000000000) (by omega) (by omega) (by rw [List.length_set]; exact ho)
      (set_lt hlt (Nat.mod_lt _ (by decide)) i) (by have := Nat.div_lt_of_lt_mul (show c + la.getD i 0 + lb.getD i 0 < 1000000000 * 2 by omega); omega)
      (by rw [set_take _ (by omega), val_snoc, List.length_take, Nat.min_eq_left (by omega), digit_step 1000000000 i _ c _ (by decide), val_take_succ' 1000000000 la, val_take_succ' 1000000000 lb, Nat.mul_add, Nat.mul_add]; omega)
    obtain ⟨o', c', h1, h2⟩ := step
    refine ⟨o', c', fun k0 => ?_, h2⟩
    rw [← h1 k0]
    have e2 : ((i : Int) + 1) = ((i + 1 : Nat) : Int) := by omega
    simp only [p88_l6L, p88_l6B, p88_c11]
    by_cases hi : i < lb.length
    · have e3 : ((c : Int) + ((la.getD i 0 : Nat) : Int) + ((lb.getD i 0 : Nat) : Int)) = ((c + la.getD i 0 + lb.getD i 0 : Nat) : Int) := by omega
      simp (disch := (first | omega | (simp only [List.length_append, List.length_cons, List.length_nil, List.length_replicate, List.length_take, List.length_drop]; omega))) only [↓c_pos, ↓c_neg, dec_t, dec_f, Bool.and_true, Bool.true_and, Bool.and_false, Bool.false_and, Bool.not_true, Bool.not_false, cond_true, cond_false, inR_t, cutR_t, roomB_t, lenOK_t, w64, bs_size, List.length_append, List.length_cons, List.length_nil, bs_extract, bs_append, bs_push, bs_data, bs_empty, bs_lit, catS_bs, eqS_bs, ite_pos', ite_neg', decide_true, decide_false, if_true, if_false, toNatC, getI_nl, nl_len, nl_set, nl_set0, nl_take, nl_drop, nl_rep, nl_app, hdSz_nl, drop0, wu32, wu64, wu8, List.length_set, List.length_replicate, e3, e2, tdivB, tmodB]
    · have h0 := getD_out (l := lb) (i := i) (by omega)
      rw [h0] at *
      have e3 : ((c : Int) + ((la.getD i 0 : Nat) : Int)) = ((c + la.getD i 0 + 0 : Nat) : Int) := by omega
      simp (disch := (first | omega | (simp only [List.length_append, List.length_cons, List.length_nil, List.length_replicate, List.length_take, List.length_drop]; omega))) only [↓c_pos, ↓c_neg, dec_t, dec_f, Bool.and_true, Bool.true_and, Bool.and_false, Bool.false_and, Bool.not_true, Bool.not_false, cond_true, cond_false, inR_t, cutR_t, roomB_t, lenOK_t, w64, bs_size, List.length_append, List.length_cons, List.length_nil, bs_extract, bs_append, bs_push, bs_data, bs_empty, bs_lit, catS_bs, eqS_bs, ite_pos', ite_neg', decide_true, decide_false, if_true, if_false, toNatC, getI_nl, nl_len, nl_set, nl_set0, nl_take, nl_drop, nl_rep, nl_app, hdSz_nl, drop0, wu32, wu64, wu8, List.length_set, List.length_replicate, e3, e2, tdivB, tmodB]
theorem plus_eq (n a b : Nat) (hla : (toL 1000000000 a).length < 2 ^ 30) (hlb : (toL 1000000000 b).length < 2 ^ 30) (hna : (toL 1000000000 a).length + 1 < n) (hnb : (toL 1000000000 b).length + 1 < n) (k0 : List PV → Option R) : p88 n (NN a) (NN b) k0 = k0 (NN (a + b)) := by
  have key : ∀ x y : Nat, (toL 1000000000 x).length < 2 ^ 30 → (toL 1000000000 y).length ≤ (toL 1000000000 x).length → (toL 1000000000 x).length + 1 < n → p88_c3 n (NN x) (NN y) k0 = k0 (NN (x + y)) := by
    intro x y hx hyx hn
    obtain ⟨o', c', h1, h2, h3, h4, h5⟩ := plus_loop (R := R) n (toL 1000000000 x) (toL 1000000000 y) (toL_lt hB2 x) (toL_lt hB2 y) hyx (by omega)
      (toL 1000000000 x).length n 0 (List.replicate ((toL 1000000000 x).length + 1) 0) 0 (by omega) (by omega) (by rw [List.length_replicate]) (rep_lt hB2 _) (by omega) (by simp [val])
    rw [val_toL hB2, val_toL hB2] at h5
    have ht := trim_eq n (o'.set (toL 1000000000 x).length c') (set_lt h3 (by omega) _) (by rw [List.length_set]; omega) (by rw [List.length_set]; omega) k0
    rw [take_full h2, val_snoc, List.length_take, Nat.min_eq_left (by omega), h5] at ht
    have e1 : ((toL 1000000000 x).length : Int) + 1 = (((toL 1000000000 x).length + 1 : Nat) : Int) := by omega
    unfold p88_c3 NN p88_l6
    rw [show ((0 : Nat) : Int) = 0 from rfl] at h1
    simp (disch := (first | omega | (simp only [List.length_append, List.length_cons, List.length_nil, List.length_replicate, List.length_take, List.length_drop]; omega))) only [↓c_pos, ↓c_neg, dec_t, dec_f, Bool.and_true, Bool.true_and, Bool.and_false, Bool.false_and, Bool.not_true, Bool.not_false, cond_true, cond_false, inR_t, cutR_t, roomB_t, lenOK_t, w64, bs_size, List.length_append, List.length_cons, List.length_nil, bs_extract, bs_append, bs_push, bs_data, bs_empty, bs_lit, catS_bs, eqS_bs, ite_pos', ite_neg', decide_true, decide_false, if_true, if_false, toNatC, getI_nl, nl_len, nl_set, nl_set0, nl_take, nl_drop, nl_rep, nl_app, hdSz_nl, drop0, wu32, wu64, wu8, List.length_set, List.length_replicate, e1, h1, take_full h2]
    exact ht
  unfold p88
  have l1 : (NN a).length = (toL 1000000000 a).length := nl_len _ _
  have l2 : (NN b).length = (toL 1000000000 b).length := nl_len _ _
  rw [l1, l2]
  by_cases h : (toL 1000000000 a).length < (toL 1000000000 b).length
  · rw [c_pos (by omega), Nat.add_comm]
    exact key b a hlb (by omega) hnb
  · rw [c_neg (by omega)]
    exact key a b hla (by omega) hna
theorem minus_loop (n : Nat) (la lb : List Nat) (ha : ∀ d ∈ la, d < 1000000000) (hb : ∀ d ∈ lb, d < 1000000000) (hab : lb.length ≤ la.length) (hl : la.length < 2 ^ 40) :
    ∀ (d m i : Nat) (o : List Nat) (c : Nat), d + i = la.length → d < m → o.length = la.length → (∀ x ∈ o, x < 1000000000) → c ≤ 1 → val 1000000000 (la.take i) + 1000000000 ^ i * c = val 1000000000 (o.take i) + val 1000000000 (lb.take i) →
      ∃ (o' : List Nat) (c' : Nat), (∀ k0 : List PV → Option R, p89_l4L n m (nl .u32 la) (nl .u32 lb) (nl .u32 o) c la.length i k0 = k0 (nl .u32 o')) ∧ o'.length = la.length ∧ (∀ x ∈ o', x < 1000000000) ∧ c' ≤ 1 ∧
        val 1000000000 la + 1000000000 ^ la.length * c' = val 1000000000 o' + val 1000000000 lb
  | 0, m + 1, i, o, c, hd, hm, ho, hlt, hc, hv => by
    have hi : i = la.length := by omega
    subst hi
    refine ⟨o, c, fun k0 => ?_, ho, hlt, hc, ?_⟩
    · simp only [p89_l4L, p89_l4B]
      simp (disch := (first | omega | (simp only [List.length_append, List.length_cons, List.length_nil, List.length_replicate, List.length_take, List.length_drop]; omega))) only [↓c_pos, ↓c_neg, dec_t, dec_f, Bool.and_true, Bool.true_and, Bool.and_false, Bool.false_and, Bool.not_true, Bool.not_false, cond_true, cond_false, inR_t, cutR_t, roomB_t, lenOK_t, w64, bs_size, List.length_append, List.length_cons, List.length_nil, bs_extract, bs_append, bs_push, bs_data, bs_empty, bs_lit, catS_bs, eqS_bs, ite_pos', ite_neg', decide_true, decide_false, if_true, if_false, toNatC, getI_nl, nl_len, nl_set, nl_set0, nl_take, nl_drop, nl_rep, nl_app, hdSz_nl, drop0, wu32, wu64, wu8, List.length_set, List.length_replicate]
    · rw [List.take_length, List.take_of_length_le (by omega), List.take_of_length_le hab] at hv
      exact hv
  | d + 1, m + 1, i, o, c, hd, hm, ho, hlt, hc, hv => by
    have hx := getD_lt hB2 ha i
    have hy := getD_lt hB2 hb i
    have step : ∀ (dg c' : Nat), dg < 1000000000 → c' ≤ 1 → la.getD i 0 + 1000000000 * c' = dg + c + lb.getD i 0 → _ := fun dg c' h1 h2 h3 =>
      minus_loop n la lb ha hb hab hl d m (i + 1) (o.set i dg) c' (by omega) (by omega) (by rw [List.length_set]; exact ho) (set_lt hlt h1 i) h2
      (by
        rw [set_take _ (by omega), val_snoc, List.length_take, Nat.min_eq_left (by omega), val_take_succ' 1000000000 la, val_take_succ' 1000000000 lb, Nat.pow_succ, Nat.mul_assoc]
        have : 1000000000 ^ i * (la.getD i 0 + 1000000000 * c') = 1000000000 ^ i * (dg + c + lb.getD i 0) := by rw [h3]
        rw [Nat.mul_add, Nat.mul_add, Nat.mul_add] at this
        omega)
    have e2 : ((i : Int) + 1) = ((i + 1 : Nat) : Int) := by omega
    by_cases hneg : la.getD i 0 < c + lb.getD i 0
    · obtain ⟨o', c', h1, h2⟩ := step (la.getD i 0 + 1000000000 - c - lb.getD i 0) 1 (by omega) (by omega) (by omega)
      refine ⟨o', c', fun k0 => ?_, h2⟩
      rw [← h1 k0]
      simp only [p89_l4L, p89_l4B, p89_c9, p89_c13]
      by_cases hi : i < lb.length
      · have e3 : ((la.getD i 0 : Nat) : Int) - (c : Int) - ((lb.getD i 0 : Nat) : Int) + 1000000000 = ((la.getD i 0 + 1000000000 - c - lb.getD i 0 : Nat) : Int) := by omega
        simp (disch := (first | omega | (simp only [List.length_append, List.length_cons, List.length_nil, List.length_replicate, List.length_take, List.length_drop]; omega))) only [↓c_pos, ↓c_neg, dec_t, dec_f, Bool.and_true, Bool.true_and, Bool.and_false, Bool.false_and, Bool.not_true, Bool.not_false, cond_true, cond_false, inR_t, cutR_t, roomB_t, lenOK_t, w64, bs_size, List.length_append, List.length_cons, List.length_nil, bs_extract, bs_append, bs_push, bs_data, bs_empty, bs_lit, catS_bs, eqS_bs, ite_pos', ite_neg', decide_true, decide_false, if_true, if_false, toNatC, getI_nl, nl_len, nl_set, nl_set0, nl_take, nl_drop, nl_rep, nl_app, hdSz_nl, drop0, wu32, wu64, wu8, List.length_set, List.length_replicate, e3, e2]
        rfl
      · have h0 := getD_out (l := lb) (i := i) (by omega)
        have e3 : ((la.getD i 0 : Nat) : Int) - (c : Int) + 1000000000 = ((la.getD i 0 + 1000000000 - c - lb.getD i 0 : Nat) : Int) := by omega
        simp (disch := (first | omega | (simp only [List.length_append, List.length_cons, List.length_nil, List.length_replicate, List.length_take, List.length_drop]; omega))) only [↓c_pos, ↓c_neg, dec_t, dec_f, Bool.and_true, Bool.true_and, Bool.and_false, Bool.false_and, Bool.not_true, Bool.not_false, cond_true, cond_false, inR_t, cutR_t, roomB_t, lenOK_t, w64, bs_size, List.length_append, List.length_cons, List.length_nil, bs_extract, bs_append, bs_push, bs_data, bs_empty, bs_lit, catS_bs, eqS_bs, ite_pos', ite_neg', decide_true, decide_false, if_true, if_false, toNatC, getI_nl, nl_len, nl_set, nl_set0, nl_take, nl_drop, nl_rep, nl_app, hdSz_nl, drop0, wu32, wu64, wu8, List.length_set, List.length_replicate, e3, e2]
        rfl
    · obtain ⟨o', c', h1, h2⟩ := step (la.getD i 0 - c - lb.getD i 0) 0 (by omega) (by omega) (by omega)
      refine ⟨o', c', fun k0 => ?_, h2⟩
      rw [← h1 k0]
      simp only [p89_l4L, p89_l4B, p89_c9, p89_c13]
      by_cases hi : i < lb.length
      · have e3 : ((la.getD i 0 : Nat) : Int) - (c : Int) - ((lb.getD i 0 : Nat) : Int) = ((la.getD i 0 - c - lb.getD i 0 : Nat) : Int) := by omega
        simp (disch := (first | omega | (simp only [List.length_append, List.length_cons, List.length_nil, List.length_replicate, List.length_take, List.length_drop]; omega))) only [↓c_pos, ↓c_neg, dec_t, dec_f, Bool.and_true, Bool.true_and, Bool.and_false, Bool.false_and, Bool.not_true, Bool.not_false, cond_true, cond_false, inR_t, cutR_t, roomB_t, lenOK_t, w64, bs_size, List.length_append, List.length_cons, List.length_nil, bs_extract, bs_append, bs_push, bs_data, bs_empty, bs_lit, catS_bs, eqS_bs, ite_pos', ite_neg', decide_true, decide_false, if_true, if_false, toNatC, getI_nl, nl_len, nl_set, nl_set0, nl_take, nl_drop, nl_rep, nl_app, hdSz_nl, drop0, wu32, wu64, wu8, List.length_set, List.length_replicate, e3, e2]
        rfl
      · have h0 := getD_out (l := lb) (i := i) (by omega)
        have e3 : ((la.getD i 0 : Nat) : Int) - (c : Int) = ((la.getD i 0 - c - lb.getD i 0 : Nat) : Int) := by omega
        simp (disch := (first | omega | (simp only [List.length_append, List.length_cons, List.length_nil, List.length_replicate, List.length_take, List.length_drop]; omega))) only [↓c_pos, ↓c_neg, dec_t, dec_f, Bool.and_true, Bool.true_and, Bool.and_false, Bool.false_and, Bool.not_true, Bool.not_false, cond_true, cond_false, inR_t, cutR_t, roomB_t, lenOK_t, w64, bs_size, List.length_append, List.length_cons, List.length_nil, bs_extract, bs_append, bs_push, bs_data, bs_empty, bs_lit, catS_bs, eqS_bs, ite_pos', ite_neg', decide_true, decide_false, if_true, if_false, toNatC, getI_nl, nl_len, nl_set, nl_set0, nl_take, nl_drop, nl_rep, nl_app, hdSz_nl, drop0, wu32, wu64, wu8, List.length_set, List.length_replicate, e3, e2]
        rfl
theorem toL_mono {x y : Nat} (h : x ≤ y) : (toL 1000000000 x).length ≤ (toL 1000000000 y).length := by
  by_cases hq : (toL 1000000000 x).length ≤ (toL 1000000000 y).length
  · exact hq
  · have := toL_lt_len hB2 (x := y) (y := x) (by omega); omega
theorem minus_eq (n a b : Nat) (hba : b ≤ a) (hla : (toL 1000000000 a).length < 2 ^ 30) (hna : (toL 1000000000 a).length + 1 < n) (k0 : List PV → Option R) : p89 n (NN a) (NN b) k0 = k0 (NN (a - b)) := by
  obtain ⟨o', c', h1, h2, h3, h4, h5⟩ := minus_loop (R := R) n (toL 1000000000 a) (toL 1000000000 b) (toL_lt hB2 a) (toL_lt hB2 b) (toL_mono hba) (by omega)
    (toL 1000000000 a).length n 0 (List.replicate (toL 1000000000 a).length 0) 0 (by omega) (by omega) (by rw [List.length_replicate]) (rep_lt hB2 _) (by omega) (by simp [val])
  rw [val_toL hB2, val_toL hB2] at h5
  have hlt := val_lt hB2 o' h3
  rw [h2] at hlt
  have hc : c' = 0 := by
    rcases Nat.lt_or_ge 0 c' with q | q
    · have : c' = 1 := by omega
      subst this; omega
    · omega
  subst hc
  have ht := trim_eq n o' h3 (by omega) (by omega) k0
  rw [show val 1000000000 o' = a - b from by omega] at ht
  unfold p89 NN p89_l4
  rw [show ((0 : Nat) : Int) = 0 from rfl] at h1
  simp (disch := (first | omega | (simp only [List.length_append, List.length_cons, List.length_nil, List.length_replicate, List.length_take, List.length_drop]; omega))) only [↓c_pos, ↓c_neg, dec_t, dec_f, Bool.and_true, Bool.true_and, Bool.and_false, Bool.false_and, Bool.not_true, Bool.not_false, cond_true, cond_false, inR_t, cutR_t, roomB_t, lenOK_t, w64, bs_size, List.length_append, List.length_cons, List.length_nil, bs_extract, bs_append, bs_push, bs_data, bs_empty, bs_lit, catS_bs, eqS_bs, ite_pos', ite_neg', decide_true, decide_false, if_true, if_false, toNatC, getI_nl, nl_len, nl_set, nl_set0, nl_take, nl_drop, nl_rep, nl_app, hdSz_nl, drop0, wu32, wu64, wu8, List.length_set, List.length_replicate, h1]
  exact ht
theorem short_loop (n : Nat) (la : List Nat) (by_ : Nat) (hby : 0 < by_) (hby2 : by_ < 4294967296) (ha : ∀ d ∈ la, d < 1000000000) (hl : la.length < 2 ^ 40) :
    ∀ (i m : Nat) (o : List Nat) (r : Nat), i ≤ la.length → i < m → o.length = la.length → (∀ x ∈ o, x < 1000000000) → r < by_ →
      val 1000000000 (la.drop i) = by_ * val 1000000000 (o.drop i) + r →
      ∃ (o' : List Nat) (r' : Nat), (∀ k0 : List PV → Int → Option R, p94_l4L n m (nl .u32 la) by_ (nl .u32 o) r ((i : Int) - 1) k0 = k0 (nl .u32 o') r') ∧ o'.length = la.length ∧ (∀ x ∈ o', x < 1000000000) ∧ r' < by_ ∧ val 1000000000 la = by_ * val 1000000000 o' + r'
  | 0, m + 1, o, r, hi, hm, ho, hlt, hr, hv => by
    refine ⟨o, r, fun k0 => ?_, ho, hlt, hr, by simpa using hv⟩
    simp only [p94_l4L, p94_l4B]
    simp (disch := (first | omega | (simp only [List.length_append, List.length_cons, List.length_nil, List.length_replicate, List.length_take, List.length_drop]; omega))) only [↓c_pos, ↓c_neg, dec_t, dec_f, Bool.and_true, Bool.true_and, Bool.and_false, Bool.false_and, Bool.not_true, Bool.not_false, cond_true, cond_false, inR_t, cutR_t, roomB_t, lenOK_t, w64, bs_size, List.length_append, List.length_cons, List.length_nil, bs_extract, bs_append, bs_push, bs_data, bs_empty, bs_lit, catS_bs, eqS_bs, ite_pos', ite_neg', decide_true, decide_false, if_true, if_false, toNatC, getI_nl, nl_len, nl_set, nl_set0, nl_take, nl_drop, nl_rep, nl_app, hdSz_nl, drop0, wu32, wu64, wu8, List.length_set, List.length_replicate]
  | i + 1, m + 1, o, r, hi, hm, ho, hlt, hr, hv => by
    have hx := getD_lt hB2 ha i
    have hs : r * 1000000000 + la.getD i 0 < by_ * 1000000000 := by
      have : (r + 1) * 1000000000 ≤ by_ * 1000000000 := Nat.mul_le_mul_right _ hr
      omega
    have hq : (r * 1000000000 + la.getD i 0) / by_ < 1000000000 := Nat.div_lt_of_lt_mul hs
    have hmod : (r * 1000000000 + la.getD i 0) % by_ < by_ := Nat.mod_lt _ hby
    have hdm := Nat.div_add_mod (r * 1000000000 + la.getD i 0) by_
    have dropSucc : ∀ l : List Nat, i < l.length → val 1000000000 (l.drop i) = l.getD i 0 + 1000000000 * val 1000000000 (l.drop (i + 1)) := fun l h => by
      rw [List.drop_eq_getElem_cons h, val, List.getD_eq_getElem?_getD, List.getElem?_eq_getElem h]; rfl
    obtain ⟨o', r', h1, h2⟩ := short_loop n la by_ hby hby2 ha hl i m (o.set i ((r * 1000000000 + la.getD i 0) / by_)) ((r * 1000000000 + la.getD i 0) % by_) (by omega) (by omega) (by rw [List.length_set]; exact ho) (set_lt hlt hq i) hmod
      (by
        rw [dropSucc la (by omega), dropSucc _ (by rw [List.length_set]; omega), List.drop_set_of_lt (by omega), hv, List.getD_eq_getElem?_getD, List.getD_eq_getElem?_getD, List.getElem?_set_self (by omega)]
        simp only [Option.getD_some]
        rw [List.getD_eq_getElem?_getD] at hdm
        rw [Nat.mul_add, Nat.mul_add, Nat.mul_left_comm by_ 1000000000]
        omega)
    refine ⟨o', r', fun k0 => ?_, h2⟩
    rw [← h1 k0]
    have e1 : ((i + 1 : Nat) : Int) - 1 = (i : Int) := by omega
    have e3 : (r : Int) * 1000000000 + ((la.getD i 0 : Nat) : Int) = ((r * 1000000000 + la.getD i 0 : Nat) : Int) := by omega
    have hd0 : ¬ ((by_ : Int) = 0) := by omega
    have t1 : Int.tdiv ((r * 1000000000 + la.getD i 0 : Nat) : Int) (by_ : Int) = (((r * 1000000000 + la.getD i 0) / by_ : Nat) : Int) := tdivN _ _
    have t2 : Int.tmod ((r * 1000000000 + la.getD i 0 : Nat) : Int) (by_ : Int) = (((r * 1000000000 + la.getD i 0) % by_ : Nat) : Int) := tmodN _ _
    generalize (r * 1000000000 + la.getD i 0) / by_ = q at *
    generalize (r * 1000000000 + la.getD i 0) % by_ = md at *
    simp only [p94_l4L, p94_l4B]
    simp (disch := (first | omega | (simp only [List.length_append, List.length_cons, List.length_nil, List.length_replicate, List.length_take, List.length_drop]; omega))) only [↓c_pos, ↓c_neg, dec_t, dec_f, Bool.and_true, Bool.true_and, Bool.and_false, Bool.false_and, Bool.not_true, Bool.not_false, cond_true, cond_false, inR_t, cutR_t, roomB_t, lenOK_t, w64, bs_size, List.length_append, List.length_cons, List.length_nil, bs_extract, bs_append, bs_push, bs_data, bs_empty, bs_lit, catS_bs, eqS_bs, ite_pos', ite_neg', decide_true, decide_false, if_true, if_false, toNatC, getI_nl, nl_len, nl_set, nl_set0, nl_take, nl_drop, nl_rep, nl_app, hdSz_nl, drop0, wu32, wu64, wu8, List.length_set, List.length_replicate, e1, e3, t1, t2]
theorem short_eq (n a by_ : Nat) (hby : 0 < by_) (hby2 : by_ < 4294967296) (hla : (toL 1000000000 a).length < 2 ^ 30) (hna : (toL 1000000000 a).length + 1 < n) (k0 : List PV → Int → Option R) : p94 n (NN a) by_ k0 = k0 (NN (a / by_)) ((a % by_ : Nat) : Int) := by
  obtain ⟨o', r', h1, h2, h3, h4, h5⟩ := short_loop (R := R) n (toL 1000000000 a) by_ hby hby2 (toL_lt hB2 a) (by omega)
    (toL 1000000000 a).length n (List.replicate (toL 1000000000 a).length 0) 0 (Nat.le_refl _) (by omega) (by rw [List.length_replicate]) (rep_lt hB2 _) hby (by simp [val])
  rw [val_toL hB2] at h5
  have hq : val 1000000000 o' = a / by_ := by rw [h5, Nat.mul_add_div hby, Nat.div_eq_of_lt h4]; omega
  have hr : r' = a % by_ := by rw [h5, Nat.mul_add_mod, Nat.mod_eq_of_lt h4]
  have ht := fun k0 => trim_eq (R := R) n o' h3 (by omega) (by omega) k0
  rw [hq] at ht
  rw [← hr]
  unfold p94 p94_l4
  have hN : NN a = nl .u32 (toL 1000000000 a) := rfl
  rw [hN]
  rw [show ((0 : Nat) : Int) = 0 from rfl] at h1
  simp (disch := (first | omega | (simp only [List.length_append, List.length_cons, List.length_nil, List.length_replicate, List.length_take, List.length_drop]; omega))) only [↓c_pos, ↓c_neg, dec_t, dec_f, Bool.and_true, Bool.true_and, Bool.and_false, Bool.false_and, Bool.not_true, Bool.not_false, cond_true, cond_false, inR_t, cutR_t, roomB_t, lenOK_t, w64, bs_size, List.length_append, List.length_cons, List.length_nil, bs_extract, bs_append, bs_push, bs_data, bs_empty, bs_lit, catS_bs, eqS_bs, ite_pos', ite_neg', decide_true, decide_false, if_true, if_false, toNatC, getI_nl, nl_len, nl_set, nl_set0, nl_take, nl_drop, nl_rep, nl_app, hdSz_nl, drop0, wu32, wu64, wu8, List.length_set, List.length_replicate, h1, ht]
theorem drop_val_succ {l : List Nat} {i : Nat} (h : i < l.length) : val 1000000000 (l.drop i) = l.getD i 0 + 1000000000 * val 1000000000 (l.drop (i + 1)) := by
  rw [List.drop_eq_getElem_cons h, val, List.getD_eq_getElem?_getD, List.getElem?_eq_getElem h]; rfl
theorem times_in (n : Nat) (la lb : List Nat) (ha : ∀ d ∈ la, d < 1000000000) (hb : ∀ d ∈ lb, d < 1000000000) (hl : la.length + lb.length < 2 ^ 40) (i : Nat) (hi : i < la.length) :
    ∀ (d m k : Nat) (o : List Nat) (c : Nat), d + k = lb.length → d < m → o.length = la.length + lb.length → (∀ x ∈ o, x < 1000000000) → c < 1000000000 →
      ∃ (o' : List Nat) (c' : Nat), (∀ k0 : List PV → List PV → List PV → Int → Int → Int → Int → Option R, p70_l7L n m (nl .u32 la) (nl .u32 lb) (nl .u32 o) i c la.length i lb.length k k0 = k0 (nl .u32 la) (nl .u32 lb) (nl .u32 o') i c' la.length i) ∧
        o'.length = la.length + lb.length ∧ (∀ x ∈ o', x < 1000000000) ∧ c' < 1000000000 ∧ o'.drop (i + lb.length) = o.drop (i + lb.length) ∧
        val 1000000000 o' + 1000000000 ^ (i + lb.length) * c' = val 1000000000 o + 1000000000 ^ (i + k) * c + la.getD i 0 * (1000000000 ^ (i + k) * val 1000000000 (lb.drop k))
  | 0, m + 1, k, o, c, hd, hm, ho, hlt, hc => by
    have hk : k = lb.length := by omega
    subst hk
    refine ⟨o, c, fun k0 => ?_, ho, hlt, hc, rfl, ?_⟩
    · simp only [p70_l7L, p70_l7B]
      simp (disch := (first | omega | (simp only [List.length_append, List.length_cons, List.length_nil, List.length_replicate, List.length_take, List.length_drop]; omega))) only [↓c_pos, ↓c_neg, dec_t, dec_f, Bool.and_true, Bool.true_and, Bool.and_false, Bool.false_and, Bool.not_true, Bool.not_false, cond_true, cond_false, inR_t, cutR_t, roomB_t, lenOK_t, w64, bs_size, List.length_append, List.length_cons, List.length_nil, bs_extract, bs_append, bs_push, bs_data, bs_empty, bs_lit, catS_bs, eqS_bs, ite_pos', ite_neg', decide_true, decide_false, if_true, if_false, toNatC, getI_nl, nl_len, nl_set, nl_set0, nl_take, nl_drop, nl_rep, nl_app, hdSz_nl, drop0, wu32, wu64, wu8, List.length_set, List.length_replicate]
    · rw [List.drop_length]; simp [val]
  | d + 1, m + 1, k, o, c, hd, hm, ho, hlt, hc => by
    have hx := getD_lt hB2 ha i
    have hy := getD_lt hB2 hb k
    have hz := getD_lt hB2 hlt (i + k)
    have hxy : la.getD i 0 * lb.getD k 0 ≤ 999999999 * 999999999 := Nat.mul_le_mul (by omega) (by omega)
    obtain ⟨s, hs⟩ : ∃ s, s = c + (la.getD i 0 * lb.getD k 0 + o.getD (i + k) 0) := ⟨_, rfl⟩
    have hs2 : s / 1000000000 < 1000000000 := by omega
    obtain ⟨o', c', h1, h2, h3, h4, h5, h6⟩ := times_in n la lb ha hb hl i hi d m (k + 1) (o.set (i + k) (s % 1000000000)) (s / 1000000000) (by omega) (by omega) (by rw [List.length_set]; exact ho) (set_lt hlt (Nat.mod_lt _ (by omega)) _) hs2
    refine ⟨o', c', fun k0 => ?_, h2, h3, h4, by rw [h5, List.drop_set_of_lt (by omega)], ?_⟩
    · rw [← h1 k0]
      have e1 : (i : Int) + (k : Int) = ((i + k : Nat) : Int) := by omega
      have e2 : (k : Int) + 1 = ((k + 1 : Nat) : Int) := by omega
      have e4 : ((la.getD i 0 : Nat) : Int) * ((lb.getD k 0 : Nat) : Int) = ((la.getD i 0 * lb.getD k 0 : Nat) : Int) := by rw [Int.natCast_mul]
      generalize la.getD i 0 * lb.getD k 0 = xy at *
      have e3 : (c : Int) + ((xy : Int) + ((o.getD (i + k) 0 : Nat) : Int)) = (s : Int) := by omega
      simp only [p70_l7L, p70_l7B]
      simp (disch := (first | omega | (simp only [List.length_append, List.length_cons, List.length_nil, List.length_replicate, List.length_take, List.length_drop]; omega))) only [↓c_pos, ↓c_neg, dec_t, dec_f, Bool.and_true, Bool.true_and, Bool.and_false, Bool.false_and, Bool.not_true, Bool.not_false, cond_true, cond_false, inR_t, cutR_t, roomB_t, lenOK_t, w64, bs_size, List.length_append, List.length_cons, List.length_nil, bs_extract, bs_append, bs_push, bs_data, bs_empty, bs_lit, catS_bs, eqS_bs, ite_pos', ite_neg', decide_true, decide_false, if_true, if_false, toNatC, getI_nl, nl_len, nl_set, nl_set0, nl_take, nl_drop, nl_rep, nl_app, hdSz_nl, drop0, wu32, wu64, wu8, List.length_set, List.length_replicate, e1, e2, e4, e3, tdivB, tmodB]
    · rw [h6, drop_val_succ (by omega : k < lb.length)]
      have hv := val_set 1000000000 (s % 1000000000) (l := o) (i := i + k) (by omega)
      have hm := Nat.mod_add_div s 1000000000
      rw [show i + (k + 1) = (i + k) + 1 from by omega, Nat.pow_succ]
      generalize 1000000000 ^ (i + k) = P at *
      generalize val 1000000000 (List.drop (k + 1) lb) = V at *
      generalize val 1000000000 (o.set (i + k) (s % 1000000000)) = W at *
      generalize val 1000000000 o = U at *
      generalize s % 1000000000 = q at *
      generalize s / 1000000000 = t at *
      generalize la.getD i 0 = x at *
      generalize lb.getD k 0 = y at *
      generalize o.getD (i + k) 0 = z at *
      clear h1 h3 h4 h5 hlt ha hb
      have h7 : P * q + P * (1000000000 * t) = P * c + P * (x * y) + P * z := by rw [← Nat.mul_add, hm, hs]; grind
      grind
theorem times_out (n : Nat) (la lb : List Nat) (ha : ∀ d ∈ la, d < 1000000000) (hb : ∀ d ∈ lb, d < 1000000000) (hl : la.length + lb.length < 2 ^ 40) (hn : lb.length < n) :
    ∀ (d m i : Nat) (o : List Nat), d + i = la.length → d < m → o.length = la.length + lb.length → (∀ x ∈ o, x < 1000000000) → o.drop (i + lb.length) = List.replicate (la.length - i) 0 → val 1000000000 o = val 1000000000 (la.take i) * val 1000000000 lb →
      ∃ (o' : List Nat), (∀ k0 : List PV → Option R, p70_l3L n m (nl .u32 la) (nl .u32 lb) (nl .u32 o) la.length i k0 = k0 (nl .u32 o')) ∧ o'.length = la.length + lb.length ∧ (∀ x ∈ o', x < 1000000000) ∧ val 1000000000 o' = val 1000000000 la * val 1000000000 lb
  | 0, m + 1, i, o, hd, hm, ho, hlt, hz, hv => by
    have hi : i = la.length := by omega
    subst hi
    refine ⟨o, fun k0 => ?_, ho, hlt, by rw [hv, List.take_length]⟩
    simp only [p70_l3L, p70_l3B]
    simp (disch := (first | omega | (simp only [List.length_append, List.length_cons, List.length_nil, List.length_replicate, List.length_take, List.length_drop]; omega))) only [↓c_pos, ↓c_neg, dec_t, dec_f, Bool.and_true, Bool.true_and, Bool.and_false, Bool.false_and, Bool.not_true, Bool.not_false, cond_true, cond_false, inR_t, cutR_t, roomB_t, lenOK_t, w64, bs_size, List.length_append, List.length_cons, List.length_nil, bs_extract, bs_append, bs_push, bs_data, bs_empty, bs_lit, catS_bs, eqS_bs, ite_pos', ite_neg', decide_true, decide_false, if_true, if_false, toNatC, getI_nl, nl_len, nl_set, nl_set0, nl_take, nl_drop, nl_rep, nl_app, hdSz_nl, drop0, wu32, wu64, wu8, List.length_set, List.length_replicate]
  | d + 1, m + 1, i, o, hd, hm, ho, hlt, hz, hv => by
    obtain ⟨o1, c1, h1, h2, h3, h4, h5, h6⟩ := times_in (R := R) n la lb ha hb hl i (by omega) lb.length n 0 o 0 (by omega) hn ho hlt (by omega)
    have hg : o1.getD (i + lb.length) 0 = 0 := by
      have := congrArg (fun l : List Nat => l.getD 0 0) h5
      simp only [List.getD_eq_getElem?_getD, List.getElem?_drop, Nat.add_zero] at this
      rw [List.getD_eq_getElem?_getD, this]
      have h0 := congrArg (fun l : List Nat => l.getD 0 0) hz
      simp only [List.getD_eq_getElem?_getD, List.getElem?_drop, Nat.add_zero] at h0
      rw [h0, List.getElem?_replicate]
      split <;> rfl
    have hvs := val_set 1000000000 c1 (l := o1) (i := i + lb.length) (by omega)
    rw [hg] at hvs
    obtain ⟨o', q1, q2⟩ := times_out n la lb ha hb hl hn d m (i + 1) (o1.set (i + lb.length) c1) (by omega) (by omega) (by rw [List.length_set]; exact h2) (set_lt h3 h4 _)
      (by
        rw [show i + 1 + lb.length = (i + lb.length) + 1 from by omega, List.drop_set_of_lt (by omega), ← List.drop_drop, h5, hz, List.drop_replicate]
        congr 1)
      (by
        rw [val_take_succ' 1000000000 la]
        rw [List.drop_zero, Nat.add_zero, Nat.mul_zero, Nat.add_zero, hv] at h6
        rw [Nat.mul_zero, Nat.add_zero] at hvs
        rw [hvs, h6]
        grind)
    refine ⟨o', fun k0 => ?_, q2⟩
    rw [← q1 k0]
    have e1 : (i : Int) + (lb.length : Int) = ((i + lb.length : Nat) : Int) := by omega
    have e2 : (i : Int) + 1 = ((i + 1 : Nat) : Int) := by omega
    rw [show ((0 : Nat) : Int) = 0 from rfl] at h1
    simp only [p70_l3L, p70_l3B, p70_l7]
    simp (disch := (first | omega | (simp only [List.length_append, List.length_cons, List.length_nil, List.length_replicate, List.length_take, List.length_drop]; omega))) only [↓c_pos, ↓c_neg, dec_t, dec_f, Bool.and_true, Bool.true_and, Bool.and_false, Bool.false_and, Bool.not_true, Bool.not_false, cond_true, cond_false, inR_t, cutR_t, roomB_t, lenOK_t, w64, bs_size, List.length_append, List.length_cons, List.length_nil, bs_extract, bs_append, bs_push, bs_data, bs_empty, bs_lit, catS_bs, eqS_bs, ite_pos', ite_neg', decide_true, decide_false, if_true, if_false, toNatC, getI_nl, nl_len, nl_set, nl_set0, nl_take, nl_drop, nl_rep, nl_app, hdSz_nl, drop0, wu32, wu64, wu8, List.length_set, List.length_replicate, h1, e1, e2]
theorem times_eq (n a b : Nat) (hla : (toL 1000000000 a).length < 2 ^ 30) (hlb : (toL 1000000000 b).length < 2 ^ 30) (hn : (toL 1000000000 a).length + (toL 1000000000 b).length < n) (k0 : List PV → Option R) : p70 n (NN a) (NN b) k0 = k0 (NN (a * b)) := by
  obtain ⟨o', h1, h2, h3, h4⟩ := times_out (R := R) n (toL 1000000000 a) (toL 1000000000 b) (toL_lt hB2 a) (toL_lt hB2 b) (by omega) (by omega)
    (toL 1000000000 a).length n 0 (List.replicate ((toL 1000000000 a).length + (toL 1000000000 b).length) 0) (by omega) (by omega) (by rw [List.length_replicate]) (rep_lt hB2 _)
    (by rw [List.drop_replicate]; congr 1; omega) (by rw [val_zeros]; simp [val])
  rw [val_toL hB2, val_toL hB2] at h4
  have ht := fun k0 => trim_eq (R := R) n o' h3 (by omega) (by omega) k0
  rw [h4] at ht
  have e1 : ((toL 1000000000 a).length : Int) + ((toL 1000000000 b).length : Int) = (((toL 1000000000 a).length + (toL 1000000000 b).length : Nat) : Int) := by omega
  have hN : NN a = nl .u32 (toL 1000000000 a) := rfl
  have hM : NN b = nl .u32 (toL 1000000000 b) := rfl
  unfold p70 p70_l3
  rw [hN, hM]
  rw [show ((0 : Nat) : Int) = 0 from rfl] at h1
  simp (disch := (first | omega | (simp only [List.length_append, List.length_cons, List.length_nil, List.length_replicate, List.length_take, List.length_drop]; omega))) only [↓c_pos, ↓c_neg, dec_t, dec_f, Bool.and_true, Bool.true_and, Bool.and_false, Bool.false_and, Bool.not_true, Bool.not_false, cond_true, cond_false, inR_t, cutR_t, roomB_t, lenOK_t, w64, bs_size, List.length_append, List.length_cons, List.length_nil, bs_extract, bs_append, bs_push, bs_data, bs_empty, bs_lit, catS_bs, eqS_bs, ite_pos', ite_neg', decide_true, decide_false, if_true, if_false, toNatC, getI_nl, nl_len, nl_set, nl_set0, nl_take, nl_drop, nl_rep, nl_app, hdSz_nl, drop0, wu32, wu64, wu8, List.length_set, List.length_replicate, e1, h1, ht]
end Go.Proofs.YtfbahcfojiaeaaaGreatDoor


set_option linter.unusedVariables false
set_option maxRecDepth 100000
namespace Go.Proofs.YtfbahcfojiaeaaaGreatDoor
open Go Th Go.Proofs
section
variable {R : Type}
end
end Go.Proofs.YtfbahcfojiaeaaaGreatDoor


set_option linter.unusedVariables false
set_option maxRecDepth 100000
namespace Go.Proofs.YtfbahcfojiaeaaaGreatDoor
open Go Th Go.Proofs
section
variable {R : Type}
end
end Go.Proofs.YtfbahcfojiaeaaaGreatDoor


set_option linter.unusedVariables false
set_option maxRecDepth 100000
namespace Go.Proofs.YtfbahcfojiaeaaaGreatDoor
open Go Th Go.Proofs
section
variable {R : Type}
end
end Go.Proofs.YtfbahcfojiaeaaaGreatDoor


set_option linter.unusedVariables false
set_option maxRecDepth 100000
namespace Go.Proofs.YtfbahcfojiaeaaaGreatDoor
open Go Th Go.Proofs
section
variable {R : Type}
end
end Go.Proofs.YtfbahcfojiaeaaaGreatDoor


set_option linter.unusedVariables false
set_option maxRecDepth 100000
namespace Go.Proofs.YtfbahcfojiaeaaaGreatDoor
open Go Th Go.Proofs
section
variable {R : Type}
end
end Go.Proofs.YtfbahcfojiaeaaaGreatDoor


set_option linter.unusedVariables false
set_option maxRecDepth 100000
namespace Go.Proofs.YtfbahcfojiaeaaaGreatDoor
open Go Th Go.Proofs
section
variable {R : Type}
end
end Go.Proofs.YtfbahcfojiaeaaaGreatDoor


set_option linter.unusedVariables false
set_option maxRecDepth 100000
namespace Go.Proofs.YtfbahcfojiaeaaaGreatDoor
open Go Th Go.Proofs
section
variable {R : Type}
end
end Go.Proofs.YtfbahcfojiaeaaaGreatDoor


set_option linter.unusedVariables false
set_option maxRecDepth 100000
namespace Go.Proofs.YtfbahcfojiaeaaaGreatDoor
open Go Th Go.Proofs
section
variable {R : Type}
end
end Go.Proofs.YtfbahcfojiaeaaaGreatDoor


set_option linter.unusedVariables false
set_option linter.unusedSimpArgs false
namespace Go.Proofs.YtfbahcfojiaeaaaGreatDoor
open Go Th Go.Proofs
variable {R : Type}
abbrev sg (z : Int) : Bool := decide (z < 0)
end Go.Proofs.YtfbahcfojiaeaaaGreatDoor


set_option linter.unusedVariables false
set_option maxRecDepth 100000
namespace Go.Proofs.YtfbahcfojiaeaaaGreatDoor
open Go Th Go.Proofs
section
variable {R : Type}
end
end Go.Proofs.YtfbahcfojiaeaaaGreatDoor


set_option linter.unusedVariables false
set_option maxRecDepth 100000
namespace Go.Proofs.YtfbahcfojiaeaaaGreatDoor
open Go Th Go.Proofs
section
variable {R : Type}
end
end Go.Proofs.YtfbahcfojiaeaaaGreatDoor


set_option linter.unusedVariables false
set_option maxRecDepth 100000
namespace Go.Proofs.YtfbahcfojiaeaaaGreatDoor
open Go Th Go.Proofs
section
variable {R : Type}
end
end Go.Proofs.YtfbahcfojiaeaaaGreatDoor


set_option linter.unusedVariables false
set_option maxRecDepth 100000
namespace Go.Proofs.YtfbahcfojiaeaaaGreatDoor
open Go Th Go.Proofs
section
variable {R : Type}
end
end Go.Proofs.YtfbahcfojiaeaaaGreatDoor


set_option linter.unusedVariables false
set_option maxRecDepth 100000
namespace Go.Proofs.YtfbahcfojiaeaaaGreatDoor
open Go Th Go.Proofs
section
variable {R : Type}
end
abbrev t20 : Sl (List SV) := (.c (sP (sAgg (.c sBool (.c sSh .n)))) .n)
end Go.Proofs.YtfbahcfojiaeaaaGreatDoor


set_option linter.unusedVariables false
set_option maxRecDepth 100000
namespace Go.Proofs.YtfbahcfojiaeaaaGreatDoor
open Go Th Go.Proofs
section
variable {R : Type}
end
end Go.Proofs.YtfbahcfojiaeaaaGreatDoor


set_option linter.unusedVariables false
set_option linter.unusedSimpArgs false
namespace Go.Proofs.YtfbahcfojiaeaaaGreatDoor
open Go Th Go.Proofs
variable {R : Type}
end Go.Proofs.YtfbahcfojiaeaaaGreatDoor


set_option linter.unusedVariables false
set_option maxRecDepth 100000
namespace Go.Proofs.YtfbahcfojiaeaaaGreatDoor
open Go Th Go.Proofs
def ann80 : Ann := { loops := [(12, [(8, .id), (9, .id), (10, .id), (11, .id), (12, .id), (13, .id)], [(4, .id), (5, .id), (8, .id), (9, .id), (12, .id)]), (16, [(8, .id), (9, .id), (10, .id), (11, .id), (12, .id), (13, .id), (15, .id), (16, .id)], [(4, .id), (5, .id), (8, .id), (9, .id), (10, .id), (11, .id), (12, .id), (13, .id), (15, .id)]), (22, [(8, .id), (9, .id), (10, .id), (11, .id), (12, .id), (13, .id), (15, .id), (17, .id), (18, .id), (151, .id), (152, .id)], [(4, .id), (5, .id), (8, .id), (9, .id), (10, .id), (11, .id), (12, .id), (13, .id), (15, .id), (17, .id), (18, .id)]), (38, [(8, .id), (9, .id), (10, .id), (11, .id), (12, .id), (13, .id), (15, .id), (21, .id), (22, .id), (207, .id), (208, .id)], [(4, .id), (5, .id), (8, .id), (9, .id), (10, .id), (11, .id), (12, .id), (13, .id), (15, .id), (21, .id), (22, .id)])], cuts := [(3, [(0, .id), (1, .id)], [(4, .id), (5, .id)]), (6, [(0, .id), (1, .id)], [(4, .id), (5, .id)]), (7, [(0, .id), (1, .id), (8, .id)], [(4, .id), (5, .id)]), (8, [(8, .id), (9, .id), (10, .id)], [(4, .id), (5, .id)]), (9, [(8, .id), (9, .id), (10, .id)], [(4, .id), (5, .id)]), (10, [(8, .id), (9, .id), (10, .id), (11, .id)], [(4, .id), (5, .id)]), (11, [(8, .id), (9, .id), (10, .id), (11, .id), (12, .id)], [(4, .id), (5, .id)]), (13, [(8, .id), (9, .id), (10, .id), (11, .id), (12, .id), (13, .id)], [(4, .id), (5, .id), (8, .id), (9, .id), (10, .id), (11, .id), (12, .id), (13, .id)]), (17, [(8, .id), (9, .id), (10, .id), (11, .id), (12, .id), (13, .id), (15, .id), (16, .id)], [(4, .id), (5, .id), (8, .id), (9, .id), (10, .id), (11, .id), (12, .id), (13, .id), (15, .id), (16, .id)]), (31, [(8, .id), (9, .id), (10, .id), (11, .id), (12, .id), (13, .id), (15, .id), (17, .id), (18, .id), (19, .id), (20, .id), (151, .id), (152, .id)], [(4, .id), (5, .id), (8, .id), (9, .id), (10, .id), (11, .id), (12, .id), (13, .id), (15, .id), (17, .id), (18, .id), (151, .id), (152, .id)]), (45, [(8, .id), (9, .id), (10, .id), (11, .id), (12, .id), (13, .id), (15, .id), (21, .id)], [(4, .id), (5, .id), (8, .id), (9, .id), (10, .id), (11, .id), (12, .id), (13, .id)])], frz := [], rm := [.sh, .id] }
noncomputable abbrev env80 (n : Nat) : Env := fun i => bif Nat.beq i 94 then some (fs94 n) else (fun i => bif Nat.beq i 78 then some (fs78 n) else (fun i => bif Nat.beq i 73 then some (fs73 n) else (fun i => bif Nat.beq i 70 then some (fs70 n) else (fun _ => none) i) i) i) i
theorem envok80 (n : Nat) : EnvOK Tryz.prog GI (env80 n) := EnvOK.cons (EnvOK.cons (EnvOK.cons (EnvOK.cons (EnvOK.nil) (ok70 n)) (ok73 n)) (ok78 n)) (ok94 n)
noncomputable def p80_c17 {R : Type} (n : Nat) (x1 x2 x3 : List PV) (x4 : Int) (x5 : List PV) (x6 x7 x8 : Int) (k0 : List PV → List PV → List PV → Int → List PV → Int → Int → Int → Option R) (k1 : List PV → List PV → List PV → Int → List PV → Int → Int → Int → Option R) : Option R :=
  bif (inR (IntKind.i64.wrap (x4 - 1)) ((x3).length)) then (getI .u32 ((x3).getD ((IntKind.i64.wrap (x4 - 1) : Int).toNat) (.v (.bool false))) fun e9 => let v10 := IntKind.u64.wrap (x8 + (IntKind.u64.wrap (e9))); bif (decide (v10 ≥ 1000000000)) then (k0 x1 x2 x3 x4 x5 x6 (IntKind.u64.wrap (x7 - 1)) v10) else (k1 x1 x2 x3 x4 x5 x6 (IntKind.u64.wrap (x7 - 1)) v10)) else none
noncomputable def p80_l16B {R : Type} (n : Nat) (l0 : List PV → List PV → List PV → Int → List PV → Int → Int → Int → Option R) (x1 x2 x3 : List PV) (x4 : Int) (x5 : List PV) (x6 x7 x8 : Int) (k0 : List PV → List PV → List PV → Int → List PV → Int → Int → Option R) : Option R :=
  bif (decide (x7 ≥ 1000000000)) then (bif true then (bif true then (bif true then (bif true then (bif true then (bif true then (bif true then (bif true then (bif true then (bif true then (bif true then (bif true then (bif true then (bif true then (bif true then (bif true then (bif true then (bif true then (bif true then (bif true then (bif true then (p80_c17 n x1 x2 x3 x4 x5 x6 x7 x8 (fun y9 y10 y11 y12 y13 y14 y15 y16 => k0 y9 y10 y11 y12 y13 y14 y15) (fun y17 y18 y19 y20 y21 y22 y23 y24 => l0 y17 y18 y19 y20 y21 y22 y23 y24)) else none) else none) else none) else none) else none) else none) else none) else none) else none) else none) else none) else none) else none) else none) else none) else none) else none) else none) else none) else none) else none) else (bif false then none else (bif false then none else (bif false then none else (bif false then none else (bif (inR (IntKind.i64.wrap (x4 - 2)) ((x3).length)) then (getI .u32 ((x3).getD ((IntKind.i64.wrap (x4 - 2) : Int).toNat) (.v (.bool false))) fun e25 => bif false then none else (bif false then none else (bif false then none else (let v26 := IntKind.u64.wrap (x7 * (IntKind.u64.wrap (e25))); bif false then none else (bif false then none else (bif false then none else (bif false then none else (bif false then none else (bif false then none else (bif false then none else (let v27 := IntKind.i64.wrap ((IntKind.i64.wrap (x6 + x4)) - 2); bif false then none else (bif (inR v27 ((x2).length)) then (bif false then none else (getI .u32 ((x2).getD ((v27 : Int).toNat) (.v (.bool false))) fun e28 => bif false then none else (bif false then none else (let v29 := IntKind.u64.wrap ((IntKind.u64.wrap (x8 * 1000000000)) + (IntKind.u64.wrap (e28))); bif false then none else (bif (bif false then true else (decide (v26 > v29))) then (p80_c17 n x1 x2 x3 x4 x5 x6 x7 x8 (fun y30 y31 y32 y33 y34 y35 y36 y37 => k0 y30 y31 y32 y33 y34 y35 y36) (fun y38 y39 y40 y41 y42 y43 y44 y45 => l0 y38 y39 y40 y41 y42 y43 y44 y45)) else (k0 x1 x2 x3 x4 x5 x6 x7)))))) else none)))))))))))) else none)))))
noncomputable def p80_l16L {R : Type} (n : Nat) : Nat → List PV → List PV → List PV → Int → List PV → Int → Int → Int → (List PV → List PV → List PV → Int → List PV → Int → Int → Option R) → Option R
  | 0, _, _, _, _, _, _, _, _, _ => none
  | m + 1, x1, x2, x3, x4, x5, x6, x7, x8, k0 => p80_l16B n (fun x1 x2 x3 x4 x5 x6 x7 x8 => p80_l16L n m x1 x2 x3 x4 x5 x6 x7 x8 k0) x1 x2 x3 x4 x5 x6 x7 x8 k0
noncomputable def p80_l16 {R : Type} (n : Nat) (x1 x2 x3 : List PV) (x4 : Int) (x5 : List PV) (x6 x7 x8 : Int) (k0 : List PV → List PV → List PV → Int → List PV → Int → Int → Option R) : Option R := p80_l16L n n x1 x2 x3 x4 x5 x6 x7 x8 k0
noncomputable def p80_c31 {R : Type} (n : Nat) (x1 x2 x3 : List PV) (x4 : Int) (x5 : List PV) (x6 x7 x8 x9 x10 x11 x12 x13 : Int) (k0 : List PV → List PV → List PV → Int → List PV → Int → Int → Int → Int → Int → Int → Option R) : Option R :=
  bif (inR (IntKind.i64.wrap (x6 + x10)) ((x2).length)) then (getI .u32 ((x2).getD ((IntKind.i64.wrap (x6 + x10) : Int).toNat) (.v (.bool false))) fun e14 => k0 x1 ((x2).set ((IntKind.i64.wrap (x6 + x10) : Int).toNat) (.v (.int .u32 (IntKind.u32.wrap (x11))))) x3 x4 x5 x6 x7 x8 x9 x12 x13) else none
noncomputable def p80_l22B {R : Type} (n : Nat) (l0 : List PV → List PV → List PV → Int → List PV → Int → Int → Int → Int → Int → Int → Option R) (x1 x2 x3 : List PV) (x4 : Int) (x5 : List PV) (x6 x7 x8 x9 x10 x11 : Int) (k0 : List PV → List PV → List PV → Int → List PV → Int → Int → Int → Int → Option R) : Option R :=
  bif (decide (x11 < x10)) then (bif (inR x11 ((x3).length)) then (getI .u32 ((x3).getD ((x11 : Int).toNat) (.v (.bool false))) fun e12 => let v13 := IntKind.u64.wrap (x7 * (IntKind.u64.wrap (e12))); bif (inR (IntKind.i64.wrap (x6 + x11)) ((x2).length)) then (getI .u32 ((x2).getD ((IntKind.i64.wrap (x6 + x11) : Int).toNat) (.v (.bool false))) fun e14 => bif decide (1000000000 = 0) then none else (let v15 := Int.tmod (IntKind.u64.wrap (x8 + v13)) 1000000000; let v16 := IntKind.i64.wrap ((IntKind.i64.wrap (e14)) - (IntKind.i64.wrap (v15))); bif decide (1000000000 = 0) then none else (let v17 := IntKind.u64.wrap (Int.tdiv (IntKind.u64.wrap (x8 + v13)) 1000000000); bif (decide (IntKind.i64.wrap (v16 - x9) < 0)) then (let v18 := IntKind.i64.wrap ((IntKind.i64.wrap (v16 - x9)) + 1000000000); p80_c31 n x1 x2 x3 x4 x5 x6 x7 v17 1 x11 v18 x10 x11 (fun y19 y20 y21 y22 y23 y24 y25 y26 y27 y28 y29 => l0 y19 y20 y21 y22 y23 y24 y25 y26 y27 y28 (IntKind.i64.wrap (y29 + 1)))) else (p80_c31 n x1 x2 x3 x4 x5 x6 x7 v17 0 x11 (IntKind.i64.wrap (v16 - x9)) x10 x11 (fun y30 y31 y32 y33 y34 y35 y36 y37 y38 y39 y40 => l0 y30 y31 y32 y33 y34 y35 y36 y37 y38 y39 (IntKind.i64.wrap (y40 + 1))))))) else none) else none) else (k0 x1 x2 x3 x4 x5 x6 x7 x8 x9)
noncomputable def p80_l22L {R : Type} (n : Nat) : Nat → List PV → List PV → List PV → Int → List PV → Int → Int → Int → Int → Int → Int → (List PV → List PV → List PV → Int → List PV → Int → Int → Int → Int → Option R) → Option R
  | 0, _, _, _, _, _, _, _, _, _, _, _, _ => none
  | m + 1, x1, x2, x3, x4, x5, x6, x7, x8, x9, x10, x11, k0 => p80_l22B n (fun x1 x2 x3 x4 x5 x6 x7 x8 x9 x10 x11 => p80_l22L n m x1 x2 x3 x4 x5 x6 x7 x8 x9 x10 x11 k0) x1 x2 x3 x4 x5 x6 x7 x8 x9 x10 x11 k0
noncomputable def p80_l22 {R : Type} (n : Nat) (x1 x2 x3 : List PV) (x4 : Int) (x5 : List PV) (x6 x7 x8 x9 x10 x11 : Int) (k0 : List PV → List PV → List PV → Int → List PV → Int → Int → Int → Int → Option R) : Option R := p80_l22L n n x1 x2 x3 x4 x5 x6 x7 x8 x9 x10 x11 k0
noncomputable def p80_l38B {R : Type} (n : Nat) (l0 : List PV → List PV → List PV → Int → List PV → Int → Int → Int → Int → Int → Int → Option R) (x1 x2 x3 : List PV) (x4 : Int) (x5 : List PV) (x6 x7 x8 x9 x10 x11 : Int) (k0 : List PV → List PV → List PV → Int → List PV → Int → Int → Int → Int → Option R) : Option R :=
  bif (decide (x11 < x10)) then (bif (inR (IntKind.i64.wrap (x6 + x11)) ((x2).length)) then (getI .u32 ((x2).getD ((IntKind.i64.wrap (x6 + x11) : Int).toNat) (.v (.bool false))) fun e12 => bif (inR x11 ((x3).length)) then (getI .u32 ((x3).getD ((x11 : Int).toNat) (.v (.bool false))) fun e13 => let v14 := IntKind.u32.wrap (x9 + (IntKind.u32.wrap (e12 + e13))); bif decide (1000000000 = 0) then none else (bif (inR (IntKind.i64.wrap (x6 + x11)) ((x2).length)) then (getI .u32 ((x2).getD ((IntKind.i64.wrap (x6 + x11) : Int).toNat) (.v (.bool false))) fun e15 => bif decide (1000000000 = 0) then none else (let v16 := IntKind.u32.wrap (Int.tdiv v14 1000000000); l0 x1 ((x2).set ((IntKind.i64.wrap (x6 + x11) : Int).toNat) (.v (.int .u32 (Int.tmod v14 1000000000)))) x3 x4 x5 x6 x7 x8 v16 x10 (IntKind.i64.wrap (x11 + 1)))) else none)) else none) else none) else (k0 x1 x2 x3 x4 x5 x6 x7 x8 x9)
noncomputable def p80_l38L {R : Type} (n : Nat) : Nat → List PV → List PV → List PV → Int → List PV → Int → Int → Int → Int → Int → Int → (List PV → List PV → List PV → Int → List PV → Int → Int → Int → Int → Option R) → Option R
  | 0, _, _, _, _, _, _, _, _, _, _, _, _ => none
  | m + 1, x1, x2, x3, x4, x5, x6, x7, x8, x9, x10, x11, k0 => p80_l38B n (fun x1 x2 x3 x4 x5 x6 x7 x8 x9 x10 x11 => p80_l38L n m x1 x2 x3 x4 x5 x6 x7 x8 x9 x10 x11 k0) x1 x2 x3 x4 x5 x6 x7 x8 x9 x10 x11 k0
noncomputable def p80_l38 {R : Type} (n : Nat) (x1 x2 x3 : List PV) (x4 : Int) (x5 : List PV) (x6 x7 x8 x9 x10 x11 : Int) (k0 : List PV → List PV → List PV → Int → List PV → Int → Int → Int → Int → Option R) : Option R := p80_l38L n n x1 x2 x3 x4 x5 x6 x7 x8 x9 x10 x11 k0
noncomputable def p80_c45 {R : Type} (n : Nat) (x1 x2 x3 : List PV) (x4 : Int) (x5 : List PV) (x6 x7 x8 : Int) (k0 : List PV → List PV → List PV → Int → List PV → Int → Option R) : Option R :=
  bif (inR (IntKind.i64.wrap (x6 + x4)) ((x2).length)) then (getI .u32 ((x2).getD ((IntKind.i64.wrap (x6 + x4) : Int).toNat) (.v (.bool false))) fun e9 => bif (inR x6 ((x5).length)) then (getI .u32 ((x5).getD ((x6 : Int).toNat) (.v (.bool false))) fun e10 => k0 x1 ((x2).set ((IntKind.i64.wrap (x6 + x4) : Int).toNat) (.v (.int .u32 (IntKind.u32.wrap (x8))))) x3 x4 ((x5).set ((x6 : Int).toNat) (.v (.int .u32 (IntKind.u32.wrap (x7))))) x6) else none) else none
noncomputable def p80_c13 {R : Type} (n : Nat) (x1 x2 x3 : List PV) (x4 : Int) (x5 : List PV) (x6 : Int) (k0 : List PV → List PV → List PV → Int → List PV → Int → Option R) : Option R :=
  k0 x1 x2 x3 x4 x5 (IntKind.i64.wrap (x6 - 1))
noncomputable def p80_l12B {R : Type} (n : Nat) (l0 : List PV → List PV → List PV → Int → List PV → Int → Option R) (x1 x2 x3 : List PV) (x4 : Int) (x5 : List PV) (x6 : Int) (k0 : List PV → List PV → List PV → Option R) : Option R :=
  bif (decide (x6 ≥ 0)) then (bif (inR (IntKind.i64.wrap (x6 + x4)) ((x2).length)) then (getI .u32 ((x2).getD ((IntKind.i64.wrap (x6 + x4) : Int).toNat) (.v (.bool false))) fun e7 => let v8 := IntKind.u64.wrap ((IntKind.u64.wrap (e7)) * 1000000000); let v9 := IntKind.i64.wrap ((IntKind.i64.wrap (x6 + x4)) - 1); bif (inR v9 ((x2).length)) then (getI .u32 ((x2).getD ((v9 : Int).toNat) (.v (.bool false))) fun e10 => let v11 := IntKind.u64.wrap (v8 + (IntKind.u64.wrap (e10))); bif (inR (IntKind.i64.wrap (x4 - 1)) ((x3).length)) then (getI .u32 ((x3).getD ((IntKind.i64.wrap (x4 - 1) : Int).toNat) (.v (.bool false))) fun e12 => bif decide (IntKind.u64.wrap (e12) = 0) then none else (let v13 := IntKind.u64.wrap (Int.tdiv v11 (IntKind.u64.wrap (e12))); bif (inR (IntKind.i64.wrap (x4 - 1)) ((x3).length)) then (getI .u32 ((x3).getD ((IntKind.i64.wrap (x4 - 1) : Int).toNat) (.v (.bool false))) fun e14 => bif decide (IntKind.u64.wrap (e14) = 0) then none else (let v15 := Int.tmod v11 (IntKind.u64.wrap (e14)); p80_l16 n x1 x2 x3 x4 x5 x6 v13 v15 (fun y16 y17 y18 y19 y20 y21 y22 => p80_l22 n y16 y17 y18 y19 y20 y21 y22 0 0 y19 0 (fun y23 y24 y25 y26 y27 y28 y29 y30 y31 => bif (inR (IntKind.i64.wrap (y28 + y26)) ((y24).length)) then (getI .u32 ((y24).getD ((IntKind.i64.wrap (y28 + y26) : Int).toNat) (.v (.bool false))) fun e32 => let v33 := IntKind.i64.wrap ((IntKind.i64.wrap (e32)) - (IntKind.i64.wrap (y30))); bif (decide (IntKind.i64.wrap (v33 - y31) < 0)) then (p80_l38 n y23 y24 y25 y26 y27 y28 (IntKind.u64.wrap (y29 - 1)) (IntKind.i64.wrap (v33 - y31)) 0 y26 0 (fun y34 y35 y36 y37 y38 y39 y40 y41 y42 => let v43 := IntKind.i64.wrap (y41 + (IntKind.i64.wrap (y42))); p80_c45 n y34 y35 y36 y37 y38 y39 y40 v43 (fun y44 y45 y46 y47 y48 y49 => p80_c13 n y44 y45 y46 y47 y48 y49 (fun y50 y51 y52 y53 y54 y55 => l0 y50 y51 y52 y53 y54 y55)))) else (p80_c45 n y23 y24 y25 y26 y27 y28 y29 (IntKind.i64.wrap (v33 - y31)) (fun y56 y57 y58 y59 y60 y61 => p80_c13 n y56 y57 y58 y59 y60 y61 (fun y62 y63 y64 y65 y66 y67 => l0 y62 y63 y64 y65 y66 y67)))) else none)))) else none)) else none) else none) else none) else (k0 x1 x2 x5)
noncomputable def p80_l12L {R : Type} (n : Nat) : Nat → List PV → List PV → List PV → Int → List PV → Int → (List PV → List PV → List PV → Option R) → Option R
  | 0, _, _, _, _, _, _, _ => none
  | m + 1, x1, x2, x3, x4, x5, x6, k0 => p80_l12B n (fun x1 x2 x3 x4 x5 x6 => p80_l12L n m x1 x2 x3 x4 x5 x6 k0) x1 x2 x3 x4 x5 x6 k0
noncomputable def p80_l12 {R : Type} (n : Nat) (x1 x2 x3 : List PV) (x4 : Int) (x5 : List PV) (x6 : Int) (k0 : List PV → List PV → List PV → Option R) : Option R := p80_l12L n n x1 x2 x3 x4 x5 x6 k0
noncomputable def p80_c11 {R : Type} (n : Nat) (x1 x2 x3 : List PV) (x4 : Int) (x5 : List PV) (k0 : List PV → List PV → Option R) : Option R :=
  let v6 := IntKind.i64.wrap (((x2).length : Int) - x4); p80_l12 n x1 x2 x3 x4 x5 (IntKind.i64.wrap (v6 - 1)) (fun y7 y8 y9 => p78 n y8 (fun y10 => bif (inR 0 ((y7).length)) then (getI .u32 ((y7).getD ((0 : Int).toNat) (.v (.bool false))) fun e11 => p94 n y10 e11 (fun y12 y13 => p78 n y9 (fun y14 => k0 y14 y12))) else none))
noncomputable def p80_c10 {R : Type} (n : Nat) (x1 x2 x3 : List PV) (x4 : Int) (k0 : List PV → List PV → Option R) : Option R :=
  let v5 := IntKind.i64.wrap (((x2).length : Int) - x4); bif (decide ((0 : Int) ≤ v5) && decide ((v5 : Int) ≤ v5) && lenOK (v5 : Int).toNat 4) then (p80_c11 n x1 x2 x3 x4 (List.replicate (v5 : Int).toNat (.v (.int .u32 0) : PV)) (fun y6 y7 => k0 y6 y7)) else none
noncomputable def p80_c9 {R : Type} (n : Nat) (x1 x2 x3 : List PV) (k0 : List PV → List PV → Option R) : Option R :=
  p80_c10 n x1 x2 x3 ((x3).length : Int) (fun y4 y5 => k0 y4 y5)
noncomputable def p80_c8 {R : Type} (n : Nat) (x1 x2 x3 : List PV) (k0 : List PV → List PV → Option R) : Option R :=
  bif (hdSz 1 x2 && lenOK (0 + (x2).length) 4) then (bif (lenOK (([] ++ x2).length + 1) 4) then (p80_c9 n x1 (([] ++ x2) ++ ([.v (.int .u32 0)] : List PV)) x3 (fun y4 y5 => k0 y4 y5)) else none) else none
noncomputable def p80_c7 {R : Type} (n : Nat) (x1 x2 x3 : List PV) (k0 : List PV → List PV → Option R) : Option R :=
  p70 n x1 x3 (fun y4 => p70 n x2 x3 (fun y5 => p80_c8 n x3 y4 y5 (fun y6 y7 => k0 y6 y7)))
noncomputable def p80_c6 {R : Type} (n : Nat) (x1 x2 : List PV) (k0 : List PV → List PV → Option R) : Option R :=
  let v3 := IntKind.i64.wrap (((x2).length : Int) - 1); bif (inR v3 ((x2).length)) then (getI .u32 ((x2).getD ((v3 : Int).toNat) (.v (.bool false))) fun e4 => bif decide (IntKind.u32.wrap (e4 + 1) = 0) then none else (let v5 := IntKind.u32.wrap (Int.tdiv 1000000000 (IntKind.u32.wrap (e4 + 1))); p80_c7 n x1 x2 ([.v (.int .u32 v5)] : List PV) (fun y6 y7 => k0 y6 y7))) else none
noncomputable def p80_c3 {R : Type} (n : Nat) (x1 x2 : List PV) (k0 : List PV → List PV → Option R) : Option R :=
  bif (((x2).length : Int) == 1) then (bif (inR 0 ((x2).length)) then (getI .u32 ((x2).getD ((0 : Int).toNat) (.v (.bool false))) fun e3 => p94 n x1 e3 (fun y4 y5 => p78 n ([.v (.int .u32 y5)] : List PV) (fun y6 => k0 y4 y6))) else none) else (p80_c6 n x1 x2 (fun y7 y8 => k0 y7 y8))
noncomputable def p80 {R : Type} (n : Nat) (x1 x2 : List PV) (k0 : List PV → List PV → Option R) : Option R :=
  p73 n x1 x2 (fun y3 => bif (decide (y3 < 0)) then (k0 [] x1) else (p80_c3 n x1 x2 (fun y4 y5 => k0 y4 y5)))
noncomputable abbrev E80 {R : Type} (n : Nat) (c : Code) : Fr → Kc R → Option R := evC Tryz.prog (env80 n) ann80 n (262, []) c
noncomputable def c80_c3 : Code := subC (bodyOf Tryz.f80) [1, 1]
abbrev t80_c3 : Sl (List SV) := (.c (sP sSh) (.c (sP sSh) .n))
noncomputable abbrev f80_c3 {R : Type} (n : Nat) (K : Kc R) : t80_c3.T (Option R) := fun x1 x2 => p80_c3 n x1 x2 (fun y1 y2 => K .ret (lk (outA ann80.cuts 3) [.p (.sh y1), .p (.sh y2)]))
noncomputable abbrev o80_c3 {R : Type} (n : Nat) (vs : List SV) (K : Kc R) : Option R := oget (t80_c3.ap vs (f80_c3 n K)) (cutE ann80 3 (E80 n c80_c3) vs K)
noncomputable def c80_c6 : Code := subC (bodyOf Tryz.f80) [1, 1, 1]
abbrev t80_c6 : Sl (List SV) := (.c (sP sSh) (.c (sP sSh) .n))
noncomputable abbrev f80_c6 {R : Type} (n : Nat) (K : Kc R) : t80_c6.T (Option R) := fun x1 x2 => p80_c6 n x1 x2 (fun y1 y2 => K .ret (lk (outA ann80.cuts 6) [.p (.sh y1), .p (.sh y2)]))
noncomputable abbrev o80_c6 {R : Type} (n : Nat) (vs : List SV) (K : Kc R) : Option R := oget (t80_c6.ap vs (f80_c6 n K)) (cutE ann80 6 (E80 n c80_c6) vs K)
noncomputable def c80_c7 : Code := subC (bodyOf Tryz.f80) [1, 1, 1, 1]
abbrev t80_c7 : Sl (List SV) := (.c (sP sSh) (.c (sP sSh) (.c (sOwn 98) .n)))
noncomputable abbrev f80_c7 {R : Type} (n : Nat) (K : Kc R) : t80_c7.T (Option R) := fun x1 x2 x3 => p80_c7 n x1 x2 x3 (fun y1 y2 => K .ret (lk (outA ann80.cuts 7) [.p (.sh y1), .p (.sh y2)]))
noncomputable abbrev o80_c7 {R : Type} (n : Nat) (vs : List SV) (K : Kc R) : Option R := oget (t80_c7.ap vs (f80_c7 n K)) (cutE ann80 7 (E80 n c80_c7) vs K)
noncomputable def c80_c8 : Code := subC (bodyOf Tryz.f80) [1, 1, 1, 1, 1]
abbrev t80_c8 : Sl (List SV) := (.c (sP sSh) (.c (sP sSh) (.c (sP sSh) .n)))
noncomputable abbrev f80_c8 {R : Type} (n : Nat) (K : Kc R) : t80_c8.T (Option R) := fun x1 x2 x3 => p80_c8 n x1 x2 x3 (fun y1 y2 => K .ret (lk (outA ann80.cuts 8) [.p (.sh y1), .p (.sh y2)]))
noncomputable abbrev o80_c8 {R : Type} (n : Nat) (vs : List SV) (K : Kc R) : Option R := oget (t80_c8.ap vs (f80_c8 n K)) (cutE ann80 8 (E80 n c80_c8) vs K)
noncomputable def c80_c9 : Code := subC (bodyOf Tryz.f80) [1, 1, 1, 1, 1, 1]
abbrev t80_c9 : Sl (List SV) := (.c (sP sSh) (.c (sOwn 98) (.c (sP sSh) .n)))
noncomputable abbrev f80_c9 {R : Type} (n : Nat) (K : Kc R) : t80_c9.T (Option R) := fun x1 x2 x3 => p80_c9 n x1 x2 x3 (fun y1 y2 => K .ret (lk (outA ann80.cuts 9) [.p (.sh y1), .p (.sh y2)]))
noncomputable abbrev o80_c9 {R : Type} (n : Nat) (vs : List SV) (K : Kc R) : Option R := oget (t80_c9.ap vs (f80_c9 n K)) (cutE ann80 9 (E80 n c80_c9) vs K)
noncomputable def c80_c10 : Code := subC (bodyOf Tryz.f80) [1, 1, 1, 1, 1, 1, 1]
abbrev t80_c10 : Sl (List SV) := (.c (sP sSh) (.c (sOwn 98) (.c (sP sSh) (.c (sP (sInt .i64)) .n))))
noncomputable abbrev f80_c10 {R : Type} (n : Nat) (K : Kc R) : t80_c10.T (Option R) := fun x1 x2 x3 x4 => p80_c10 n x1 x2 x3 x4 (fun y1 y2 => K .ret (lk (outA ann80.cuts 10) [.p (.sh y1), .p (.sh y2)]))
noncomputable abbrev o80_c10 {R : Type} (n : Nat) (vs : List SV) (K : Kc R) : Option R := oget (t80_c10.ap vs (f80_c10 n K)) (cutE ann80 10 (E80 n c80_c10) vs K)
noncomputable def c80_c11 : Code := subC (bodyOf Tryz.f80) [1, 1, 1, 1, 1, 1, 1, 1]
abbrev t80_c11 : Sl (List SV) := (.c (sP sSh) (.c (sOwn 98) (.c (sP sSh) (.c (sP (sInt .i64)) (.c (sOwn 98) .n)))))
noncomputable abbrev f80_c11 {R : Type} (n : Nat) (K : Kc R) : t80_c11.T (Option R) := fun x1 x2 x3 x4 x5 => p80_c11 n x1 x2 x3 x4 x5 (fun y1 y2 => K .ret (lk (outA ann80.cuts 11) [.p (.sh y1), .p (.sh y2)]))
noncomputable abbrev o80_c11 {R : Type} (n : Nat) (vs : List SV) (K : Kc R) : Option R := oget (t80_c11.ap vs (f80_c11 n K)) (cutE ann80 11 (E80 n c80_c11) vs K)
noncomputable def c80_c13 : Code := subC (bodyOf Tryz.f80) [1, 1, 1, 1, 1, 1, 1, 1, 0, 1, 0, 0, 1, 1]
abbrev t80_c13 : Sl (List SV) := (.c (sP sSh) (.c (sOwn 98) (.c (sP sSh) (.c (sP (sInt .i64)) (.c (sOwn 98) (.c (sP (sInt .i64)) .n))))))
noncomputable abbrev f80_c13 {R : Type} (n : Nat) (K : Kc R) : t80_c13.T (Option R) := fun x1 x2 x3 x4 x5 x6 => p80_c13 n x1 x2 x3 x4 x5 x6 (fun y1 y2 y3 y4 y5 y6 => K .normal (lk (outA ann80.cuts 13) [.dead, .dead, .p (.sh y1), .own 98 y2, .p (.sh y3), .p (.v (.int .i64 y4)), .own 98 y5, .p (.v (.int .i64 y6))]))
noncomputable abbrev o80_c13 {R : Type} (n : Nat) (vs : List SV) (K : Kc R) : Option R := oget (t80_c13.ap vs (f80_c13 n K)) (cutE ann80 13 (E80 n c80_c13) vs K)
noncomputable def c80_c17 : Code := subC (bodyOf Tryz.f80) [1, 1, 1, 1, 1, 1, 1, 1, 0, 1, 0, 0, 1, 0, 0, 1, 1, 0, 0, 0, 1]
abbrev t80_c17 : Sl (List SV) := (.c (sP sSh) (.c (sOwn 98) (.c (sP sSh) (.c (sP (sInt .i64)) (.c (sOwn 98) (.c (sP (sInt .i64)) (.c (sP (sInt .u64)) (.c (sP (sInt .u64)) .n))))))))
noncomputable abbrev f80_c17 {R : Type} (n : Nat) (K : Kc R) : t80_c17.T (Option R) := fun x1 x2 x3 x4 x5 x6 x7 x8 => p80_c17 n x1 x2 x3 x4 x5 x6 x7 x8 (fun y1 y2 y3 y4 y5 y6 y7 y8 => K (.exit 2) (lk (outA ann80.cuts 17) [.dead, .dead, .p (.sh y1), .own 98 y2, .p (.sh y3), .p (.v (.int .i64 y4)), .own 98 y5, .p (.v (.int .i64 y6)), .p (.v (.int .u64 y7)), .p (.v (.int .u64 y8))])) (fun y1 y2 y3 y4 y5 y6 y7 y8 => K .normal (lk (outA ann80.cuts 17) [.dead, .dead, .p (.sh y1), .own 98 y2, .p (.sh y3), .p (.v (.int .i64 y4)), .own 98 y5, .p (.v (.int .i64 y6)), .p (.v (.int .u64 y7)), .p (.v (.int .u64 y8))]))
noncomputable abbrev o80_c17 {R : Type} (n : Nat) (vs : List SV) (K : Kc R) : Option R := oget (t80_c17.ap vs (f80_c17 n K)) (cutE ann80 17 (E80 n c80_c17) vs K)
noncomputable def c80_c31 : Code := subC (bodyOf Tryz.f80) [1, 1, 1, 1, 1, 1, 1, 1, 0, 1, 0, 0, 1, 0, 0, 1, 1, 1, 1, 0, 1, 0, 0, 1, 1, 0, 0, 1, 1, 1, 1, 1, 1]
abbrev t80_c31 : Sl (List SV) := (.c (sP sSh) (.c (sOwn 98) (.c (sP sSh) (.c (sP (sInt .i64)) (.c (sOwn 98) (.c (sP (sInt .i64)) (.c (sP (sInt .u64)) (.c (sP (sInt .u64)) (.c (sP (sInt .i64)) (.c (sP (sInt .i64)) (.c (sP (sInt .i64)) (.c (sP (sInt .i64)) (.c (sP (sInt .i64)) .n)))))))))))))
noncomputable abbrev f80_c31 {R : Type} (n : Nat) (K : Kc R) : t80_c31.T (Option R) := fun x1 x2 x3 x4 x5 x6 x7 x8 x9 x10 x11 x12 x13 => p80_c31 n x1 x2 x3 x4 x5 x6 x7 x8 x9 x10 x11 x12 x13 (fun y1 y2 y3 y4 y5 y6 y7 y8 y9 y10 y11 => K .normal (lk (outA ann80.cuts 31) [.dead, .dead, .p (.sh y1), .own 98 y2, .p (.sh y3), .p (.v (.int .i64 y4)), .own 98 y5, .p (.v (.int .i64 y6)), .p (.v (.int .u64 y7)), .p (.v (.int .u64 y8)), .p (.v (.int .i64 y9)), .p (.v (.int .i64 y10)), .p (.v (.int .i64 y11))]))
noncomputable abbrev o80_c31 {R : Type} (n : Nat) (vs : List SV) (K : Kc R) : Option R := oget (t80_c31.ap vs (f80_c31 n K)) (cutE ann80 31 (E80 n c80_c31) vs K)
noncomputable def c80_c45 : Code := subC (bodyOf Tryz.f80) [1, 1, 1, 1, 1, 1, 1, 1, 0, 1, 0, 0, 1, 0, 0, 1, 1, 1, 1, 1, 1, 1]
abbrev t80_c45 : Sl (List SV) := (.c (sP sSh) (.c (sOwn 98) (.c (sP sSh) (.c (sP (sInt .i64)) (.c (sOwn 98) (.c (sP (sInt .i64)) (.c (sP (sInt .u64)) (.c (sP (sInt .i64)) .n))))))))
noncomputable abbrev f80_c45 {R : Type} (n : Nat) (K : Kc R) : t80_c45.T (Option R) := fun x1 x2 x3 x4 x5 x6 x7 x8 => p80_c45 n x1 x2 x3 x4 x5 x6 x7 x8 (fun y1 y2 y3 y4 y5 y6 => K .normal (lk (outA ann80.cuts 45) [.dead, .dead, .p (.sh y1), .own 98 y2, .p (.sh y3), .p (.v (.int .i64 y4)), .own 98 y5, .p (.v (.int .i64 y6))]))
noncomputable abbrev o80_c45 {R : Type} (n : Nat) (vs : List SV) (K : Kc R) : Option R := oget (t80_c45.ap vs (f80_c45 n K)) (cutE ann80 45 (E80 n c80_c45) vs K)
noncomputable def c80_l12 : Code := subC (bodyOf Tryz.f80) [1, 1, 1, 1, 1, 1, 1, 1, 0, 1, 0, 0]
abbrev t80_l12 : Sl (List SV) := (.c (sP sSh) (.c (sOwn 98) (.c (sP sSh) (.c (sP (sInt .i64)) (.c (sOwn 98) (.c (sP (sInt .i64)) .n))))))
noncomputable abbrev f80_l12 {R : Type} (n m : Nat) (K : Kc R) : t80_l12.T (Option R) := fun x1 x2 x3 x4 x5 x6 => p80_l12L n m x1 x2 x3 x4 x5 x6 (fun y1 y2 y3 => K (.exit 0) (lk (outA ann80.loops 12) [.dead, .dead, .p (.sh y1), .own 98 y2, .own 98 y3]))
noncomputable abbrev o80_l12 {R : Type} (n : Nat) (vs : List SV) (K : Kc R) : Option R := oget (t80_l12.ap vs (f80_l12 n n K)) (loopE ann80 12 (E80 n c80_l12) n vs K)
noncomputable def c80_l16 : Code := subC (bodyOf Tryz.f80) [1, 1, 1, 1, 1, 1, 1, 1, 0, 1, 0, 0, 1, 0, 0, 1, 1, 0, 0, 0]
abbrev t80_l16 : Sl (List SV) := (.c (sP sSh) (.c (sOwn 98) (.c (sP sSh) (.c (sP (sInt .i64)) (.c (sOwn 98) (.c (sP (sInt .i64)) (.c (sP (sInt .u64)) (.c (sP (sInt .u64)) .n))))))))
noncomputable abbrev f80_l16 {R : Type} (n m : Nat) (K : Kc R) : t80_l16.T (Option R) := fun x1 x2 x3 x4 x5 x6 x7 x8 => p80_l16L n m x1 x2 x3 x4 x5 x6 x7 x8 (fun y1 y2 y3 y4 y5 y6 y7 => K (.exit 2) (lk (outA ann80.loops 16) [.dead, .dead, .p (.sh y1), .own 98 y2, .p (.sh y3), .p (.v (.int .i64 y4)), .own 98 y5, .p (.v (.int .i64 y6)), .p (.v (.int .u64 y7))]))
noncomputable abbrev o80_l16 {R : Type} (n : Nat) (vs : List SV) (K : Kc R) : Option R := oget (t80_l16.ap vs (f80_l16 n n K)) (loopE ann80 16 (E80 n c80_l16) n vs K)
noncomputable def c80_l22 : Code := subC (bodyOf Tryz.f80) [1, 1, 1, 1, 1, 1, 1, 1, 0, 1, 0, 0, 1, 0, 0, 1, 1, 1, 1, 0, 1, 0, 0]
abbrev t80_l22 : Sl (List SV) := (.c (sP sSh) (.c (sOwn 98) (.c (sP sSh) (.c (sP (sInt .i64)) (.c (sOwn 98) (.c (sP (sInt .i64)) (.c (sP (sInt .u64)) (.c (sP (sInt .u64)) (.c (sP (sInt .i64)) (.c (sP (sInt .i64)) (.c (sP (sInt .i64)) .n)))))))))))
noncomputable abbrev f80_l22 {R : Type} (n m : Nat) (K : Kc R) : t80_l22.T (Option R) := fun x1 x2 x3 x4 x5 x6 x7 x8 x9 x10 x11 => p80_l22L n m x1 x2 x3 x4 x5 x6 x7 x8 x9 x10 x11 (fun y1 y2 y3 y4 y5 y6 y7 y8 y9 => K (.exit 4) (lk (outA ann80.loops 22) [.dead, .dead, .p (.sh y1), .own 98 y2, .p (.sh y3), .p (.v (.int .i64 y4)), .own 98 y5, .p (.v (.int .i64 y6)), .p (.v (.int .u64 y7)), .p (.v (.int .u64 y8)), .p (.v (.int .i64 y9))]))
noncomputable abbrev o80_l22 {R : Type} (n : Nat) (vs : List SV) (K : Kc R) : Option R := oget (t80_l22.ap vs (f80_l22 n n K)) (loopE ann80 22 (E80 n c80_l22) n vs K)
noncomputable def c80_l38 : Code := subC (bodyOf Tryz.f80) [1, 1, 1, 1, 1, 1, 1, 1, 0, 1, 0, 0, 1, 0, 0, 1, 1, 1, 1, 1, 1, 0, 1, 0, 1, 1, 0, 1, 0, 0]
abbrev t80_l38 : Sl (List SV) := (.c (sP sSh) (.c (sOwn 98) (.c (sP sSh) (.c (sP (sInt .i64)) (.c (sOwn 98) (.c (sP (sInt .i64)) (.c (sP (sInt .u64)) (.c (sP (sInt .i64)) (.c (sP (sInt .u32)) (.c (sP (sInt .i64)) (.c (sP (sInt .i64)) .n)))))))))))
noncomputable abbrev f80_l38 {R : Type} (n m : Nat) (K : Kc R) : t80_l38.T (Option R) := fun x1 x2 x3 x4 x5 x6 x7 x8 x9 x10 x11 => p80_l38L n m x1 x2 x3 x4 x5 x6 x7 x8 x9 x10 x11 (fun y1 y2 y3 y4 y5 y6 y7 y8 y9 => K (.exit 6) (lk (outA ann80.loops 38) [.dead, .dead, .p (.sh y1), .own 98 y2, .p (.sh y3), .p (.v (.int .i64 y4)), .own 98 y5, .p (.v (.int .i64 y6)), .p (.v (.int .u64 y7)), .p (.v (.int .i64 y8)), .p (.v (.int .u32 y9))]))
noncomputable abbrev o80_l38 {R : Type} (n : Nat) (vs : List SV) (K : Kc R) : Option R := oget (t80_l38.ap vs (f80_l38 n n K)) (loopE ann80 38 (E80 n c80_l38) n vs K)
noncomputable abbrev lo80 {R : Type} (n : Nat) : Orc R := fun i vs K => dcnd (Nat.beq i 38) (o80_l38 n vs K) (dcnd (Nat.beq i 22) (o80_l22 n vs K) (dcnd (Nat.beq i 16) (o80_l16 n vs K) (dcnd (Nat.beq i 12) (o80_l12 n vs K) (none))))
noncomputable abbrev cu80 {R : Type} (n : Nat) : Orc R := fun i vs K => dcnd (Nat.beq i 45) (o80_c45 n vs K) (dcnd (Nat.beq i 31) (o80_c31 n vs K) (dcnd (Nat.beq i 17) (o80_c17 n vs K) (dcnd (Nat.beq i 13) (o80_c13 n vs K) (dcnd (Nat.beq i 11) (o80_c11 n vs K) (dcnd (Nat.beq i 10) (o80_c10 n vs K) (dcnd (Nat.beq i 9) (o80_c9 n vs K) (dcnd (Nat.beq i 8) (o80_c8 n vs K) (dcnd (Nat.beq i 7) (o80_c7 n vs K) (dcnd (Nat.beq i 6) (o80_c6 n vs K) (dcnd (Nat.beq i 3) (o80_c3 n vs K) (none)))))))))))
section
variable {R : Type}
noncomputable abbrev V80 (n : Nat) (c : Code) : Fr → Kc R → Option R := evOi Tryz.prog (env80 n) ann80 (262, []) (lo80 n) (cu80 n) c
abbrev K80 (R : Type) (n : Nat) := PartOK (R := R) Tryz.prog (env80 n) ann80 n (262, []) (lo80 n) (cu80 n)
theorem pa80_c17 (n : Nat) : allP (K80 R n) (partsOf ann80 c80_c17) := by
  rw [show partsOf ann80 c80_c17 = [] from by kernel_rfl]; exact trivial
theorem q80_c17 (n : Nat) : K80 R n (true, 17, c80_c17) := part_cut (pa80_c17 n) t80_c17 (f80_c17 n) (fun K x1 x2 x3 x4 x5 x6 x7 x8 => by show cutE _ _ _ _ _ = _; kernel_rfl) fun _ _ => rfl
theorem pa80_l16 (n : Nat) : allP (K80 R n) (partsOf ann80 c80_l16) := by
  rw [show partsOf ann80 c80_l16 = [(true, 17, c80_c17)] from by kernel_rfl]; exact ⟨q80_c17 n, trivial⟩
theorem sp80_l16 (n m : Nat) (x1 x2 x3 : List PV) (x4 : Int) (x5 : List PV) (x6 x7 x8 : Int) (K : Kc R) : loopE ann80 16 (V80 n c80_l16) (m + 1) [.p (.sh x1), .own 98 x2, .p (.sh x3), .p (.v (.int .i64 x4)), .own 98 x5, .p (.v (.int .i64 x6)), .p (.v (.int .u64 x7)), .p (.v (.int .u64 x8))] K = p80_l16B n (fun x1 x2 x3 x4 x5 x6 x7 x8 => loopE ann80 16 (V80 n c80_l16) m [.p (.sh x1), .own 98 x2, .p (.sh x3), .p (.v (.int .i64 x4)), .own 98 x5, .p (.v (.int .i64 x6)), .p (.v (.int .u64 x7)), .p (.v (.int .u64 x8))] K) x1 x2 x3 x4 x5 x6 x7 x8 (fun y1 y2 y3 y4 y5 y6 y7 => K (.exit 2) (lk (outA ann80.loops 16) [.dead, .dead, .p (.sh y1), .own 98 y2, .p (.sh y3), .p (.v (.int .i64 y4)), .own 98 y5, .p (.v (.int .i64 y6)), .p (.v (.int .u64 y7))])) := by kernel_rfl
theorem ep80_l16 (n : Nat) (K : Kc R) : ∀ (m : Nat) (x1 x2 x3 : List PV) (x4 : Int) (x5 : List PV) (x6 x7 x8 : Int), loopE ann80 16 (V80 n c80_l16) m [.p (.sh x1), .own 98 x2, .p (.sh x3), .p (.v (.int .i64 x4)), .own 98 x5, .p (.v (.int .i64 x6)), .p (.v (.int .u64 x7)), .p (.v (.int .u64 x8))] K = f80_l16 n m K x1 x2 x3 x4 x5 x6 x7 x8
  | 0, _, _, _, _, _, _, _, _ => rfl
  | m + 1, x1, x2, x3, x4, x5, x6, x7, x8 => (sp80_l16 n m x1 x2 x3 x4 x5 x6 x7 x8 K).trans (congrArg (fun l0 => p80_l16B n l0 x1 x2 x3 x4 x5 x6 x7 x8 (fun y1 y2 y3 y4 y5 y6 y7 => K (.exit 2) (lk (outA ann80.loops 16) [.dead, .dead, .p (.sh y1), .own 98 y2, .p (.sh y3), .p (.v (.int .i64 y4)), .own 98 y5, .p (.v (.int .i64 y6)), .p (.v (.int .u64 y7))]))) (funext fun z0 => funext fun z1 => funext fun z2 => funext fun z3 => funext fun z4 => funext fun z5 => funext fun z6 => funext fun z7 => ep80_l16 n K m z0 z1 z2 z3 z4 z5 z6 z7))
theorem q80_l16 (n : Nat) : K80 R n (false, 16, c80_l16) := part_loop (pa80_l16 n) t80_l16 (f80_l16 n n) (fun K x1 x2 x3 x4 x5 x6 x7 x8 => ep80_l16 n K n x1 x2 x3 x4 x5 x6 x7 x8) fun _ _ => rfl
theorem pa80_c31 (n : Nat) : allP (K80 R n) (partsOf ann80 c80_c31) := by
  rw [show partsOf ann80 c80_c31 = [] from by kernel_rfl]; exact trivial
theorem q80_c31 (n : Nat) : K80 R n (true, 31, c80_c31) := part_cut (pa80_c31 n) t80_c31 (f80_c31 n) (fun K x1 x2 x3 x4 x5 x6 x7 x8 x9 x10 x11 x12 x13 => by show cutE _ _ _ _ _ = _; kernel_rfl) fun _ _ => rfl
theorem pa80_l22 (n : Nat) : allP (K80 R n) (partsOf ann80 c80_l22) := by
  rw [show partsOf ann80 c80_l22 = [(true, 31, c80_c31)] from by kernel_rfl]; exact ⟨q80_c31 n, trivial⟩
theorem sp80_l22 (n m : Nat) (x1 x2 x3 : List PV) (x4 : Int) (x5 : List PV) (x6 x7 x8 x9 x10 x11 : Int) (K : Kc R) : loopE ann80 22 (V80 n c80_l22) (m + 1) [.p (.sh x1), .own 98 x2, .p (.sh x3), .p (.v (.int .i64 x4)), .own 98 x5, .p (.v (.int .i64 x6)), .p (.v (.int .u64 x7)), .p (.v (.int .u64 x8)), .p (.v (.int .i64 x9)), .p (.v (.int .i64 x10)), .p (.v (.int .i64 x11))] K = p80_l22B n (fun x1 x2 x3 x4 x5 x6 x7 x8 x9 x10 x11 => loopE ann80 22 (V80 n c80_l22) m [.p (.sh x1), .own 98 x2, .p (.sh x3), .p (.v (.int .i64 x4)), .own 98 x5, .p (.v (.int .i64 x6)), .p (.v (.int .u64 x7)), .p (.v (.int .u64 x8)), .p (.v (.int .i64 x9)), .p (.v (.int .i64 x10)), .p (.v (.int .i64 x11))] K) x1 x2 x3 x4 x5 x6 x7 x8 x9 x10 x11 (fun y1 y2 y3 y4 y5 y6 y7 y8 y9 => K (.exit 4) (lk (outA ann80.loops 22) [.dead, .dead, .p (.sh y1), .own 98 y2, .p (.sh y3), .p (.v (.int .i64 y4)), .own 98 y5, .p (.v (.int .i64 y6)), .p (.v (.int .u64 y7)), .p (.v (.int .u64 y8)), .p (.v (.int .i64 y9))])) := by kernel_rfl
theorem ep80_l22 (n : Nat) (K : Kc R) : ∀ (m : Nat) (x1 x2 x3 : List PV) (x4 : Int) (x5 : List PV) (x6 x7 x8 x9 x10 x11 : Int), loopE ann80 22 (V80 n c80_l22) m [.p (.sh x1), .own 98 x2, .p (.sh x3), .p (.v (.int .i64 x4)), .own 98 x5, .p (.v (.int .i64 x6)), .p (.v (.int .u64 x7)), .p (.v (.int .u64 x8)), .p (.v (.int .i64 x9)), .p (.v (.int .i64 x10)), .p (.v (.int .i64 x11))] K = f80_l22 n m K x1 x2 x3 x4 x5 x6 x7 x8 x9 x10 x11
  | 0, _, _, _, _, _, _, _, _, _, _, _ => rfl
  | m + 1, x1, x2, x3, x4, x5, x6, x7, x8, x9, x10, x11 => (sp80_l22 n m x1 x2 x3 x4 x5 x6 x7 x8 x9 x10 x11 K).trans (congrArg (fun l0 => p80_l22B n l0 x1 x2 x3 x4 x5 x6 x7 x8 x9 x10 x11 (fun y1 y2 y3 y4 y5 y6 y7 y8 y9 => K (.exit 4) (lk (outA ann80.loops 22) [.dead, .dead, .p (.sh y1), .own 98 y2, .p (.sh y3), .p (.v (.int .i64 y4)), .own 98 y5, .p (.v (.int .i64 y6)), .p (.v (.int .u64 y7)), .p (.v (.int .u64 y8)), .p (.v (.int .i64 y9))]))) (funext fun z0 => funext fun z1 => funext fun z2 => funext fun z3 => funext fun z4 => funext fun z5 => funext fun z6 => funext fun z7 => funext fun z8 => funext fun z9 => funext fun z10 => ep80_l22 n K m z0 z1 z2 z3 z4 z5 z6 z7 z8 z9 z10))
theorem q80_l22 (n : Nat) : K80 R n (false, 22, c80_l22) := part_loop (pa80_l22 n) t80_l22 (f80_l22 n n) (fun K x1 x2 x3 x4 x5 x6 x7 x8 x9 x10 x11 => ep80_l22 n K n x1 x2 x3 x4 x5 x6 x7 x8 x9 x10 x11) fun _ _ => rfl
theorem pa80_l38 (n : Nat) : allP (K80 R n) (partsOf ann80 c80_l38) := by
  rw [show partsOf ann80 c80_l38 = [] from by kernel_rfl]; exact trivial
theorem sp80_l38 (n m : Nat) (x1 x2 x3 : List PV) (x4 : Int) (x5 : List PV) (x6 x7 x8 x9 x10 x11 : Int) (K : Kc R) : loopE ann80 38 (V80 n c80_l38) (m + 1) [.p (.sh x1), .own 98 x2, .p (.sh x3), .p (.v (.int .i64 x4)), .own 98 x5, .p (.v (.int .i64 x6)), .p (.v (.int .u64 x7)), .p (.v (.int .i64 x8)), .p (.v (.int .u32 x9)), .p (.v (.int .i64 x10)), .p (.v (.int .i64 x11))] K = p80_l38B n (fun x1 x2 x3 x4 x5 x6 x7 x8 x9 x10 x11 => loopE ann80 38 (V80 n c80_l38) m [.p (.sh x1), .own 98 x2, .p (.sh x3), .p (.v (.int .i64 x4)), .own 98 x5, .p (.v (.int .i64 x6)), .p (.v (.int .u64 x7)), .p (.v (.int .i64 x8)), .p (.v (.int .u32 x9)), .p (.v (.int .i64 x10)), .p (.v (.int .i64 x11))] K) x1 x2 x3 x4 x5 x6 x7 x8 x9 x10 x11 (fun y1 y2 y3 y4 y5 y6 y7 y8 y9 => K (.exit 6) (lk (outA ann80.loops 38) [.dead, .dead, .p (.sh y1), .own 98 y2, .p (.sh y3), .p (.v (.int .i64 y4)), .own 98 y5, .p (.v (.int .i64 y6)), .p (.v (.int .u64 y7)), .p (.v (.int .i64 y8)), .p (.v (.int .u32 y9))])) := by kernel_rfl
theorem ep80_l38 (n : Nat) (K : Kc R) : ∀ (m : Nat) (x1 x2 x3 : List PV) (x4 : Int) (x5 : List PV) (x6 x7 x8 x9 x10 x11 : Int), loopE ann80 38 (V80 n c80_l38) m [.p (.sh x1), .own 98 x2, .p (.sh x3), .p (.v (.int .i64 x4)), .own 98 x5, .p (.v (.int .i64 x6)), .p (.v (.int .u64 x7)), .p (.v (.int .i64 x8)), .p (.v (.int .u32 x9)), .p (.v (.int .i64 x10)), .p (.v (.int .i64 x11))] K = f80_l38 n m K x1 x2 x3 x4 x5 x6 x7 x8 x9 x10 x11
  | 0, _, _, _, _, _, _, _, _, _, _, _ => rfl
  | m + 1, x1, x2, x3, x4, x5, x6, x7, x8, x9, x10, x11 => (sp80_l38 n m x1 x2 x3 x4 x5 x6 x7 x8 x9 x10 x11 K).trans (congrArg (fun l0 => p80_l38B n l0 x1 x2 x3 x4 x5 x6 x7 x8 x9 x10 x11 (fun y1 y2 y3 y4 y5 y6 y7 y8 y9 => K (.exit 6) (lk (outA ann80.loops 38) [.dead, .dead, .p (.sh y1), .own 98 y2, .p (.sh y3), .p (.v (.int .i64 y4)), .own 98 y5, .p (.v (.int .i64 y6)), .p (.v (.int .u64 y7)), .p (.v (.int .i64 y8)), .p (.v (.int .u32 y9))]))) (funext fun z0 => funext fun z1 => funext fun z2 => funext fun z3 => funext fun z4 => funext fun z5 => funext fun z6 => funext fun z7 => funext fun z8 => funext fun z9 => funext fun z10 => ep80_l38 n K m z0 z1 z2 z3 z4 z5 z6 z7 z8 z9 z10))
theorem q80_l38 (n : Nat) : K80 R n (false, 38, c80_l38) := part_loop (pa80_l38 n) t80_l38 (f80_l38 n n) (fun K x1 x2 x3 x4 x5 x6 x7 x8 x9 x10 x11 => ep80_l38 n K n x1 x2 x3 x4 x5 x6 x7 x8 x9 x10 x11) fun _ _ => rfl
theorem pa80_c45 (n : Nat) : allP (K80 R n) (partsOf ann80 c80_c45) := by
  rw [show partsOf ann80 c80_c45 = [] from by kernel_rfl]; exact trivial
theorem q80_c45 (n : Nat) : K80 R n (true, 45, c80_c45) := part_cut (pa80_c45 n) t80_c45 (f80_c45 n) (fun K x1 x2 x3 x4 x5 x6 x7 x8 => by show cutE _ _ _ _ _ = _; kernel_rfl) fun _ _ => rfl
theorem pa80_c13 (n : Nat) : allP (K80 R n) (partsOf ann80 c80_c13) := by
  rw [show partsOf ann80 c80_c13 = [] from by kernel_rfl]; exact trivial
theorem q80_c13 (n : Nat) : K80 R n (true, 13, c80_c13) := part_cut (pa80_c13 n) t80_c13 (f80_c13 n) (fun K x1 x2 x3 x4 x5 x6 => by show cutE _ _ _ _ _ = _; kernel_rfl) fun _ _ => rfl
theorem pa80_l12 (n : Nat) : allP (K80 R n) (partsOf ann80 c80_l12) := by
  rw [show partsOf ann80 c80_l12 = [(false, 16, c80_l16), (false, 22, c80_l22), (false, 38, c80_l38), (true, 45, c80_c45), (true, 13, c80_c13)] from by kernel_rfl]; exact ⟨q80_l16 n, q80_l22 n, q80_l38 n, q80_c45 n, q80_c13 n, trivial⟩
theorem sp80_l12 (n m : Nat) (x1 x2 x3 : List PV) (x4 : Int) (x5 : List PV) (x6 : Int) (K : Kc R) : loopE ann80 12 (V80 n c80_l12) (m + 1) [.p (.sh x1), .own 98 x2, .p (.sh x3), .p (.v (.int .i64 x4)), .own 98 x5, .p (.v (.int .i64 x6))] K = p80_l12B n (fun x1 x2 x3 x4 x5 x6 => loopE ann80 12 (V80 n c80_l12) m [.p (.sh x1), .own 98 x2, .p (.sh x3), .p (.v (.int .i64 x4)), .own 98 x5, .p (.v (.int .i64 x6))] K) x1 x2 x3 x4 x5 x6 (fun y1 y2 y3 => K (.exit 0) (lk (outA ann80.loops 12) [.dead, .dead, .p (.sh y1), .own 98 y2, .own 98 y3])) := by kernel_rfl
theorem ep80_l12 (n : Nat) (K : Kc R) : ∀ (m : Nat) (x1 x2 x3 : List PV) (x4 : Int) (x5 : List PV) (x6 : Int), loopE ann80 12 (V80 n c80_l12) m [.p (.sh x1), .own 98 x2, .p (.sh x3), .p (.v (.int .i64 x4)), .own 98 x5, .p (.v (.int .i64 x6))] K = f80_l12 n m K x1 x2 x3 x4 x5 x6
  | 0, _, _, _, _, _, _ => rfl
  | m + 1, x1, x2, x3, x4, x5, x6 => (sp80_l12 n m x1 x2 x3 x4 x5 x6 K).trans (congrArg (fun l0 => p80_l12B n l0 x1 x2 x3 x4 x5 x6 (fun y1 y2 y3 => K (.exit 0) (lk (outA ann80.loops 12) [.dead, .dead, .p (.sh y1), .own 98 y2, .own 98 y3]))) (funext fun z0 => funext fun z1 => funext fun z2 => funext fun z3 => funext fun z4 => funext fun z5 => ep80_l12 n K m z0 z1 z2 z3 z4 z5))
theorem q80_l12 (n : Nat) : K80 R n (false, 12, c80_l12) := part_loop (pa80_l12 n) t80_l12 (f80_l12 n n) (fun K x1 x2 x3 x4 x5 x6 => ep80_l12 n K n x1 x2 x3 x4 x5 x6) fun _ _ => rfl
theorem pa80_c11 (n : Nat) : allP (K80 R n) (partsOf ann80 c80_c11) := by
  rw [show partsOf ann80 c80_c11 = [(false, 12, c80_l12)] from by kernel_rfl]; exact ⟨q80_l12 n, trivial⟩
theorem q80_c11 (n : Nat) : K80 R n (true, 11, c80_c11) := part_cut (pa80_c11 n) t80_c11 (f80_c11 n) (fun K x1 x2 x3 x4 x5 => by show cutE _ _ _ _ _ = _; kernel_rfl) fun _ _ => rfl
theorem pa80_c10 (n : Nat) : allP (K80 R n) (partsOf ann80 c80_c10) := by
  rw [show partsOf ann80 c80_c10 = [(true, 11, c80_c11)] from by kernel_rfl]; exact ⟨q80_c11 n, trivial⟩
theorem q80_c10 (n : Nat) : K80 R n (true, 10, c80_c10) := part_cut (pa80_c10 n) t80_c10 (f80_c10 n) (fun K x1 x2 x3 x4 => by show cutE _ _ _ _ _ = _; kernel_rfl) fun _ _ => rfl
theorem pa80_c9 (n : Nat) : allP (K80 R n) (partsOf ann80 c80_c9) := by
  rw [show partsOf ann80 c80_c9 = [(true, 10, c80_c10)] from by kernel_rfl]; exact ⟨q80_c10 n, trivial⟩
theorem q80_c9 (n : Nat) : K80 R n (true, 9, c80_c9) := part_cut (pa80_c9 n) t80_c9 (f80_c9 n) (fun K x1 x2 x3 => by show cutE _ _ _ _ _ = _; kernel_rfl) fun _ _ => rfl
theorem pa80_c8 (n : Nat) : allP (K80 R n) (partsOf ann80 c80_c8) := by
  rw [show partsOf ann80 c80_c8 = [(true, 9, c80_c9)] from by kernel_rfl]; exact ⟨q80_c9 n, trivial⟩
theorem q80_c8 (n : Nat) : K80 R n (true, 8, c80_c8) := part_cut (pa80_c8 n) t80_c8 (f80_c8 n) (fun K x1 x2 x3 => by show cutE _ _ _ _ _ = _; kernel_rfl) fun _ _ => rfl
theorem pa80_c7 (n : Nat) : allP (K80 R n) (partsOf ann80 c80_c7) := by
  rw [show partsOf ann80 c80_c7 = [(true, 8, c80_c8)] from by kernel_rfl]; exact ⟨q80_c8 n, trivial⟩
theorem q80_c7 (n : Nat) : K80 R n (true, 7, c80_c7) := part_cut (pa80_c7 n) t80_c7 (f80_c7 n) (fun K x1 x2 x3 => by show cutE _ _ _ _ _ = _; kernel_rfl) fun _ _ => rfl
theorem pa80_c6 (n : Nat) : allP (K80 R n) (partsOf ann80 c80_c6) := by
  rw [show partsOf ann80 c80_c6 = [(true, 7, c80_c7)] from by kernel_rfl]; exact ⟨q80_c7 n, trivial⟩
theorem q80_c6 (n : Nat) : K80 R n (true, 6, c80_c6) := part_cut (pa80_c6 n) t80_c6 (f80_c6 n) (fun K x1 x2 => by show cutE _ _ _ _ _ = _; kernel_rfl) fun _ _ => rfl
theorem pa80_c3 (n : Nat) : allP (K80 R n) (partsOf ann80 c80_c3) := by
  rw [show partsOf ann80 c80_c3 = [(true, 6, c80_c6)] from by kernel_rfl]; exact ⟨q80_c6 n, trivial⟩
theorem q80_c3 (n : Nat) : K80 R n (true, 3, c80_c3) := part_cut (pa80_c3 n) t80_c3 (f80_c3 n) (fun K x1 x2 => by show cutE _ _ _ _ _ = _; kernel_rfl) fun _ _ => rfl
theorem pa80 (n : Nat) : allP (K80 R n) (partsOf ann80 (bodyOf Tryz.f80)) := by
  rw [show partsOf ann80 (bodyOf Tryz.f80) = [(true, 3, c80_c3)] from by kernel_rfl]; exact ⟨q80_c3 n, trivial⟩
end
abbrev t80 : Sl (List SV) := (.c (sP sSh) (.c (sP sSh) .n))
noncomputable abbrev f80 (n : Nat) {R : Type} (K : List SV → Option R) : t80.T (Option R) := fun x1 x2 => p80 n x1 x2 (fun y1 y2 => K [.p (.sh y1), .p (.sh y2)])
theorem ep80 {R : Type} (n : Nat) (K : List SV → Option R) (x1 x2 : List PV) : evFn Tryz.prog (env80 n) ann80 n Tryz.f80 [.p (.sh x1), .p (.sh x2)] K = f80 n K x1 x2 := by
  rw [evFn_evOi (c := bodyOf Tryz.f80) (by kernel_rfl) (pa80 n)]; kernel_rfl
noncomputable abbrev fs80 (n : Nat) : FS := { om := [false, false], run := fun args K => oget (t80.ap args (f80 n K)) none }
theorem ok80 (n : Nat) : FSound Tryz.prog GI 80 (fs80 n) :=
  FSound.good (envok80 n) (ann := ann80) (n := n) Tryz.func80
    (.cons (envok80 n) t80 (f80 n) (fun K x1 x2 => ep80 n K x1 x2) .nil)
    (by kernel_rfl) (by kernel_rfl) (by kernel_rfl)
end Go.Proofs.YtfbahcfojiaeaaaGreatDoor


set_option linter.unusedVariables false
set_option linter.unusedSimpArgs false
namespace Go.Proofs.YtfbahcfojiaeaaaGreatDoor
open Go Th Go.Proofs
variable {R : Type}
theorem div_sub (n : Nat) (xs q : List PV) (lv : List Nat) (hv : ∀ d ∈ lv, d < 1000000000) (g i : Nat) (hg : g < 1000000000) (hi : i < 2 ^ 40) (hlv : lv.length < 2 ^ 40) :
    ∀ (d m j : Nat) (o : List Nat) (c s : Nat), d + j = lv.length → d < m → i + lv.length ≤ o.length → o.length < 2 ^ 41 → (∀ x ∈ o, x < 1000000000) → c < 1000000000 → s ≤ 1 →
      ∃ (o' : List Nat) (c' s' : Nat), (∀ k0 : List PV → List PV → List PV → Int → List PV → Int → Int → Int → Int → Option R, p80_l22L n m xs (nl .u32 o) (nl .u32 lv) lv.length q i g c s lv.length j k0 = k0 xs (nl .u32 o') (nl .u32 lv) lv.length q i g c' s') ∧
        o'.length = o.length ∧ (∀ x ∈ o', x < 1000000000) ∧ c' < 1000000000 ∧ s' ≤ 1 ∧ o'.drop (i + lv.length) = o.drop (i + lv.length) ∧
        val 1000000000 o' + 1000000000 ^ (i + j) * (c + s) + g * (1000000000 ^ (i + j) * val 1000000000 (lv.drop j)) = val 1000000000 o + 1000000000 ^ (i + lv.length) * (c' + s')
  | 0, m + 1, j, o, c, s, hd, hm, ho, ho2, hlt, hc, hs => by
    have hk : j = lv.length := by omega
    subst hk
    refine ⟨o, c, s, fun k0 => ?_, rfl, hlt, hc, hs, rfl, ?_⟩
    · simp only [p80_l22L, p80_l22B]
      simp (disch := (first | omega | (simp only [List.length_append, List.length_cons, List.length_nil, List.length_replicate, List.length_take, List.length_drop]; omega))) only [↓c_pos, ↓c_neg, dec_t, dec_f, Bool.and_true, Bool.true_and, Bool.and_false, Bool.false_and, Bool.not_true, Bool.not_false, cond_true, cond_false, inR_t, cutR_t, roomB_t, lenOK_t, w64, bs_size, List.length_append, List.length_cons, List.length_nil, bs_extract, bs_append, bs_push, bs_data, bs_empty, bs_lit, catS_bs, eqS_bs, ite_pos', ite_neg', decide_true, decide_false, if_true, if_false, toNatC, getI_nl, nl_len, nl_set, nl_set0, nl_take, nl_drop, nl_rep, nl_app, hdSz_nl, drop0, wu32, wu64, wu8, List.length_set, List.length_replicate]
    · rw [List.drop_length]; simp [val]
  | d + 1, m + 1, j, o, c, s, hd, hm, ho, ho2, hlt, hc, hs => by
    have hx := getD_lt hB2 hv j
    have hz := getD_lt hB2 hlt (i + j)
    have hxy : g * lv.getD j 0 ≤ 999999999 * 999999999 := Nat.mul_le_mul (by omega) (by omega)
    obtain ⟨t, ht⟩ : ∃ t, t = c + g * lv.getD j 0 := ⟨_, rfl⟩
    have ht2 : t / 1000000000 < 1000000000 := by omega
    have htm : t % 1000000000 < 1000000000 := Nat.mod_lt _ (by omega)
    obtain ⟨b, hb⟩ : ∃ b : Nat, b = if o.getD (i + j) 0 < t % 1000000000 + s then 1 else 0 := ⟨_, rfl⟩
    obtain ⟨r, hr⟩ : ∃ r : Nat, r + (t % 1000000000 + s) = o.getD (i + j) 0 + 1000000000 * b := ⟨o.getD (i + j) 0 + 1000000000 * b - (t % 1000000000 + s), by split at hb <;> omega⟩
    have hr2 : r < 1000000000 := by split at hb <;> omega
    have hb1 : b ≤ 1 := by split at hb <;> omega
    obtain ⟨o', c', s', h1, h2, h3, h4, h5, h6, h7⟩ := div_sub n xs q lv hv g i hg hi hlv d m (j + 1) (o.set (i + j) r) (t / 1000000000) b (by omega) (by omega) (by rw [List.length_set]; exact ho) (by rw [List.length_set]; exact ho2) (set_lt hlt hr2 _) ht2 hb1
    refine ⟨o', c', s', fun k0 => ?_, by rw [h2, List.length_set], h3, h4, h5, by rw [h6, List.drop_set_of_lt (by omega)], ?_⟩
    · rw [← h1 k0]
      have e1 : (i : Int) + (j : Int) = ((i + j : Nat) : Int) := by omega
      have e2 : (j : Int) + 1 = ((j + 1 : Nat) : Int) := by omega
      have e4 : (g : Int) * ((lv.getD j 0 : Nat) : Int) = ((g * lv.getD j 0 : Nat) : Int) := by rw [Int.natCast_mul]
      generalize g * lv.getD j 0 = xy at *
      have e3 : (c : Int) + (xy : Int) = (t : Int) := by omega
      have e5 : ((o.getD (i + j) 0 : Nat) : Int) - ((t % 1000000000 : Nat) : Int) - (s : Int) = (r : Int) - 1000000000 * (b : Int) := by omega
      generalize hzz : o.getD (i + j) 0 = z at *
      have hm1 : t < 2 ^ 62 := by omega
      generalize hq : t / 1000000000 = tq at *
      generalize hq2 : t % 1000000000 = tr at *
      simp only [p80_l22L, p80_l22B, p80_c31]
      by_cases hbb : z < tr + s
      · rw [if_pos hbb] at hb
        subst hb
        have e6 : (r : Int) - 1000000000 * ((1 : Nat) : Int) + 1000000000 = (r : Int) := by omega
        simp (disch := (first | omega | (simp only [List.length_append, List.length_cons, List.length_nil, List.length_replicate, List.length_take, List.length_drop]; omega))) only [↓c_pos, ↓c_neg, dec_t, dec_f, Bool.and_true, Bool.true_and, Bool.and_false, Bool.false_and, Bool.not_true, Bool.not_false, cond_true, cond_false, inR_t, cutR_t, roomB_t, lenOK_t, w64, bs_size, List.length_append, List.length_cons, List.length_nil, bs_extract, bs_append, bs_push, bs_data, bs_empty, bs_lit, catS_bs, eqS_bs, ite_pos', ite_neg', decide_true, decide_false, if_true, if_false, toNatC, getI_nl, nl_len, nl_set, nl_set0, nl_take, nl_drop, nl_rep, nl_app, hdSz_nl, drop0, wu32, wu64, wu8, List.length_set, List.length_replicate, e1, e2, e4, e3, tdivB, tmodB, hq, hq2, hzz, e5, e6]
        rfl
      · rw [if_neg hbb] at hb
        subst hb
        have e6 : (r : Int) - 1000000000 * ((0 : Nat) : Int) = (r : Int) := by omega
        simp (disch := (first | omega | (simp only [List.length_append, List.length_cons, List.length_nil, List.length_replicate, List.length_take, List.length_drop]; omega))) only [↓c_pos, ↓c_neg, dec_t, dec_f, Bool.and_true, Bool.true_and, Bool.and_false, Bool.false_and, Bool.not_true, Bool.not_false, cond_true, cond_false, inR_t, cutR_t, roomB_t, lenOK_t, w64, bs_size, List.length_append, List.length_cons, List.length_nil, bs_extract, bs_append, bs_push, bs_data, bs_empty, bs_lit, catS_bs, eqS_bs, ite_pos', ite_neg', decide_true, decide_false, if_true, if_false, toNatC, getI_nl, nl_len, nl_set, nl_set0, nl_take, nl_drop, nl_rep, nl_app, hdSz_nl, drop0, wu32, wu64, wu8, List.length_set, List.length_replicate, e1, e2, e4, e3, tdivB, tmodB, hq, hq2, hzz, e5, e6]
        rfl
    · rw [drop_val_succ (by omega : j < lv.length)]
      have hvs := val_set 1000000000 r (l := o) (i := i + j) (by omega)
      have hmd := Nat.mod_add_div t 1000000000
      rw [show i + (j + 1) = (i + j) + 1 from by omega, Nat.pow_succ] at h7
      generalize 1000000000 ^ (i + j) = P at *
      generalize val 1000000000 (List.drop (j + 1) lv) = V at *
      generalize val 1000000000 (o.set (i + j) r) = W at *
      generalize val 1000000000 o = U at *
      generalize 1000000000 ^ (i + lv.length) = Q at *
      generalize t % 1000000000 = tr at *
      generalize t / 1000000000 = tq at *
      generalize lv.getD j 0 = y at *
      generalize o.getD (i + j) 0 = z at *
      clear h1 h3 h4 h5 hlt hv hb
      have h8 : P * r + P * (tr + s) = P * z + P * (1000000000 * b) := by rw [← Nat.mul_add, ← Nat.mul_add, hr]
      have h9 : P * tr + P * (1000000000 * tq) = P * c + P * (g * y) := by rw [← Nat.mul_add, ← Nat.mul_add, hmd, ht]
      grind
theorem div_back (n : Nat) (xs q : List PV) (lv : List Nat) (hv : ∀ d ∈ lv, d < 1000000000) (g i : Nat) (y : Int) (hi : i < 2 ^ 40) (hlv : lv.length < 2 ^ 40) :
    ∀ (d m j : Nat) (o : List Nat) (c : Nat), d + j = lv.length → d < m → i + lv.length ≤ o.length → o.length < 2 ^ 41 → (∀ x ∈ o, x < 1000000000) → c ≤ 1 →
      ∃ (o' : List Nat) (c' : Nat), (∀ k0 : List PV → List PV → List PV → Int → List PV → Int → Int → Int → Int → Option R, p80_l38L n m xs (nl .u32 o) (nl .u32 lv) lv.length q i g y c lv.length j k0 = k0 xs (nl .u32 o') (nl .u32 lv) lv.length q i g y c') ∧
        o'.length = o.length ∧ (∀ x ∈ o', x < 1000000000) ∧ c' ≤ 1 ∧ o'.drop (i + lv.length) = o.drop (i + lv.length) ∧
        val 1000000000 o' + 1000000000 ^ (i + lv.length) * c' = val 1000000000 o + 1000000000 ^ (i + j) * c + 1000000000 ^ (i + j) * val 1000000000 (lv.drop j)
  | 0, m + 1, j, o, c, hd, hm, ho, ho2, hlt, hc => by
    have hk : j = lv.length := by omega
    subst hk
    refine ⟨o, c, fun k0 => ?_, rfl, hlt, hc, rfl, ?_⟩
    · simp only [p80_l38L, p80_l38B]
      simp (disch := (first | omega | (simp only [List.length_append, List.length_cons, List.length_nil, List.length_replicate, List.length_take, List.length_drop]; omega))) only [↓c_pos, ↓c_neg, dec_t, dec_f, Bool.and_true, Bool.true_and, Bool.and_false, Bool.false_and, Bool.not_true, Bool.not_false, cond_true, cond_false, inR_t, cutR_t, roomB_t, lenOK_t, w64, bs_size, List.length_append, List.length_cons, List.length_nil, bs_extract, bs_append, bs_push, bs_data, bs_empty, bs_lit, catS_bs, eqS_bs, ite_pos', ite_neg', decide_true, decide_false, if_true, if_false, toNatC, getI_nl, nl_len, nl_set, nl_set0, nl_take, nl_drop, nl_rep, nl_app, hdSz_nl, drop0, wu32, wu64, wu8, List.length_set, List.length_replicate]
    · rw [List.drop_length]; simp [val]
  | d + 1, m + 1, j, o, c, hd, hm, ho, ho2, hlt, hc => by
    have hx := getD_lt hB2 hv j
    have hz := getD_lt hB2 hlt (i + j)
    obtain ⟨t, ht⟩ : ∃ t, t = c + (o.getD (i + j) 0 + lv.getD j 0) := ⟨_, rfl⟩
    have ht2 : t / 1000000000 ≤ 1 := by omega
    have htm : t % 1000000000 < 1000000000 := Nat.mod_lt _ (by omega)
    obtain ⟨o', c', h1, h2, h3, h4, h5, h6⟩ := div_back n xs q lv hv g i y hi hlv d m (j + 1) (o.set (i + j) (t % 1000000000)) (t / 1000000000) (by omega) (by omega) (by rw [List.length_set]; exact ho) (by rw [List.length_set]; exact ho2) (set_lt hlt htm _) ht2
    refine ⟨o', c', fun k0 => ?_, by rw [h2, List.length_set], h3, h4, by rw [h5, List.drop_set_of_lt (by omega)], ?_⟩
    · rw [← h1 k0]
      have e1 : (i : Int) + (j : Int) = ((i + j : Nat) : Int) := by omega
      have e2 : (j : Int) + 1 = ((j + 1 : Nat) : Int) := by omega
      have e3 : (c : Int) + (((o.getD (i + j) 0 : Nat) : Int) + ((lv.getD j 0 : Nat) : Int)) = (t : Int) := by omega
      simp only [p80_l38L, p80_l38B]
      simp (disch := (first | omega | (simp only [List.length_append, List.length_cons, List.length_nil, List.length_replicate, List.length_take, List.length_drop]; omega))) only [↓c_pos, ↓c_neg, dec_t, dec_f, Bool.and_true, Bool.true_and, Bool.and_false, Bool.false_and, Bool.not_true, Bool.not_false, cond_true, cond_false, inR_t, cutR_t, roomB_t, lenOK_t, w64, bs_size, List.length_append, List.length_cons, List.length_nil, bs_extract, bs_append, bs_push, bs_data, bs_empty, bs_lit, catS_bs, eqS_bs, ite_pos', ite_neg', decide_true, decide_false, if_true, if_false, toNatC, getI_nl, nl_len, nl_set, nl_set0, nl_take, nl_drop, nl_rep, nl_app, hdSz_nl, drop0, wu32, wu64, wu8, List.length_set, List.length_replicate, e1, e2, e3, tdivB, tmodB]
    · rw [h6, drop_val_succ (by omega : j < lv.length)]
      have hvs := val_set 1000000000 (t % 1000000000) (l := o) (i := i + j) (by omega)
      have hmd := Nat.mod_add_div t 1000000000
      rw [show i + (j + 1) = (i + j) + 1 from by omega, Nat.pow_succ]
      generalize 1000000000 ^ (i + j) = P at *
      generalize val 1000000000 (List.drop (j + 1) lv) = V at *
      generalize val 1000000000 (o.set (i + j) (t % 1000000000)) = W at *
      generalize val 1000000000 o = U at *
      generalize 1000000000 ^ (i + lv.length) = Q at *
      generalize t % 1000000000 = tr at *
      generalize t / 1000000000 = tq at *
      generalize lv.getD j 0 = y at *
      generalize o.getD (i + j) 0 = z at *
      clear h1 h3 h4 h5 hlt hv
      have h9 : P * tr + P * (1000000000 * tq) = P * c + (P * z + P * y) := by rw [← Nat.mul_add, ← Nat.mul_add, ← Nat.mul_add, hmd, ht]
      grind
theorem div_guess (n : Nat) (xs q : List PV) (lu lv : List Nat) (hu : ∀ d ∈ lu, d < 1000000000) (hv : ∀ d ∈ lv, d < 1000000000) (i : Nat) (hi : i < 2 ^ 40) (hlv : lv.length < 2 ^ 40) (h2 : 2 ≤ lv.length) (hul : i + lv.length < lu.length) (hul2 : lu.length < 2 ^ 41)
    (v1 v2 u3 U2 : Nat) (hv1 : lv.getD (lv.length - 1) 0 = v1) (hv2 : lv.getD (lv.length - 2) 0 = v2) (hu3 : lu.getD (i + lv.length - 2) 0 = u3) (hU2 : U2 < v1 * 1000000000 + 1000000000) :
    ∀ (m g r : Nat), g < 2 ^ 31 → r < 1000000000 → 1000000000 ≤ r + m * v1 → g * v1 + r = U2 → (∀ x, x < 1000000000 → x * (v1 * 1000000000 + v2) ≤ U2 * 1000000000 + u3 → x ≤ g) →
      ∃ g' : Nat, (∀ k0 : List PV → List PV → List PV → Int → List PV → Int → Int → Option R, p80_l16L n m xs (nl .u32 lu) (nl .u32 lv) lv.length q i g r k0 = k0 xs (nl .u32 lu) (nl .u32 lv) lv.length q i g') ∧
        g' < 1000000000 ∧ g' * (v1 * 1000000000 + v2) ≤ U2 * 1000000000 + u3 ∧ (∀ x, x < 1000000000 → x * (v1 * 1000000000 + v2) ≤ U2 * 1000000000 + u3 → x ≤ g')
  | 0, g, r, hg, hr, hm, hinv, hmax => by omega
  | m + 1, g, r, hg, hr, hm, hinv, hmax => by
    have hb1 : v1 < 1000000000 := by rw [← hv1]; exact getD_lt hB2 hv _
    have hb2 : v2 < 1000000000 := by rw [← hv2]; exact getD_lt hB2 hv _
    have hb3 : u3 < 1000000000 := by rw [← hu3]; exact getD_lt hB2 hu _
    have e1 : (lv.length : Int) - 1 = ((lv.length - 1 : Nat) : Int) := by omega
    have e2 : (lv.length : Int) - 2 = ((lv.length - 2 : Nat) : Int) := by omega
    have e3 : (i : Int) + (lv.length : Int) = ((i + lv.length : Nat) : Int) := by omega
    have e4 : ((i + lv.length : Nat) : Int) - 2 = ((i + lv.length - 2 : Nat) : Int) := by omega
    have e5 : (g : Int) * (v2 : Int) = ((g * v2 : Nat) : Int) := by rw [Int.natCast_mul]
    have e6 : (r : Int) * 1000000000 = ((r * 1000000000 : Nat) : Int) := by omega
    have e7 : ((r * 1000000000 : Nat) : Int) + (u3 : Int) = ((r * 1000000000 + u3 : Nat) : Int) := by omega
    have e8 : (r : Int) + (v1 : Int) = ((r + v1 : Nat) : Int) := by omega
    have hgv : g * v2 ≤ 2 ^ 31 * 1000000000 := Nat.mul_le_mul (by omega) (by omega)
    have hkey : g * (v1 * 1000000000 + v2) + r * 1000000000 = U2 * 1000000000 + g * v2 := by rw [← hinv]; grind
    by_cases hc : 1000000000 ≤ g ∨ r * 1000000000 + u3 < g * v2
    · have hg1 : 1 ≤ g := by
        rcases Nat.eq_zero_or_pos g with h0 | h0
        · subst h0; simp at hc
        · exact h0
      obtain ⟨p, rfl⟩ : ∃ p, g = p + 1 := ⟨g - 1, by omega⟩
      have e9 : ((p + 1 : Nat) : Int) - 1 = (p : Int) := by omega
      have hinv' : p * v1 + (r + v1) = U2 := by rw [← hinv, Nat.succ_mul]; omega
      have hkey' : p * (v1 * 1000000000 + v2) + (r + v1) * 1000000000 = U2 * 1000000000 + p * v2 := by rw [← hinv']; grind
      have hmax' : ∀ x, x < 1000000000 → x * (v1 * 1000000000 + v2) ≤ U2 * 1000000000 + u3 → x ≤ p := by
        intro x hx hxu
        have := hmax x hx hxu
        by_cases hxp : x = p + 1
        · subst hxp; exfalso; omega
        · omega
      by_cases hr2 : 1000000000 ≤ r + v1
      · have hpb : p < 1000000000 := by
          apply Nat.lt_of_not_le
          intro hp
          have : 1000000000 * v1 ≤ p * v1 := Nat.mul_le_mul_right _ hp
          omega
        have hpv : p * v2 ≤ 1000000000 * 1000000000 := Nat.mul_le_mul (by omega) (by omega)
        refine ⟨p, fun k0 => ?_, hpb, by omega, hmax'⟩
        simp only [p80_l16L, p80_l16B, p80_c17]
        by_cases h1 : 1000000000 ≤ p + 1
        · simp (disch := (first | omega | (simp only [List.length_append, List.length_cons, List.length_nil, List.length_replicate, List.length_take, List.length_drop]; omega))) only [↓c_pos, ↓c_neg, dec_t, dec_f, Bool.and_true, Bool.true_and, Bool.and_false, Bool.false_and, Bool.not_true, Bool.not_false, cond_true, cond_false, inR_t, cutR_t, roomB_t, lenOK_t, w64, bs_size, List.length_append, List.length_cons, List.length_nil, bs_extract, bs_append, bs_push, bs_data, bs_empty, bs_lit, catS_bs, eqS_bs, ite_pos', ite_neg', decide_true, decide_false, if_true, if_false, toNatC, getI_nl, nl_len, nl_set, nl_set0, nl_take, nl_drop, nl_rep, nl_app, hdSz_nl, drop0, wu32, wu64, wu8, List.length_set, List.length_replicate, e1, e2, e3, e4, hv1, hv2, hu3, e5, e6, e7, e8, e9]
        · simp (disch := (first | omega | (simp only [List.length_append, List.length_cons, List.length_nil, List.length_replicate, List.length_take, List.length_drop]; omega))) only [↓c_pos, ↓c_neg, dec_t, dec_f, Bool.and_true, Bool.true_and, Bool.and_false, Bool.false_and, Bool.not_true, Bool.not_false, cond_true, cond_false, inR_t, cutR_t, roomB_t, lenOK_t, w64, bs_size, List.length_append, List.length_cons, List.length_nil, bs_extract, bs_append, bs_push, bs_data, bs_empty, bs_lit, catS_bs, eqS_bs, ite_pos', ite_neg', decide_true, decide_false, if_true, if_false, toNatC, getI_nl, nl_len, nl_set, nl_set0, nl_take, nl_drop, nl_rep, nl_app, hdSz_nl, drop0, wu32, wu64, wu8, List.length_set, List.length_replicate, e1, e2, e3, e4, hv1, hv2, hu3, e5, e6, e7, e8, e9]
      · obtain ⟨g', h1, h3, h4, h5⟩ := div_guess n xs q lu lv hu hv i hi hlv h2 hul hul2 v1 v2 u3 U2 hv1 hv2 hu3 hU2 m p (r + v1) (by omega) (by omega) (by rw [Nat.succ_mul] at hm; omega) hinv' hmax'
        refine ⟨g', fun k0 => ?_, h3, h4, h5⟩
        rw [← h1 k0]
        simp only [p80_l16L, p80_l16B, p80_c17]
        by_cases h1 : 1000000000 ≤ p + 1
        · simp (disch := (first | omega | (simp only [List.length_append, List.length_cons, List.length_nil, List.length_replicate, List.length_take, List.length_drop]; omega))) only [↓c_pos, ↓c_neg, dec_t, dec_f, Bool.and_true, Bool.true_and, Bool.and_false, Bool.false_and, Bool.not_true, Bool.not_false, cond_true, cond_false, inR_t, cutR_t, roomB_t, lenOK_t, w64, bs_size, List.length_append, List.length_cons, List.length_nil, bs_extract, bs_append, bs_push, bs_data, bs_empty, bs_lit, catS_bs, eqS_bs, ite_pos', ite_neg', decide_true, decide_false, if_true, if_false, toNatC, getI_nl, nl_len, nl_set, nl_set0, nl_take, nl_drop, nl_rep, nl_app, hdSz_nl, drop0, wu32, wu64, wu8, List.length_set, List.length_replicate, e1, e2, e3, e4, hv1, hv2, hu3, e5, e6, e7, e8, e9]
        · simp (disch := (first | omega | (simp only [List.length_append, List.length_cons, List.length_nil, List.length_replicate, List.length_take, List.length_drop]; omega))) only [↓c_pos, ↓c_neg, dec_t, dec_f, Bool.and_true, Bool.true_and, Bool.and_false, Bool.false_and, Bool.not_true, Bool.not_false, cond_true, cond_false, inR_t, cutR_t, roomB_t, lenOK_t, w64, bs_size, List.length_append, List.length_cons, List.length_nil, bs_extract, bs_append, bs_push, bs_data, bs_empty, bs_lit, catS_bs, eqS_bs, ite_pos', ite_neg', decide_true, decide_false, if_true, if_false, toNatC, getI_nl, nl_len, nl_set, nl_set0, nl_take, nl_drop, nl_rep, nl_app, hdSz_nl, drop0, wu32, wu64, wu8, List.length_set, List.length_replicate, e1, e2, e3, e4, hv1, hv2, hu3, e5, e6, e7, e8, e9]
    · have hc1 : g < 1000000000 := by omega
      have hc2 : g * v2 ≤ r * 1000000000 + u3 := by omega
      refine ⟨g, fun k0 => ?_, hc1, by omega, hmax⟩
      simp only [p80_l16L, p80_l16B]
      simp (disch := (first | omega | (simp only [List.length_append, List.length_cons, List.length_nil, List.length_replicate, List.length_take, List.length_drop]; omega))) only [↓c_pos, ↓c_neg, dec_t, dec_f, Bool.and_true, Bool.true_and, Bool.and_false, Bool.false_and, Bool.not_true, Bool.not_false, cond_true, cond_false, inR_t, cutR_t, roomB_t, lenOK_t, w64, bs_size, List.length_append, List.length_cons, List.length_nil, bs_extract, bs_append, bs_push, bs_data, bs_empty, bs_lit, catS_bs, eqS_bs, ite_pos', ite_neg', decide_true, decide_false, if_true, if_false, toNatC, getI_nl, nl_len, nl_set, nl_set0, nl_take, nl_drop, nl_rep, nl_app, hdSz_nl, drop0, wu32, wu64, wu8, List.length_set, List.length_replicate, e1, e2, e3, e4, hv1, hv2, hu3, e5, e6, e7, e8]
end Go.Proofs.YtfbahcfojiaeaaaGreatDoor


set_option linter.unusedVariables false
namespace Go.Proofs.YtfbahcfojiaeaaaGreatDoor
theorem knuth {B D U P Vl Wl V W g : Nat} (hV : V = D * P + Vl) (hW : W = U * P + Wl) (hVl : Vl < P) (hWl : Wl < P) (hD : B ≤ D) (hg : g < B) (hgU : g * D ≤ U)
    (hmax : ∀ x, x < B → x * D ≤ U → x ≤ g) (hWV : W < B * V) : W / V ≤ g ∧ g * V < W + V := by
  have hP : 0 < P := by omega
  have hD0 : 0 < D := by omega
  have hDP : 0 < D * P := Nat.mul_pos hD0 hP
  have hV0 : 0 < V := by omega
  constructor
  · apply hmax
    · exact Nat.div_lt_of_lt_mul (by rw [Nat.mul_comm]; exact hWV)
    · have h1 : W / V * V ≤ W := Nat.div_mul_le_self W V
      generalize W / V = Q at *
      apply Nat.le_of_not_lt
      intro h
      have h2 : (U + 1) * P ≤ Q * D * P := Nat.mul_le_mul_right _ h
      rw [hV, Nat.mul_add, ← Nat.mul_assoc] at h1
      rw [Nat.succ_mul] at h2
      have h3 : 0 ≤ Q * Vl := Nat.zero_le _
      omega
  · have h1 : g * D * P ≤ U * P := Nat.mul_le_mul_right _ hgU
    have h2 : g * Vl ≤ B * P := Nat.mul_le_mul (by omega) (by omega)
    have h3 : B * P ≤ D * P := Nat.mul_le_mul_right _ hD
    have h4 : g * Vl < B * P ∨ g * Vl = 0 := by
      rcases Nat.eq_zero_or_pos Vl with h0 | h0
      · right; rw [h0, Nat.mul_zero]
      · left; exact Nat.mul_lt_mul_of_lt_of_lt hg hVl
    rw [hV, Nat.mul_add, ← Nat.mul_assoc, hW]
    rcases h4 with h4 | h4 <;> omega
theorem val_drop_step (b : Nat) (l : List Nat) (i : Nat) : val b (l.drop i) = l.getD i 0 + b * val b (l.drop (i + 1)) := by
  by_cases h : i < l.length
  · rw [List.drop_eq_getElem_cons h, val, List.getD_eq_getElem?_getD, List.getElem?_eq_getElem h]; rfl
  · rw [List.drop_eq_nil_of_le (by omega), List.drop_eq_nil_of_le (by omega), getD_out (by omega)]; simp [val]
theorem val_drop_zero {b : Nat} (hb : 2 ≤ b) (l : List Nat) (k : Nat) (h : val b l < b ^ k) : val b (l.drop k) = 0 := by
  by_cases hk : k ≤ l.length
  · have h1 := val_drop b l k hk
    rcases Nat.eq_zero_or_pos (val b (l.drop k)) with h0 | h0
    · exact h0
    · have : b ^ k * 1 ≤ b ^ k * val b (l.drop k) := Nat.mul_le_mul_left _ h0
      omega
  · rw [List.drop_eq_nil_of_le (by omega)]; rfl
theorem leading {B : Nat} (hB : 2 ≤ B) (o lv : List Nat) (ho : ∀ d ∈ o, d < B) (hv : ∀ d ∈ lv, d < B) (i : Nat) (h2 : 2 ≤ lv.length) (hi : i + lv.length < o.length) (hW : val B (o.drop i) < B * val B lv) :
    ∃ Vl Wl, val B lv = (lv.getD (lv.length - 1) 0 * B + lv.getD (lv.length - 2) 0) * B ^ (lv.length - 2) + Vl ∧ Vl < B ^ (lv.length - 2) ∧
      val B (o.drop i) = ((o.getD (i + lv.length) 0 * B + o.getD (i + lv.length - 1) 0) * B + o.getD (i + lv.length - 2) 0) * B ^ (lv.length - 2) + Wl ∧ Wl < B ^ (lv.length - 2) ∧
      o.getD (i + lv.length) 0 * B + o.getD (i + lv.length - 1) 0 < lv.getD (lv.length - 1) 0 * B + B := by
  have hVlt := val_lt hB lv hv
  have hWlt : val B (o.drop i) < B ^ (lv.length + 1) := by
    rw [Nat.pow_succ, Nat.mul_comm _ B]
    exact Nat.lt_of_lt_of_le hW (Nat.mul_le_mul_left _ (Nat.le_of_lt hVlt))
  have hz := val_drop_zero hB _ _ hWlt
  rw [List.drop_drop] at hz
  have hoi : ∀ d ∈ o.drop i, d < B := fun d hd => ho d (List.mem_of_mem_drop hd)
  have a1 := val_drop B lv (lv.length - 2) (by omega)
  have a2 := val_drop_step B lv (lv.length - 2)
  have a3 := val_drop_step B lv (lv.length - 1)
  rw [show lv.length - 2 + 1 = lv.length - 1 from by omega] at a2
  rw [show lv.length - 1 + 1 = lv.length from by omega, List.drop_length, show val B [] = 0 from rfl, Nat.mul_zero, Nat.add_zero] at a3
  rw [a3] at a2; rw [a2] at a1
  have b1 := val_drop B (o.drop i) (lv.length - 2) (by rw [List.length_drop]; omega)
  rw [List.drop_drop] at b1
  have b2 := val_drop_step B o (i + (lv.length - 2))
  have b3 := val_drop_step B o (i + lv.length - 1)
  have b4 := val_drop_step B o (i + lv.length)
  rw [show i + (lv.length - 2) + 1 = i + lv.length - 1 from by omega] at b2
  rw [show i + lv.length - 1 + 1 = i + lv.length from by omega] at b3
  rw [show i + lv.length + 1 = i + (lv.length + 1) from by omega, hz, Nat.mul_zero, Nat.add_zero] at b4
  rw [show i + (lv.length - 2) = i + lv.length - 2 from by omega] at b2 b1
  rw [b4] at b3; rw [b3] at b2; rw [b2] at b1
  have c1 := val_take_lt hB hv (i := lv.length - 2) (by omega)
  have c2 := val_take_lt hB hoi (i := lv.length - 2) (by rw [List.length_drop]; omega)
  have hP : 0 < B ^ (lv.length - 2) := Nat.pow_pos (by omega)
  have hv2 : lv.getD (lv.length - 2) 0 < B := getD_lt hB hv _
  generalize B ^ (lv.length - 2) = P at *
  generalize val B (List.take (lv.length - 2) lv) = Vl at *
  generalize val B (List.take (lv.length - 2) (o.drop i)) = Wl at *
  generalize val B lv = V at *
  generalize val B (o.drop i) = W at *
  generalize lv.getD (lv.length - 1) 0 = v1 at *
  generalize lv.getD (lv.length - 2) 0 = v2 at *
  generalize o.getD (i + lv.length) 0 = z at *
  generalize o.getD (i + lv.length - 1) 0 = z1 at *
  generalize o.getD (i + lv.length - 2) 0 = z2 at *
  clear a2 a3 b2 b3 b4 hz hVlt hWlt
  refine ⟨Vl, Wl, by rw [a1]; grind, c1, by rw [b1]; grind, c2, ?_⟩
  apply Nat.lt_of_not_le
  intro h
  have d1 : (v1 * B + B) * (B * P) ≤ (z * B + z1) * (B * P) := Nat.mul_le_mul_right _ h
  have d2 : V < (v1 + 1) * (B * P) := by
    have : v2 * P + P ≤ B * P := by rw [← Nat.succ_mul]; exact Nat.mul_le_mul_right _ hv2
    rw [a1]; grind
  have d3 : B * V < B * ((v1 + 1) * (B * P)) := Nat.mul_lt_mul_of_pos_left d2 (by omega)
  grind
theorem borrow {Bi P V W g t1 z cs vo vo1 lo : Nat} (r2 : vo1 = t1 + P * z) (r3 : vo = lo + Bi * W) (r4 : lo < Bi) (r5 : t1 < P) (q7 : vo1 + g * (Bi * V) = vo + P * cs) :
    (cs ≤ z → g * V ≤ W) ∧ (z < cs → W < g * V) := by
  have e : g * (Bi * V) = Bi * (g * V) := by grind
  rw [e] at q7
  constructor
  · intro h
    have h1 : P * cs ≤ P * z := Nat.mul_le_mul_left _ h
    have h2 : Bi * (g * V) < Bi * (W + 1) := by rw [Nat.mul_succ]; omega
    exact Nat.le_of_lt_succ (Nat.lt_of_mul_lt_mul_left h2)
  · intro h
    have h1 : P * (z + 1) ≤ P * cs := Nat.mul_le_mul_left _ h
    rw [Nat.mul_succ] at h1
    have h2 : Bi * W < Bi * (g * V) := by omega
    exact Nat.lt_of_mul_lt_mul_left h2
end Go.Proofs.YtfbahcfojiaeaaaGreatDoor


set_option linter.unusedVariables false
set_option linter.unusedSimpArgs false
namespace Go.Proofs.YtfbahcfojiaeaaaGreatDoor
open Go Th Go.Proofs
variable {R : Type}
theorem back {B Bi BL P V W p r t2 z cs c2 vo vo1 vo2 lo : Nat} (hBi : 0 < Bi) (hP : P = Bi * BL) (r7 : vo2 = t2 + P * z) (r8 : t2 < P) (r3 : vo = lo + Bi * W) (r4 : lo < Bi) (hm1 : W = p * V + r) (hm2 : r < BL)
    (q7 : vo1 + (p + 1) * (Bi * V) = vo + P * cs) (d6 : vo2 + P * c2 = vo1 + Bi * V) : z + c2 = cs ∧ t2 + Bi * (p * V) = vo := by
  have e1 : (p + 1) * (Bi * V) = Bi * (p * V) + Bi * V := by grind
  rw [e1] at q7
  have e2 : Bi * W = Bi * (p * V) + Bi * r := by rw [hm1, Nat.mul_add]
  have e3 : Bi * r + Bi ≤ P := by rw [hP, ← Nat.mul_succ]; exact Nat.mul_le_mul_left _ hm2
  have e4 : t2 + P * z + P * c2 = lo + Bi * r + P * cs := by omega
  rw [Nat.add_assoc, ← Nat.mul_add] at e4
  have h0 : 0 < P := by omega
  have h1 : z + c2 = cs := by
    have a1 : (t2 + P * (z + c2)) / P = z + c2 := by rw [Nat.add_mul_div_left _ _ h0, Nat.div_eq_of_lt r8, Nat.zero_add]
    have a2 : (lo + Bi * r + P * cs) / P = cs := by rw [Nat.add_mul_div_left _ _ h0, Nat.div_eq_of_lt (by omega), Nat.zero_add]
    rw [← a1, e4, a2]
  refine ⟨h1, ?_⟩
  rw [h1] at e4
  omega
set_option maxHeartbeats 4000000 in
set_option maxHeartbeats 4000000 in
theorem div_step (n m : Nat) (xs : List PV) (o lv lq : List Nat) (ho : ∀ d ∈ o, d < 1000000000) (hv : ∀ d ∈ lv, d < 1000000000) (hq : ∀ d ∈ lq, d < 1000000000) (i : Nat) (h2 : 2 ≤ lv.length) (hil : i + lv.length < o.length) (hiq : i < lq.length) (hol : o.length < 2 ^ 40)
    (hn : lv.length + 2 < n) (hv1 : 500000000 ≤ lv.getD (lv.length - 1) 0) (hW : val 1000000000 (o.drop i) < 1000000000 * val 1000000000 lv) :
    ∃ o' : List Nat, (∀ k0 : List PV → List PV → List PV → Option R, p80_l12L n (m + 1) xs (nl .u32 o) (nl .u32 lv) lv.length (nl .u32 lq) i k0 = p80_l12L n m xs (nl .u32 o') (nl .u32 lv) lv.length (nl .u32 (lq.set i (val 1000000000 (o.drop i) / val 1000000000 lv))) ((i : Int) - 1) k0) ∧
      o'.length = o.length ∧ (∀ d ∈ o', d < 1000000000) ∧ val 1000000000 o' + 1000000000 ^ i * (val 1000000000 (o.drop i) / val 1000000000 lv * val 1000000000 lv) = val 1000000000 o := by
  obtain ⟨Vl, Wl, f1, f2, f3, f4, f5⟩ := leading hB2 o lv ho hv i h2 hil hW
  have hb1 := getD_lt hB2 hv (lv.length - 1)
  have hb2 := getD_lt hB2 hv (lv.length - 2)
  have hbz := getD_lt hB2 ho (i + lv.length)
  have hbz1 := getD_lt hB2 ho (i + lv.length - 1)
  have hbz2 := getD_lt hB2 ho (i + lv.length - 2)
  obtain ⟨U2, hU2⟩ : ∃ U2, U2 = o.getD (i + lv.length) 0 * 1000000000 + o.getD (i + lv.length - 1) 0 := ⟨_, rfl⟩
  rw [← hU2] at f3 f5
  obtain ⟨v1, hv1e⟩ : ∃ v1, lv.getD (lv.length - 1) 0 = v1 := ⟨_, rfl⟩
  obtain ⟨v2, hv2e⟩ : ∃ v2, lv.getD (lv.length - 2) 0 = v2 := ⟨_, rfl⟩
  obtain ⟨u3, hu3e⟩ : ∃ u3, o.getD (i + lv.length - 2) 0 = u3 := ⟨_, rfl⟩
  obtain ⟨z, hze⟩ : ∃ z, o.getD (i + lv.length) 0 = z := ⟨_, rfl⟩
  obtain ⟨z1, hz1e⟩ : ∃ z1, o.getD (i + lv.length - 1) 0 = z1 := ⟨_, rfl⟩
  rw [hv1e, hv2e] at f1
  rw [hu3e] at f3
  rw [hv1e] at f5 hb1 hv1
  rw [hv2e] at hb2; rw [hze] at hbz hU2; rw [hz1e] at hbz1 hU2; rw [hu3e] at hbz2
  have hdm := Nat.div_add_mod' U2 v1
  have hmod : U2 % v1 < v1 := Nat.mod_lt _ (by omega)
  have hdv0 : U2 < v1 * 2147483648 := Nat.lt_of_lt_of_le f5 (by rw [show v1 * 2147483648 = v1 * 1000000000 + v1 * 1147483648 from by rw [← Nat.mul_add]]; exact Nat.add_le_add_left (by clear f1 f2 f3 f4 f5 hdm hmod hU2; omega) _)
  have hdv : U2 / v1 < 2147483648 := Nat.div_lt_of_lt_mul hdv0
  obtain ⟨g, hg1, hg2, hg3, hg4⟩ := div_guess (R := R) n xs (nl .u32 lq) o lv ho hv i (by omega) (by omega) h2 hil (by omega) v1 v2 u3 U2 hv1e hv2e hu3e f5 n (U2 / v1) (U2 % v1) hdv (by omega)
    (by have : 3 * v1 ≤ n * v1 := Nat.mul_le_mul_right _ (by omega)
        omega) hdm
    (by intro x hx hxu
        rw [Nat.le_div_iff_mul_le (by omega)]
        apply Nat.le_of_not_lt
        intro h
        have h3 : (U2 + 1) * 1000000000 ≤ x * v1 * 1000000000 := Nat.mul_le_mul_right _ h
        rw [Nat.mul_add, ← Nat.mul_assoc] at hxu
        have : 0 ≤ x * v2 := Nat.zero_le _
        omega)
  obtain ⟨k1, k2⟩ := knuth (B := 1000000000) f1 f3 f2 f4 (by omega) hg2 hg3 hg4 hW
  obtain ⟨o1, c1, s1, q1, q2, q3, q4, q5, q6, q7⟩ := div_sub (R := R) n xs (nl .u32 lq) lv hv g i hg2 (by omega) (by omega) lv.length n 0 o 0 0 (by omega) (by omega) (by omega) (by omega) ho (by omega) (by omega)
  have hz' : o1.getD (i + lv.length) 0 = z := by
    rw [← hze]
    have h := congrArg (fun l => l.getD 0 0) q6
    simpa [List.getD_eq_getElem?_getD] using h
  have r1 := val_drop 1000000000 o (i + lv.length) (by omega)
  have r2 := val_drop 1000000000 o1 (i + lv.length) (by omega)
  have r3 := val_drop 1000000000 o i (by omega)
  have r4 := val_take_lt hB2 ho (i := i) (by omega)
  have r5 := val_take_lt hB2 q3 (i := i + lv.length) (by omega)
  rw [q6] at r2
  have r6 : val 1000000000 (o.drop (i + lv.length)) = z := by
    have hWlt : val 1000000000 (o.drop i) < 1000000000 ^ (lv.length + 1) := by
      rw [Nat.pow_succ, Nat.mul_comm _ 1000000000]
      exact Nat.lt_of_lt_of_le hW (Nat.mul_le_mul_left _ (Nat.le_of_lt (val_lt hB2 lv hv)))
    have hz := val_drop_zero hB2 _ _ hWlt
    rw [List.drop_drop] at hz
    rw [val_drop_step, show i + lv.length + 1 = i + (lv.length + 1) from by omega, hz, hze, Nat.mul_zero, Nat.add_zero]
  rw [r6] at r1 r2
  simp only [Nat.add_zero, Nat.mul_zero, List.drop_zero] at q7
  obtain ⟨b1, b2⟩ := borrow r2 r3 r4 r5 q7
  have hV0 : 0 < val 1000000000 lv := by
    rcases Nat.eq_zero_or_pos (val 1000000000 lv) with h0 | h0
    · rw [h0] at hW; omega
    · exact h0
  by_cases hcs : c1 + s1 ≤ z
  · have hQ : val 1000000000 (o.drop i) / val 1000000000 lv = g := Nat.le_antisymm k1 ((Nat.le_div_iff_mul_le hV0).2 (b1 hcs))
    rw [hQ]
    have hgu : g < 4294967296 := by omega
    have w1 : (i : Int) + (lv.length : Int) = ((i + lv.length : Nat) : Int) := by omega
    have w2 : ((i + lv.length : Nat) : Int) - 1 = ((i + lv.length - 1 : Nat) : Int) := by omega
    have w3 : (lv.length : Int) - 1 = ((lv.length - 1 : Nat) : Int) := by omega
    have w4 : (z : Int) * 1000000000 + (z1 : Int) = (U2 : Int) := by omega
    have w5 : (z : Int) - (c1 : Int) - (s1 : Int) = ((z - (c1 + s1) : Nat) : Int) := by omega
    refine ⟨o1.set (i + lv.length) (z - (c1 + s1)), fun k0 => ?_, by rw [List.length_set, q2], set_lt q3 (by omega) _, ?_⟩
    · clear f1 f2 f3 f4 f5 hg3 hg4 q7 r1 r2 r3 r4 r5 r6 b1 b2 hQ hW k1 k2 hdm q6 q3 hq ho hv
      have q1' : ∀ k0 : List PV → List PV → List PV → Int → List PV → Int → Int → Int → Int → Option R, p80_l22L n n xs (nl .u32 o) (nl .u32 lv) lv.length (nl .u32 lq) i g 0 0 lv.length 0 k0 = k0 xs (nl .u32 o1) (nl .u32 lv) lv.length (nl .u32 lq) i g c1 s1 := q1
      have t1 : Int.tdiv (U2 : Int) (v1 : Int) = ((U2 / v1 : Nat) : Int) := tdivN _ _
      have t2 : Int.tmod (U2 : Int) (v1 : Int) = ((U2 % v1 : Nat) : Int) := tmodN _ _
      generalize U2 / v1 = g0 at *
      generalize U2 % v1 = r0 at *
      clear q1
      simp only [p80_l12L, p80_l12B, p80_l16, p80_l22, p80_c45, p80_c13]
      simp (disch := (first | omega | (simp only [List.length_append, List.length_cons, List.length_nil, List.length_replicate, List.length_take, List.length_drop]; omega))) only [↓c_pos, ↓c_neg, dec_t, dec_f, Bool.and_true, Bool.true_and, Bool.and_false, Bool.false_and, Bool.not_true, Bool.not_false, cond_true, cond_false, inR_t, cutR_t, roomB_t, lenOK_t, w64, bs_size, List.length_append, List.length_cons, List.length_nil, bs_extract, bs_append, bs_push, bs_data, bs_empty, bs_lit, catS_bs, eqS_bs, ite_pos', ite_neg', decide_true, decide_false, if_true, if_false, toNatC, getI_nl, nl_len, nl_set, nl_set0, nl_take, nl_drop, nl_rep, nl_app, hdSz_nl, drop0, wu32, wu64, wu8, List.length_set, List.length_replicate, w1, w2, w3, hze, hz1e, hv1e, w4, t1, t2, hg1, q1', hz', w5, q2]
    · have hs := val_set 1000000000 (z - (c1 + s1)) (l := o1) (i := i + lv.length) (by omega)
      rw [hz'] at hs
      have e2 : 1000000000 ^ (i + lv.length) * z = 1000000000 ^ (i + lv.length) * (z - (c1 + s1)) + 1000000000 ^ (i + lv.length) * (c1 + s1) := by rw [← Nat.mul_add]; congr 1; omega
      have e3 : g * (1000000000 ^ i * val 1000000000 lv) = 1000000000 ^ i * (g * val 1000000000 lv) := by grind
      rw [e3] at q7
      generalize 1000000000 ^ (i + lv.length) * z = A1 at *
      omega
  · have hQ : val 1000000000 (o.drop i) / val 1000000000 lv + 1 = g := by
      have h1 := b2 (Nat.lt_of_not_le hcs)
      have h3 : val 1000000000 (o.drop i) / val 1000000000 lv < g := (Nat.div_lt_iff_lt_mul hV0).2 h1
      obtain ⟨p, rfl⟩ : ∃ p, g = p + 1 := ⟨g - 1, (Nat.succ_pred_eq_of_pos (Nat.lt_of_le_of_lt (Nat.zero_le _) h3)).symm⟩
      have h4 : p ≤ val 1000000000 (o.drop i) / val 1000000000 lv := (Nat.le_div_iff_mul_le hV0).2 (by rw [Nat.succ_mul] at k2; omega)
      omega
    obtain ⟨p, rfl⟩ : ∃ p, g = p + 1 := ⟨val 1000000000 (o.drop i) / val 1000000000 lv, hQ.symm⟩
    have hQ' : val 1000000000 (o.drop i) / val 1000000000 lv = p := by omega
    rw [hQ']
    obtain ⟨o2, c2, d1, d2, d3, d4, d5, d6⟩ := div_back (R := R) n xs (nl .u32 lq) lv hv p i ((z : Int) - (c1 : Int) - (s1 : Int)) (by omega) (by omega) lv.length n 0 o1 0 (by omega) (by omega) (by omega) (by omega) q3 (by omega)
    simp only [Nat.add_zero, Nat.mul_zero, List.drop_zero] at d6
    have hz2 : o2.getD (i + lv.length) 0 = z := by
      rw [← hz']
      have h := congrArg (fun l => l.getD 0 0) d5
      simpa [List.getD_eq_getElem?_getD] using h
    have r7 := val_drop 1000000000 o2 (i + lv.length) (by omega)
    have r8 := val_take_lt hB2 d3 (i := i + lv.length) (by omega)
    rw [d5, q6, r6] at r7
    have hm1 : val 1000000000 (o.drop i) = p * val 1000000000 lv + val 1000000000 (o.drop i) % val 1000000000 lv := by
      rw [← hQ', Nat.div_add_mod']
    have hm2 : val 1000000000 (o.drop i) % val 1000000000 lv < 1000000000 ^ lv.length := Nat.lt_trans (Nat.mod_lt _ hV0) (val_lt hB2 lv hv)
    obtain ⟨top, low⟩ := back (B := 1000000000) (Nat.pow_pos (by omega) : 0 < 1000000000 ^ i) (by rw [Nat.pow_add]) r7 r8 r3 r4 hm1 hm2 q7 d6
    have hs := val_set 1000000000 0 (l := o2) (i := i + lv.length) (by omega)
    rw [hz2, Nat.mul_zero, Nat.add_zero] at hs
    refine ⟨o2.set (i + lv.length) 0, fun k0 => ?_, by rw [List.length_set, d2, q2], set_lt d3 (by omega) _, ?_⟩
    · have w1 : (i : Int) + (lv.length : Int) = ((i + lv.length : Nat) : Int) := by omega
      have w2 : ((i + lv.length : Nat) : Int) - 1 = ((i + lv.length - 1 : Nat) : Int) := by omega
      have w3 : (lv.length : Int) - 1 = ((lv.length - 1 : Nat) : Int) := by omega
      have w4 : (z : Int) * 1000000000 + (z1 : Int) = (U2 : Int) := by omega
      have w5 : ((p + 1 : Nat) : Int) - 1 = (p : Int) := by omega
      have w6 : (z : Int) - (c1 : Int) - (s1 : Int) + (c2 : Int) = ((0 : Nat) : Int) := by omega
      have hgu : p + 1 < 4294967296 := by omega
      clear f1 f2 f3 f4 f5 hg3 hg4 q7 r1 r2 r3 r4 r5 r6 b1 b2 hQ hQ' hW k1 k2 hdm q6 q3 hq ho hv r7 r8 hm1 hm2 low hs d3 d5 d6
      have q1' : ∀ k0 : List PV → List PV → List PV → Int → List PV → Int → Int → Int → Int → Option R, p80_l22L n n xs (nl .u32 o) (nl .u32 lv) lv.length (nl .u32 lq) i ((p + 1 : Nat) : Int) 0 0 lv.length 0 k0 = k0 xs (nl .u32 o1) (nl .u32 lv) lv.length (nl .u32 lq) i ((p + 1 : Nat) : Int) c1 s1 := q1
      have d1' : ∀ k0 : List PV → List PV → List PV → Int → List PV → Int → Int → Int → Int → Option R, p80_l38L n n xs (nl .u32 o1) (nl .u32 lv) lv.length (nl .u32 lq) i p ((z : Int) - (c1 : Int) - (s1 : Int)) 0 lv.length 0 k0 = k0 xs (nl .u32 o2) (nl .u32 lv) lv.length (nl .u32 lq) i p ((z : Int) - (c1 : Int) - (s1 : Int)) c2 := d1
      have t1 : Int.tdiv (U2 : Int) (v1 : Int) = ((U2 / v1 : Nat) : Int) := tdivN _ _
      have t2 : Int.tmod (U2 : Int) (v1 : Int) = ((U2 % v1 : Nat) : Int) := tmodN _ _
      generalize U2 / v1 = g0 at *
      generalize U2 % v1 = r0 at *
      clear q1 d1
      simp only [p80_l12L, p80_l12B, p80_l16, p80_l22, p80_l38, p80_c45, p80_c13]
      simp (disch := (first | omega | (simp only [List.length_append, List.length_cons, List.length_nil, List.length_replicate, List.length_take, List.length_drop]; omega))) only [↓c_pos, ↓c_neg, dec_t, dec_f, Bool.and_true, Bool.true_and, Bool.and_false, Bool.false_and, Bool.not_true, Bool.not_false, cond_true, cond_false, inR_t, cutR_t, roomB_t, lenOK_t, w64, bs_size, List.length_append, List.length_cons, List.length_nil, bs_extract, bs_append, bs_push, bs_data, bs_empty, bs_lit, catS_bs, eqS_bs, ite_pos', ite_neg', decide_true, decide_false, if_true, if_false, toNatC, getI_nl, nl_len, nl_set, nl_set0, nl_take, nl_drop, nl_rep, nl_app, hdSz_nl, drop0, wu32, wu64, wu8, List.length_set, List.length_replicate, w1, w2, w3, hze, hz1e, hv1e, w4, t1, t2, hg1, q1', hz', w5, d1', w6, q2, d2]
    · generalize 1000000000 ^ (i + lv.length) * z = A1 at *
      generalize 1000000000 ^ i * (p * val 1000000000 lv) = A2 at *
      omega
end Go.Proofs.YtfbahcfojiaeaaaGreatDoor


set_option linter.unusedVariables false
set_option maxRecDepth 100000
namespace Go.Proofs.YtfbahcfojiaeaaaGreatDoor
open Go Th Go.Proofs
def ann79 : Ann := { loops := [(1, [(0, .id), (1, .id)], [(0, .id), (4, .id)])], cuts := [], frz := [], rm := [.id] }
noncomputable abbrev env79 (n : Nat) : Env := fun i => bif Nat.beq i 80 then some (fs80 n) else (fun _ => none) i
theorem envok79 (n : Nat) : EnvOK Tryz.prog GI (env79 n) := EnvOK.cons (EnvOK.nil) (ok80 n)
noncomputable def p79_l1B {R : Type} (n : Nat) (l0 : List PV → List PV → Option R) (x1 x2 : List PV) (k0 : List PV → Option R) : Option R :=
  bif (decide (((x2).length : Int) > 0)) then (p80 n x1 x2 (fun y3 y4 => l0 x2 y4)) else (k0 x1)
noncomputable def p79_l1L {R : Type} (n : Nat) : Nat → List PV → List PV → (List PV → Option R) → Option R
  | 0, _, _, _ => none
  | m + 1, x1, x2, k0 => p79_l1B n (fun x1 x2 => p79_l1L n m x1 x2 k0) x1 x2 k0
noncomputable def p79_l1 {R : Type} (n : Nat) (x1 x2 : List PV) (k0 : List PV → Option R) : Option R := p79_l1L n n x1 x2 k0
noncomputable def p79 {R : Type} (n : Nat) (x1 x2 : List PV) (k0 : List PV → Option R) : Option R :=
  p79_l1 n x1 x2 (fun y3 => k0 y3)
noncomputable abbrev E79 {R : Type} (n : Nat) (c : Code) : Fr → Kc R → Option R := evC Tryz.prog (env79 n) ann79 n (19, []) c
noncomputable def c79_l1 : Code := subC (bodyOf Tryz.f79) [1, 0, 0, 0]
abbrev t79_l1 : Sl (List SV) := (.c (sP sSh) (.c (sP sSh) .n))
noncomputable abbrev f79_l1 {R : Type} (n m : Nat) (K : Kc R) : t79_l1.T (Option R) := fun x1 x2 => p79_l1L n m x1 x2 (fun y1 => K (.exit 0) (lk (outA ann79.loops 1) [.p (.sh y1), .dead]))
noncomputable abbrev o79_l1 {R : Type} (n : Nat) (vs : List SV) (K : Kc R) : Option R := oget (t79_l1.ap vs (f79_l1 n n K)) (loopE ann79 1 (E79 n c79_l1) n vs K)
noncomputable abbrev lo79 {R : Type} (n : Nat) : Orc R := fun i vs K => dcnd (Nat.beq i 1) (o79_l1 n vs K) (none)
noncomputable abbrev cu79 {R : Type} (n : Nat) : Orc R := fun i vs K => none
section
variable {R : Type}
noncomputable abbrev V79 (n : Nat) (c : Code) : Fr → Kc R → Option R := evOi Tryz.prog (env79 n) ann79 (19, []) (lo79 n) (cu79 n) c
abbrev K79 (R : Type) (n : Nat) := PartOK (R := R) Tryz.prog (env79 n) ann79 n (19, []) (lo79 n) (cu79 n)
theorem pa79_l1 (n : Nat) : allP (K79 R n) (partsOf ann79 c79_l1) := by
  rw [show partsOf ann79 c79_l1 = [] from by kernel_rfl]; exact trivial
theorem sp79_l1 (n m : Nat) (x1 x2 : List PV) (K : Kc R) : loopE ann79 1 (V79 n c79_l1) (m + 1) [.p (.sh x1), .p (.sh x2)] K = p79_l1B n (fun x1 x2 => loopE ann79 1 (V79 n c79_l1) m [.p (.sh x1), .p (.sh x2)] K) x1 x2 (fun y1 => K (.exit 0) (lk (outA ann79.loops 1) [.p (.sh y1), .dead])) := by kernel_rfl
theorem ep79_l1 (n : Nat) (K : Kc R) : ∀ (m : Nat) (x1 x2 : List PV), loopE ann79 1 (V79 n c79_l1) m [.p (.sh x1), .p (.sh x2)] K = f79_l1 n m K x1 x2
  | 0, _, _ => rfl
  | m + 1, x1, x2 => (sp79_l1 n m x1 x2 K).trans (congrArg (fun l0 => p79_l1B n l0 x1 x2 (fun y1 => K (.exit 0) (lk (outA ann79.loops 1) [.p (.sh y1), .dead]))) (funext fun z0 => funext fun z1 => ep79_l1 n K m z0 z1))
theorem q79_l1 (n : Nat) : K79 R n (false, 1, c79_l1) := part_loop (pa79_l1 n) t79_l1 (f79_l1 n n) (fun K x1 x2 => ep79_l1 n K n x1 x2) fun _ _ => rfl
theorem pa79 (n : Nat) : allP (K79 R n) (partsOf ann79 (bodyOf Tryz.f79)) := by
  rw [show partsOf ann79 (bodyOf Tryz.f79) = [(false, 1, c79_l1)] from by kernel_rfl]; exact ⟨q79_l1 n, trivial⟩
end
abbrev t79 : Sl (List SV) := (.c (sP sSh) (.c (sP sSh) .n))
noncomputable abbrev f79 (n : Nat) {R : Type} (K : List SV → Option R) : t79.T (Option R) := fun x1 x2 => p79 n x1 x2 (fun y1 => K [.p (.sh y1)])
theorem ep79 {R : Type} (n : Nat) (K : List SV → Option R) (x1 x2 : List PV) : evFn Tryz.prog (env79 n) ann79 n Tryz.f79 [.p (.sh x1), .p (.sh x2)] K = f79 n K x1 x2 := by
  rw [evFn_evOi (c := bodyOf Tryz.f79) (by kernel_rfl) (pa79 n)]; kernel_rfl
noncomputable abbrev fs79 (n : Nat) : FS := { om := [false, false], run := fun args K => oget (t79.ap args (f79 n K)) none }
theorem ok79 (n : Nat) : FSound Tryz.prog GI 79 (fs79 n) :=
  FSound.good (envok79 n) (ann := ann79) (n := n) Tryz.func79
    (.cons (envok79 n) t79 (f79 n) (fun K x1 x2 => ep79 n K x1 x2) .nil)
    (by kernel_rfl) (by kernel_rfl) (by kernel_rfl)
end Go.Proofs.YtfbahcfojiaeaaaGreatDoor


set_option linter.unusedVariables false
set_option linter.unusedSimpArgs false
namespace Go.Proofs.YtfbahcfojiaeaaaGreatDoor
open Go Th Go.Proofs
variable {R : Type}
theorem div_loop (n : Nat) (xs : List PV) (lv : List Nat) (hv : ∀ d ∈ lv, d < 1000000000) (h2 : 2 ≤ lv.length) (hn : lv.length + 2 < n) (hv1 : 500000000 ≤ lv.getD (lv.length - 1) 0) (U : Nat) :
    ∀ (d m : Nat) (o lq : List Nat), (∀ x ∈ o, x < 1000000000) → (∀ x ∈ lq, x < 1000000000) → lq.length + lv.length = o.length → d ≤ lq.length → d < m → o.length < 2 ^ 40 → val 1000000000 (o.drop d) < val 1000000000 lv →
      val 1000000000 o + 1000000000 ^ d * (val 1000000000 lv * val 1000000000 (lq.drop d)) = U →
      ∃ o' lq' : List Nat, (∀ k0 : List PV → List PV → List PV → Option R, p80_l12L n m xs (nl .u32 o) (nl .u32 lv) lv.length (nl .u32 lq) ((d : Int) - 1) k0 = k0 xs (nl .u32 o') (nl .u32 lq')) ∧ o'.length = o.length ∧ lq'.length = lq.length ∧
        (∀ x ∈ o', x < 1000000000) ∧ (∀ x ∈ lq', x < 1000000000) ∧ val 1000000000 o' < val 1000000000 lv ∧ val 1000000000 o' + val 1000000000 lv * val 1000000000 lq' = U
  | 0, m + 1, o, lq, ho, hq, hl, hd, hm, h40, hlt, hU => by
    rw [List.drop_zero] at hlt hU
    rw [Nat.pow_zero, Nat.one_mul] at hU
    refine ⟨o, lq, fun k0 => ?_, rfl, rfl, ho, hq, hlt, hU⟩
    simp only [p80_l12L, p80_l12B]
    simp (disch := (first | omega | (simp only [List.length_append, List.length_cons, List.length_nil, List.length_replicate, List.length_take, List.length_drop]; omega))) only [↓c_pos, ↓c_neg, dec_t, dec_f, Bool.and_true, Bool.true_and, Bool.and_false, Bool.false_and, Bool.not_true, Bool.not_false, cond_true, cond_false, inR_t, cutR_t, roomB_t, lenOK_t, w64, bs_size, List.length_append, List.length_cons, List.length_nil, bs_extract, bs_append, bs_push, bs_data, bs_empty, bs_lit, catS_bs, eqS_bs, ite_pos', ite_neg', decide_true, decide_false, if_true, if_false, toNatC, getI_nl, nl_len, nl_set, nl_set0, nl_take, nl_drop, nl_rep, nl_app, hdSz_nl, drop0, wu32, wu64, wu8, List.length_set, List.length_replicate]
  | d + 1, m + 1, o, lq, ho, hq, hl, hd, hm, h40, hlt, hU => by
    have hod := getD_lt hB2 ho d
    have hW : val 1000000000 (o.drop d) < 1000000000 * val 1000000000 lv := by
      rw [val_drop_step]
      have : 1000000000 * val 1000000000 (o.drop (d + 1)) + 1000000000 ≤ 1000000000 * val 1000000000 lv := by rw [← Nat.mul_succ]; exact Nat.mul_le_mul_left _ hlt
      omega
    obtain ⟨o', s1, s2, s3, s4⟩ := div_step (R := R) n m xs o lv lq ho hv hq d h2 (by omega) (by omega) h40 hn hv1 hW
    have hV0 : 0 < val 1000000000 lv := by omega
    have hpB : val 1000000000 (o.drop d) / val 1000000000 lv < 1000000000 := Nat.div_lt_of_lt_mul (by rw [Nat.mul_comm]; exact hW)
    obtain ⟨p, hp⟩ : ∃ p, val 1000000000 (o.drop d) / val 1000000000 lv = p := ⟨_, rfl⟩
    have r1 := val_drop 1000000000 o d (by omega)
    have r2 := val_drop 1000000000 o' d (by omega)
    have r3 := val_take_lt hB2 ho (i := d) (by omega)
    have r4 := val_take_lt hB2 s3 (i := d) (by omega)
    have hdm := Nat.div_add_mod' (val 1000000000 (o.drop d)) (val 1000000000 lv)
    have hmod : val 1000000000 (o.drop d) % val 1000000000 lv < val 1000000000 lv := Nat.mod_lt _ hV0
    rw [hp] at s1 s4 hpB hdm
    have hrest : val 1000000000 (o'.drop d) = val 1000000000 (o.drop d) % val 1000000000 lv := by
      have h0 : 0 < 1000000000 ^ d := Nat.pow_pos (by omega)
      generalize 1000000000 ^ d = P at *
      rw [r1, r2, ← hdm, Nat.mul_add] at s4
      have e : val 1000000000 (List.take d o') + P * val 1000000000 (List.drop d o') = val 1000000000 (List.take d o) + P * (val 1000000000 (o.drop d) % val 1000000000 lv) := by
        omega
      have a1 : (val 1000000000 (List.take d o') + P * val 1000000000 (List.drop d o')) / P = val 1000000000 (List.drop d o') := by rw [Nat.add_mul_div_left _ _ h0, Nat.div_eq_of_lt r4, Nat.zero_add]
      have a2 : (val 1000000000 (List.take d o) + P * (val 1000000000 (o.drop d) % val 1000000000 lv)) / P = val 1000000000 (o.drop d) % val 1000000000 lv := by rw [Nat.add_mul_div_left _ _ h0, Nat.div_eq_of_lt r3, Nat.zero_add]
      rw [← a1, e, a2]
    have hqv : val 1000000000 ((lq.set d p).drop d) = p + 1000000000 * val 1000000000 (lq.drop (d + 1)) := by
      rw [val_drop_step, List.drop_set_of_lt (by omega), List.getD_eq_getElem?_getD, List.getElem?_set_self (by omega)]; rfl
    obtain ⟨o2, lq2, t1, t2, t3, t4, t5, t6, t7⟩ := div_loop n xs lv hv h2 hn hv1 U d m o' (lq.set d p) s3 (set_lt hq hpB _) (by rw [List.length_set, s2]; exact hl) (by rw [List.length_set]; omega) (by omega) (by omega) (by rw [hrest]; exact hmod)
      (by
        rw [hqv, ← hU, ← s4, Nat.pow_succ]
        generalize 1000000000 ^ d = P
        generalize val 1000000000 (lq.drop (d + 1)) = Q
        generalize val 1000000000 lv = V
        grind)
    refine ⟨o2, lq2, fun k0 => ?_, by rw [t2, s2], by rw [t3, List.length_set], t4, t5, t6, t7⟩
    rw [← t1 k0, ← s1 k0, show ((d + 1 : Nat) : Int) - 1 = (d : Int) from by omega]
theorem norm_top (B t : Nat) (hB : B = 1000000000) (ht : 1 ≤ t) (htB : t < B) : 500000000 ≤ B / (t + 1) * t ∧ B / (t + 1) * (t + 1) ≤ B ∧ 1 ≤ B / (t + 1) := by
  have h1 : B / (t + 1) * (t + 1) ≤ B := Nat.div_mul_le_self _ _
  have h2 : 1 ≤ B / (t + 1) := (Nat.le_div_iff_mul_le (by omega)).2 (by omega)
  have h3 := Nat.div_add_mod' B (t + 1)
  have h4 : B % (t + 1) < t + 1 := Nat.mod_lt _ (by omega)
  refine ⟨?_, h1, h2⟩
  generalize B / (t + 1) = q at *
  generalize B % (t + 1) = r at *
  rw [Nat.mul_succ] at h3
  by_cases c1 : q = 1
  · subst c1; omega
  by_cases c2 : t = 1
  · subst c2; omega
  obtain ⟨s, rfl⟩ : ∃ s, t = s + 2 := ⟨t - 2, by omega⟩
  have h5 : 2 * (s + 1) ≤ q * (s + 1) := Nat.mul_le_mul_right _ (by omega)
  have h6 : q * (s + 2) = q * (s + 1) + q := by grind
  omega
theorem toL_one {b : Nat} (hb : 2 ≤ b) {x : Nat} (h0 : x ≠ 0) (hx : x < b) : toL b x = [x] := by
  rw [toL_pos hb h0, Nat.mod_eq_of_lt hx, Nat.div_eq_of_lt hx, toL_zero]
theorem toL_top {b : Nat} (hb : 2 ≤ b) {x : Nat} (h0 : x ≠ 0) : 1 ≤ (toL b x).length ∧ (toL b x).getD ((toL b x).length - 1) 0 * b ^ ((toL b x).length - 1) ≤ x ∧ x < ((toL b x).getD ((toL b x).length - 1) 0 + 1) * b ^ ((toL b x).length - 1) ∧ 1 ≤ (toL b x).getD ((toL b x).length - 1) 0 := by
  have hl : 1 ≤ (toL b x).length := by
    rcases Nat.eq_zero_or_pos (toL b x).length with h | h
    · exact absurd ((toL_eq_nil hb).1 (List.eq_nil_of_length_eq_zero h)) h0
    · exact h
  have h1 := val_drop b (toL b x) ((toL b x).length - 1) (by omega)
  rw [val_drop_step, show (toL b x).length - 1 + 1 = (toL b x).length from by omega, List.drop_length, show val b [] = 0 from rfl, Nat.mul_zero, Nat.add_zero, val_toL hb] at h1
  have h2 := val_take_lt hb (toL_lt hb x) (i := (toL b x).length - 1) (by omega)
  have h3 := toL_last hb x
  rw [List.getLast?_eq_getElem?] at h3
  have h4 : 1 ≤ (toL b x).getD ((toL b x).length - 1) 0 := by
    apply Nat.one_le_iff_ne_zero.2
    intro h
    rw [List.getD_eq_getElem?_getD, List.getElem?_eq_getElem (by omega)] at h
    rw [List.getElem?_eq_getElem (by omega)] at h3
    exact h3 (congrArg some h)
  refine ⟨hl, ?_, ?_, h4⟩
  · rw [Nat.mul_comm]; omega
  · rw [Nat.succ_mul, Nat.mul_comm]; omega
theorem toL_len_lt {b : Nat} (hb : 2 ≤ b) {x k : Nat} (h : k < (toL b x).length) : b ^ k ≤ x := by
  apply Nat.le_of_not_lt
  intro q
  have := (toL_len hb x k).2 q
  omega
set_option maxHeartbeats 2000000 in
theorem div_eq (n a b : Nat) (hb : 0 < b) (hla : (toL 1000000000 a).length < 2 ^ 20) (hlb : (toL 1000000000 b).length < 2 ^ 20) (hn : (toL 1000000000 a).length + (toL 1000000000 b).length + 10 < n) (k0 : List PV → List PV → Option R) :
    p80 n (NN a) (NN b) k0 = k0 (NN (a / b)) (NN (a % b)) := by
  have hc := fun k0 => cmp_eq (R := R) n a b (by omega) (by omega) (by omega) k0
  unfold p80
  simp only [hc]
  by_cases hab : a < b
  · have e : cmpN a b = -1 := by unfold cmpN; rw [if_pos hab]
    have e0 : NN 0 = [] := by unfold NN; rw [toL_zero]; rfl
    rw [Nat.div_eq_of_lt hab, Nat.mod_eq_of_lt hab, e0]
    simp (disch := (first | omega | (simp only [List.length_append, List.length_cons, List.length_nil, List.length_replicate, List.length_take, List.length_drop]; omega))) only [↓c_pos, ↓c_neg, dec_t, dec_f, Bool.and_true, Bool.true_and, Bool.and_false, Bool.false_and, Bool.not_true, Bool.not_false, cond_true, cond_false, inR_t, cutR_t, roomB_t, lenOK_t, w64, bs_size, List.length_append, List.length_cons, List.length_nil, bs_extract, bs_append, bs_push, bs_data, bs_empty, bs_lit, catS_bs, eqS_bs, ite_pos', ite_neg', decide_true, decide_false, if_true, if_false, toNatC, getI_nl, nl_len, nl_set, nl_set0, nl_take, nl_drop, nl_rep, nl_app, hdSz_nl, drop0, wu32, wu64, wu8, List.length_set, List.length_replicate, e]
  have e : 0 ≤ cmpN a b := by unfold cmpN; rw [if_neg hab]; split <;> omega
  obtain ⟨tl, t0, t1, t2⟩ := toL_top hB2 (x := b) (by omega)
  have hbt := getD_lt hB2 (toL_lt hB2 b) ((toL 1000000000 b).length - 1)
  have hN : NN b = nl .u32 (toL 1000000000 b) := rfl
  by_cases h1 : (toL 1000000000 b).length = 1
  · have hb1 : b < 1000000000 := by
      have := (toL_len hB2 b 1).1 (by omega)
      rwa [Nat.pow_one] at this
    have hone := toL_one hB2 (x := b) (by omega) hb1
    have hs := fun k0 => short_eq (R := R) n a b hb (by omega) (by omega) (by omega) k0
    have hmod : a % b < b := Nat.mod_lt _ hb
    have ht := fun k0 => trim_eq (R := R) n [a % b] (by simp; omega) (by simp; omega) (by simp) k0
    rw [show val 1000000000 [a % b] = a % b from by simp [val]] at ht
    have hN1 : NN b = nl .u32 [b] := by rw [hN, hone]
    have e1 : ([b].getD 0 0) = b := rfl
    simp only [p80_c3]
    rw [hN1]
    have hcond : ((([b] : List Nat).length : Int) == 1) = true := rfl
    have hg : ∀ (K : Int → Option R), getI .u32 ((nl .u32 [b]).getD (0 : Int).toNat (PV.v (Value.bool false))) K = K (b : Int) := fun K => getI_nl (l := [b]) (i := 0) (by simp)
    simp (disch := (first | omega | (simp only [List.length_append, List.length_cons, List.length_nil, List.length_replicate, List.length_take, List.length_drop]; omega))) only [↓c_pos, ↓c_neg, dec_t, dec_f, Bool.and_true, Bool.true_and, Bool.and_false, Bool.false_and, Bool.not_true, Bool.not_false, cond_true, cond_false, inR_t, cutR_t, roomB_t, lenOK_t, w64, bs_size, List.length_append, List.length_cons, List.length_nil, bs_extract, bs_append, bs_push, bs_data, bs_empty, bs_lit, catS_bs, eqS_bs, ite_pos', ite_neg', decide_true, decide_false, if_true, if_false, toNatC, getI_nl, nl_len, nl_set, nl_set0, nl_take, nl_drop, nl_rep, nl_app, hdSz_nl, drop0, wu32, wu64, wu8, List.length_set, List.length_replicate, hcond, hg, hs, nl_one, ht]
    rfl
  obtain ⟨L, hL⟩ : ∃ L, (toL 1000000000 b).length = L := ⟨_, rfl⟩
  obtain ⟨t, htop⟩ : ∃ t, (toL 1000000000 b).getD ((toL 1000000000 b).length - 1) 0 = t := ⟨_, rfl⟩
  rw [htop] at t0 t1 t2 hbt
  rw [hL] at htop t0 t1 hlb hn tl h1
  obtain ⟨n1, n2, n3⟩ := norm_top 1000000000 t rfl t2 hbt
  obtain ⟨f, hf⟩ : ∃ f, f = 1000000000 / (t + 1) := ⟨_, rfl⟩
  rw [← hf] at n1 n2 n3
  have hfB : f < 1000000000 := by
    have : f * 2 ≤ f * (t + 1) := Nat.mul_le_mul_left _ (by omega)
    omega
  have hNf : [PV.v (.int .u32 (f : Int))] = NN f := by unfold NN; rw [toL_one hB2 (by omega) hfB, nl_one]
  have hfl : (toL 1000000000 f).length = 1 := by rw [toL_one hB2 (by omega) hfB]; rfl
  have hPL : 1000000000 ^ L = 1000000000 ^ (L - 1) * 1000000000 := by rw [← Nat.pow_succ]; congr 1; omega
  have hvlt : b * f < 1000000000 ^ L := by
    have a1 : b * f < (t + 1) * 1000000000 ^ (L - 1) * f := Nat.mul_lt_mul_of_pos_right t1 (by omega)
    have a2 : (t + 1) * 1000000000 ^ (L - 1) * f ≤ 1000000000 ^ (L - 1) * 1000000000 := by
      have : (t + 1) * 1000000000 ^ (L - 1) * f = 1000000000 ^ (L - 1) * (f * (t + 1)) := by grind
      rw [this]; exact Nat.mul_le_mul_left _ n2
    omega
  have hvge : 500000000 * 1000000000 ^ (L - 1) ≤ b * f := by
    have a1 : t * 1000000000 ^ (L - 1) * f ≤ b * f := Nat.mul_le_mul_right _ t0
    have a2 : t * 1000000000 ^ (L - 1) * f = f * t * 1000000000 ^ (L - 1) := by grind
    have a3 : 500000000 * 1000000000 ^ (L - 1) ≤ f * t * 1000000000 ^ (L - 1) := Nat.mul_le_mul_right _ n1
    omega
  have hP0 : 0 < 1000000000 ^ (L - 1) := Nat.pow_pos (by omega)
  have hvl : (toL 1000000000 (b * f)).length = L := by
    have a1 := (toL_len hB2 (b * f) L).2 hvlt
    have a2 : ¬ (toL 1000000000 (b * f)).length ≤ L - 1 := fun h => by
      have := (toL_len hB2 (b * f) (L - 1)).1 h
      omega
    omega
  obtain ⟨_, _, v2, _⟩ := toL_top hB2 (x := b * f) (by omega)
  rw [hvl] at v2
  have hvtop : 500000000 ≤ (toL 1000000000 (b * f)).getD (L - 1) 0 := by
    apply Nat.le_of_not_lt
    intro h
    have : ((toL 1000000000 (b * f)).getD (L - 1) 0 + 1) * 1000000000 ^ (L - 1) ≤ 500000000 * 1000000000 ^ (L - 1) := Nat.mul_le_mul_right _ h
    omega
  have hle : b * f ≤ a * f := Nat.mul_le_mul_right _ (by omega)
  obtain ⟨A, hA⟩ : ∃ A, (toL 1000000000 (a * f)).length = A := ⟨_, rfl⟩
  have hA1 : L ≤ A := by
    rw [← hvl, ← hA]
    exact (toL_len hB2 (b * f) _).2 (Nat.lt_of_le_of_lt hle ((toL_len hB2 (a * f) _).1 (Nat.le_refl _)))
  have hA2 : A ≤ (toL 1000000000 a).length + 1 := by
    rw [← hA]
    apply (toL_len hB2 (a * f) _).2
    rw [Nat.pow_succ]
    exact Nat.mul_lt_mul_of_lt_of_lt ((toL_len hB2 a _).1 (Nat.le_refl _)) hfB
  obtain ⟨o, ho⟩ : ∃ o, o = toL 1000000000 (a * f) ++ [0] := ⟨_, rfl⟩
  have hol : o.length = A + 1 := by rw [ho, List.length_append, hA]; rfl
  have hod : ∀ x ∈ o, x < 1000000000 := by
    intro x hx
    rw [ho] at hx
    rcases List.mem_append.1 hx with h | h
    · exact toL_lt hB2 _ x h
    · simp at h; omega
  have hov : val 1000000000 o = a * f := by rw [ho, val_snoc_zero, val_toL hB2]
  have hdrop : val 1000000000 (o.drop (A + 1 - L)) < val 1000000000 (toL 1000000000 (b * f)) := by
    rw [val_toL hB2]
    have a1 := val_drop 1000000000 o (A + 1 - L) (by omega)
    have a2 : a * f < 1000000000 ^ A := by rw [← hA]; exact (toL_len hB2 _ _).1 (Nat.le_refl _)
    have a3 : 1000000000 ^ A = 1000000000 ^ (A + 1 - L) * 1000000000 ^ (L - 1) := by rw [← Nat.pow_add]; congr 1; omega
    rw [hov] at a1
    have a4 : 1000000000 ^ (A + 1 - L) * val 1000000000 (o.drop (A + 1 - L)) < 1000000000 ^ (A + 1 - L) * 1000000000 ^ (L - 1) := by omega
    have a5 := Nat.lt_of_mul_lt_mul_left a4
    omega
  obtain ⟨o', lq', q1, q2, q3, q4, q5, q6, q7⟩ := div_loop (R := R) n (NN f) (toL 1000000000 (b * f)) (toL_lt hB2 _) (by omega) (by omega) (by rw [hvl]; exact hvtop) (a * f) (A + 1 - L) n o (List.replicate (A + 1 - L) 0) hod (rep_lt hB2 _) (by rw [List.length_replicate]; omega) (by rw [List.length_replicate]; omega) (by omega) (by omega) hdrop
    (by rw [List.drop_replicate, Nat.sub_self, hov]; simp [val])
  rw [val_toL hB2] at q6 q7
  have hbf : 0 < b * f := Nat.mul_pos hb (by omega)
  have hq : val 1000000000 lq' = a / b := by
    have : a * f / (b * f) = val 1000000000 lq' := by rw [← q7, Nat.add_mul_div_left _ _ hbf, Nat.div_eq_of_lt q6, Nat.zero_add]
    rw [← this, Nat.mul_div_mul_right _ _ (by omega)]
  have hr : val 1000000000 o' = a % b * f := by
    have : a * f % (b * f) = val 1000000000 o' := by rw [← q7, Nat.add_mul_mod_self_left, Nat.mod_eq_of_lt q6]
    rw [← this, Nat.mul_mod_mul_right]
  have m1 := fun k0 => times_eq (R := R) n a f (by omega) (by omega) (by omega) k0
  have m2 := fun k0 => times_eq (R := R) n b f (by omega) (by omega) (by omega) k0
  have m3 := fun k0 => trim_eq (R := R) n o' q4 (by omega) (by omega) k0
  have m4 := fun k0 => trim_eq (R := R) n lq' q5 (by rw [q3, List.length_replicate]; omega) (by rw [q3, List.length_replicate]; omega) k0
  have hrl : (toL 1000000000 (a % b * f)).length ≤ L := by
    apply (toL_len hB2 _ _).2
    rw [← hr]
    exact Nat.lt_trans q6 hvlt
  have m5 := fun k0 => short_eq (R := R) n (a % b * f) f (by omega) (by omega) (by omega) (by omega) k0
  rw [hr] at m3
  rw [hq] at m4
  rw [Nat.mul_div_cancel _ (by omega)] at m5
  have w1 : ((L : Int) == 1) = false := by simp; omega
  have w2 : (L : Int) - 1 = ((L - 1 : Nat) : Int) := by omega
  have w3 : (t : Int) + 1 = ((t + 1 : Nat) : Int) := by omega
  have w4 : Int.tdiv 1000000000 ((t + 1 : Nat) : Int) = (f : Int) := by rw [hf]; exact tdivN 1000000000 (t + 1)
  have w5 : ((0 + A + (0 + 1) : Nat) : Int) - (L : Int) = ((A + 1 - L : Nat) : Int) := by omega
  have w6 : nl .u32 (toL 1000000000 (a * f)) ++ ([.v (.int .u32 0)] : List PV) = nl .u32 o := by
    rw [ho, ← nl_app]; rfl
  have hNa : NN (a * f) = nl .u32 (toL 1000000000 (a * f)) := rfl
  have hNb : NN (b * f) = nl .u32 (toL 1000000000 (b * f)) := rfl
  have w7 : ((A + 1 : Nat) : Int) - (L : Int) = ((A + 1 - L : Nat) : Int) := by omega
  rw [hvl] at q1
  have hg : ∀ (K : Int → Option R), getI .u32 ((NN f).getD (0 : Int).toNat (PV.v (Value.bool false))) K = K (f : Int) := fun K => by rw [← hNf]; rfl
  have hNl : (NN f).length = 1 := by rw [← hNf]; rfl
  simp only [p80_c3, p80_c6, p80_c7, p80_c8, p80_c9, p80_c10, p80_c11, p80_l12]
  rw [hN]
  clear hdrop hvge hvlt n1 n2 hPL q6 q7 t0 t1 v2 hle hr hq hbf hP0 hov
  simp (disch := (first | omega | (simp only [List.length_append, List.length_cons, List.length_nil, List.length_replicate, List.length_take, List.length_drop]; omega))) only [↓c_pos, ↓c_neg, dec_t, dec_f, Bool.and_true, Bool.true_and, Bool.and_false, Bool.false_and, Bool.not_true, Bool.not_false, cond_true, cond_false, inR_t, cutR_t, roomB_t, lenOK_t, w64, bs_size, List.length_append, List.length_cons, List.length_nil, bs_extract, bs_append, bs_push, bs_data, bs_empty, bs_lit, catS_bs, eqS_bs, ite_pos', ite_neg', decide_true, decide_false, if_true, if_false, toNatC, getI_nl, nl_len, nl_set, nl_set0, nl_take, nl_drop, nl_rep, nl_app, hdSz_nl, drop0, wu32, wu64, wu8, List.length_set, List.length_replicate, w1, hL, htop, w2, w3, w4, hNf, m1]
  rw [← hN]
  simp (disch := (first | omega | (simp only [List.length_append, List.length_cons, List.length_nil, List.length_replicate, List.length_take, List.length_drop]; omega))) only [↓c_pos, ↓c_neg, dec_t, dec_f, Bool.and_true, Bool.true_and, Bool.and_false, Bool.false_and, Bool.not_true, Bool.not_false, cond_true, cond_false, inR_t, cutR_t, roomB_t, lenOK_t, w64, bs_size, List.length_append, List.length_cons, List.length_nil, bs_extract, bs_append, bs_push, bs_data, bs_empty, bs_lit, catS_bs, eqS_bs, ite_pos', ite_neg', decide_true, decide_false, if_true, if_false, toNatC, getI_nl, nl_len, nl_set, nl_set0, nl_take, nl_drop, nl_rep, nl_app, hdSz_nl, drop0, wu32, wu64, wu8, List.length_set, List.length_replicate, m2, hNa, hNb, hA, hvl, w5, List.nil_append, w6, hol, w7, q1, m3, hNl, hg, m5, m4]
theorem gcd_loop (n : Nat) (k0 : List PV → Option R) : ∀ (m a b : Nat), b < m → (toL 1000000000 a).length < 2 ^ 19 → (toL 1000000000 b).length < 2 ^ 19 → (toL 1000000000 a).length + (toL 1000000000 b).length + 10 < n → (toL 1000000000 b).length + (toL 1000000000 b).length + 10 < n →
    p79_l1L n m (NN a) (NN b) k0 = k0 (NN (Nat.gcd b a))
  | m + 1, a, b, hm, ha, hb, hn, hn2 => by
    simp only [p79_l1L, p79_l1B]
    have hN : (NN b).length = (toL 1000000000 b).length := by unfold NN; rw [nl_len]
    by_cases h0 : b = 0
    · subst h0
      rw [toL_zero] at hN
      have hN' : (NN 0).length = 0 := hN
      simp (disch := (first | omega | (simp only [List.length_append, List.length_cons, List.length_nil, List.length_replicate, List.length_take, List.length_drop]; omega))) only [↓c_pos, ↓c_neg, dec_t, dec_f, Bool.and_true, Bool.true_and, Bool.and_false, Bool.false_and, Bool.not_true, Bool.not_false, cond_true, cond_false, inR_t, cutR_t, roomB_t, lenOK_t, w64, bs_size, List.length_append, List.length_cons, List.length_nil, bs_extract, bs_append, bs_push, bs_data, bs_empty, bs_lit, catS_bs, eqS_bs, ite_pos', ite_neg', decide_true, decide_false, if_true, if_false, toNatC, getI_nl, nl_len, nl_set, nl_set0, nl_take, nl_drop, nl_rep, nl_app, hdSz_nl, drop0, wu32, wu64, wu8, List.length_set, List.length_replicate, hN', Nat.gcd_zero_left]
    · have hl : 1 ≤ (toL 1000000000 b).length := (toL_top hB2 h0).1
      have hd := fun k0 => div_eq (R := R) n a b (by omega) (by omega) (by omega) (by omega) k0
      have hlt : a % b < b := Nat.mod_lt _ (by omega)
      have hlr : (toL 1000000000 (a % b)).length ≤ (toL 1000000000 b).length := (toL_len hB2 _ _).2 (Nat.lt_trans hlt ((toL_len hB2 _ _).1 (Nat.le_refl _)))
      have ih := gcd_loop n k0 m b (a % b) (by omega) hb (by omega) (by omega) (by omega)
      simp (disch := (first | omega | (simp only [List.length_append, List.length_cons, List.length_nil, List.length_replicate, List.length_take, List.length_drop]; omega))) only [↓c_pos, ↓c_neg, dec_t, dec_f, Bool.and_true, Bool.true_and, Bool.and_false, Bool.false_and, Bool.not_true, Bool.not_false, cond_true, cond_false, inR_t, cutR_t, roomB_t, lenOK_t, w64, bs_size, List.length_append, List.length_cons, List.length_nil, bs_extract, bs_append, bs_push, bs_data, bs_empty, bs_lit, catS_bs, eqS_bs, ite_pos', ite_neg', decide_true, decide_false, if_true, if_false, toNatC, getI_nl, nl_len, nl_set, nl_set0, nl_take, nl_drop, nl_rep, nl_app, hdSz_nl, drop0, wu32, wu64, wu8, List.length_set, List.length_replicate, hN, hd]
      rw [ih, ← Nat.gcd_rec]
theorem gcd_eq (n a b : Nat) (hbn : b < n) (ha : (toL 1000000000 a).length < 2 ^ 19) (hb : (toL 1000000000 b).length < 2 ^ 19) (hn : (toL 1000000000 a).length + (toL 1000000000 b).length + 10 < n) (hn2 : (toL 1000000000 b).length + (toL 1000000000 b).length + 10 < n) (k0 : List PV → Option R) :
    p79 n (NN a) (NN b) k0 = k0 (NN (Nat.gcd b a)) := by
  unfold p79 p79_l1
  exact gcd_loop n _ n a b hbn ha hb hn hn2
end Go.Proofs.YtfbahcfojiaeaaaGreatDoor


set_option linter.unusedVariables false
set_option maxRecDepth 100000
namespace Go.Proofs.YtfbahcfojiaeaaaGreatDoor
open Go Th Go.Proofs
def ann45 : Ann := { loops := [(2, [(0, .id), (3, .own 98)], [(2, .id), (3, .id)])], cuts := [], frz := [], rm := [.id] }
noncomputable abbrev env45 (n : Nat) : Env := fun i => bif Nat.beq i 78 then some (fs78 n) else (fun i => bif Nat.beq i 77 then some (fs77 n) else (fun _ => none) i) i
theorem envok45 (n : Nat) : EnvOK Tryz.prog GI (env45 n) := EnvOK.cons (EnvOK.cons (EnvOK.nil) (ok77 n)) (ok78 n)
noncomputable def p45_l2B {R : Type} (n : Nat) (l0 : ByteArray → List PV → Option R) (x1 : ByteArray) (x2 : List PV) (k0 : List PV → Option R) : Option R :=
  bif (decide (((x1).size : Int) > 0)) then (let v3 := IntKind.i64.wrap (((x1).size : Int) - 9); bif (cutR (maxI 0 v3) ((x1).size : Int) (x1).size) then (atoiK (ByteArray.extract x1 (maxI 0 v3 : Int).toNat (((x1).size : Int) : Int).toNat) fun v4 => bif (lenOK ((x2).length + 1) 4) then (bif (cutR 0 (maxI 0 v3) (x1).size) then (l0 (ByteArray.extract x1 (0 : Int).toNat (maxI 0 v3 : Int).toNat) (x2 ++ ([.v (.int .u32 (IntKind.u32.wrap (v4)))] : List PV))) else none) else none) else none) else (k0 x2)
noncomputable def p45_l2L {R : Type} (n : Nat) : Nat → ByteArray → List PV → (List PV → Option R) → Option R
  | 0, _, _, _ => none
  | m + 1, x1, x2, k0 => p45_l2B n (fun x1 x2 => p45_l2L n m x1 x2 k0) x1 x2 k0
noncomputable def p45_l2 {R : Type} (n : Nat) (x1 : ByteArray) (x2 : List PV) (k0 : List PV → Option R) : Option R := p45_l2L n n x1 x2 k0
noncomputable def p45 {R : Type} (n : Nat) (x1 : ByteArray) (k0 : List PV → Option R) : Option R :=
  p45_l2 n x1 [] (fun y2 => p78 n y2 (fun y3 => k0 y3))
noncomputable abbrev E45 {R : Type} (n : Nat) (c : Code) : Fr → Kc R → Option R := evC Tryz.prog (env45 n) ann45 n (31, []) c
noncomputable def c45_l2 : Code := subC (bodyOf Tryz.f45) [1, 1, 0, 0, 0]
abbrev t45_l2 : Sl (List SV) := (.c (sP sStr) (.c (sOwn 98) .n))
noncomputable abbrev f45_l2 {R : Type} (n m : Nat) (K : Kc R) : t45_l2.T (Option R) := fun x1 x2 => p45_l2L n m x1 x2 (fun y1 => K (.exit 0) (lk (outA ann45.loops 2) [.dead, .own 98 y1]))
noncomputable abbrev o45_l2 {R : Type} (n : Nat) (vs : List SV) (K : Kc R) : Option R := oget (t45_l2.ap vs (f45_l2 n n K)) (loopE ann45 2 (E45 n c45_l2) n vs K)
noncomputable abbrev lo45 {R : Type} (n : Nat) : Orc R := fun i vs K => dcnd (Nat.beq i 2) (o45_l2 n vs K) (none)
noncomputable abbrev cu45 {R : Type} (n : Nat) : Orc R := fun i vs K => none
section
variable {R : Type}
noncomputable abbrev V45 (n : Nat) (c : Code) : Fr → Kc R → Option R := evOi Tryz.prog (env45 n) ann45 (31, []) (lo45 n) (cu45 n) c
abbrev K45 (R : Type) (n : Nat) := PartOK (R := R) Tryz.prog (env45 n) ann45 n (31, []) (lo45 n) (cu45 n)
theorem pa45_l2 (n : Nat) : allP (K45 R n) (partsOf ann45 c45_l2) := by
  rw [show partsOf ann45 c45_l2 = [] from by kernel_rfl]; exact trivial
theorem sp45_l2 (n m : Nat) (x1 : ByteArray) (x2 : List PV) (K : Kc R) : loopE ann45 2 (V45 n c45_l2) (m + 1) [.p (.v (.string x1)), .own 98 x2] K = p45_l2B n (fun x1 x2 => loopE ann45 2 (V45 n c45_l2) m [.p (.v (.string x1)), .own 98 x2] K) x1 x2 (fun y1 => K (.exit 0) (lk (outA ann45.loops 2) [.dead, .own 98 y1])) := by kernel_rfl
theorem ep45_l2 (n : Nat) (K : Kc R) : ∀ (m : Nat) (x1 : ByteArray) (x2 : List PV), loopE ann45 2 (V45 n c45_l2) m [.p (.v (.string x1)), .own 98 x2] K = f45_l2 n m K x1 x2
  | 0, _, _ => rfl
  | m + 1, x1, x2 => (sp45_l2 n m x1 x2 K).trans (congrArg (fun l0 => p45_l2B n l0 x1 x2 (fun y1 => K (.exit 0) (lk (outA ann45.loops 2) [.dead, .own 98 y1]))) (funext fun z0 => funext fun z1 => ep45_l2 n K m z0 z1))
theorem q45_l2 (n : Nat) : K45 R n (false, 2, c45_l2) := part_loop (pa45_l2 n) t45_l2 (f45_l2 n n) (fun K x1 x2 => ep45_l2 n K n x1 x2) fun _ _ => rfl
theorem pa45 (n : Nat) : allP (K45 R n) (partsOf ann45 (bodyOf Tryz.f45)) := by
  rw [show partsOf ann45 (bodyOf Tryz.f45) = [(false, 2, c45_l2)] from by kernel_rfl]; exact ⟨q45_l2 n, trivial⟩
end
abbrev t45 : Sl (List SV) := (.c (sP sStr) .n)
noncomputable abbrev f45 (n : Nat) {R : Type} (K : List SV → Option R) : t45.T (Option R) := fun x1 => p45 n x1 (fun y1 => K [.p (.sh y1)])
theorem ep45 {R : Type} (n : Nat) (K : List SV → Option R) (x1 : ByteArray) : evFn Tryz.prog (env45 n) ann45 n Tryz.f45 [.p (.v (.string x1))] K = f45 n K x1 := by
  rw [evFn_evOi (c := bodyOf Tryz.f45) (by kernel_rfl) (pa45 n)]; kernel_rfl
noncomputable abbrev fs45 (n : Nat) : FS := { om := [false], run := fun args K => oget (t45.ap args (f45 n K)) none }
theorem ok45 (n : Nat) : FSound Tryz.prog GI 45 (fs45 n) :=
  FSound.good (envok45 n) (ann := ann45) (n := n) Tryz.func45
    (.cons (envok45 n) t45 (f45 n) (fun K x1 => ep45 n K x1) .nil)
    (by kernel_rfl) (by kernel_rfl) (by kernel_rfl)
end Go.Proofs.YtfbahcfojiaeaaaGreatDoor


set_option linter.unusedVariables false
set_option maxRecDepth 100000
namespace Go.Proofs.YtfbahcfojiaeaaaGreatDoor
open Go Th Go.Proofs
def ann81 : Ann := { loops := [(5, [(0, .id), (3, .id), (4, .id)], [(2, .id), (3, .id)])], cuts := [(6, [(0, .id), (3, .id), (4, .id)], [(0, .id), (2, .id), (3, .id), (4, .id)])], frz := [], rm := [.id] }
noncomputable abbrev env81 (n : Nat) : Env := fun i => bif Nat.beq i 98 then some (fs98 n) else (fun i => bif Nat.beq i 97 then some (fs97 n) else (fun i => bif Nat.beq i 96 then some (fs96 n) else (fun i => bif Nat.beq i 95 then some (fs95 n) else (fun _ => none) i) i) i) i
theorem envok81 (n : Nat) : EnvOK Tryz.prog GI (env81 n) := EnvOK.cons (EnvOK.cons (EnvOK.cons (EnvOK.cons (EnvOK.nil) (ok95 n)) (ok96 n)) (ok97 n)) (ok98 n)
noncomputable def p81_c6 {R : Type} (n : Nat) (x1 : List PV) (x2 : ByteArray) (x3 : Int) (k0 : List PV → ByteArray → Int → Option R) : Option R :=
  k0 x1 x2 (IntKind.i64.wrap (x3 - 1))
noncomputable def p81_l5v1B {R : Type} (n : Nat) (l0 : List PV → ByteArray → Int → Option R) (x1 : List PV) (x2 : ByteArray) (x3 : Int) (k0 : ByteArray → Option R) : Option R :=
  bif (decide (x3 ≥ 0)) then (bif (inR x3 ((x1).length)) then (getI .u32 ((x1).getD ((x3 : Int).toNat) (.v (.bool false))) fun e4 => bif (i64R (IntKind.i64.wrap (e4))) then (let v5 := IntKind.i64.wrap (((x1).length : Int) - 1); bif (decide (x3 < v5)) then (let v6 := IntKind.i64.wrap (9 - ((itoaB (IntKind.i64.wrap (e4))).size : Int)); bif (decide ((0 : Int) ≤ v6) && decide ((v6 : Int) ≤ 9223372036854775807) && roomB (((⟨#[48]⟩ : ByteArray)).size * (v6 : Int).toNat)) then (catS (repB (⟨#[48]⟩ : ByteArray) v6) (itoaB (IntKind.i64.wrap (e4))) fun s7 => bif (roomB ((x2).size + (s7).size)) then (p81_c6 n x1 (x2 ++ s7) x3 (fun y8 y9 y10 => l0 y8 y9 y10)) else none) else none) else (bif (roomB ((x2).size + (itoaB (IntKind.i64.wrap (e4))).size)) then (p81_c6 n x1 (x2 ++ (itoaB (IntKind.i64.wrap (e4)))) x3 (fun y11 y12 y13 => l0 y11 y12 y13)) else none)) else none) else none) else (k0 x2)
noncomputable def p81_l5v1L {R : Type} (n : Nat) : Nat → List PV → ByteArray → Int → (ByteArray → Option R) → Option R
  | 0, _, _, _, _ => none
  | m + 1, x1, x2, x3, k0 => p81_l5v1B n (fun x1 x2 x3 => p81_l5v1L n m x1 x2 x3 k0) x1 x2 x3 k0
noncomputable def p81_l5B {R : Type} (n : Nat) (l0 : List PV → Int → Option R) (l1 : List PV → ByteArray → Int → Option R) (x1 : List PV) (x2 : Int) (k0 : ByteArray → Option R) (k1 : Option R) : Option R :=
  bif (decide (x2 ≥ 0)) then (bif (inR x2 ((x1).length)) then (getI .u32 ((x1).getD ((x2 : Int).toNat) (.v (.bool false))) fun e3 => bif (i64R (IntKind.i64.wrap (e3))) then (let v4 := IntKind.i64.wrap (((x1).length : Int) - 1); bif (decide (x2 < v4)) then (let v5 := IntKind.i64.wrap (9 - ((itoaB (IntKind.i64.wrap (e3))).size : Int)); bif (decide ((0 : Int) ≤ v5) && decide ((v5 : Int) ≤ 9223372036854775807) && roomB (((⟨#[48]⟩ : ByteArray)).size * (v5 : Int).toNat)) then (catS (repB (⟨#[48]⟩ : ByteArray) v5) (itoaB (IntKind.i64.wrap (e3))) fun s6 => bif (roomB ((ByteArray.empty).size + (s6).size)) then (p81_c6 n x1 (ByteArray.empty ++ s6) x2 (fun y7 y8 y9 => l1 y7 y8 y9)) else none) else none) else (bif (roomB ((ByteArray.empty).size + (itoaB (IntKind.i64.wrap (e3))).size)) then (p81_c6 n x1 (ByteArray.empty ++ (itoaB (IntKind.i64.wrap (e3)))) x2 (fun y10 y11 y12 => l1 y10 y11 y12)) else none)) else none) else none) else (k1)
noncomputable def p81_l5L {R : Type} (n : Nat) : Nat → List PV → Int → (ByteArray → Option R) → (Option R) → Option R
  | 0, _, _, _, _ => none
  | m + 1, x1, x2, k0, k1 => p81_l5B n (fun x1 x2 => p81_l5L n m x1 x2 k0 k1) (fun x1 x2 x3 => p81_l5v1L n m x1 x2 x3 k0) x1 x2 k0 k1
noncomputable def p81_l5 {R : Type} (n : Nat) (x1 : List PV) (x2 : Int) (k0 : ByteArray → Option R) (k1 : Option R) : Option R := p81_l5L n n x1 x2 k0 k1
noncomputable def p81 {R : Type} (n : Nat) (x1 : List PV) (k0 : ByteArray → Option R) : Option R :=
  bif (((x1).length : Int) == 0) then (k0 ⟨#[48]⟩) else (let v2 := IntKind.i64.wrap (((x1).length : Int) - 1); p81_l5 n x1 v2 (fun y3 => k0 y3) (k0 ByteArray.empty))
noncomputable abbrev E81 {R : Type} (n : Nat) (c : Code) : Fr → Kc R → Option R := evC Tryz.prog (env81 n) ann81 n (36, []) c
noncomputable def c81_c6 : Code := subC (bodyOf Tryz.f81) [1, 1, 1, 0, 1, 0, 0, 1, 1]
abbrev t81_c6 : Sl (List SV) := (.c (sP sSh) (.c (sOb 114 5) (.c (sP (sInt .i64)) .n)))
noncomputable abbrev f81_c6 {R : Type} (n : Nat) (K : Kc R) : t81_c6.T (Option R) := fun x1 x2 x3 => p81_c6 n x1 x2 x3 (fun y1 y2 y3 => K .normal (lk (outA ann81.cuts 6) [.p (.sh y1), .dead, .ob 114 5 y2, .p (.v (.int .i64 y3))]))
noncomputable abbrev o81_c6 {R : Type} (n : Nat) (vs : List SV) (K : Kc R) : Option R := oget (t81_c6.ap vs (f81_c6 n K)) (cutE ann81 6 (E81 n c81_c6) vs K)
noncomputable def c81_l5 : Code := subC (bodyOf Tryz.f81) [1, 1, 1, 0, 1, 0, 0]
abbrev t81_l5a : Sl (List SV) := (.c (sP sSh) (.c (sOb 114 5) (.c (sP (sInt .i64)) .n)))
noncomputable abbrev f81_l5a {R : Type} (n m : Nat) (K : Kc R) : t81_l5a.T (Option R) := fun x1 x2 x3 => p81_l5v1L n m x1 x2 x3 (fun y1 => K (.exit 0) (lk (outA ann81.loops 5) [.dead, .ob 114 5 y1]))
abbrev t81_l5b : Sl (List SV) := (.c (sP sSh) (.c (sBx 114 (.c (sP sNilPtr) (.c sNl .n))) (.c (sP (sInt .i64)) .n)))
noncomputable abbrev f81_l5b {R : Type} (n m : Nat) (K : Kc R) : t81_l5b.T (Option R) := fun x1 x2 => p81_l5L n m x1 x2 (fun y1 => K (.exit 0) (lk (outA ann81.loops 5) [.dead, .ob 114 5 y1])) (K (.exit 0) (lk (outA ann81.loops 5) [.dead, .bx 114 [.p (.v (.pointer none)), .nl]]))
noncomputable abbrev o81_l5 {R : Type} (n : Nat) (vs : List SV) (K : Kc R) : Option R := oget (t81_l5a.ap vs (f81_l5a n n K)) (oget (t81_l5b.ap vs (f81_l5b n n K)) (loopE ann81 5 (E81 n c81_l5) n vs K))
noncomputable abbrev lo81 {R : Type} (n : Nat) : Orc R := fun i vs K => dcnd (Nat.beq i 5) (o81_l5 n vs K) (none)
noncomputable abbrev cu81 {R : Type} (n : Nat) : Orc R := fun i vs K => dcnd (Nat.beq i 6) (o81_c6 n vs K) (none)
section
variable {R : Type}
noncomputable abbrev V81 (n : Nat) (c : Code) : Fr → Kc R → Option R := evOi Tryz.prog (env81 n) ann81 (36, []) (lo81 n) (cu81 n) c
abbrev K81 (R : Type) (n : Nat) := PartOK (R := R) Tryz.prog (env81 n) ann81 n (36, []) (lo81 n) (cu81 n)
theorem pa81_c6 (n : Nat) : allP (K81 R n) (partsOf ann81 c81_c6) := by
  rw [show partsOf ann81 c81_c6 = [] from by kernel_rfl]; exact trivial
theorem q81_c6 (n : Nat) : K81 R n (true, 6, c81_c6) := part_cut (pa81_c6 n) t81_c6 (f81_c6 n) (fun K x1 x2 x3 => by show cutE _ _ _ _ _ = _; kernel_rfl) fun _ _ => rfl
theorem pa81_l5 (n : Nat) : allP (K81 R n) (partsOf ann81 c81_l5) := by
  rw [show partsOf ann81 c81_l5 = [(true, 6, c81_c6)] from by kernel_rfl]; exact ⟨q81_c6 n, trivial⟩
theorem sp81_l5v1 (n m : Nat) (x1 : List PV) (x2 : ByteArray) (x3 : Int) (K : Kc R) : loopE ann81 5 (V81 n c81_l5) (m + 1) [.p (.sh x1), .ob 114 5 x2, .p (.v (.int .i64 x3))] K = p81_l5v1B n (fun x1 x2 x3 => loopE ann81 5 (V81 n c81_l5) m [.p (.sh x1), .ob 114 5 x2, .p (.v (.int .i64 x3))] K) x1 x2 x3 (fun y1 => K (.exit 0) (lk (outA ann81.loops 5) [.dead, .ob 114 5 y1])) := by kernel_rfl
theorem ep81_l5v1 (n : Nat) (K : Kc R) : ∀ (m : Nat) (x1 : List PV) (x2 : ByteArray) (x3 : Int), loopE ann81 5 (V81 n c81_l5) m [.p (.sh x1), .ob 114 5 x2, .p (.v (.int .i64 x3))] K = f81_l5a n m K x1 x2 x3
  | 0, _, _, _ => rfl
  | m + 1, x1, x2, x3 => (sp81_l5v1 n m x1 x2 x3 K).trans (congrArg (fun l0 => p81_l5v1B n l0 x1 x2 x3 (fun y1 => K (.exit 0) (lk (outA ann81.loops 5) [.dead, .ob 114 5 y1]))) (funext fun z0 => funext fun z1 => funext fun z2 => ep81_l5v1 n K m z0 z1 z2))
theorem sp81_l5 (n m : Nat) (x1 : List PV) (x2 : Int) (K : Kc R) : loopE ann81 5 (V81 n c81_l5) (m + 1) [.p (.sh x1), .bx 114 [.p (.v (.pointer none)), .nl], .p (.v (.int .i64 x2))] K = p81_l5B n (fun x1 x2 => loopE ann81 5 (V81 n c81_l5) m [.p (.sh x1), .bx 114 [.p (.v (.pointer none)), .nl], .p (.v (.int .i64 x2))] K) (fun x1 x2 x3 => loopE ann81 5 (V81 n c81_l5) m [.p (.sh x1), .ob 114 5 x2, .p (.v (.int .i64 x3))] K) x1 x2 (fun y1 => K (.exit 0) (lk (outA ann81.loops 5) [.dead, .ob 114 5 y1])) (K (.exit 0) (lk (outA ann81.loops 5) [.dead, .bx 114 [.p (.v (.pointer none)), .nl]])) := by kernel_rfl
theorem ep81_l5 (n : Nat) (K : Kc R) : ∀ (m : Nat) (x1 : List PV) (x2 : Int), loopE ann81 5 (V81 n c81_l5) m [.p (.sh x1), .bx 114 [.p (.v (.pointer none)), .nl], .p (.v (.int .i64 x2))] K = f81_l5b n m K x1 x2
  | 0, _, _ => rfl
  | m + 1, x1, x2 => (sp81_l5 n m x1 x2 K).trans (cg2 (fun l0 l1 => p81_l5B n l0 l1 x1 x2 (fun y1 => K (.exit 0) (lk (outA ann81.loops 5) [.dead, .ob 114 5 y1])) (K (.exit 0) (lk (outA ann81.loops 5) [.dead, .bx 114 [.p (.v (.pointer none)), .nl]]))) (funext fun z0 => funext fun z1 => ep81_l5 n K m z0 z1) (funext fun z0 => funext fun z1 => funext fun z2 => ep81_l5v1 n K m z0 z1 z2))
theorem q81_l5 (n : Nat) : K81 R n (false, 5, c81_l5) := part_loop (pa81_l5 n) t81_l5a (f81_l5a n n) (fun K x1 x2 x3 => ep81_l5v1 n K n x1 x2 x3) (part_loop (pa81_l5 n) t81_l5b (f81_l5b n n) (fun K x1 x2 => ep81_l5 n K n x1 x2) fun _ _ => rfl)
theorem pa81 (n : Nat) : allP (K81 R n) (partsOf ann81 (bodyOf Tryz.f81)) := by
  rw [show partsOf ann81 (bodyOf Tryz.f81) = [(false, 5, c81_l5)] from by kernel_rfl]; exact ⟨q81_l5 n, trivial⟩
end
abbrev t81 : Sl (List SV) := (.c (sP sSh) .n)
noncomputable abbrev f81 (n : Nat) {R : Type} (K : List SV → Option R) : t81.T (Option R) := fun x1 => p81 n x1 (fun y1 => K [.p (.v (.string y1))])
theorem ep81 {R : Type} (n : Nat) (K : List SV → Option R) (x1 : List PV) : evFn Tryz.prog (env81 n) ann81 n Tryz.f81 [.p (.sh x1)] K = f81 n K x1 := by
  rw [evFn_evOi (c := bodyOf Tryz.f81) (by kernel_rfl) (pa81 n)]; kernel_rfl
noncomputable abbrev fs81 (n : Nat) : FS := { om := [false], run := fun args K => oget (t81.ap args (f81 n K)) none }
theorem ok81 (n : Nat) : FSound Tryz.prog GI 81 (fs81 n) :=
  FSound.good (envok81 n) (ann := ann81) (n := n) Tryz.func81
    (.cons (envok81 n) t81 (f81 n) (fun K x1 => ep81 n K x1) .nil)
    (by kernel_rfl) (by kernel_rfl) (by kernel_rfl)
end Go.Proofs.YtfbahcfojiaeaaaGreatDoor


set_option linter.unusedVariables false
set_option maxRecDepth 100000
namespace Go.Proofs.YtfbahcfojiaeaaaGreatDoor
open Go Th Go.Proofs
def ann46 : Ann := { loops := [], cuts := [(5, [(1, .id), (4, .id), (24, .id)], [(1, .id), (2, .id), (3, .id)]), (7, [(1, .id)], [(2, .id), (3, .id)]), (10, [(1, .id), (5, .id), (6, .id)], [(2, .id), (3, .id)]), (12, [(5, .id), (6, .id)], [(2, .id), (3, .id)]), (14, [(5, .id)], [(2, .id), (3, .id)])], frz := [], rm := [.id, .id] }
noncomputable abbrev env46 (n : Nat) : Env := fun i => bif Nat.beq i 81 then some (fs81 n) else (fun i => bif Nat.beq i 80 then some (fs80 n) else (fun i => bif Nat.beq i 79 then some (fs79 n) else (fun _ => none) i) i) i
theorem envok46 (n : Nat) : EnvOK Tryz.prog GI (env46 n) := EnvOK.cons (EnvOK.cons (EnvOK.cons (EnvOK.nil) (ok79 n)) (ok80 n)) (ok81 n)
noncomputable def p46_c5 {R : Type} (n : Nat) (x1 : Bool) (x2 x3 x4 : List PV) (x5 : Bool) (k0 : Bool → List PV → List PV → Option R) : Option R :=
  bif x5 then (p80 n x2 x4 (fun y6 y7 => p80 n x3 x4 (fun y8 y9 => k0 x1 y6 y8))) else (k0 x1 x2 x3)
noncomputable def p46_c14 {R : Type} (n : Nat) (x1 : ByteArray) (k0 : ByteArray → Int → Option R) : Option R :=
  k0 x1 0
noncomputable def p46_c12 {R : Type} (n : Nat) (x1 x2 : ByteArray) (k0 : ByteArray → Int → Option R) : Option R :=
  bif (!eqS x2 (⟨#[49]⟩ : ByteArray)) then (catS (⟨#[47]⟩ : ByteArray) x2 fun s3 => catS x1 s3 fun s4 => p46_c14 n s4 (fun y5 y6 => k0 y5 y6)) else (p46_c14 n x1 (fun y7 y8 => k0 y7 y8))
noncomputable def p46_c10 {R : Type} (n : Nat) (x1 : Bool) (x2 x3 : List PV) (x4 x5 : ByteArray) (k0 : ByteArray → Int → Option R) : Option R :=
  bif x1 then (catS (⟨#[45]⟩ : ByteArray) x4 fun s6 => p46_c12 n s6 x5 (fun y7 y8 => k0 y7 y8)) else (p46_c12 n x4 x5 (fun y9 y10 => k0 y9 y10))
noncomputable def p46_c7 {R : Type} (n : Nat) (x1 : Bool) (x2 x3 : List PV) (k0 : ByteArray → Int → Option R) : Option R :=
  p81 n x2 (fun y4 => p81 n x3 (fun y5 => bif (decide (((y4).size : Int) > 400)) then (bif true then (bif true then (bif true then (bif true then (k0 ⟨#[]⟩ 5) else none) else none) else none) else none) else (bif false then none else (bif false then none else (bif (bif false then true else (decide (((y5).size : Int) > 400))) then (k0 ⟨#[]⟩ 5) else (p46_c10 n x1 x2 x3 y4 y5 (fun y6 y7 => k0 y6 y7)))))))
noncomputable def p46 {R : Type} (n : Nat) (x1 : Bool) (x2 x3 : List PV) (k0 : ByteArray → Int → Option R) : Option R :=
  bif (((x2).length : Int) == 0) then (k0 ⟨#[48]⟩ 0) else (p79 n x2 x3 (fun y4 => bif (decide (((y4).length : Int) > 1)) then (bif true then (bif true then (bif true then (bif true then (p46_c5 n x1 x2 x3 y4 true (fun y5 y6 y7 => p46_c7 n y5 y6 y7 (fun y8 y9 => k0 y8 y9))) else none) else none) else none) else none) else (bif false then none else (bif (inR 0 ((y4).length)) then (getI .u32 ((y4).getD ((0 : Int).toNat) (.v (.bool false))) fun e10 => bif false then none else (bif false then none else (p46_c5 n x1 x2 x3 y4 (bif false then true else (decide (e10 > 1))) (fun y11 y12 y13 => p46_c7 n y11 y12 y13 (fun y14 y15 => k0 y14 y15))))) else none))))
noncomputable abbrev E46 {R : Type} (n : Nat) (c : Code) : Fr → Kc R → Option R := evC Tryz.prog (env46 n) ann46 n (66, []) c
noncomputable def c46_c5 : Code := subC (bodyOf Tryz.f46) [1, 1, 0, 1, 1]
abbrev t46_c5 : Sl (List SV) := (.c (sBx 65 (.c (sP sBool) (.c (sP sSh) (.c (sP sSh) .n)))) (.c (sP sSh) (.c (sP sBool) .n)))
noncomputable abbrev f46_c5 {R : Type} (n : Nat) (K : Kc R) : t46_c5.T (Option R) := fun x1 x2 x3 x4 x5 => p46_c5 n x1 x2 x3 x4 x5 (fun y1 y2 y3 => K .normal (lk (outA ann46.cuts 5) [.bx 65 [.p (.v (.bool y1)), .p (.sh y2), .p (.sh y3)], .dead, .dead]))
noncomputable abbrev o46_c5 {R : Type} (n : Nat) (vs : List SV) (K : Kc R) : Option R := oget (t46_c5.ap vs (f46_c5 n K)) (cutE ann46 5 (E46 n c46_c5) vs K)
noncomputable def c46_c7 : Code := subC (bodyOf Tryz.f46) [1, 1, 1]
abbrev t46_c7 : Sl (List SV) := (.c (sBx 65 (.c (sP sBool) (.c (sP sSh) (.c (sP sSh) .n)))) .n)
noncomputable abbrev f46_c7 {R : Type} (n : Nat) (K : Kc R) : t46_c7.T (Option R) := fun x1 x2 x3 => p46_c7 n x1 x2 x3 (fun y1 y2 => K .ret (lk (outA ann46.cuts 7) [.p (.v (.string y1)), .p (.v (.int .i64 y2))]))
noncomputable abbrev o46_c7 {R : Type} (n : Nat) (vs : List SV) (K : Kc R) : Option R := oget (t46_c7.ap vs (f46_c7 n K)) (cutE ann46 7 (E46 n c46_c7) vs K)
noncomputable def c46_c10 : Code := subC (bodyOf Tryz.f46) [1, 1, 1, 1, 1]
abbrev t46_c10 : Sl (List SV) := (.c (sBx 65 (.c (sP sBool) (.c (sP sSh) (.c (sP sSh) .n)))) (.c (sP sStr) (.c (sP sStr) .n)))
noncomputable abbrev f46_c10 {R : Type} (n : Nat) (K : Kc R) : t46_c10.T (Option R) := fun x1 x2 x3 x4 x5 => p46_c10 n x1 x2 x3 x4 x5 (fun y1 y2 => K .ret (lk (outA ann46.cuts 10) [.p (.v (.string y1)), .p (.v (.int .i64 y2))]))
noncomputable abbrev o46_c10 {R : Type} (n : Nat) (vs : List SV) (K : Kc R) : Option R := oget (t46_c10.ap vs (f46_c10 n K)) (cutE ann46 10 (E46 n c46_c10) vs K)
noncomputable def c46_c12 : Code := subC (bodyOf Tryz.f46) [1, 1, 1, 1, 1, 1]
abbrev t46_c12 : Sl (List SV) := (.c (sP sStr) (.c (sP sStr) .n))
noncomputable abbrev f46_c12 {R : Type} (n : Nat) (K : Kc R) : t46_c12.T (Option R) := fun x1 x2 => p46_c12 n x1 x2 (fun y1 y2 => K .ret (lk (outA ann46.cuts 12) [.p (.v (.string y1)), .p (.v (.int .i64 y2))]))
noncomputable abbrev o46_c12 {R : Type} (n : Nat) (vs : List SV) (K : Kc R) : Option R := oget (t46_c12.ap vs (f46_c12 n K)) (cutE ann46 12 (E46 n c46_c12) vs K)
noncomputable def c46_c14 : Code := subC (bodyOf Tryz.f46) [1, 1, 1, 1, 1, 1, 1]
abbrev t46_c14 : Sl (List SV) := (.c (sP sStr) .n)
noncomputable abbrev f46_c14 {R : Type} (n : Nat) (K : Kc R) : t46_c14.T (Option R) := fun x1 => p46_c14 n x1 (fun y1 y2 => K .ret (lk (outA ann46.cuts 14) [.p (.v (.string y1)), .p (.v (.int .i64 y2))]))
noncomputable abbrev o46_c14 {R : Type} (n : Nat) (vs : List SV) (K : Kc R) : Option R := oget (t46_c14.ap vs (f46_c14 n K)) (cutE ann46 14 (E46 n c46_c14) vs K)
noncomputable abbrev lo46 {R : Type} (n : Nat) : Orc R := fun i vs K => none
noncomputable abbrev cu46 {R : Type} (n : Nat) : Orc R := fun i vs K => dcnd (Nat.beq i 14) (o46_c14 n vs K) (dcnd (Nat.beq i 12) (o46_c12 n vs K) (dcnd (Nat.beq i 10) (o46_c10 n vs K) (dcnd (Nat.beq i 7) (o46_c7 n vs K) (dcnd (Nat.beq i 5) (o46_c5 n vs K) (none)))))
section
variable {R : Type}
abbrev K46 (R : Type) (n : Nat) := PartOK (R := R) Tryz.prog (env46 n) ann46 n (66, []) (lo46 n) (cu46 n)
theorem pa46_c5 (n : Nat) : allP (K46 R n) (partsOf ann46 c46_c5) := by
  rw [show partsOf ann46 c46_c5 = [] from by kernel_rfl]; exact trivial
theorem q46_c5 (n : Nat) : K46 R n (true, 5, c46_c5) := part_cut (pa46_c5 n) t46_c5 (f46_c5 n) (fun K x1 x2 x3 x4 x5 => by show cutE _ _ _ _ _ = _; kernel_rfl) fun _ _ => rfl
theorem pa46_c14 (n : Nat) : allP (K46 R n) (partsOf ann46 c46_c14) := by
  rw [show partsOf ann46 c46_c14 = [] from by kernel_rfl]; exact trivial
theorem q46_c14 (n : Nat) : K46 R n (true, 14, c46_c14) := part_cut (pa46_c14 n) t46_c14 (f46_c14 n) (fun K x1 => by show cutE _ _ _ _ _ = _; kernel_rfl) fun _ _ => rfl
theorem pa46_c12 (n : Nat) : allP (K46 R n) (partsOf ann46 c46_c12) := by
  rw [show partsOf ann46 c46_c12 = [(true, 14, c46_c14)] from by kernel_rfl]; exact ⟨q46_c14 n, trivial⟩
theorem q46_c12 (n : Nat) : K46 R n (true, 12, c46_c12) := part_cut (pa46_c12 n) t46_c12 (f46_c12 n) (fun K x1 x2 => by show cutE _ _ _ _ _ = _; kernel_rfl) fun _ _ => rfl
theorem pa46_c10 (n : Nat) : allP (K46 R n) (partsOf ann46 c46_c10) := by
  rw [show partsOf ann46 c46_c10 = [(true, 12, c46_c12)] from by kernel_rfl]; exact ⟨q46_c12 n, trivial⟩
theorem q46_c10 (n : Nat) : K46 R n (true, 10, c46_c10) := part_cut (pa46_c10 n) t46_c10 (f46_c10 n) (fun K x1 x2 x3 x4 x5 => by show cutE _ _ _ _ _ = _; kernel_rfl) fun _ _ => rfl
theorem pa46_c7 (n : Nat) : allP (K46 R n) (partsOf ann46 c46_c7) := by
  rw [show partsOf ann46 c46_c7 = [(true, 10, c46_c10)] from by kernel_rfl]; exact ⟨q46_c10 n, trivial⟩
theorem q46_c7 (n : Nat) : K46 R n (true, 7, c46_c7) := part_cut (pa46_c7 n) t46_c7 (f46_c7 n) (fun K x1 x2 x3 => by show cutE _ _ _ _ _ = _; kernel_rfl) fun _ _ => rfl
theorem pa46 (n : Nat) : allP (K46 R n) (partsOf ann46 (bodyOf Tryz.f46)) := by
  rw [show partsOf ann46 (bodyOf Tryz.f46) = [(true, 5, c46_c5), (true, 7, c46_c7)] from by kernel_rfl]; exact ⟨q46_c5 n, q46_c7 n, trivial⟩
end
abbrev t46 : Sl (List SV) := (.c (sP (sAgg (.c sBool (.c sSh (.c sSh .n))))) .n)
noncomputable abbrev f46 (n : Nat) {R : Type} (K : List SV → Option R) : t46.T (Option R) := fun x1 x2 x3 => p46 n x1 x2 x3 (fun y1 y2 => K [.p (.v (.string y1)), .p (.v (.int .i64 y2))])
theorem ep46 {R : Type} (n : Nat) (K : List SV → Option R) (x1 : Bool) (x2 x3 : List PV) : evFn Tryz.prog (env46 n) ann46 n Tryz.f46 [.p (.agg [.v (.bool x1), .sh x2, .sh x3])] K = f46 n K x1 x2 x3 := by
  rw [evFn_evOi (c := bodyOf Tryz.f46) (by kernel_rfl) (pa46 n)]; kernel_rfl
noncomputable abbrev fs46 (n : Nat) : FS := { om := [false], run := fun args K => oget (t46.ap args (f46 n K)) none }
theorem ok46 (n : Nat) : FSound Tryz.prog GI 46 (fs46 n) :=
  FSound.good (envok46 n) (ann := ann46) (n := n) Tryz.func46
    (.cons (envok46 n) t46 (f46 n) (fun K x1 x2 x3 => ep46 n K x1 x2 x3) .nil)
    (by kernel_rfl) (by kernel_rfl) (by kernel_rfl)
end Go.Proofs.YtfbahcfojiaeaaaGreatDoor
