/- Proved: part 4 of the proof that the law RationalSums returns true at all its arguments (no further conditions). -/
import Derived.Test.YtfbahcfojiaeaaaGreatDoorT2
import Derived.Lib.ItoaNum
import Derived.Lib.AtoiAll
import Derived.Test.YtfbahcfojiaeaaaGreatDoorT1
import Derived.Test.YtfbahcfojiaeaaaGreatDoorProg

set_option linter.unusedVariables false
set_option linter.unusedSimpArgs false
namespace Go.Proofs.YtfbahcfojiaeaaaGreatDoor
open Go Th Go.Proofs
def val (b : Nat) : List Nat → Nat
  | [] => 0
  | d :: r => d + b * val b r
def toL (b : Nat) (n : Nat) : List Nat :=
  if h : n = 0 ∨ b < 2 then [] else n % b :: toL b (n / b)
termination_by n
decreasing_by
  have : 2 ≤ b := by omega
  exact Nat.div_lt_self (by omega) this
theorem toL_zero (b : Nat) : toL b 0 = [] := by unfold toL; simp
theorem toL_pos {b n : Nat} (hb : 2 ≤ b) (h : n ≠ 0) : toL b n = n % b :: toL b (n / b) := by
  conv => lhs; unfold toL
  rw [dif_neg (by omega)]
theorem val_toL {b : Nat} (hb : 2 ≤ b) (n : Nat) : val b (toL b n) = n := by
  induction n using Nat.strongRecOn with
  | _ n ih =>
    by_cases h : n = 0
    · subst h; rw [toL_zero]; rfl
    · rw [toL_pos hb h, val, ih (n / b) (Nat.div_lt_self (by omega) hb)]
      exact Nat.mod_add_div n b
theorem toL_lt {b : Nat} (hb : 2 ≤ b) (n : Nat) : ∀ d ∈ toL b n, d < b := by
  induction n using Nat.strongRecOn with
  | _ n ih =>
    by_cases h : n = 0
    · subst h; rw [toL_zero]; intro d hd; cases hd
    · rw [toL_pos hb h]
      intro d hd
      rcases List.mem_cons.1 hd with rfl | hd
      · exact Nat.mod_lt _ (by omega)
      · exact ih (n / b) (Nat.div_lt_self (by omega) hb) d hd
theorem toL_eq_nil {b n : Nat} (hb : 2 ≤ b) : toL b n = [] ↔ n = 0 := by
  constructor
  · intro h
    have := val_toL hb n
    rw [h] at this
    exact this.symm
  · rintro rfl; exact toL_zero b
theorem val_append (b : Nat) : ∀ (x y : List Nat), val b (x ++ y) = val b x + b ^ x.length * val b y
  | [], y => by simp [val]
  | d :: x, y => by
    simp only [List.cons_append, val, List.length_cons, val_append b x y, Nat.pow_succ]
    rw [Nat.mul_add, ← Nat.mul_assoc, Nat.mul_comm (b ^ x.length) b]; omega
theorem val_snoc (b : Nat) (x : List Nat) (d : Nat) : val b (x ++ [d]) = val b x + b ^ x.length * d := by
  rw [val_append]; simp [val]
theorem val_zeros (b k : Nat) : val b (List.replicate k 0) = 0 := by
  induction k with
  | zero => rfl
  | succ k ih => simp [List.replicate_succ, val, ih]
theorem val_lt {b : Nat} (hb : 2 ≤ b) : ∀ (l : List Nat), (∀ d ∈ l, d < b) → val b l < b ^ l.length
  | [], _ => by simp [val]
  | d :: r, h => by
    have h1 := val_lt hb r fun x hx => h x (List.mem_cons_of_mem _ hx)
    have h2 := h d (List.mem_cons_self ..)
    simp only [val, List.length_cons, Nat.pow_succ]
    have : b * val b r + b ≤ b ^ r.length * b := by
      rw [Nat.mul_comm (b ^ r.length) b, ← Nat.mul_succ]
      exact Nat.mul_le_mul_left b h1
    omega
theorem toL_val {b : Nat} (hb : 2 ≤ b) : ∀ (l : List Nat), (∀ d ∈ l, d < b) → l.getLast? ≠ some 0 → toL b (val b l) = l
  | [], _, _ => toL_zero b
  | d :: r, h, hl => by
    have hd := h d (List.mem_cons_self ..)
    have hr : r.getLast? ≠ some 0 := by
      intro e
      cases r with
      | nil => cases e
      | cons x r => rw [List.getLast?_cons_cons] at hl; exact hl e
    have ih := toL_val hb r (fun x hx => h x (List.mem_cons_of_mem _ hx)) hr
    have hne : val b (d :: r) ≠ 0 := by
      intro e
      simp only [val, Nat.add_eq_zero_iff, Nat.mul_eq_zero] at e
      have hv : val b r = 0 := by omega
      rw [hv, toL_zero] at ih
      rw [← ih] at hl
      exact hl (by rw [e.1]; rfl)
    rw [toL_pos hb hne]
    simp only [val]
    rw [Nat.add_mul_mod_self_left, Nat.mod_eq_of_lt hd, Nat.add_mul_div_left _ _ (by omega), Nat.div_eq_of_lt hd, Nat.zero_add, ih]
theorem val_snoc_zero (b : Nat) (l : List Nat) : val b (l ++ [0]) = val b l := by rw [val_snoc]; simp
theorem toL_len {b : Nat} (hb : 2 ≤ b) (n k : Nat) : (toL b n).length ≤ k ↔ n < b ^ k := by
  induction k generalizing n with
  | zero =>
    rw [Nat.pow_zero]
    constructor
    · intro h
      have : toL b n = [] := List.eq_nil_of_length_eq_zero (by omega)
      rw [toL_eq_nil hb] at this; omega
    · intro h
      have : n = 0 := by omega
      subst this
      rw [toL_zero]; exact Nat.le_refl _
  | succ k ih =>
    by_cases h : n = 0
    · subst h; rw [toL_zero]; simp; exact Nat.pow_pos (by omega)
    · rw [toL_pos hb h, List.length_cons, Nat.succ_le_succ_iff, ih, Nat.pow_succ, Nat.mul_comm, Nat.div_lt_iff_lt_mul (by omega), Nat.mul_comm]
theorem toL_lt_len {b : Nat} (hb : 2 ≤ b) {x y : Nat} (h : (toL b x).length < (toL b y).length) : x < y := by
  have h1 := (toL_len hb x (toL b x).length).1 (Nat.le_refl _)
  have h2 : ¬ y < b ^ (toL b x).length := fun q => by have := (toL_len hb y _).2 q; omega
  omega
theorem toL_last {b : Nat} (hb : 2 ≤ b) (n : Nat) : (toL b n).getLast? ≠ some 0 := by
  induction n using Nat.strongRecOn with
  | _ n ih =>
    by_cases h : n = 0
    · subst h; rw [toL_zero]; simp
    · rw [toL_pos hb h]
      by_cases h2 : n / b = 0
      · rw [h2, toL_zero]
        have : n < b := by
          rcases (Nat.div_eq_zero_iff).1 h2 with q | q <;> omega
        rw [Nat.mod_eq_of_lt this]
        simpa using h
      · have := ih (n / b) (Nat.div_lt_self (by omega) hb)
        rw [toL_pos hb h2] at this ⊢
        rw [List.getLast?_cons_cons]
        exact this
theorem take_succ_getD {l : List Nat} {i : Nat} (h : i < l.length) : l.take (i + 1) = l.take i ++ [l.getD i 0] := by
  rw [List.take_succ_eq_append_getElem h, List.getD_eq_getElem?_getD, List.getElem?_eq_getElem h]; rfl
theorem val_take_succ (b : Nat) {l : List Nat} {i : Nat} (h : i < l.length) : val b (l.take (i + 1)) = val b (l.take i) + b ^ i * l.getD i 0 := by
  rw [take_succ_getD h, val_snoc, List.length_take, Nat.min_eq_left (by omega)]
theorem val_take_lt {b : Nat} (hb : 2 ≤ b) {l : List Nat} (hl : ∀ d ∈ l, d < b) {i : Nat} (h : i ≤ l.length) : val b (l.take i) < b ^ i := by
  have := val_lt hb (l.take i) fun x hx => hl x (List.mem_of_mem_take hx)
  rwa [List.length_take, Nat.min_eq_left h] at this
theorem getD_lt {b : Nat} (hb : 2 ≤ b) {l : List Nat} (hl : ∀ d ∈ l, d < b) (i : Nat) : l.getD i 0 < b := by
  rw [List.getD_eq_getElem?_getD]
  cases h : l[i]? with
  | none => simp; omega
  | some x => exact hl x (List.mem_of_getElem? h)
theorem val_drop (b : Nat) (l : List Nat) (i : Nat) (h : i ≤ l.length) : val b l = val b (l.take i) + b ^ i * val b (l.drop i) := by
  conv => lhs; rw [← List.take_append_drop i l]
  rw [val_append, List.length_take, Nat.min_eq_left h]
theorem set_take {l : List Nat} {i : Nat} (d : Nat) (h : i < l.length) : (l.set i d).take (i + 1) = l.take i ++ [d] := by
  rw [take_succ_getD (by rw [List.length_set]; exact h), List.take_set_of_le (Nat.le_refl _), List.getD_eq_getElem?_getD, List.getElem?_set_self h]; rfl
theorem set_lt {b : Nat} {l : List Nat} (hl : ∀ d ∈ l, d < b) {x : Nat} (hx : x < b) (i : Nat) : ∀ d ∈ l.set i x, d < b := by
  intro d hd
  rcases List.mem_or_eq_of_mem_set hd with h | h
  · exact hl d h
  · rw [h]; exact hx
theorem val_set (b : Nat) {l : List Nat} {i : Nat} (d : Nat) (h : i < l.length) : val b (l.set i d) + b ^ i * l.getD i 0 = val b l + b ^ i * d := by
  have h1 := val_drop b (l.set i d) (i + 1) (by rw [List.length_set]; omega)
  have h2 := val_drop b l (i + 1) (by omega)
  rw [set_take d h, List.drop_set_of_lt (by omega), val_snoc, List.length_take, Nat.min_eq_left (by omega)] at h1
  rw [val_take_succ b h] at h2
  omega
theorem rep_lt {b : Nat} (hb : 2 ≤ b) (n : Nat) : ∀ d ∈ List.replicate n 0, d < b := by
  intro d hd
  rw [List.mem_replicate] at hd
  omega
theorem val_take_succ' (b : Nat) (l : List Nat) (i : Nat) : val b (l.take (i + 1)) = val b (l.take i) + b ^ i * l.getD i 0 := by
  by_cases h : i < l.length
  · exact val_take_succ b h
  · rw [List.take_of_length_le (by omega), List.take_of_length_le (by omega), List.getD_eq_getElem?_getD, List.getElem?_eq_none (by omega)]; simp
theorem getD_out {l : List Nat} {i : Nat} (h : l.length ≤ i) : l.getD i 0 = 0 := by rw [List.getD_eq_getElem?_getD, List.getElem?_eq_none h]; rfl
theorem digit_step (b i v c s : Nat) (hb : 0 < b) : v + b ^ i * (s % b) + b ^ (i + 1) * (s / b) = v + b ^ i * s := by
  rw [Nat.pow_succ, Nat.mul_assoc, Nat.add_assoc, ← Nat.mul_add, Nat.mod_add_div]
theorem take_full {l : List Nat} {i : Nat} (h : l.length = i + 1) (d : Nat) : l.set i d = l.take i ++ [d] := by
  have := set_take d (l := l) (i := i) (by omega)
  rw [List.take_of_length_le (by rw [List.length_set]; omega)] at this
  exact this
end Go.Proofs.YtfbahcfojiaeaaaGreatDoor


set_option linter.unusedVariables false
set_option linter.unusedSimpArgs false
namespace Go.Proofs.YtfbahcfojiaeaaaGreatDoor
open Go Th Go.Proofs
theorem hT2 : 2 ≤ 10 := by decide
def ch (d : Nat) : UInt8 := UInt8.ofNat (48 + d)
theorem ch_toNat {d : Nat} (h : d < 10) : (ch d).toNat = 48 + d := by
  unfold ch; rw [UInt8.toNat_ofNat']; omega
def DL (a : Nat) : List Nat := (toL 10 a).reverse
abbrev dec (a : Nat) : List UInt8 := Lib.decDigits a
theorem dec_small {a : Nat} (h : a < 10) : dec a = [ch a] := by unfold dec; rw [Lib.decDigits, dif_pos h]; rfl
theorem dec_big {a : Nat} (h : 10 ≤ a) : dec a = dec (a / 10) ++ [ch (a % 10)] := by
  unfold dec; rw [Lib.decDigits, dif_neg (by omega)]; rfl
theorem dec_zero : dec 0 = [48] := dec_small (by omega)
theorem toL_dig {x : Nat} (h0 : x ≠ 0) (hx : x < 10) : toL 10 x = [x] := by
  rw [toL_pos hT2 h0, Nat.mod_eq_of_lt hx, Nat.div_eq_of_lt hx, toL_zero]
theorem dec_pos (a : Nat) (h : a ≠ 0) : dec a = (DL a).map ch := by
  induction a using Nat.strongRecOn with
  | _ a ih =>
    unfold DL
    by_cases h1 : a < 10
    · rw [dec_small h1, toL_dig h h1]; rfl
    · rw [dec_big (by omega), ih (a / 10) (by omega) (by omega), toL_pos hT2 h, List.reverse_cons, List.map_append]; rfl
theorem DL_lt (a : Nat) : ∀ d ∈ DL a, d < 10 := fun d h => toL_lt hT2 a d (List.mem_reverse.1 h)
theorem DL_zero : DL 0 = [] := by unfold DL; rw [toL_zero]; rfl
theorem DL_nil {a : Nat} : DL a = [] ↔ a = 0 := by unfold DL; rw [List.reverse_eq_nil_iff, toL_eq_nil hT2]
theorem DL_len (a k : Nat) : (DL a).length ≤ k ↔ a < 10 ^ k := by unfold DL; rw [List.length_reverse, toL_len hT2]
def vb (l : List Nat) : Nat := val 10 l.reverse
theorem vb_nil : vb [] = 0 := rfl
theorem vb_snoc (l : List Nat) (d : Nat) : vb (l ++ [d]) = 10 * vb l + d := by unfold vb; rw [List.reverse_append]; simp [val]; omega
theorem vb_append (x y : List Nat) : vb (x ++ y) = vb x * 10 ^ y.length + vb y := by
  unfold vb; rw [List.reverse_append, val_append, List.length_reverse, Nat.mul_comm]; omega
theorem vb_cons (d : Nat) (l : List Nat) : vb (d :: l) = d * 10 ^ l.length + vb l := by
  have := vb_append [d] l
  rw [show vb [d] = d from by simp [vb, val]] at this
  exact this
theorem vb_DL (a : Nat) : vb (DL a) = a := by unfold vb DL; rw [List.reverse_reverse, val_toL hT2]
theorem vb_lt (l : List Nat) (h : ∀ d ∈ l, d < 10) : vb l < 10 ^ l.length := by
  have := val_lt hT2 l.reverse fun d hd => h d (List.mem_reverse.1 hd)
  rwa [List.length_reverse] at this
theorem DL_vb {l : List Nat} (h : ∀ d ∈ l, d < 10) (hl : l.head? ≠ some 0) : DL (vb l) = l := by
  unfold DL vb
  rw [toL_val hT2 l.reverse (fun d hd => h d (List.mem_reverse.1 hd)) (by rw [List.getLast?_reverse]; exact hl), List.reverse_reverse]
theorem DL_head (a : Nat) : (DL a).head? ≠ some 0 := by
  unfold DL; rw [List.head?_reverse]; exact toL_last hT2 a
def isD (c : UInt8) : Bool := decide (48 ≤ c.toNat) && decide (c.toNat ≤ 57)
theorem isD_iff {c : UInt8} : isD c = true ↔ 48 ≤ c.toNat ∧ c.toNat ≤ 57 := by simp [isD]
def dg (s : List UInt8) : List Nat := s.map fun c => c.toNat - 48
theorem dg_lt {s : List UInt8} (h : ∀ c ∈ s, isD c = true) : ∀ d ∈ dg s, d < 10 := by
  intro d hd
  simp only [dg, List.mem_map] at hd
  obtain ⟨c, hc, rfl⟩ := hd
  have := isD_iff.1 (h c hc)
  omega
theorem ch_dg {s : List UInt8} (h : ∀ c ∈ s, isD c = true) : (dg s).map ch = s := by
  unfold dg
  rw [List.map_map]
  conv => rhs; rw [← List.map_id s]
  apply List.map_congr_left
  intro c hc
  have := isD_iff.1 (h c hc)
  simp only [Function.comp, id]
  apply UInt8.toNat_inj.1
  rw [ch_toNat (by omega)]; omega
theorem dg_ch {l : List Nat} (h : ∀ d ∈ l, d < 10) : dg (l.map ch) = l := by
  unfold dg
  rw [List.map_map]
  conv => rhs; rw [← List.map_id l]
  apply List.map_congr_left
  intro d hd
  simp only [Function.comp, id]
  rw [ch_toNat (h d hd)]; omega
theorem isD_ch {l : List Nat} (h : ∀ d ∈ l, d < 10) : ∀ c ∈ l.map ch, isD c = true := by
  intro c hc
  rw [List.mem_map] at hc
  obtain ⟨d, hd, rfl⟩ := hc
  have := h d hd
  rw [isD_iff, ch_toNat this]; omega
def ofD (s : List UInt8) : Nat := vb (dg s)
theorem ofD_append (s t : List UInt8) : ofD (s ++ t) = ofD s * 10 ^ t.length + ofD t := by
  unfold ofD dg; rw [List.map_append, vb_append, List.length_map]
theorem ofD_lt {s : List UInt8} (h : ∀ c ∈ s, isD c = true) : ofD s < 10 ^ s.length := by
  have := vb_lt (dg s) (dg_lt h)
  rwa [dg, List.length_map] at this
theorem dec_isD (a : Nat) : ∀ c ∈ dec a, isD c = true := by
  by_cases h : a = 0
  · subst h; rw [dec_zero]; intro c hc; simp at hc; subst hc; rfl
  · rw [dec_pos a h]; exact isD_ch (DL_lt a)
theorem ofD_dec (a : Nat) : ofD (dec a) = a := by
  by_cases h : a = 0
  · subst h; rw [dec_zero]; rfl
  · rw [dec_pos a h, ofD, dg_ch (DL_lt a), vb_DL]
theorem dec_inj {a b : Nat} (h : dec a = dec b) : a = b := by rw [← ofD_dec a, h, ofD_dec]
theorem dec_ne (a : Nat) : dec a ≠ [] := by
  by_cases h : a = 0
  · subst h; rw [dec_zero]; simp
  · rw [dec_pos a h]; simp [DL_nil, h]
theorem dec_len (a k : Nat) (hk : 1 ≤ k) : (dec a).length ≤ k ↔ a < 10 ^ k := by
  by_cases h : a = 0
  · subst h; rw [dec_zero]
    have : 0 < 10 ^ k := Nat.pow_pos (by omega)
    simp [hk, this]
  · rw [dec_pos a h, List.length_map, DL_len]
theorem dec_ofD {s : List UInt8} (h : ∀ c ∈ s, isD c = true) (h0 : s ≠ []) (h1 : s.head? ≠ some 48 ∨ s.length = 1) : dec (ofD s) = s := by
  by_cases hz : s = [48]
  · subst hz; rw [show ofD [48] = 0 from rfl, dec_zero]
  · have hh : s.head? ≠ some 48 := by
      rcases h1 with h1 | h1
      · exact h1
      · intro e
        match s, h1, e with
        | [c], _, e => simp at e; subst e; exact hz rfl
    have hd : (dg s).head? ≠ some 0 := by
      match s, h0 with
      | c :: r, _ =>
        simp only [dg, List.map_cons, List.head?_cons, ne_eq, Option.some.injEq] at hh ⊢
        have := isD_iff.1 (h c (List.mem_cons_self ..))
        intro e
        exact hh (by apply UInt8.toNat_inj.1; show c.toNat = 48; omega)
    have hD := DL_vb (dg_lt h) hd
    have hne : ofD s ≠ 0 := by
      intro e
      unfold ofD at e
      rw [e, DL_zero] at hD
      simp [dg] at hD
      exact h0 (by first | exact hD | exact hD.symm)
    rw [dec_pos _ hne]
    unfold ofD
    rw [hD, ch_dg h]
theorem dec_head (a : Nat) : (dec a).head? ≠ some 48 ∨ (dec a).length = 1 := by
  by_cases h : a = 0
  · subst h; rw [dec_zero]; right; rfl
  · left
    rw [dec_pos a h]
    have := DL_head a
    have hl := DL_lt a
    cases hD : DL a with
    | nil => simp
    | cons d r =>
      rw [hD] at this hl
      simp only [List.map_cons, List.head?_cons, ne_eq, Option.some.injEq] at this ⊢
      intro e
      have h2 := congrArg UInt8.toNat e
      rw [ch_toNat (hl d (List.mem_cons_self ..))] at h2
      have : (48 : UInt8).toNat = 48 := rfl
      omega
def pad : Nat → Nat → List UInt8
  | 0, _ => []
  | k + 1, d => pad k (d / 10) ++ [ch (d % 10)]
theorem pad_zero (k : Nat) : pad k 0 = List.replicate k 48 := by
  induction k with
  | zero => rfl
  | succ k ih => rw [pad, Nat.zero_div, ih, List.replicate_succ']; rfl
theorem pad_eq : ∀ (k d : Nat), d < 10 ^ (k + 1) → List.replicate (k + 1 - (dec d).length) 48 ++ dec d = pad (k + 1) d
  | 0, d, h => by
    have h' : d < 10 := by simpa using h
    rw [dec_small h', pad, pad, Nat.mod_eq_of_lt h']; rfl
  | k + 1, d, h => by
    by_cases h1 : d < 10
    · rw [dec_small h1, pad, Nat.mod_eq_of_lt h1, Nat.div_eq_of_lt h1, pad_zero]; rfl
    · have ih := pad_eq k (d / 10) (by rw [Nat.pow_succ] at h; omega)
      rw [dec_big (by omega), pad, ← ih, List.length_append, List.length_singleton, ← List.append_assoc]
      congr 3
      omega
theorem dec_step : ∀ (k h d : Nat), h ≠ 0 → d < 10 ^ k → dec (h * 10 ^ k + d) = dec h ++ pad k d
  | 0, h, d, h0, hd => by
    have : d = 0 := by simpa using hd
    subst this
    simp [pad]
  | k + 1, h, d, h0, hd => by
    have hp : 0 < 10 ^ k := Nat.pow_pos (by omega)
    have e : h * 10 ^ (k + 1) = 10 * (h * 10 ^ k) := by rw [Nat.pow_succ]; grind
    have hge : 1 * 1 ≤ h * 10 ^ k := Nat.mul_le_mul (by omega) hp
    rw [Nat.pow_succ] at hd
    rw [dec_big (by omega), pad, ← List.append_assoc, ← dec_step k h (d / 10) h0 (by omega)]
    congr 3
    · omega
    · omega
theorem parseUint_dig : ∀ (s : List UInt8) (acc : Nat), (∀ c ∈ s, isD c = true) → (acc + 1) * 10 ^ s.length ≤ 1000000000000000000 → Lib.parseUint10 acc s = .ok (acc * 10 ^ s.length + ofD s)
  | [], acc, _, _ => by simp [Lib.parseUint10, ofD, dg, vb_nil]
  | c :: r, acc, h, hb => by
    have hc := isD_iff.1 (h c (List.mem_cons_self ..))
    rw [List.length_cons, Nat.pow_succ] at hb
    have hp : 0 < 10 ^ r.length := Nat.pow_pos (by omega)
    have h1 : (acc + 1) * 10 ≤ (acc + 1) * (10 ^ r.length * 10) := Nat.mul_le_mul_left _ (by omega)
    have ih := parseUint_dig r (acc * 10 + (c.toNat - 48)) (fun x hx => h x (List.mem_cons_of_mem _ hx)) (by
      have : (acc * 10 + (c.toNat - 48) + 1) * 10 ^ r.length ≤ ((acc + 1) * 10) * 10 ^ r.length := Nat.mul_le_mul_right _ (by omega)
      have e : (acc + 1) * (10 ^ r.length * 10) = ((acc + 1) * 10) * 10 ^ r.length := by grind
      omega)
    rw [Lib.parseUint10, if_pos hc, if_neg (by omega), if_neg (by omega), ih]
    congr 1
    have : ofD (c :: r) = (c.toNat - 48) * 10 ^ r.length + ofD r := by
      unfold ofD dg; rw [List.map_cons, vb_cons, List.length_map]
    rw [this, List.length_cons, Nat.pow_succ]
    grind
theorem atoi_dig (s : List UInt8) (h : ∀ c ∈ s, isD c = true) (h0 : s ≠ []) (hl : s.length ≤ 18) : Lib.atoiAll s = .ok (ofD s : Int) := by
  match s, h0 with
  | c :: r, _ =>
    have hc := isD_iff.1 (h c (List.mem_cons_self ..))
    have hlt := ofD_lt h
    have hp : 10 ^ (c :: r).length ≤ 10 ^ 18 := Nat.pow_le_pow_right (by omega) hl
    have hu := parseUint_dig (c :: r) 0 h (by rw [Nat.zero_add, Nat.one_mul]; exact hp)
    rw [Nat.zero_mul, Nat.zero_add] at hu
    have e1 : ¬ (c.toNat = 43 ∨ c.toNat = 45) := by omega
    have e2 : ¬ c.toNat = 45 := by omega
    unfold Lib.atoiAll
    simp only [if_neg e1, Lib.parseMag, List.cons_ne_nil, if_false, hu]
    rw [if_neg (by omega), if_neg (by omega), if_neg e2]
end Go.Proofs.YtfbahcfojiaeaaaGreatDoor


set_option linter.unusedVariables false
set_option maxRecDepth 100000
namespace Go.Proofs.YtfbahcfojiaeaaaGreatDoor
open Go Th Go.Proofs
abbrev GI : GInv := GInv.tab Tryz.prog "internal/strconv.uint64pow10" .u64 Lib.pow10Tab 1 (by kernel_rfl)
def layr166 : Go.Shelf.Ren := ⟨fun | 166 => 97 | 240 => 123 | 276 => 143 | n => n, fun | 0 => 0 | 3 => 3 | 4 => 4 | 5 => 5 | 9 => 9 | 20 => 20 | 37 => 52 | 70 => 112 | 72 => 114 | 75 => 95 | 80 => 102 | 164 => 161 | n => n, fun | n => n⟩
theorem layb166 : Go.Proofs.Lays.n166 Tryz.prog layr166 := {
  mixed := by kernel_rfl
  f166 := Tryz.func97.trans (congrArg some (by kernel_rfl))
  f240 := Tryz.func123.trans (congrArg some (by kernel_rfl))
  f276 := Tryz.func143.trans (congrArg some (by kernel_rfl))
  t0 := Tryz.underlying0
  a0 := Tryz.isAgg0
  z0 := Tryz.sizeOf0
  v0 := Tryz.zeroValue0
  t3 := Tryz.underlying3
  a3 := Tryz.isAgg3
  z3 := Tryz.sizeOf3
  v3 := Tryz.zeroValue3
  t4 := Tryz.underlying4
  a4 := Tryz.isAgg4
  z4 := Tryz.sizeOf4
  v4 := Tryz.zeroValue4
  t9 := Tryz.underlying9
  a9 := Tryz.isAgg9
  z9 := Tryz.sizeOf9
  v9 := Tryz.zeroValue9
  t20 := Tryz.underlying20
  a20 := Tryz.isAgg20
  z20 := Tryz.sizeOf20
  v20 := Tryz.zeroValue20
  t37 := Tryz.underlying52
  a37 := Tryz.isAgg52
  z37 := Tryz.sizeOf52
  v37 := Tryz.zeroValue52
  t70 := Tryz.underlying112
  a70 := Tryz.isAgg112
  z70 := Tryz.sizeOf112
  v70 := Tryz.zeroValue112
  t72 := Tryz.underlying114
  a72 := Tryz.isAgg114
  z72 := Tryz.sizeOf114
  v72 := Tryz.zeroValue114
  t75 := Tryz.underlying95
  a75 := Tryz.isAgg95
  z75 := Tryz.sizeOf95
  v75 := Tryz.zeroValue95
  t164 := Tryz.underlying161
  a164 := Tryz.isAgg161
  z164 := Tryz.sizeOf161
  v164 := Tryz.zeroValue161 }
theorem layx166 : Builder.Extra Tryz.prog layr166 := {
  sizeBuilder := by kernel_rfl
  liesBuilder := by kernel_rfl
  t5 := Tryz.underlying5
  a5 := Tryz.isAgg5
  z5 := Tryz.sizeOf5
  v5 := Tryz.zeroValue5
  infoByte := by kernel_rfl
  cellsByte := by kernel_rfl
  sizeByte := by kernel_rfl
  neB5 := by decide }
noncomputable def fs63 (n : Nat) : FS := fsFormatInt
theorem ok63 (n : Nat) : FSound Tryz.prog GI 63 (fs63 n) := ok_FormatInt (fn_of Tryz.func63 (by kernel_rfl) (by kernel_rfl)) (fun F W h => h.2) Tryz.strconv_FormatInt_10
noncomputable def fs77 (n : Nat) : FS := fsAtoi
theorem ok77 (n : Nat) : FSound Tryz.prog GI 77 (fs77 n) := ok_Atoi (fn_of Tryz.func77 (by kernel_rfl) (by kernel_rfl)) (fun s h1 v h2 w => Tryz.strconv_Atoi_ok s h1 v h2 w)
noncomputable def fs91 (n : Nat) : FS := fsTrim
theorem ok91 (n : Nat) : FSound Tryz.prog GI 91 (fs91 n) := ok_Trim (fn_of Tryz.func91 (by kernel_rfl) (by kernel_rfl)) (fun s t w h1 h2 h3 => Any.strings_Trim_laid Tryz.lays160 (by kernel_rfl) s t w h1 h2 h3)
noncomputable def fs95 (n : Nat) : FS := fsItoa
theorem ok95 (n : Nat) : FSound Tryz.prog GI 95 (fs95 n) := ok_Itoa (fn_of Tryz.func95 (by kernel_rfl) (by kernel_rfl)) (fun F W h => h.2) Tryz.strconv_Itoa
noncomputable def fs96 (n : Nat) : FS := fsRepeat
theorem ok96 (n : Nat) : FSound Tryz.prog GI 96 (fs96 n) := ok_Repeat (fn_of Tryz.func96 (by kernel_rfl) (by kernel_rfl)) (fun s c w h1 h2 => Tryz.strings_Repeat s c w h1 h2)
noncomputable def fs97 (n : Nat) : FS := fsWriteString 114 5
theorem ok97 (n : Nat) : FSound Tryz.prog GI 97 (fs97 n) := ok_WriteString layb166 layx166 (fn_of Tryz.func97 (by kernel_rfl) (by kernel_rfl))
noncomputable def fs98 (n : Nat) : FS := fsString 114 5
theorem ok98 (n : Nat) : FSound Tryz.prog GI 98 (fs98 n) := ok_String Tryz.lays169 Tryz.Builder_Extra_169 (fn_of Tryz.func98 (by kernel_rfl) (by kernel_rfl))
noncomputable def fs100 (n : Nat) : FS := fsIndex1
theorem ok100 (n : Nat) : FSound Tryz.prog GI 100 (fs100 n) := ok_Index1 (fn_of Tryz.func100 (by kernel_rfl) (by kernel_rfl)) Tryz.stringslite_Index_one
end Go.Proofs.YtfbahcfojiaeaaaGreatDoor


set_option linter.unusedVariables false
set_option maxRecDepth 100000
namespace Go.Proofs.YtfbahcfojiaeaaaGreatDoor
open Go Th Go.Proofs
def ann78 : Ann := { loops := [(1, [(0, .id)], [(0, .id), (2, .id)])], cuts := [], frz := [], rm := [.id] }
noncomputable abbrev env78 (n : Nat) : Env := fun _ => none
theorem envok78 (n : Nat) : EnvOK Tryz.prog GI (env78 n) := EnvOK.nil
noncomputable def p78_l1B {R : Type} (n : Nat) (l0 : List PV → Option R) (x1 : List PV) (k0 : List PV → Option R) : Option R :=
  bif (decide (((x1).length : Int) > 0)) then (bif true then (bif true then (bif true then (let v2 := IntKind.i64.wrap (((x1).length : Int) - 1); bif true then (bif (inR v2 ((x1).length)) then (getI .u32 ((x1).getD ((v2 : Int).toNat) (.v (.bool false))) fun e3 => bif true then (bif true then (bif (bif true then (e3 == 0) else false) then (let v4 := IntKind.i64.wrap (((x1).length : Int) - 1); bif (hdSz 1 x1 && cutR 0 v4 ((x1).length)) then (l0 (((x1).take (v4 : Int).toNat).drop (0 : Int).toNat)) else none) else (k0 x1)) else none) else none) else none) else none) else none) else none) else none) else (bif false then none else (bif false then none else (bif false then none else (bif false then none else (bif false then none else (bif false then none else (bif false then none else (bif false then none else (k0 x1)))))))))
noncomputable def p78_l1L {R : Type} (n : Nat) : Nat → List PV → (List PV → Option R) → Option R
  | 0, _, _ => none
  | m + 1, x1, k0 => p78_l1B n (fun x1 => p78_l1L n m x1 k0) x1 k0
noncomputable def p78_l1 {R : Type} (n : Nat) (x1 : List PV) (k0 : List PV → Option R) : Option R := p78_l1L n n x1 k0
noncomputable def p78 {R : Type} (n : Nat) (x1 : List PV) (k0 : List PV → Option R) : Option R :=
  p78_l1 n x1 (fun y2 => k0 y2)
noncomputable abbrev E78 {R : Type} (n : Nat) (c : Code) : Fr → Kc R → Option R := evC Tryz.prog (env78 n) ann78 n (21, []) c
noncomputable def c78_l1 : Code := subC (bodyOf Tryz.f78) [1, 0, 0, 0]
abbrev t78_l1 : Sl (List SV) := (.c (sP sSh) .n)
noncomputable abbrev f78_l1 {R : Type} (n m : Nat) (K : Kc R) : t78_l1.T (Option R) := fun x1 => p78_l1L n m x1 (fun y1 => K (.exit 0) (lk (outA ann78.loops 1) [.p (.sh y1), .dead]))
noncomputable abbrev o78_l1 {R : Type} (n : Nat) (vs : List SV) (K : Kc R) : Option R := oget (t78_l1.ap vs (f78_l1 n n K)) (loopE ann78 1 (E78 n c78_l1) n vs K)
noncomputable abbrev lo78 {R : Type} (n : Nat) : Orc R := fun i vs K => dcnd (Nat.beq i 1) (o78_l1 n vs K) (none)
noncomputable abbrev cu78 {R : Type} (n : Nat) : Orc R := fun i vs K => none
section
variable {R : Type}
noncomputable abbrev V78 (n : Nat) (c : Code) : Fr → Kc R → Option R := evOi Tryz.prog (env78 n) ann78 (21, []) (lo78 n) (cu78 n) c
abbrev K78 (R : Type) (n : Nat) := PartOK (R := R) Tryz.prog (env78 n) ann78 n (21, []) (lo78 n) (cu78 n)
theorem pa78_l1 (n : Nat) : allP (K78 R n) (partsOf ann78 c78_l1) := by
  rw [show partsOf ann78 c78_l1 = [] from by kernel_rfl]; exact trivial
theorem sp78_l1 (n m : Nat) (x1 : List PV) (K : Kc R) : loopE ann78 1 (V78 n c78_l1) (m + 1) [.p (.sh x1)] K = p78_l1B n (fun x1 => loopE ann78 1 (V78 n c78_l1) m [.p (.sh x1)] K) x1 (fun y1 => K (.exit 0) (lk (outA ann78.loops 1) [.p (.sh y1), .dead])) := by kernel_rfl
theorem ep78_l1 (n : Nat) (K : Kc R) : ∀ (m : Nat) (x1 : List PV), loopE ann78 1 (V78 n c78_l1) m [.p (.sh x1)] K = f78_l1 n m K x1
  | 0, _ => rfl
  | m + 1, x1 => (sp78_l1 n m x1 K).trans (congrArg (fun l0 => p78_l1B n l0 x1 (fun y1 => K (.exit 0) (lk (outA ann78.loops 1) [.p (.sh y1), .dead]))) (funext fun z0 => ep78_l1 n K m z0))
theorem q78_l1 (n : Nat) : K78 R n (false, 1, c78_l1) := part_loop (pa78_l1 n) t78_l1 (f78_l1 n n) (fun K x1 => ep78_l1 n K n x1) fun _ _ => rfl
theorem pa78 (n : Nat) : allP (K78 R n) (partsOf ann78 (bodyOf Tryz.f78)) := by
  rw [show partsOf ann78 (bodyOf Tryz.f78) = [(false, 1, c78_l1)] from by kernel_rfl]; exact ⟨q78_l1 n, trivial⟩
end
abbrev t78 : Sl (List SV) := (.c (sP sSh) .n)
noncomputable abbrev f78 (n : Nat) {R : Type} (K : List SV → Option R) : t78.T (Option R) := fun x1 => p78 n x1 (fun y1 => K [.p (.sh y1)])
theorem ep78 {R : Type} (n : Nat) (K : List SV → Option R) (x1 : List PV) : evFn Tryz.prog (env78 n) ann78 n Tryz.f78 [.p (.sh x1)] K = f78 n K x1 := by
  rw [evFn_evOi (c := bodyOf Tryz.f78) (by kernel_rfl) (pa78 n)]; kernel_rfl
noncomputable abbrev fs78 (n : Nat) : FS := { om := [false], run := fun args K => oget (t78.ap args (f78 n K)) none }
theorem ok78 (n : Nat) : FSound Tryz.prog GI 78 (fs78 n) :=
  FSound.good (envok78 n) (ann := ann78) (n := n) Tryz.func78
    (.cons (envok78 n) t78 (f78 n) (fun K x1 => ep78 n K x1) .nil)
    (by kernel_rfl) (by kernel_rfl) (by kernel_rfl)
end Go.Proofs.YtfbahcfojiaeaaaGreatDoor


set_option linter.unusedVariables false
set_option maxRecDepth 100000
namespace Go.Proofs.YtfbahcfojiaeaaaGreatDoor
open Go Th Go.Proofs
def ann73 : Ann := { loops := [(6, [(0, .id), (1, .id), (5, .id)], [(4, .id)])], cuts := [], frz := [], rm := [.id] }
noncomputable abbrev env73 (n : Nat) : Env := fun _ => none
theorem envok73 (n : Nat) : EnvOK Tryz.prog GI (env73 n) := EnvOK.nil
noncomputable def p73_l6B {R : Type} (n : Nat) (l0 : List PV → List PV → Int → Option R) (x1 x2 : List PV) (x3 : Int) (k0 : Int → Option R) (k1 : Option R) : Option R :=
  bif (decide (x3 ≥ 0)) then (bif (inR x3 ((x1).length)) then (getI .u32 ((x1).getD ((x3 : Int).toNat) (.v (.bool false))) fun e4 => bif (inR x3 ((x2).length)) then (getI .u32 ((x2).getD ((x3 : Int).toNat) (.v (.bool false))) fun e5 => bif (e4 != e5) then (bif (inR x3 ((x1).length)) then (getI .u32 ((x1).getD ((x3 : Int).toNat) (.v (.bool false))) fun e6 => bif (inR x3 ((x2).length)) then (getI .u32 ((x2).getD ((x3 : Int).toNat) (.v (.bool false))) fun e7 => bif (decide (e6 < e7)) then (k0 (-1)) else (k0 1)) else none) else none) else (l0 x1 x2 (IntKind.i64.wrap (x3 - 1)))) else none) else none) else (k1)
noncomputable def p73_l6L {R : Type} (n : Nat) : Nat → List PV → List PV → Int → (Int → Option R) → (Option R) → Option R
  | 0, _, _, _, _, _ => none
  | m + 1, x1, x2, x3, k0, k1 => p73_l6B n (fun x1 x2 x3 => p73_l6L n m x1 x2 x3 k0 k1) x1 x2 x3 k0 k1
noncomputable def p73_l6 {R : Type} (n : Nat) (x1 x2 : List PV) (x3 : Int) (k0 : Int → Option R) (k1 : Option R) : Option R := p73_l6L n n x1 x2 x3 k0 k1
noncomputable def p73 {R : Type} (n : Nat) (x1 x2 : List PV) (k0 : Int → Option R) : Option R :=
  bif (((x1).length : Int) != ((x2).length : Int)) then (bif (decide (((x1).length : Int) < ((x2).length : Int))) then (k0 (-1)) else (k0 1)) else (let v3 := IntKind.i64.wrap (((x1).length : Int) - 1); p73_l6 n x1 x2 v3 (fun y4 => k0 y4) (k0 0))
noncomputable abbrev E73 {R : Type} (n : Nat) (c : Code) : Fr → Kc R → Option R := evC Tryz.prog (env73 n) ann73 n (41, []) c
noncomputable def c73_l6 : Code := subC (bodyOf Tryz.f73) [1, 1, 0, 1, 0, 0]
abbrev t73_l6 : Sl (List SV) := (.c (sP sSh) (.c (sP sSh) (.c (sP (sInt .i64)) .n)))
noncomputable abbrev f73_l6 {R : Type} (n m : Nat) (K : Kc R) : t73_l6.T (Option R) := fun x1 x2 x3 => p73_l6L n m x1 x2 x3 (fun y1 => K .ret (lk (outA ann73.loops 6) [.p (.v (.int .i64 y1))])) (K (.exit 0) (lk (outA ann73.loops 6) [.dead]))
noncomputable abbrev o73_l6 {R : Type} (n : Nat) (vs : List SV) (K : Kc R) : Option R := oget (t73_l6.ap vs (f73_l6 n n K)) (loopE ann73 6 (E73 n c73_l6) n vs K)
noncomputable abbrev lo73 {R : Type} (n : Nat) : Orc R := fun i vs K => dcnd (Nat.beq i 6) (o73_l6 n vs K) (none)
noncomputable abbrev cu73 {R : Type} (n : Nat) : Orc R := fun i vs K => none
section
variable {R : Type}
noncomputable abbrev V73 (n : Nat) (c : Code) : Fr → Kc R → Option R := evOi Tryz.prog (env73 n) ann73 (41, []) (lo73 n) (cu73 n) c
abbrev K73 (R : Type) (n : Nat) := PartOK (R := R) Tryz.prog (env73 n) ann73 n (41, []) (lo73 n) (cu73 n)
theorem pa73_l6 (n : Nat) : allP (K73 R n) (partsOf ann73 c73_l6) := by
  rw [show partsOf ann73 c73_l6 = [] from by kernel_rfl]; exact trivial
theorem sp73_l6 (n m : Nat) (x1 x2 : List PV) (x3 : Int) (K : Kc R) : loopE ann73 6 (V73 n c73_l6) (m + 1) [.p (.sh x1), .p (.sh x2), .p (.v (.int .i64 x3))] K = p73_l6B n (fun x1 x2 x3 => loopE ann73 6 (V73 n c73_l6) m [.p (.sh x1), .p (.sh x2), .p (.v (.int .i64 x3))] K) x1 x2 x3 (fun y1 => K .ret (lk (outA ann73.loops 6) [.p (.v (.int .i64 y1))])) (K (.exit 0) (lk (outA ann73.loops 6) [.dead])) := by kernel_rfl
theorem ep73_l6 (n : Nat) (K : Kc R) : ∀ (m : Nat) (x1 x2 : List PV) (x3 : Int), loopE ann73 6 (V73 n c73_l6) m [.p (.sh x1), .p (.sh x2), .p (.v (.int .i64 x3))] K = f73_l6 n m K x1 x2 x3
  | 0, _, _, _ => rfl
  | m + 1, x1, x2, x3 => (sp73_l6 n m x1 x2 x3 K).trans (congrArg (fun l0 => p73_l6B n l0 x1 x2 x3 (fun y1 => K .ret (lk (outA ann73.loops 6) [.p (.v (.int .i64 y1))])) (K (.exit 0) (lk (outA ann73.loops 6) [.dead]))) (funext fun z0 => funext fun z1 => funext fun z2 => ep73_l6 n K m z0 z1 z2))
theorem q73_l6 (n : Nat) : K73 R n (false, 6, c73_l6) := part_loop (pa73_l6 n) t73_l6 (f73_l6 n n) (fun K x1 x2 x3 => ep73_l6 n K n x1 x2 x3) fun _ _ => rfl
theorem pa73 (n : Nat) : allP (K73 R n) (partsOf ann73 (bodyOf Tryz.f73)) := by
  rw [show partsOf ann73 (bodyOf Tryz.f73) = [(false, 6, c73_l6)] from by kernel_rfl]; exact ⟨q73_l6 n, trivial⟩
end
abbrev t73 : Sl (List SV) := (.c (sP sSh) (.c (sP sSh) .n))
noncomputable abbrev f73 (n : Nat) {R : Type} (K : List SV → Option R) : t73.T (Option R) := fun x1 x2 => p73 n x1 x2 (fun y1 => K [.p (.v (.int .i64 y1))])
theorem ep73 {R : Type} (n : Nat) (K : List SV → Option R) (x1 x2 : List PV) : evFn Tryz.prog (env73 n) ann73 n Tryz.f73 [.p (.sh x1), .p (.sh x2)] K = f73 n K x1 x2 := by
  rw [evFn_evOi (c := bodyOf Tryz.f73) (by kernel_rfl) (pa73 n)]; kernel_rfl
noncomputable abbrev fs73 (n : Nat) : FS := { om := [false, false], run := fun args K => oget (t73.ap args (f73 n K)) none }
theorem ok73 (n : Nat) : FSound Tryz.prog GI 73 (fs73 n) :=
  FSound.good (envok73 n) (ann := ann73) (n := n) Tryz.func73
    (.cons (envok73 n) t73 (f73 n) (fun K x1 x2 => ep73 n K x1 x2) .nil)
    (by kernel_rfl) (by kernel_rfl) (by kernel_rfl)
end Go.Proofs.YtfbahcfojiaeaaaGreatDoor


set_option linter.unusedVariables false
set_option maxRecDepth 100000
namespace Go.Proofs.YtfbahcfojiaeaaaGreatDoor
open Go Th Go.Proofs
def ann88 : Ann := { loops := [(6, [(0, .id), (1, .id), (5, .id), (6, .id), (20, .id), (21, .id)], [(0, .id), (4, .id), (5, .id), (6, .id)])], cuts := [(3, [(0, .id), (1, .id)], [(4, .id)]), (11, [(0, .id), (1, .id), (5, .id), (6, .id), (7, .id), (20, .id), (21, .id)], [(0, .id), (1, .id), (4, .id), (5, .id), (6, .id), (20, .id), (21, .id)])], frz := [], rm := [.id] }
noncomputable abbrev env88 (n : Nat) : Env := fun i => bif Nat.beq i 78 then some (fs78 n) else (fun _ => none) i
theorem envok88 (n : Nat) : EnvOK Tryz.prog GI (env88 n) := EnvOK.cons (EnvOK.nil) (ok78 n)
noncomputable def p88_c11 {R : Type} (n : Nat) (x1 x2 x3 : List PV) (x4 x5 x6 x7 : Int) (k0 : List PV → List PV → List PV → Int → Int → Int → Option R) : Option R :=
  bif decide (1000000000 = 0) then none else (bif (inR x5 ((x3).length)) then (getI .u32 ((x3).getD ((x5 : Int).toNat) (.v (.bool false))) fun e8 => bif decide (1000000000 = 0) then none else (let v9 := IntKind.u32.wrap (Int.tdiv x4 1000000000); k0 x1 x2 ((x3).set ((x5 : Int).toNat) (.v (.int .u32 (Int.tmod x4 1000000000)))) v9 x6 x7)) else none)
noncomputable def p88_l6B {R : Type} (n : Nat) (l0 : List PV → List PV → List PV → Int → Int → Int → Option R) (x1 x2 x3 : List PV) (x4 x5 x6 : Int) (k0 : List PV → List PV → Int → Option R) : Option R :=
  bif (decide (x6 < x5)) then (bif (inR x6 ((x1).length)) then (getI .u32 ((x1).getD ((x6 : Int).toNat) (.v (.bool false))) fun e7 => bif (decide (x6 < ((x2).length : Int))) then (bif (inR x6 ((x2).length)) then (getI .u32 ((x2).getD ((x6 : Int).toNat) (.v (.bool false))) fun e8 => let v9 := IntKind.u32.wrap ((IntKind.u32.wrap (x4 + e7)) + e8); p88_c11 n x1 x2 x3 v9 x6 x5 x6 (fun y10 y11 y12 y13 y14 y15 => l0 y10 y11 y12 y13 y14 (IntKind.i64.wrap (y15 + 1)))) else none) else (p88_c11 n x1 x2 x3 (IntKind.u32.wrap (x4 + e7)) x6 x5 x6 (fun y16 y17 y18 y19 y20 y21 => l0 y16 y17 y18 y19 y20 (IntKind.i64.wrap (y21 + 1))))) else none) else (k0 x1 x3 x4)
noncomputable def p88_l6L {R : Type} (n : Nat) : Nat → List PV → List PV → List PV → Int → Int → Int → (List PV → List PV → Int → Option R) → Option R
  | 0, _, _, _, _, _, _, _ => none
  | m + 1, x1, x2, x3, x4, x5, x6, k0 => p88_l6B n (fun x1 x2 x3 x4 x5 x6 => p88_l6L n m x1 x2 x3 x4 x5 x6 k0) x1 x2 x3 x4 x5 x6 k0
noncomputable def p88_l6 {R : Type} (n : Nat) (x1 x2 x3 : List PV) (x4 x5 x6 : Int) (k0 : List PV → List PV → Int → Option R) : Option R := p88_l6L n n x1 x2 x3 x4 x5 x6 k0
noncomputable def p88_c3 {R : Type} (n : Nat) (x1 x2 : List PV) (k0 : List PV → Option R) : Option R :=
  let v3 := IntKind.i64.wrap (((x1).length : Int) + 1); bif (decide ((0 : Int) ≤ v3) && decide ((v3 : Int) ≤ v3) && lenOK (v3 : Int).toNat 4) then (p88_l6 n x1 x2 (List.replicate (v3 : Int).toNat (.v (.int .u32 0) : PV)) 0 ((x1).length : Int) 0 (fun y4 y5 y6 => bif (inR ((y4).length : Int) ((y5).length)) then (getI .u32 ((y5).getD ((((y4).length : Int) : Int).toNat) (.v (.bool false))) fun e7 => p78 n ((y5).set ((((y4).length : Int) : Int).toNat) (.v (.int .u32 y6))) (fun y8 => k0 y8)) else none)) else none
noncomputable def p88 {R : Type} (n : Nat) (x1 x2 : List PV) (k0 : List PV → Option R) : Option R :=
  bif (decide (((x1).length : Int) < ((x2).length : Int))) then (p88_c3 n x2 x1 (fun y3 => k0 y3)) else (p88_c3 n x1 x2 (fun y4 => k0 y4))
noncomputable abbrev E88 {R : Type} (n : Nat) (c : Code) : Fr → Kc R → Option R := evC Tryz.prog (env88 n) ann88 n (55, []) c
noncomputable def c88_c3 : Code := subC (bodyOf Tryz.f88) [1, 1]
abbrev t88_c3 : Sl (List SV) := (.c (sP sSh) (.c (sP sSh) .n))
noncomputable abbrev f88_c3 {R : Type} (n : Nat) (K : Kc R) : t88_c3.T (Option R) := fun x1 x2 => p88_c3 n x1 x2 (fun y1 => K .ret (lk (outA ann88.cuts 3) [.p (.sh y1)]))
noncomputable abbrev o88_c3 {R : Type} (n : Nat) (vs : List SV) (K : Kc R) : Option R := oget (t88_c3.ap vs (f88_c3 n K)) (cutE ann88 3 (E88 n c88_c3) vs K)
noncomputable def c88_c11 : Code := subC (bodyOf Tryz.f88) [1, 1, 1, 1, 0, 1, 0, 0, 1, 1, 0, 0, 1, 1, 1]
abbrev t88_c11 : Sl (List SV) := (.c (sP sSh) (.c (sP sSh) (.c (sOwn 98) (.c (sP (sInt .u32)) (.c (sP (sInt .i64)) (.c (sP (sInt .i64)) (.c (sP (sInt .i64)) .n)))))))
noncomputable abbrev f88_c11 {R : Type} (n : Nat) (K : Kc R) : t88_c11.T (Option R) := fun x1 x2 x3 x4 x5 x6 x7 => p88_c11 n x1 x2 x3 x4 x5 x6 x7 (fun y1 y2 y3 y4 y5 y6 => K .normal (lk (outA ann88.cuts 11) [.p (.sh y1), .p (.sh y2), .dead, .own 98 y3, .p (.v (.int .u32 y4)), .p (.v (.int .i64 y5)), .p (.v (.int .i64 y6))]))
noncomputable abbrev o88_c11 {R : Type} (n : Nat) (vs : List SV) (K : Kc R) : Option R := oget (t88_c11.ap vs (f88_c11 n K)) (cutE ann88 11 (E88 n c88_c11) vs K)
noncomputable def c88_l6 : Code := subC (bodyOf Tryz.f88) [1, 1, 1, 1, 0, 1, 0, 0]
abbrev t88_l6 : Sl (List SV) := (.c (sP sSh) (.c (sP sSh) (.c (sOwn 98) (.c (sP (sInt .u32)) (.c (sP (sInt .i64)) (.c (sP (sInt .i64)) .n))))))
noncomputable abbrev f88_l6 {R : Type} (n m : Nat) (K : Kc R) : t88_l6.T (Option R) := fun x1 x2 x3 x4 x5 x6 => p88_l6L n m x1 x2 x3 x4 x5 x6 (fun y1 y2 y3 => K (.exit 0) (lk (outA ann88.loops 6) [.p (.sh y1), .dead, .own 98 y2, .p (.v (.int .u32 y3))]))
noncomputable abbrev o88_l6 {R : Type} (n : Nat) (vs : List SV) (K : Kc R) : Option R := oget (t88_l6.ap vs (f88_l6 n n K)) (loopE ann88 6 (E88 n c88_l6) n vs K)
noncomputable abbrev lo88 {R : Type} (n : Nat) : Orc R := fun i vs K => dcnd (Nat.beq i 6) (o88_l6 n vs K) (none)
noncomputable abbrev cu88 {R : Type} (n : Nat) : Orc R := fun i vs K => dcnd (Nat.beq i 11) (o88_c11 n vs K) (dcnd (Nat.beq i 3) (o88_c3 n vs K) (none))
section
variable {R : Type}
noncomputable abbrev V88 (n : Nat) (c : Code) : Fr → Kc R → Option R := evOi Tryz.prog (env88 n) ann88 (55, []) (lo88 n) (cu88 n) c
abbrev K88 (R : Type) (n : Nat) := PartOK (R := R) Tryz.prog (env88 n) ann88 n (55, []) (lo88 n) (cu88 n)
theorem pa88_c11 (n : Nat) : allP (K88 R n) (partsOf ann88 c88_c11) := by
  rw [show partsOf ann88 c88_c11 = [] from by kernel_rfl]; exact trivial
theorem q88_c11 (n : Nat) : K88 R n (true, 11, c88_c11) := part_cut (pa88_c11 n) t88_c11 (f88_c11 n) (fun K x1 x2 x3 x4 x5 x6 x7 => by show cutE _ _ _ _ _ = _; kernel_rfl) fun _ _ => rfl
theorem pa88_l6 (n : Nat) : allP (K88 R n) (partsOf ann88 c88_l6) := by
  rw [show partsOf ann88 c88_l6 = [(true, 11, c88_c11)] from by kernel_rfl]; exact ⟨q88_c11 n, trivial⟩
theorem sp88_l6 (n m : Nat) (x1 x2 x3 : List PV) (x4 x5 x6 : Int) (K : Kc R) : loopE ann88 6 (V88 n c88_l6) (m + 1) [.p (.sh x1), .p (.sh x2), .own 98 x3, .p (.v (.int .u32 x4)), .p (.v (.int .i64 x5)), .p (.v (.int .i64 x6))] K = p88_l6B n (fun x1 x2 x3 x4 x5 x6 => loopE ann88 6 (V88 n c88_l6) m [.p (.sh x1), .p (.sh x2), .own 98 x3, .p (.v (.int .u32 x4)), .p (.v (.int .i64 x5)), .p (.v (.int .i64 x6))] K) x1 x2 x3 x4 x5 x6 (fun y1 y2 y3 => K (.exit 0) (lk (outA ann88.loops 6) [.p (.sh y1), .dead, .own 98 y2, .p (.v (.int .u32 y3))])) := by kernel_rfl
theorem ep88_l6 (n : Nat) (K : Kc R) : ∀ (m : Nat) (x1 x2 x3 : List PV) (x4 x5 x6 : Int), loopE ann88 6 (V88 n c88_l6) m [.p (.sh x1), .p (.sh x2), .own 98 x3, .p (.v (.int .u32 x4)), .p (.v (.int .i64 x5)), .p (.v (.int .i64 x6))] K = f88_l6 n m K x1 x2 x3 x4 x5 x6
  | 0, _, _, _, _, _, _ => rfl
  | m + 1, x1, x2, x3, x4, x5, x6 => (sp88_l6 n m x1 x2 x3 x4 x5 x6 K).trans (congrArg (fun l0 => p88_l6B n l0 x1 x2 x3 x4 x5 x6 (fun y1 y2 y3 => K (.exit 0) (lk (outA ann88.loops 6) [.p (.sh y1), .dead, .own 98 y2, .p (.v (.int .u32 y3))]))) (funext fun z0 => funext fun z1 => funext fun z2 => funext fun z3 => funext fun z4 => funext fun z5 => ep88_l6 n K m z0 z1 z2 z3 z4 z5))
theorem q88_l6 (n : Nat) : K88 R n (false, 6, c88_l6) := part_loop (pa88_l6 n) t88_l6 (f88_l6 n n) (fun K x1 x2 x3 x4 x5 x6 => ep88_l6 n K n x1 x2 x3 x4 x5 x6) fun _ _ => rfl
theorem pa88_c3 (n : Nat) : allP (K88 R n) (partsOf ann88 c88_c3) := by
  rw [show partsOf ann88 c88_c3 = [(false, 6, c88_l6)] from by kernel_rfl]; exact ⟨q88_l6 n, trivial⟩
theorem q88_c3 (n : Nat) : K88 R n (true, 3, c88_c3) := part_cut (pa88_c3 n) t88_c3 (f88_c3 n) (fun K x1 x2 => by show cutE _ _ _ _ _ = _; kernel_rfl) fun _ _ => rfl
theorem pa88 (n : Nat) : allP (K88 R n) (partsOf ann88 (bodyOf Tryz.f88)) := by
  rw [show partsOf ann88 (bodyOf Tryz.f88) = [(true, 3, c88_c3)] from by kernel_rfl]; exact ⟨q88_c3 n, trivial⟩
end
abbrev t88 : Sl (List SV) := (.c (sP sSh) (.c (sP sSh) .n))
noncomputable abbrev f88 (n : Nat) {R : Type} (K : List SV → Option R) : t88.T (Option R) := fun x1 x2 => p88 n x1 x2 (fun y1 => K [.p (.sh y1)])
theorem ep88 {R : Type} (n : Nat) (K : List SV → Option R) (x1 x2 : List PV) : evFn Tryz.prog (env88 n) ann88 n Tryz.f88 [.p (.sh x1), .p (.sh x2)] K = f88 n K x1 x2 := by
  rw [evFn_evOi (c := bodyOf Tryz.f88) (by kernel_rfl) (pa88 n)]; kernel_rfl
noncomputable abbrev fs88 (n : Nat) : FS := { om := [false, false], run := fun args K => oget (t88.ap args (f88 n K)) none }
theorem ok88 (n : Nat) : FSound Tryz.prog GI 88 (fs88 n) :=
  FSound.good (envok88 n) (ann := ann88) (n := n) Tryz.func88
    (.cons (envok88 n) t88 (f88 n) (fun K x1 x2 => ep88 n K x1 x2) .nil)
    (by kernel_rfl) (by kernel_rfl) (by kernel_rfl)
end Go.Proofs.YtfbahcfojiaeaaaGreatDoor


set_option linter.unusedVariables false
set_option maxRecDepth 100000
namespace Go.Proofs.YtfbahcfojiaeaaaGreatDoor
open Go Th Go.Proofs
def ann89 : Ann := { loops := [(4, [(0, .id), (1, .id), (5, .id), (6, .id), (13, .id), (14, .id)], [(4, .id), (5, .id)])], cuts := [(9, [(0, .id), (1, .id), (5, .id), (7, .id), (8, .id), (13, .id), (14, .id)], [(0, .id), (1, .id), (4, .id), (5, .id), (6, .id), (13, .id), (14, .id)]), (13, [(0, .id), (1, .id), (5, .id), (6, .id), (7, .id), (8, .id), (13, .id), (14, .id)], [(0, .id), (1, .id), (4, .id), (5, .id), (6, .id), (13, .id), (14, .id)])], frz := [], rm := [.id] }
noncomputable abbrev env89 (n : Nat) : Env := fun i => bif Nat.beq i 78 then some (fs78 n) else (fun _ => none) i
theorem envok89 (n : Nat) : EnvOK Tryz.prog GI (env89 n) := EnvOK.cons (EnvOK.nil) (ok78 n)
noncomputable def p89_c13 {R : Type} (n : Nat) (x1 x2 x3 : List PV) (x4 x5 x6 x7 x8 : Int) (k0 : List PV → List PV → List PV → Int → Int → Int → Option R) : Option R :=
  bif (inR x5 ((x3).length)) then (getI .u32 ((x3).getD ((x5 : Int).toNat) (.v (.bool false))) fun e9 => k0 x1 x2 ((x3).set ((x5 : Int).toNat) (.v (.int .u32 (IntKind.u32.wrap (x6))))) x4 x7 x8) else none
noncomputable def p89_c9 {R : Type} (n : Nat) (x1 x2 x3 : List PV) (x4 x5 x6 x7 : Int) (k0 : List PV → List PV → List PV → Int → Int → Int → Option R) : Option R :=
  bif (decide (x5 < 0)) then (p89_c13 n x1 x2 x3 1 x4 (IntKind.i64.wrap (x5 + 1000000000)) x6 x7 (fun y8 y9 y10 y11 y12 y13 => k0 y8 y9 y10 y11 y12 y13)) else (p89_c13 n x1 x2 x3 0 x4 x5 x6 x7 (fun y14 y15 y16 y17 y18 y19 => k0 y14 y15 y16 y17 y18 y19))
noncomputable def p89_l4B {R : Type} (n : Nat) (l0 : List PV → List PV → List PV → Int → Int → Int → Option R) (x1 x2 x3 : List PV) (x4 x5 x6 : Int) (k0 : List PV → Option R) : Option R :=
  bif (decide (x6 < x5)) then (bif (inR x6 ((x1).length)) then (getI .u32 ((x1).getD ((x6 : Int).toNat) (.v (.bool false))) fun e7 => let v8 := IntKind.i64.wrap ((IntKind.i64.wrap (e7)) - x4); bif (decide (x6 < ((x2).length : Int))) then (bif (inR x6 ((x2).length)) then (getI .u32 ((x2).getD ((x6 : Int).toNat) (.v (.bool false))) fun e9 => let v10 := IntKind.i64.wrap (v8 - (IntKind.i64.wrap (e9))); p89_c9 n x1 x2 x3 x6 v10 x5 x6 (fun y11 y12 y13 y14 y15 y16 => l0 y11 y12 y13 y14 y15 (IntKind.i64.wrap (y16 + 1)))) else none) else (p89_c9 n x1 x2 x3 x6 v8 x5 x6 (fun y17 y18 y19 y20 y21 y22 => l0 y17 y18 y19 y20 y21 (IntKind.i64.wrap (y22 + 1))))) else none) else (k0 x3)
noncomputable def p89_l4L {R : Type} (n : Nat) : Nat → List PV → List PV → List PV → Int → Int → Int → (List PV → Option R) → Option R
  | 0, _, _, _, _, _, _, _ => none
  | m + 1, x1, x2, x3, x4, x5, x6, k0 => p89_l4B n (fun x1 x2 x3 x4 x5 x6 => p89_l4L n m x1 x2 x3 x4 x5 x6 k0) x1 x2 x3 x4 x5 x6 k0
noncomputable def p89_l4 {R : Type} (n : Nat) (x1 x2 x3 : List PV) (x4 x5 x6 : Int) (k0 : List PV → Option R) : Option R := p89_l4L n n x1 x2 x3 x4 x5 x6 k0
noncomputable def p89 {R : Type} (n : Nat) (x1 x2 : List PV) (k0 : List PV → Option R) : Option R :=
  bif (decide ((0 : Int) ≤ ((x1).length : Int)) && decide ((((x1).length : Int) : Int) ≤ ((x1).length : Int)) && lenOK (((x1).length : Int) : Int).toNat 4) then (p89_l4 n x1 x2 (List.replicate (((x1).length : Int) : Int).toNat (.v (.int .u32 0) : PV)) 0 ((x1).length : Int) 0 (fun y3 => p78 n y3 (fun y4 => k0 y4))) else none
noncomputable abbrev E89 {R : Type} (n : Nat) (c : Code) : Fr → Kc R → Option R := evC Tryz.prog (env89 n) ann89 n (47, []) c
noncomputable def c89_c9 : Code := subC (bodyOf Tryz.f89) [1, 1, 1, 0, 1, 0, 0, 1, 1, 0, 0, 1, 1, 1]
abbrev t89_c9 : Sl (List SV) := (.c (sP sSh) (.c (sP sSh) (.c (sOwn 98) (.c (sP (sInt .i64)) (.c (sP (sInt .i64)) (.c (sP (sInt .i64)) (.c (sP (sInt .i64)) .n)))))))
noncomputable abbrev f89_c9 {R : Type} (n : Nat) (K : Kc R) : t89_c9.T (Option R) := fun x1 x2 x3 x4 x5 x6 x7 => p89_c9 n x1 x2 x3 x4 x5 x6 x7 (fun y1 y2 y3 y4 y5 y6 => K .normal (lk (outA ann89.cuts 9) [.p (.sh y1), .p (.sh y2), .dead, .own 98 y3, .p (.v (.int .i64 y4)), .p (.v (.int .i64 y5)), .p (.v (.int .i64 y6))]))
noncomputable abbrev o89_c9 {R : Type} (n : Nat) (vs : List SV) (K : Kc R) : Option R := oget (t89_c9.ap vs (f89_c9 n K)) (cutE ann89 9 (E89 n c89_c9) vs K)
noncomputable def c89_c13 : Code := subC (bodyOf Tryz.f89) [1, 1, 1, 0, 1, 0, 0, 1, 1, 0, 0, 1, 1, 1, 1, 1]
abbrev t89_c13 : Sl (List SV) := (.c (sP sSh) (.c (sP sSh) (.c (sOwn 98) (.c (sP (sInt .i64)) (.c (sP (sInt .i64)) (.c (sP (sInt .i64)) (.c (sP (sInt .i64)) (.c (sP (sInt .i64)) .n))))))))
noncomputable abbrev f89_c13 {R : Type} (n : Nat) (K : Kc R) : t89_c13.T (Option R) := fun x1 x2 x3 x4 x5 x6 x7 x8 => p89_c13 n x1 x2 x3 x4 x5 x6 x7 x8 (fun y1 y2 y3 y4 y5 y6 => K .normal (lk (outA ann89.cuts 13) [.p (.sh y1), .p (.sh y2), .dead, .own 98 y3, .p (.v (.int .i64 y4)), .p (.v (.int .i64 y5)), .p (.v (.int .i64 y6))]))
noncomputable abbrev o89_c13 {R : Type} (n : Nat) (vs : List SV) (K : Kc R) : Option R := oget (t89_c13.ap vs (f89_c13 n K)) (cutE ann89 13 (E89 n c89_c13) vs K)
noncomputable def c89_l4 : Code := subC (bodyOf Tryz.f89) [1, 1, 1, 0, 1, 0, 0]
abbrev t89_l4 : Sl (List SV) := (.c (sP sSh) (.c (sP sSh) (.c (sOwn 98) (.c (sP (sInt .i64)) (.c (sP (sInt .i64)) (.c (sP (sInt .i64)) .n))))))
noncomputable abbrev f89_l4 {R : Type} (n m : Nat) (K : Kc R) : t89_l4.T (Option R) := fun x1 x2 x3 x4 x5 x6 => p89_l4L n m x1 x2 x3 x4 x5 x6 (fun y1 => K (.exit 0) (lk (outA ann89.loops 4) [.dead, .own 98 y1]))
noncomputable abbrev o89_l4 {R : Type} (n : Nat) (vs : List SV) (K : Kc R) : Option R := oget (t89_l4.ap vs (f89_l4 n n K)) (loopE ann89 4 (E89 n c89_l4) n vs K)
noncomputable abbrev lo89 {R : Type} (n : Nat) : Orc R := fun i vs K => dcnd (Nat.beq i 4) (o89_l4 n vs K) (none)
noncomputable abbrev cu89 {R : Type} (n : Nat) : Orc R := fun i vs K => dcnd (Nat.beq i 13) (o89_c13 n vs K) (dcnd (Nat.beq i 9) (o89_c9 n vs K) (none))
section
variable {R : Type}
noncomputable abbrev V89 (n : Nat) (c : Code) : Fr → Kc R → Option R := evOi Tryz.prog (env89 n) ann89 (47, []) (lo89 n) (cu89 n) c
abbrev K89 (R : Type) (n : Nat) := PartOK (R := R) Tryz.prog (env89 n) ann89 n (47, []) (lo89 n) (cu89 n)
theorem pa89_c13 (n : Nat) : allP (K89 R n) (partsOf ann89 c89_c13) := by
  rw [show partsOf ann89 c89_c13 = [] from by kernel_rfl]; exact trivial
theorem q89_c13 (n : Nat) : K89 R n (true, 13, c89_c13) := part_cut (pa89_c13 n) t89_c13 (f89_c13 n) (fun K x1 x2 x3 x4 x5 x6 x7 x8 => by show cutE _ _ _ _ _ = _; kernel_rfl) fun _ _ => rfl
theorem pa89_c9 (n : Nat) : allP (K89 R n) (partsOf ann89 c89_c9) := by
  rw [show partsOf ann89 c89_c9 = [(true, 13, c89_c13)] from by kernel_rfl]; exact ⟨q89_c13 n, trivial⟩
theorem q89_c9 (n : Nat) : K89 R n (true, 9, c89_c9) := part_cut (pa89_c9 n) t89_c9 (f89_c9 n) (fun K x1 x2 x3 x4 x5 x6 x7 => by show cutE _ _ _ _ _ = _; kernel_rfl) fun _ _ => rfl
theorem pa89_l4 (n : Nat) : allP (K89 R n) (partsOf ann89 c89_l4) := by
  rw [show partsOf ann89 c89_l4 = [(true, 9, c89_c9)] from by kernel_rfl]; exact ⟨q89_c9 n, trivial⟩
theorem sp89_l4 (n m : Nat) (x1 x2 x3 : List PV) (x4 x5 x6 : Int) (K : Kc R) : loopE ann89 4 (V89 n c89_l4) (m + 1) [.p (.sh x1), .p (.sh x2), .own 98 x3, .p (.v (.int .i64 x4)), .p (.v (.int .i64 x5)), .p (.v (.int .i64 x6))] K = p89_l4B n (fun x1 x2 x3 x4 x5 x6 => loopE ann89 4 (V89 n c89_l4) m [.p (.sh x1), .p (.sh x2), .own 98 x3, .p (.v (.int .i64 x4)), .p (.v (.int .i64 x5)), .p (.v (.int .i64 x6))] K) x1 x2 x3 x4 x5 x6 (fun y1 => K (.exit 0) (lk (outA ann89.loops 4) [.dead, .own 98 y1])) := by kernel_rfl
theorem ep89_l4 (n : Nat) (K : Kc R) : ∀ (m : Nat) (x1 x2 x3 : List PV) (x4 x5 x6 : Int), loopE ann89 4 (V89 n c89_l4) m [.p (.sh x1), .p (.sh x2), .own 98 x3, .p (.v (.int .i64 x4)), .p (.v (.int .i64 x5)), .p (.v (.int .i64 x6))] K = f89_l4 n m K x1 x2 x3 x4 x5 x6
  | 0, _, _, _, _, _, _ => rfl
  | m + 1, x1, x2, x3, x4, x5, x6 => (sp89_l4 n m x1 x2 x3 x4 x5 x6 K).trans (congrArg (fun l0 => p89_l4B n l0 x1 x2 x3 x4 x5 x6 (fun y1 => K (.exit 0) (lk (outA ann89.loops 4) [.dead, .own 98 y1]))) (funext fun z0 => funext fun z1 => funext fun z2 => funext fun z3 => funext fun z4 => funext fun z5 => ep89_l4 n K m z0 z1 z2 z3 z4 z5))
theorem q89_l4 (n : Nat) : K89 R n (false, 4, c89_l4) := part_loop (pa89_l4 n) t89_l4 (f89_l4 n n) (fun K x1 x2 x3 x4 x5 x6 => ep89_l4 n K n x1 x2 x3 x4 x5 x6) fun _ _ => rfl
theorem pa89 (n : Nat) : allP (K89 R n) (partsOf ann89 (bodyOf Tryz.f89)) := by
  rw [show partsOf ann89 (bodyOf Tryz.f89) = [(false, 4, c89_l4)] from by kernel_rfl]; exact ⟨q89_l4 n, trivial⟩
end
abbrev t89 : Sl (List SV) := (.c (sP sSh) (.c (sP sSh) .n))
noncomputable abbrev f89 (n : Nat) {R : Type} (K : List SV → Option R) : t89.T (Option R) := fun x1 x2 => p89 n x1 x2 (fun y1 => K [.p (.sh y1)])
theorem ep89 {R : Type} (n : Nat) (K : List SV → Option R) (x1 x2 : List PV) : evFn Tryz.prog (env89 n) ann89 n Tryz.f89 [.p (.sh x1), .p (.sh x2)] K = f89 n K x1 x2 := by
  rw [evFn_evOi (c := bodyOf Tryz.f89) (by kernel_rfl) (pa89 n)]; kernel_rfl
noncomputable abbrev fs89 (n : Nat) : FS := { om := [false, false], run := fun args K => oget (t89.ap args (f89 n K)) none }
theorem ok89 (n : Nat) : FSound Tryz.prog GI 89 (fs89 n) :=
  FSound.good (envok89 n) (ann := ann89) (n := n) Tryz.func89
    (.cons (envok89 n) t89 (f89 n) (fun K x1 x2 => ep89 n K x1 x2) .nil)
    (by kernel_rfl) (by kernel_rfl) (by kernel_rfl)
end Go.Proofs.YtfbahcfojiaeaaaGreatDoor


set_option linter.unusedVariables false
set_option maxRecDepth 100000
namespace Go.Proofs.YtfbahcfojiaeaaaGreatDoor
open Go Th Go.Proofs
def ann70 : Ann := { loops := [(3, [(0, .id), (1, .id), (5, .id), (16, .id), (17, .id)], [(4, .id), (5, .id)]), (7, [(0, .id), (1, .id), (5, .id), (6, .id), (7, .id), (16, .id), (17, .id), (21, .id), (22, .id)], [(0, .id), (1, .id), (4, .id), (5, .id), (6, .id), (7, .id), (16, .id), (17, .id)])], cuts := [], frz := [], rm := [.id] }
noncomputable abbrev env70 (n : Nat) : Env := fun i => bif Nat.beq i 78 then some (fs78 n) else (fun _ => none) i
theorem envok70 (n : Nat) : EnvOK Tryz.prog GI (env70 n) := EnvOK.cons (EnvOK.nil) (ok78 n)
noncomputable def p70_l7B {R : Type} (n : Nat) (l0 : List PV → List PV → List PV → Int → Int → Int → Int → Int → Int → Option R) (x1 x2 x3 : List PV) (x4 x5 x6 x7 x8 x9 : Int) (k0 : List PV → List PV → List PV → Int → Int → Int → Int → Option R) : Option R :=
  bif (decide (x9 < x8)) then (bif (inR x4 ((x1).length)) then (getI .u32 ((x1).getD ((x4 : Int).toNat) (.v (.bool false))) fun e10 => bif (inR x9 ((x2).length)) then (getI .u32 ((x2).getD ((x9 : Int).toNat) (.v (.bool false))) fun e11 => let v12 := IntKind.u64.wrap ((IntKind.u64.wrap (e10)) * (IntKind.u64.wrap (e11))); bif (inR (IntKind.i64.wrap (x4 + x9)) ((x3).length)) then (getI .u32 ((x3).getD ((IntKind.i64.wrap (x4 + x9) : Int).toNat) (.v (.bool false))) fun e13 => let v14 := IntKind.u64.wrap (v12 + (IntKind.u64.wrap (e13))); bif decide (1000000000 = 0) then none else (let v15 := Int.tmod (IntKind.u64.wrap (x5 + v14)) 1000000000; bif (inR (IntKind.i64.wrap (x4 + x9)) ((x3).length)) then (getI .u32 ((x3).getD ((IntKind.i64.wrap (x4 + x9) : Int).toNat) (.v (.bool false))) fun e16 => bif decide (1000000000 = 0) then none else (let v17 := IntKind.u64.wrap (Int.tdiv (IntKind.u64.wrap (x5 + v14)) 1000000000); l0 x1 x2 ((x3).set ((IntKind.i64.wrap (x4 + x9) : Int).toNat) (.v (.int .u32 (IntKind.u32.wrap (v15))))) x4 v17 x6 x7 x8 (IntKind.i64.wrap (x9 + 1)))) else none)) else none) else none) else none) else (k0 x1 x2 x3 x4 x5 x6 x7)
noncomputable def p70_l7L {R : Type} (n : Nat) : Nat → List PV → List PV → List PV → Int → Int → Int → Int → Int → Int → (List PV → List PV → List PV → Int → Int → Int → Int → Option R) → Option R
  | 0, _, _, _, _, _, _, _, _, _, _ => none
  | m + 1, x1, x2, x3, x4, x5, x6, x7, x8, x9, k0 => p70_l7B n (fun x1 x2 x3 x4 x5 x6 x7 x8 x9 => p70_l7L n m x1 x2 x3 x4 x5 x6 x7 x8 x9 k0) x1 x2 x3 x4 x5 x6 x7 x8 x9 k0
noncomputable def p70_l7 {R : Type} (n : Nat) (x1 x2 x3 : List PV) (x4 x5 x6 x7 x8 x9 : Int) (k0 : List PV → List PV → List PV → Int → Int → Int → Int → Option R) : Option R := p70_l7L n n x1 x2 x3 x4 x5 x6 x7 x8 x9 k0
noncomputable def p70_l3B {R : Type} (n : Nat) (l0 : List PV → List PV → List PV → Int → Int → Option R) (x1 x2 x3 : List PV) (x4 x5 : Int) (k0 : List PV → Option R) : Option R :=
  bif (decide (x5 < x4)) then (p70_l7 n x1 x2 x3 x5 0 x4 x5 ((x2).length : Int) 0 (fun y6 y7 y8 y9 y10 y11 y12 => let v13 := IntKind.i64.wrap (y9 + ((y7).length : Int)); bif (inR v13 ((y8).length)) then (getI .u32 ((y8).getD ((v13 : Int).toNat) (.v (.bool false))) fun e14 => l0 y6 y7 ((y8).set ((v13 : Int).toNat) (.v (.int .u32 (IntKind.u32.wrap (y10))))) y11 (IntKind.i64.wrap (y12 + 1))) else none)) else (k0 x3)
noncomputable def p70_l3L {R : Type} (n : Nat) : Nat → List PV → List PV → List PV → Int → Int → (List PV → Option R) → Option R
  | 0, _, _, _, _, _, _ => none
  | m + 1, x1, x2, x3, x4, x5, k0 => p70_l3B n (fun x1 x2 x3 x4 x5 => p70_l3L n m x1 x2 x3 x4 x5 k0) x1 x2 x3 x4 x5 k0
noncomputable def p70_l3 {R : Type} (n : Nat) (x1 x2 x3 : List PV) (x4 x5 : Int) (k0 : List PV → Option R) : Option R := p70_l3L n n x1 x2 x3 x4 x5 k0
noncomputable def p70 {R : Type} (n : Nat) (x1 x2 : List PV) (k0 : List PV → Option R) : Option R :=
  let v3 := IntKind.i64.wrap (((x1).length : Int) + ((x2).length : Int)); bif (decide ((0 : Int) ≤ v3) && decide ((v3 : Int) ≤ v3) && lenOK (v3 : Int).toNat 4) then (p70_l3 n x1 x2 (List.replicate (v3 : Int).toNat (.v (.int .u32 0) : PV)) ((x1).length : Int) 0 (fun y4 => p78 n y4 (fun y5 => k0 y5))) else none
noncomputable abbrev E70 {R : Type} (n : Nat) (c : Code) : Fr → Kc R → Option R := evC Tryz.prog (env70 n) ann70 n (68, []) c
noncomputable def c70_l3 : Code := subC (bodyOf Tryz.f70) [1, 1, 0, 1, 0, 0]
abbrev t70_l3 : Sl (List SV) := (.c (sP sSh) (.c (sP sSh) (.c (sOwn 98) (.c (sP (sInt .i64)) (.c (sP (sInt .i64)) .n)))))
noncomputable abbrev f70_l3 {R : Type} (n m : Nat) (K : Kc R) : t70_l3.T (Option R) := fun x1 x2 x3 x4 x5 => p70_l3L n m x1 x2 x3 x4 x5 (fun y1 => K (.exit 0) (lk (outA ann70.loops 3) [.dead, .own 98 y1]))
noncomputable abbrev o70_l3 {R : Type} (n : Nat) (vs : List SV) (K : Kc R) : Option R := oget (t70_l3.ap vs (f70_l3 n n K)) (loopE ann70 3 (E70 n c70_l3) n vs K)
noncomputable def c70_l7 : Code := subC (bodyOf Tryz.f70) [1, 1, 0, 1, 0, 0, 1, 1, 0, 0, 1, 1, 0, 1, 0, 0]
abbrev t70_l7 : Sl (List SV) := (.c (sP sSh) (.c (sP sSh) (.c (sOwn 98) (.c (sP (sInt .i64)) (.c (sP (sInt .u64)) (.c (sP (sInt .i64)) (.c (sP (sInt .i64)) (.c (sP (sInt .i64)) (.c (sP (sInt .i64)) .n)))))))))
noncomputable abbrev f70_l7 {R : Type} (n m : Nat) (K : Kc R) : t70_l7.T (Option R) := fun x1 x2 x3 x4 x5 x6 x7 x8 x9 => p70_l7L n m x1 x2 x3 x4 x5 x6 x7 x8 x9 (fun y1 y2 y3 y4 y5 y6 y7 => K (.exit 2) (lk (outA ann70.loops 7) [.p (.sh y1), .p (.sh y2), .dead, .own 98 y3, .p (.v (.int .i64 y4)), .p (.v (.int .u64 y5)), .p (.v (.int .i64 y6)), .p (.v (.int .i64 y7))]))
noncomputable abbrev o70_l7 {R : Type} (n : Nat) (vs : List SV) (K : Kc R) : Option R := oget (t70_l7.ap vs (f70_l7 n n K)) (loopE ann70 7 (E70 n c70_l7) n vs K)
noncomputable abbrev lo70 {R : Type} (n : Nat) : Orc R := fun i vs K => dcnd (Nat.beq i 7) (o70_l7 n vs K) (dcnd (Nat.beq i 3) (o70_l3 n vs K) (none))
noncomputable abbrev cu70 {R : Type} (n : Nat) : Orc R := fun i vs K => none
section
variable {R : Type}
noncomputable abbrev V70 (n : Nat) (c : Code) : Fr → Kc R → Option R := evOi Tryz.prog (env70 n) ann70 (68, []) (lo70 n) (cu70 n) c
abbrev K70 (R : Type) (n : Nat) := PartOK (R := R) Tryz.prog (env70 n) ann70 n (68, []) (lo70 n) (cu70 n)
theorem pa70_l7 (n : Nat) : allP (K70 R n) (partsOf ann70 c70_l7) := by
  rw [show partsOf ann70 c70_l7 = [] from by kernel_rfl]; exact trivial
theorem sp70_l7 (n m : Nat) (x1 x2 x3 : List PV) (x4 x5 x6 x7 x8 x9 : Int) (K : Kc R) : loopE ann70 7 (V70 n c70_l7) (m + 1) [.p (.sh x1), .p (.sh x2), .own 98 x3, .p (.v (.int .i64 x4)), .p (.v (.int .u64 x5)), .p (.v (.int .i64 x6)), .p (.v (.int .i64 x7)), .p (.v (.int .i64 x8)), .p (.v (.int .i64 x9))] K = p70_l7B n (fun x1 x2 x3 x4 x5 x6 x7 x8 x9 => loopE ann70 7 (V70 n c70_l7) m [.p (.sh x1), .p (.sh x2), .own 98 x3, .p (.v (.int .i64 x4)), .p (.v (.int .u64 x5)), .p (.v (.int .i64 x6)), .p (.v (.int .i64 x7)), .p (.v (.int .i64 x8)), .p (.v (.int .i64 x9))] K) x1 x2 x3 x4 x5 x6 x7 x8 x9 (fun y1 y2 y3 y4 y5 y6 y7 => K (.exit 2) (lk (outA ann70.loops 7) [.p (.sh y1), .p (.sh y2), .dead, .own 98 y3, .p (.v (.int .i64 y4)), .p (.v (.int .u64 y5)), .p (.v (.int .i64 y6)), .p (.v (.int .i64 y7))])) := by kernel_rfl
theorem ep70_l7 (n : Nat) (K : Kc R) : ∀ (m : Nat) (x1 x2 x3 : List PV) (x4 x5 x6 x7 x8 x9 : Int), loopE ann70 7 (V70 n c70_l7) m [.p (.sh x1), .p (.sh x2), .own 98 x3, .p (.v (.int .i64 x4)), .p (.v (.int .u64 x5)), .p (.v (.int .i64 x6)), .p (.v (.int .i64 x7)), .p (.v (.int .i64 x8)), .p (.v (.int .i64 x9))] K = f70_l7 n m K x1 x2 x3 x4 x5 x6 x7 x8 x9
  | 0, _, _, _, _, _, _, _, _, _ => rfl
  | m + 1, x1, x2, x3, x4, x5, x6, x7, x8, x9 => (sp70_l7 n m x1 x2 x3 x4 x5 x6 x7 x8 x9 K).trans (congrArg (fun l0 => p70_l7B n l0 x1 x2 x3 x4 x5 x6 x7 x8 x9 (fun y1 y2 y3 y4 y5 y6 y7 => K (.exit 2) (lk (outA ann70.loops 7) [.p (.sh y1), .p (.sh y2), .dead, .own 98 y3, .p (.v (.int .i64 y4)), .p (.v (.int .u64 y5)), .p (.v (.int .i64 y6)), .p (.v (.int .i64 y7))]))) (funext fun z0 => funext fun z1 => funext fun z2 => funext fun z3 => funext fun z4 => funext fun z5 => funext fun z6 => funext fun z7 => funext fun z8 => ep70_l7 n K m z0 z1 z2 z3 z4 z5 z6 z7 z8))
theorem q70_l7 (n : Nat) : K70 R n (false, 7, c70_l7) := part_loop (pa70_l7 n) t70_l7 (f70_l7 n n) (fun K x1 x2 x3 x4 x5 x6 x7 x8 x9 => ep70_l7 n K n x1 x2 x3 x4 x5 x6 x7 x8 x9) fun _ _ => rfl
theorem pa70_l3 (n : Nat) : allP (K70 R n) (partsOf ann70 c70_l3) := by
  rw [show partsOf ann70 c70_l3 = [(false, 7, c70_l7)] from by kernel_rfl]; exact ⟨q70_l7 n, trivial⟩
theorem sp70_l3 (n m : Nat) (x1 x2 x3 : List PV) (x4 x5 : Int) (K : Kc R) : loopE ann70 3 (V70 n c70_l3) (m + 1) [.p (.sh x1), .p (.sh x2), .own 98 x3, .p (.v (.int .i64 x4)), .p (.v (.int .i64 x5))] K = p70_l3B n (fun x1 x2 x3 x4 x5 => loopE ann70 3 (V70 n c70_l3) m [.p (.sh x1), .p (.sh x2), .own 98 x3, .p (.v (.int .i64 x4)), .p (.v (.int .i64 x5))] K) x1 x2 x3 x4 x5 (fun y1 => K (.exit 0) (lk (outA ann70.loops 3) [.dead, .own 98 y1])) := by kernel_rfl
theorem ep70_l3 (n : Nat) (K : Kc R) : ∀ (m : Nat) (x1 x2 x3 : List PV) (x4 x5 : Int), loopE ann70 3 (V70 n c70_l3) m [.p (.sh x1), .p (.sh x2), .own 98 x3, .p (.v (.int .i64 x4)), .p (.v (.int .i64 x5))] K = f70_l3 n m K x1 x2 x3 x4 x5
  | 0, _, _, _, _, _ => rfl
  | m + 1, x1, x2, x3, x4, x5 => (sp70_l3 n m x1 x2 x3 x4 x5 K).trans (congrArg (fun l0 => p70_l3B n l0 x1 x2 x3 x4 x5 (fun y1 => K (.exit 0) (lk (outA ann70.loops 3) [.dead, .own 98 y1]))) (funext fun z0 => funext fun z1 => funext fun z2 => funext fun z3 => funext fun z4 => ep70_l3 n K m z0 z1 z2 z3 z4))
theorem q70_l3 (n : Nat) : K70 R n (false, 3, c70_l3) := part_loop (pa70_l3 n) t70_l3 (f70_l3 n n) (fun K x1 x2 x3 x4 x5 => ep70_l3 n K n x1 x2 x3 x4 x5) fun _ _ => rfl
theorem pa70 (n : Nat) : allP (K70 R n) (partsOf ann70 (bodyOf Tryz.f70)) := by
  rw [show partsOf ann70 (bodyOf Tryz.f70) = [(false, 3, c70_l3)] from by kernel_rfl]; exact ⟨q70_l3 n, trivial⟩
end
abbrev t70 : Sl (List SV) := (.c (sP sSh) (.c (sP sSh) .n))
noncomputable abbrev f70 (n : Nat) {R : Type} (K : List SV → Option R) : t70.T (Option R) := fun x1 x2 => p70 n x1 x2 (fun y1 => K [.p (.sh y1)])
theorem ep70 {R : Type} (n : Nat) (K : List SV → Option R) (x1 x2 : List PV) : evFn Tryz.prog (env70 n) ann70 n Tryz.f70 [.p (.sh x1), .p (.sh x2)] K = f70 n K x1 x2 := by
  rw [evFn_evOi (c := bodyOf Tryz.f70) (by kernel_rfl) (pa70 n)]; kernel_rfl
noncomputable abbrev fs70 (n : Nat) : FS := { om := [false, false], run := fun args K => oget (t70.ap args (f70 n K)) none }
theorem ok70 (n : Nat) : FSound Tryz.prog GI 70 (fs70 n) :=
  FSound.good (envok70 n) (ann := ann70) (n := n) Tryz.func70
    (.cons (envok70 n) t70 (f70 n) (fun K x1 x2 => ep70 n K x1 x2) .nil)
    (by kernel_rfl) (by kernel_rfl) (by kernel_rfl)
end Go.Proofs.YtfbahcfojiaeaaaGreatDoor


set_option linter.unusedVariables false
set_option maxRecDepth 100000
namespace Go.Proofs.YtfbahcfojiaeaaaGreatDoor
open Go Th Go.Proofs
def ann94 : Ann := { loops := [(4, [(0, .id), (1, .id), (6, .id), (7, .id), (8, .id)], [(4, .id), (5, .id), (6, .id), (7, .id)])], cuts := [], frz := [], rm := [.id, .id] }
noncomputable abbrev env94 (n : Nat) : Env := fun i => bif Nat.beq i 78 then some (fs78 n) else (fun _ => none) i
theorem envok94 (n : Nat) : EnvOK Tryz.prog GI (env94 n) := EnvOK.cons (EnvOK.nil) (ok78 n)
noncomputable def p94_l4B {R : Type} (n : Nat) (l0 : List PV → Int → List PV → Int → Int → Option R) (x1 : List PV) (x2 : Int) (x3 : List PV) (x4 x5 : Int) (k0 : List PV → Int → Option R) : Option R :=
  bif (decide (x5 ≥ 0)) then (bif (inR x5 ((x1).length)) then (getI .u32 ((x1).getD ((x5 : Int).toNat) (.v (.bool false))) fun e6 => let v7 := IntKind.u64.wrap ((IntKind.u64.wrap (x4 * 1000000000)) + (IntKind.u64.wrap (e6))); bif decide (IntKind.u64.wrap (x2) = 0) then none else (let v8 := IntKind.u64.wrap (Int.tdiv v7 (IntKind.u64.wrap (x2))); bif (inR x5 ((x3).length)) then (getI .u32 ((x3).getD ((x5 : Int).toNat) (.v (.bool false))) fun e9 => bif decide (IntKind.u64.wrap (x2) = 0) then none else (let v10 := Int.tmod v7 (IntKind.u64.wrap (x2)); l0 x1 x2 ((x3).set ((x5 : Int).toNat) (.v (.int .u32 (IntKind.u32.wrap (v8))))) v10 (IntKind.i64.wrap (x5 - 1)))) else none)) else none) else (k0 x3 x4)
noncomputable def p94_l4L {R : Type} (n : Nat) : Nat → List PV → Int → List PV → Int → Int → (List PV → Int → Option R) → Option R
  | 0, _, _, _, _, _, _ => none
  | m + 1, x1, x2, x3, x4, x5, k0 => p94_l4B n (fun x1 x2 x3 x4 x5 => p94_l4L n m x1 x2 x3 x4 x5 k0) x1 x2 x3 x4 x5 k0
noncomputable def p94_l4 {R : Type} (n : Nat) (x1 : List PV) (x2 : Int) (x3 : List PV) (x4 x5 : Int) (k0 : List PV → Int → Option R) : Option R := p94_l4L n n x1 x2 x3 x4 x5 k0
noncomputable def p94 {R : Type} (n : Nat) (x1 : List PV) (x2 : Int) (k0 : List PV → Int → Option R) : Option R :=
  bif (decide ((0 : Int) ≤ ((x1).length : Int)) && decide ((((x1).length : Int) : Int) ≤ ((x1).length : Int)) && lenOK (((x1).length : Int) : Int).toNat 4) then (let v3 := IntKind.i64.wrap (((x1).length : Int) - 1); p94_l4 n x1 x2 (List.replicate (((x1).length : Int) : Int).toNat (.v (.int .u32 0) : PV)) 0 v3 (fun y4 y5 => p78 n y4 (fun y6 => k0 y6 (IntKind.u32.wrap (y5))))) else none
noncomputable abbrev E94 {R : Type} (n : Nat) (c : Code) : Fr → Kc R → Option R := evC Tryz.prog (env94 n) ann94 n (43, []) c
noncomputable def c94_l4 : Code := subC (bodyOf Tryz.f94) [1, 1, 1, 0, 1, 0, 0]
abbrev t94_l4 : Sl (List SV) := (.c (sP sSh) (.c (sP (sInt .u32)) (.c (sOwn 98) (.c (sP (sInt .u64)) (.c (sP (sInt .i64)) .n)))))
noncomputable abbrev f94_l4 {R : Type} (n m : Nat) (K : Kc R) : t94_l4.T (Option R) := fun x1 x2 x3 x4 x5 => p94_l4L n m x1 x2 x3 x4 x5 (fun y1 y2 => K (.exit 0) (lk (outA ann94.loops 4) [.dead, .dead, .own 98 y1, .p (.v (.int .u64 y2))]))
noncomputable abbrev o94_l4 {R : Type} (n : Nat) (vs : List SV) (K : Kc R) : Option R := oget (t94_l4.ap vs (f94_l4 n n K)) (loopE ann94 4 (E94 n c94_l4) n vs K)
noncomputable abbrev lo94 {R : Type} (n : Nat) : Orc R := fun i vs K => dcnd (Nat.beq i 4) (o94_l4 n vs K) (none)
noncomputable abbrev cu94 {R : Type} (n : Nat) : Orc R := fun i vs K => none
section
variable {R : Type}
noncomputable abbrev V94 (n : Nat) (c : Code) : Fr → Kc R → Option R := evOi Tryz.prog (env94 n) ann94 (43, []) (lo94 n) (cu94 n) c
abbrev K94 (R : Type) (n : Nat) := PartOK (R := R) Tryz.prog (env94 n) ann94 n (43, []) (lo94 n) (cu94 n)
theorem pa94_l4 (n : Nat) : allP (K94 R n) (partsOf ann94 c94_l4) := by
  rw [show partsOf ann94 c94_l4 = [] from by kernel_rfl]; exact trivial
theorem sp94_l4 (n m : Nat) (x1 : List PV) (x2 : Int) (x3 : List PV) (x4 x5 : Int) (K : Kc R) : loopE ann94 4 (V94 n c94_l4) (m + 1) [.p (.sh x1), .p (.v (.int .u32 x2)), .own 98 x3, .p (.v (.int .u64 x4)), .p (.v (.int .i64 x5))] K = p94_l4B n (fun x1 x2 x3 x4 x5 => loopE ann94 4 (V94 n c94_l4) m [.p (.sh x1), .p (.v (.int .u32 x2)), .own 98 x3, .p (.v (.int .u64 x4)), .p (.v (.int .i64 x5))] K) x1 x2 x3 x4 x5 (fun y1 y2 => K (.exit 0) (lk (outA ann94.loops 4) [.dead, .dead, .own 98 y1, .p (.v (.int .u64 y2))])) := by kernel_rfl
theorem ep94_l4 (n : Nat) (K : Kc R) : ∀ (m : Nat) (x1 : List PV) (x2 : Int) (x3 : List PV) (x4 x5 : Int), loopE ann94 4 (V94 n c94_l4) m [.p (.sh x1), .p (.v (.int .u32 x2)), .own 98 x3, .p (.v (.int .u64 x4)), .p (.v (.int .i64 x5))] K = f94_l4 n m K x1 x2 x3 x4 x5
  | 0, _, _, _, _, _ => rfl
  | m + 1, x1, x2, x3, x4, x5 => (sp94_l4 n m x1 x2 x3 x4 x5 K).trans (congrArg (fun l0 => p94_l4B n l0 x1 x2 x3 x4 x5 (fun y1 y2 => K (.exit 0) (lk (outA ann94.loops 4) [.dead, .dead, .own 98 y1, .p (.v (.int .u64 y2))]))) (funext fun z0 => funext fun z1 => funext fun z2 => funext fun z3 => funext fun z4 => ep94_l4 n K m z0 z1 z2 z3 z4))
theorem q94_l4 (n : Nat) : K94 R n (false, 4, c94_l4) := part_loop (pa94_l4 n) t94_l4 (f94_l4 n n) (fun K x1 x2 x3 x4 x5 => ep94_l4 n K n x1 x2 x3 x4 x5) fun _ _ => rfl
theorem pa94 (n : Nat) : allP (K94 R n) (partsOf ann94 (bodyOf Tryz.f94)) := by
  rw [show partsOf ann94 (bodyOf Tryz.f94) = [(false, 4, c94_l4)] from by kernel_rfl]; exact ⟨q94_l4 n, trivial⟩
end
abbrev t94 : Sl (List SV) := (.c (sP sSh) (.c (sP (sInt .u32)) .n))
noncomputable abbrev f94 (n : Nat) {R : Type} (K : List SV → Option R) : t94.T (Option R) := fun x1 x2 => p94 n x1 x2 (fun y1 y2 => K [.p (.sh y1), .p (.v (.int .u32 y2))])
theorem ep94 {R : Type} (n : Nat) (K : List SV → Option R) (x1 : List PV) (x2 : Int) : evFn Tryz.prog (env94 n) ann94 n Tryz.f94 [.p (.sh x1), .p (.v (.int .u32 x2))] K = f94 n K x1 x2 := by
  rw [evFn_evOi (c := bodyOf Tryz.f94) (by kernel_rfl) (pa94 n)]; kernel_rfl
noncomputable abbrev fs94 (n : Nat) : FS := { om := [false, false], run := fun args K => oget (t94.ap args (f94 n K)) none }
theorem ok94 (n : Nat) : FSound Tryz.prog GI 94 (fs94 n) :=
  FSound.good (envok94 n) (ann := ann94) (n := n) Tryz.func94
    (.cons (envok94 n) t94 (f94 n) (fun K x1 x2 => ep94 n K x1 x2) .nil)
    (by kernel_rfl) (by kernel_rfl) (by kernel_rfl)
end Go.Proofs.YtfbahcfojiaeaaaGreatDoor


set_option linter.unusedVariables false
set_option linter.unusedSimpArgs false
namespace Go.Proofs.YtfbahcfojiaeaaaGreatDoor
open Go Th Go.Proofs
variable {R : Type}
theorem hB2 : 2 ≤ 1000000000 := by decide
def NN (a : Nat) : List PV := nl .u32 (toL 1000000000 a)
theorem trim_loop (n : Nat) (k0 : List PV → Option R) : ∀ (m : Nat) (l : List Nat), (∀ d ∈ l, d < 1000000000) → l.length < m → l.length < 2 ^ 40 → p78_l1L n m (nl .u32 l) k0 = k0 (NN (val 1000000000 l))
  | m + 1, l, hl, hm, hb => by
    simp only [p78_l1L, p78_l1B]
    rcases List.eq_nil_or_concat l with rfl | ⟨r, d, rfl⟩
    · simp (disch := (first | omega | (simp only [List.length_append, List.length_cons, List.length_nil, List.length_replicate, List.length_take, List.length_drop]; omega))) only [↓c_pos, ↓c_neg, dec_t, dec_f, Bool.and_true, Bool.true_and, Bool.and_false, Bool.false_and, Bool.not_true, Bool.not_false, cond_true, cond_false, inR_t, cutR_t, roomB_t, lenOK_t, w64, bs_size, List.length_append, List.length_cons, List.length_nil, bs_extract, bs_append, bs_push, bs_data, bs_empty, bs_lit, catS_bs, eqS_bs, ite_pos', ite_neg', decide_true, decide_false, if_true, if_false, toNatC, getI_nl, nl_len, nl_set, nl_set0, nl_take, nl_drop, nl_rep, nl_app, hdSz_nl, drop0, wu32, wu64, wu8, List.length_set, List.length_replicate]
      unfold NN
      rw [show val 1000000000 [] = 0 from rfl, toL_zero]
    · rw [List.concat_eq_append] at *
      have hlen : (r ++ [d]).length = r.length + 1 := by simp
      have hg : (r ++ [d]).getD r.length 0 = d := by rw [List.getD_eq_getElem?_getD, List.getElem?_append_right (Nat.le_refl _)]; simp
      have ht : (r ++ [d]).take r.length = r := List.take_left
      have e1 : ((r.length + (0 + 1) : Nat) : Int) - 1 = (r.length : Int) := by omega
      rw [hlen] at hm hb
      by_cases hd : d = 0
      · subst hd
        have ih := trim_loop n k0 m r (fun x hx => hl x (by simp [hx])) (by omega) (by omega)
        simp (disch := (first | omega | (simp only [List.length_append, List.length_cons, List.length_nil, List.length_replicate, List.length_take, List.length_drop]; omega))) only [↓c_pos, ↓c_neg, dec_t, dec_f, Bool.and_true, Bool.true_and, Bool.and_false, Bool.false_and, Bool.not_true, Bool.not_false, cond_true, cond_false, inR_t, cutR_t, roomB_t, lenOK_t, w64, bs_size, List.length_append, List.length_cons, List.length_nil, bs_extract, bs_append, bs_push, bs_data, bs_empty, bs_lit, catS_bs, eqS_bs, ite_pos', ite_neg', decide_true, decide_false, if_true, if_false, toNatC, getI_nl, nl_len, nl_set, nl_set0, nl_take, nl_drop, nl_rep, nl_app, hdSz_nl, drop0, wu32, wu64, wu8, List.length_set, List.length_replicate, e1, hg, beqInt0, ht, ih]
        rw [val_snoc_zero]
        rfl
      · have hne : (d == 0) = false := by simpa using hd
        simp (disch := (first | omega | (simp only [List.length_append, List.length_cons, List.length_nil, List.length_replicate, List.length_take, List.length_drop]; omega))) only [↓c_pos, ↓c_neg, dec_t, dec_f, Bool.and_true, Bool.true_and, Bool.and_false, Bool.false_and, Bool.not_true, Bool.not_false, cond_true, cond_false, inR_t, cutR_t, roomB_t, lenOK_t, w64, bs_size, List.length_append, List.length_cons, List.length_nil, bs_extract, bs_append, bs_push, bs_data, bs_empty, bs_lit, catS_bs, eqS_bs, ite_pos', ite_neg', decide_true, decide_false, if_true, if_false, toNatC, getI_nl, nl_len, nl_set, nl_set0, nl_take, nl_drop, nl_rep, nl_app, hdSz_nl, drop0, wu32, wu64, wu8, List.length_set, List.length_replicate, e1, hg, beqInt0, hne]
        congr 1
        unfold NN
        rw [toL_val hB2 _ hl (by rw [List.getLast?_append]; simpa using hd)]
theorem trim_eq (n : Nat) (l : List Nat) (hl : ∀ d ∈ l, d < 1000000000) (hn : l.length < n) (hb : l.length < 2 ^ 40) (k0 : List PV → Option R) : p78 n (nl .u32 l) k0 = k0 (NN (val 1000000000 l)) := by
  unfold p78 p78_l1
  exact trim_loop n _ n l hl hn hb
def cmpN (a b : Nat) : Int := if a < b then -1 else if b < a then 1 else 0
theorem cmp_loop (n : Nat) (la lb : List Nat) (ha : ∀ d ∈ la, d < 1000000000) (hb : ∀ d ∈ lb, d < 1000000000) (hlen : la.length = lb.length) (hl : la.length < 2 ^ 40) (k0 : Int → Option R) (k1 : Option R) :
    ∀ (i m : Nat), i ≤ la.length → i < m → p73_l6L n m (nl .u32 la) (nl .u32 lb) ((i : Int) - 1) k0 k1 =
      if val 1000000000 (la.take i) < val 1000000000 (lb.take i) then k0 (-1) else if val 1000000000 (lb.take i) < val 1000000000 (la.take i) then k0 1 else k1
  | 0, m + 1, _, _ => by
    simp only [p73_l6L, p73_l6B]
    simp (disch := (first | omega | (simp only [List.length_append, List.length_cons, List.length_nil, List.length_replicate, List.length_take, List.length_drop]; omega))) only [↓c_pos, ↓c_neg, dec_t, dec_f, Bool.and_true, Bool.true_and, Bool.and_false, Bool.false_and, Bool.not_true, Bool.not_false, cond_true, cond_false, inR_t, cutR_t, roomB_t, lenOK_t, w64, bs_size, List.length_append, List.length_cons, List.length_nil, bs_extract, bs_append, bs_push, bs_data, bs_empty, bs_lit, catS_bs, eqS_bs, ite_pos', ite_neg', decide_true, decide_false, if_true, if_false, toNatC, getI_nl, nl_len, nl_set, nl_set0, nl_take, nl_drop, nl_rep, nl_app, hdSz_nl, drop0, wu32, wu64, wu8, List.length_set, List.length_replicate]
    rfl
  | i + 1, m + 1, h, hm => by
    have ih := cmp_loop n la lb ha hb hlen hl k0 k1 i m (by omega) (by omega)
    have e1 : ((i + 1 : Nat) : Int) - 1 = (i : Int) := by omega
    have va := val_take_lt hB2 ha (i := i) (by omega)
    have vb := val_take_lt hB2 hb (i := i) (by omega)
    rw [val_take_succ 1000000000 (by omega : i < la.length), val_take_succ 1000000000 (by omega : i < lb.length)]
    simp only [p73_l6L, p73_l6B]
    simp (disch := (first | omega | (simp only [List.length_append, List.length_cons, List.length_nil, List.length_replicate, List.length_take, List.length_drop]; omega))) only [↓c_pos, ↓c_neg, dec_t, dec_f, Bool.and_true, Bool.true_and, Bool.and_false, Bool.false_and, Bool.not_true, Bool.not_false, cond_true, cond_false, inR_t, cutR_t, roomB_t, lenOK_t, w64, bs_size, List.length_append, List.length_cons, List.length_nil, bs_extract, bs_append, bs_push, bs_data, bs_empty, bs_lit, catS_bs, eqS_bs, ite_pos', ite_neg', decide_true, decide_false, if_true, if_false, toNatC, getI_nl, nl_len, nl_set, nl_set0, nl_take, nl_drop, nl_rep, nl_app, hdSz_nl, drop0, wu32, wu64, wu8, List.length_set, List.length_replicate, e1, bneInt_nat]
    have hd := getD_lt hB2 ha i
    have hd2 := getD_lt hB2 hb i
    generalize la.getD i 0 = x at *
    generalize lb.getD i 0 = y at *
    by_cases he : x = y
    · subst he
      rw [bne_self_eq_false, cond_false, ih]
      simp only [Nat.add_lt_add_iff_right]
    · rw [bne_iff_ne.2 he, cond_true]
      by_cases hlt : x < y
      · have : 1000000000 ^ i * x + 1000000000 ^ i ≤ 1000000000 ^ i * y := by rw [← Nat.mul_succ]; exact Nat.mul_le_mul_left _ hlt
        rw [c_pos (by omega), if_pos (by omega)]
      · have hgt : y < x := by omega
        have : 1000000000 ^ i * y + 1000000000 ^ i ≤ 1000000000 ^ i * x := by rw [← Nat.mul_succ]; exact Nat.mul_le_mul_left _ hgt
        rw [c_neg (by omega), if_neg (by omega), if_pos (by omega)]
theorem cmp_eq (n a b : Nat) (hla : (toL 1000000000 a).length < 2 ^ 40) (hlb : (toL 1000000000 b).length < 2 ^ 40) (hn : (toL 1000000000 a).length < n) (k0 : Int → Option R) : p73 n (NN a) (NN b) k0 = k0 (cmpN a b) := by
  unfold p73 NN cmpN
  by_cases he : (toL 1000000000 a).length = (toL 1000000000 b).length
  · have : ((toL 1000000000 a).length != (toL 1000000000 b).length) = false := by simp [he]
    have hlp := cmp_loop n _ _ (toL_lt hB2 a) (toL_lt hB2 b) he hla (fun y4 => k0 y4) (k0 0) (toL 1000000000 a).length n (Nat.le_refl _) hn
    rw [List.take_length, show (toL 1000000000 b).take (toL 1000000000 a).length = toL 1000000000 b from by rw [he, List.take_length], val_toL hB2, val_toL hB2] at hlp
    simp only [nl_len]
    rw [bneInt_nat, this, cond_false, w64 (by omega) (by omega)]
    unfold p73_l6
    rw [hlp]
    split
    · rfl
    · split <;> rfl
  · have : ((toL 1000000000 a).length != (toL 1000000000 b).length) = true := by simpa using he
    by_cases hlt : (toL 1000000000 a).length < (toL 1000000000 b).length
    · have h2 := toL_lt_len hB2 hlt
      simp (disch := (first | omega | (simp only [List.length_append, List.length_cons, List.length_nil, List.length_replicate, List.length_take, List.length_drop]; omega))) only [↓c_pos, ↓c_neg, dec_t, dec_f, Bool.and_true, Bool.true_and, Bool.and_false, Bool.false_and, Bool.not_true, Bool.not_false, cond_true, cond_false, inR_t, cutR_t, roomB_t, lenOK_t, w64, bs_size, List.length_append, List.length_cons, List.length_nil, bs_extract, bs_append, bs_push, bs_data, bs_empty, bs_lit, catS_bs, eqS_bs, ite_pos', ite_neg', decide_true, decide_false, if_true, if_false, toNatC, getI_nl, nl_len, nl_set, nl_set0, nl_take, nl_drop, nl_rep, nl_app, hdSz_nl, drop0, wu32, wu64, wu8, List.length_set, List.length_replicate, bneInt_nat, this]
    · have h2 := toL_lt_len hB2 (x := b) (y := a) (by omega)
      simp (disch := (first | omega | (simp only [List.length_append, List.length_cons, List.length_nil, List.length_replicate, List.length_take, List.length_drop]; omega))) only [↓c_pos, ↓c_neg, dec_t, dec_f, Bool.and_true, Bool.true_and, Bool.and_false, Bool.false_and, Bool.not_true, Bool.not_false, cond_true, cond_false, inR_t, cutR_t, roomB_t, lenOK_t, w64, bs_size, List.length_append, List.length_cons, List.length_nil, bs_extract, bs_append, bs_push, bs_data, bs_empty, bs_lit, catS_bs, eqS_bs, ite_pos', ite_neg', decide_true, decide_false, if_true, if_false, toNatC, getI_nl, nl_len, nl_set, nl_set0, nl_take, nl_drop, nl_rep, nl_app, hdSz_nl, drop0, wu32, wu64, wu8, List.length_set, List.length_replicate, bneInt_nat, this]
theorem plus_loop (n : Nat) (la lb : List Nat) (ha : ∀ d ∈ la, d < 1000000000) (hb : ∀ d ∈ lb, d < 1000000000) (hab : lb.length ≤ la.length) (hl : la.length < 2 ^ 40) :
    ∀ (d m i : Nat) (o : List Nat) (c : Nat), d + i = la.length → d < m → o.length = la.length + 1 → (∀ x ∈ o, x < 1000000000) → c ≤ 1 → val 1000000000 (o.take i) + 1000000000 ^ i * c = val 1000000000 (la.take i) + val 1000000000 (lb.take i) →
      ∃ (o' : List Nat) (c' : Nat), (∀ k0 : List PV → List PV → Int → Option R, p88_l6L n m (nl .u32 la) (nl .u32 lb) (nl .u32 o) c la.length i k0 = k0 (nl .u32 la) (nl .u32 o') c') ∧ o'.length = la.length + 1 ∧ (∀ x ∈ o', x < 1000000000) ∧ c' ≤ 1 ∧
        val 1000000000 (o'.take la.length) + 1000000000 ^ la.length * c' = val 1000000000 la + val 1000000000 lb
  | 0, m + 1, i, o, c, hd, hm, ho, hlt, hc, hv => by
    have hi : i = la.length := by omega
    subst hi
    refine ⟨o, c, fun k0 => ?_, ho, hlt, hc, ?_⟩
    · simp only [p88_l6L, p88_l6B]
      simp (disch := (first | omega | (simp only [List.length_append, List.length_cons, List.length_nil, List.length_replicate, List.length_take, List.length_drop]; omega))) only [↓c_pos, ↓c_neg, dec_t, dec_f, Bool.and_true, Bool.true_and, Bool.and_false, Bool.false_and, Bool.not_true, Bool.not_false, cond_true, cond_false, inR_t, cutR_t, roomB_t, lenOK_t, w64, bs_size, List.length_append, List.length_cons, List.length_nil, bs_extract, bs_append, bs_push, bs_data, bs_empty, bs_lit, catS_bs, eqS_bs, ite_pos', ite_neg', decide_true, decide_false, if_true, if_false, toNatC, getI_nl, nl_len, nl_set, nl_set0, nl_take, nl_drop, nl_rep, nl_app, hdSz_nl, drop0, wu32, wu64, wu8, List.length_set, List.length_replicate]
    · rw [hv, List.take_length, List.take_of_length_le hab]
  | d + 1, m + 1, i, o, c, hd, hm, ho, hlt, hc, hv => by
    have hx := getD_lt hB2 ha i
    have hy := getD_lt hB2 hb i
    have hs2 : c + la.getD i 0 + lb.getD i 0 < 2 * 1000000000 := by omega
    have step := plus_loop n la lb ha hb hab hl d m (i + 1) (o.set i ((c + la.getD i 0 + lb.getD i 0) % 1000000000)) ((c + la.getD i 0 + lb.getD i 0) / 1000000000) (by omega) (by omega) (by rw [List.length_set]; exact ho)
      (set_lt hlt (Nat.mod_lt _ (by decide)) i) (by have := Nat.div_lt_of_lt_mul (show c + la.getD i 0 + lb.getD i 0 < 1000000000 * 2 by omega); omega)
      (by rw [set_take _ (by omega), val_snoc, List.length_take, Nat.min_eq_left (by omega), digit_step 1000000000 i _ c _ (by decide), val_take_succ' 1000000000 la, val_take_succ' 1000000000 lb, Nat.mul_add, Nat.mul_add]; omega)
    obtain ⟨o', c', h1, h2⟩ := step
    refine ⟨o', c', fun k0 => ?_, h2⟩
    rw [← h1 k0]
    have e2 : ((i : Int) + 1) = ((i + 1 : Nat) : Int) := by omega
    simp only [p88_l6L, p88_l6B, p88_c11]
    by_cases hi : i < lb.length
    · have e3 : ((c : Int) + ((la.getD i 0 : Nat) : Int) + ((lb.getD i 0 : Nat) : Int)) = ((c + la.getD i 0 + lb.getD i 0 : Nat) : Int) := by omega
      simp (disch := (first | omega | (simp only [List.length_append, List.length_cons, List.length_nil, List.length_replicate, List.length_take, List.length_drop]; omega))) only [↓c_pos, ↓c_neg, dec_t, dec_f, Bool.and_true, Bool.true_and, Bool.and_false, Bool.false_and, Bool.not_true, Bool.not_false, cond_true, cond_false, inR_t, cutR_t, roomB_t, lenOK_t, w64, bs_size, List.length_append, List.length_cons, List.length_nil, bs_extract, bs_append, bs_push, bs_data, bs_empty, bs_lit, catS_bs, eqS_bs, ite_pos', ite_neg', decide_true, decide_false, if_true, if_false, toNatC, getI_nl, nl_len, nl_set, nl_set0, nl_take, nl_drop, nl_rep, nl_app, hdSz_nl, drop0, wu32, wu64, wu8, List.length_set, List.length_replicate, e3, e2, tdivB, tmodB]
    · have h0 := getD_out (l := lb) (i := i) (by omega)
      rw [h0] at *
      have e3 : ((c : Int) + ((la.getD i 0 : Nat) : Int)) = ((c + la.getD i 0 + 0 : Nat) : Int) := by omega
      simp (disch := (first | omega | (simp only [List.length_append, List.length_cons, List.length_nil, List.length_replicate, List.length_take, List.length_drop]; omega))) only [↓c_pos, ↓c_neg, dec_t, dec_f, Bool.and_true, Bool.true_and, Bool.and_false, Bool.false_and, Bool.not_true, Bool.not_false, cond_true, cond_false, inR_t, cutR_t, roomB_t, lenOK_t, w64, bs_size, List.length_append, List.length_cons, List.length_nil, bs_extract, bs_append, bs_push, bs_data, bs_empty, bs_lit, catS_bs, eqS_bs, ite_pos', ite_neg', decide_true, decide_false, if_true, if_false, toNatC, getI_nl, nl_len, nl_set, nl_set0, nl_take, nl_drop, nl_rep, nl_app, hdSz_nl, drop0, wu32, wu64, wu8, List.length_set, List.length_replicate, e3, e2, tdivB, tmodB]
theorem plus_eq (n a b : Nat) (hla : (toL 1000000000 a).length < 2 ^ 30) (hlb : (toL 1000000000 b).length < 2 ^ 30) (hna : (toL 1000000000 a).length + 1 < n) (hnb : (toL 1000000000 b).length + 1 < n) (k0 : List PV → Option R) : p88 n (NN a) (NN b) k0 = k0 (NN (a + b)) := by
  have key : ∀ x y : Nat, (toL 1000000000 x).length < 2 ^ 30 → (toL 1000000000 y).length ≤ (toL 1000000000 x).length → (toL 1000000000 x).length + 1 < n → p88_c3 n (NN x) (NN y) k0 = k0 (NN (x + y)) := by
    intro x y hx hyx hn
    obtain ⟨o', c', h1, h2, h3, h4, h5⟩ := plus_loop (R := R) n (toL 1000000000 x) (toL 1000000000 y) (toL_lt hB2 x) (toL_lt hB2 y) hyx (by omega)
      (toL 1000000000 x).length n 0 (List.replicate ((toL 1000000000 x).length + 1) 0) 0 (by omega) (by omega) (by rw [List.length_replicate]) (rep_lt hB2 _) (by omega) (by simp [val])
    rw [val_toL hB2, val_toL hB2] at h5
    have ht := trim_eq n (o'.set (toL 1000000000 x).length c') (set_lt h3 (by omega) _) (by rw [List.length_set]; omega) (by rw [List.length_set]; omega) k0
    rw [take_full h2, val_snoc, List.length_take, Nat.min_eq_left (by omega), h5] at ht
    have e1 : ((toL 1000000000 x).length : Int) + 1 = (((toL 1000000000 x).length + 1 : Nat) : Int) := by omega
    unfold p88_c3 NN p88_l6
    rw [show ((0 : Nat) : Int) = 0 from rfl] at h1
    simp (disch := (first | omega | (simp only [List.length_append, List.length_cons, List.length_nil, List.length_replicate, List.length_take, List.length_drop]; omega))) only [↓c_pos, ↓c_neg, dec_t, dec_f, Bool.and_true, Bool.true_and, Bool.and_false, Bool.false_and, Bool.not_true, Bool.not_false, cond_true, cond_false, inR_t, cutR_t, roomB_t, lenOK_t, w64, bs_size, List.length_append, List.length_cons, List.length_nil, bs_extract, bs_append, bs_push, bs_data, bs_empty, bs_lit, catS_bs, eqS_bs, ite_pos', ite_neg', decide_true, decide_false, if_true, if_false, toNatC, getI_nl, nl_len, nl_set, nl_set0, nl_take, nl_drop, nl_rep, nl_app, hdSz_nl, drop0, wu32, wu64, wu8, List.length_set, List.length_replicate, e1, h1, take_full h2]
    exact ht
  unfold p88
  have l1 : (NN a).length = (toL 1000000000 a).length := nl_len _ _
  have l2 : (NN b).length = (toL 1000000000 b).length := nl_len _ _
  rw [l1, l2]
  by_cases h : (toL 1000000000 a).length < (toL 1000000000 b).length
  · rw [c_pos (by omega), Nat.add_comm]
    exact key b a hlb (by omega) hnb
  · rw [c_neg (by omega)]
    exact key a b hla (by omega) hna
theorem minus_loop (n : Nat) (la lb : List Nat) (ha : ∀ d ∈ la, d < 1000000000) (hb : ∀ d ∈ lb, d < 1000000000) (hab : lb.length ≤ la.length) (hl : la.length < 2 ^ 40) :
    ∀ (d m i : Nat) (o : List Nat) (c : Nat), d + i = la.length → d < m → o.length = la.length → (∀ x ∈ o, x < 1000000000) → c ≤ 1 → val 1000000000 (la.take i) + 1000000000 ^ i * c = val 1000000000 (o.take i) + val 1000000000 (lb.take i) →
      ∃ (o' : List Nat) (c' : Nat), (∀ k0 : List PV → Option R, p89_l4L n m (nl .u32 la) (nl .u32 lb) (nl .u32 o) c la.length i k0 = k0 (nl .u32 o')) ∧ o'.length = la.length ∧ (∀ x ∈ o', x < 1000000000) ∧ c' ≤ 1 ∧
        val 1000000000 la + 1000000000 ^ la.length * c' = val 1000000000 o' + val 1000000000 lb
  | 0, m + 1, i, o, c, hd, hm, ho, hlt, hc, hv => by
    have hi : i = la.length := by omega
    subst hi
    refine ⟨o, c, fun k0 => ?_, ho, hlt, hc, ?_⟩
    · simp only [p89_l4L, p89_l4B]
      simp (disch := (first | omega | (simp only [List.length_append, List.length_cons, List.length_nil, List.length_replicate, List.length_take, List.length_drop]; omega))) only [↓c_pos, ↓c_neg, dec_t, dec_f, Bool.and_true, Bool.true_and, Bool.and_false, Bool.false_and, Bool.not_true, Bool.not_false, cond_true, cond_false, inR_t, cutR_t, roomB_t, lenOK_t, w64, bs_size, List.length_append, List.length_cons, List.length_nil, bs_extract, bs_append, bs_push, bs_data, bs_empty, bs_lit, catS_bs, eqS_bs, ite_pos', ite_neg', decide_true, decide_false, if_true, if_false, toNatC, getI_nl, nl_len, nl_set, nl_set0, nl_take, nl_drop, nl_rep, nl_app, hdSz_nl, drop0, wu32, wu64, wu8, List.length_set, List.length_replicate]
    · rw [List.take_length, List.take_of_length_le (by omega), List.take_of_length_le hab] at hv
      exact hv
  | d + 1, m + 1, i, o, c, hd, hm, ho, hlt, hc, hv => by
    have hx := getD_lt hB2 ha i
    have hy := getD_lt hB2 hb i
    have step : ∀ (dg c' : Nat), dg < 1000000000 → c' ≤ 1 → la.getD i 0 + 1000000000 * c' = dg + c + lb.getD i 0 → _ := fun dg c' h1 h2 h3 =>
      minus_loop n la lb ha hb hab hl d m (i + 1) (o.set i dg) c' (by omega) (by omega) (by rw [List.length_set]; exact ho) (set_lt hlt h1 i) h2
      (by
        rw [set_take _ (by omega), val_snoc, List.length_take, Nat.min_eq_left (by omega), val_take_succ' 1000000000 la, val_take_succ' 1000000000 lb, Nat.pow_succ, Nat.mul_assoc]
        have : 1000000000 ^ i * (la.getD i 0 + 1000000000 * c') = 1000000000 ^ i * (dg + c + lb.getD i 0) := by rw [h3]
        rw [Nat.mul_add, Nat.mul_add, Nat.mul_add] at this
        omega)
    have e2 : ((i : Int) + 1) = ((i + 1 : Nat) : Int) := by omega
    by_cases hneg : la.getD i 0 < c + lb.getD i 0
    · obtain ⟨o', c', h1, h2⟩ := step (la.getD i 0 + 1000000000 - c - lb.getD i 0) 1 (by omega) (by omega) (by omega)
      refine ⟨o', c', fun k0 => ?_, h2⟩
      rw [← h1 k0]
      simp only [p89_l4L, p89_l4B, p89_c9, p89_c13]
      by_cases hi : i < lb.length
      · have e3 : ((la.getD i 0 : Nat) : Int) - (c : Int) - ((lb.getD i 0 : Nat) : Int) + 1000000000 = ((la.getD i 0 + 1000000000 - c - lb.getD i 0 : Nat) : Int) := by omega
        simp (disch := (first | omega | (simp only [List.length_append, List.length_cons, List.length_nil, List.length_replicate, List.length_take, List.length_drop]; omega))) only [↓c_pos, ↓c_neg, dec_t, dec_f, Bool.and_true, Bool.true_and, Bool.and_false, Bool.false_and, Bool.not_true, Bool.not_false, cond_true, cond_false, inR_t, cutR_t, roomB_t, lenOK_t, w64, bs_size, List.length_append, List.length_cons, List.length_nil, bs_extract, bs_append, bs_push, bs_data, bs_empty, bs_lit, catS_bs, eqS_bs, ite_pos', ite_neg', decide_true, decide_false, if_true, if_false, toNatC, getI_nl, nl_len, nl_set, nl_set0, nl_take, nl_drop, nl_rep, nl_app, hdSz_nl, drop0, wu32, wu64, wu8, List.length_set, List.length_replicate, e3, e2]
        rfl
      · have h0 := getD_out (l := lb) (i := i) (by omega)
        have e3 : ((la.getD i 0 : Nat) : Int) - (c : Int) + 1000000000 = ((la.getD i 0 + 1000000000 - c - lb.getD i 0 : Nat) : Int) := by omega
        simp (disch := (first | omega | (simp only [List.length_append, List.length_cons, List.length_nil, List.length_replicate, List.length_take, List.length_drop]; omega))) only [↓c_pos, ↓c_neg, dec_t, dec_f, Bool.and_true, Bool.true_and, Bool.and_false, Bool.false_and, Bool.not_true, Bool.not_false, cond_true, cond_false, inR_t, cutR_t, roomB_t, lenOK_t, w64, bs_size, List.length_append, List.length_cons, List.length_nil, bs_extract, bs_append, bs_push, bs_data, bs_empty, bs_lit, catS_bs, eqS_bs, ite_pos', ite_neg', decide_true, decide_false, if_true, if_false, toNatC, getI_nl, nl_len, nl_set, nl_set0, nl_take, nl_drop, nl_rep, nl_app, hdSz_nl, drop0, wu32, wu64, wu8, List.length_set, List.length_replicate, e3, e2]
        rfl
    · obtain ⟨o', c', h1, h2⟩ := step (la.getD i 0 - c - lb.getD i 0) 0 (by omega) (by omega) (by omega)
      refine ⟨o', c', fun k0 => ?_, h2⟩
      rw [← h1 k0]
      simp only [p89_l4L, p89_l4B, p89_c9, p89_c13]
      by_cases hi : i < lb.length
      · have e3 : ((la.getD i 0 : Nat) : Int) - (c : Int) - ((lb.getD i 0 : Nat) : Int) = ((la.getD i 0 - c - lb.getD i 0 : Nat) : Int) := by omega
        simp (disch := (first | omega | (simp only [List.length_append, List.length_cons, List.length_nil, List.length_replicate, List.length_take, List.length_drop]; omega))) only [↓c_pos, ↓c_neg, dec_t, dec_f, Bool.and_true, Bool.true_and, Bool.and_false, Bool.false_and, Bool.not_true, Bool.not_false, cond_true, cond_false, inR_t, cutR_t, roomB_t, lenOK_t, w64, bs_size, List.length_append, List.length_cons, List.length_nil, bs_extract, bs_append, bs_push, bs_data, bs_empty, bs_lit, catS_bs, eqS_bs, ite_pos', ite_neg', decide_true, decide_false, if_true, if_false, toNatC, getI_nl, nl_len, nl_set, nl_set0, nl_take, nl_drop, nl_rep, nl_app, hdSz_nl, drop0, wu32, wu64, wu8, List.length_set, List.length_replicate, e3, e2]
        rfl
      · have h0 := getD_out (l := lb) (i := i) (by omega)
        have e3 : ((la.getD i 0 : Nat) : Int) - (c : Int) = ((la.getD i 0 - c - lb.getD i 0 : Nat) : Int) := by omega
        simp (disch := (first | omega | (simp only [List.length_append, List.length_cons, List.length_nil, List.length_replicate, List.length_take, List.length_drop]; omega))) only [↓c_pos, ↓c_neg, dec_t, dec_f, Bool.and_true, Bool.true_and, Bool.and_false, Bool.false_and, Bool.not_true, Bool.not_false, cond_true, cond_false, inR_t, cutR_t, roomB_t, lenOK_t, w64, bs_size, List.length_append, List.length_cons, List.length_nil, bs_extract, bs_append, bs_push, bs_data, bs_empty, bs_lit, catS_bs, eqS_bs, ite_pos', ite_neg', decide_true, decide_false, if_true, if_false, toNatC, getI_nl, nl_len, nl_set, nl_set0, nl_take, nl_drop, nl_rep, nl_app, hdSz_nl, drop0, wu32, wu64, wu8, List.length_set, List.length_replicate, e3, e2]
        rfl
theorem toL_mono {x y : Nat} (h : x ≤ y) : (toL 1000000000 x).length ≤ (toL 1000000000 y).length := by
  by_cases hq : (toL 1000000000 x).length ≤ (toL 1000000000 y).length
  · exact hq
  · have := toL_lt_len hB2 (x := y) (y := x) (by omega); omega
theorem minus_eq (n a b : Nat) (hba : b ≤ a) (hla : (toL 1000000000 a).length < 2 ^ 30) (hna : (toL 1000000000 a).length + 1 < n) (k0 : List PV → Option R) : p89 n (NN a) (NN b) k0 = k0 (NN (a - b)) := by
  obtain ⟨o', c', h1, h2, h3, h4, h5⟩ := minus_loop (R := R) n (toL 1000000000 a) (toL 1000000000 b) (toL_lt hB2 a) (toL_lt hB2 b) (toL_mono hba) (by omega)
    (toL 1000000000 a).length n 0 (List.replicate (toL 1000000000 a).length 0) 0 (by omega) (by omega) (by rw [List.length_replicate]) (rep_lt hB2 _) (by omega) (by simp [val])
  rw [val_toL hB2, val_toL hB2] at h5
  have hlt := val_lt hB2 o' h3
  rw [h2] at hlt
  have hc : c' = 0 := by
    rcases Nat.lt_or_ge 0 c' with q | q
    · have : c' = 1 := by omega
      subst this; omega
    · omega
  subst hc
  have ht := trim_eq n o' h3 (by omega) (by omega) k0
  rw [show val 1000000000 o' = a - b from by omega] at ht
  unfold p89 NN p89_l4
  rw [show ((0 : Nat) : Int) = 0 from rfl] at h1
  simp (disch := (first | omega | (simp only [List.length_append, List.length_cons, List.length_nil, List.length_replicate, List.length_take, List.length_drop]; omega))) only [↓c_pos, ↓c_neg, dec_t, dec_f, Bool.and_true, Bool.true_and, Bool.and_false, Bool.false_and, Bool.not_true, Bool.not_false, cond_true, cond_false, inR_t, cutR_t, roomB_t, lenOK_t, w64, bs_size, List.length_append, List.length_cons, List.length_nil, bs_extract, bs_append, bs_push, bs_data, bs_empty, bs_lit, catS_bs, eqS_bs, ite_pos', ite_neg', decide_true, decide_false, if_true, if_false, toNatC, getI_nl, nl_len, nl_set, nl_set0, nl_take, nl_drop, nl_rep, nl_app, hdSz_nl, drop0, wu32, wu64, wu8, List.length_set, List.length_replicate, h1]
  exact ht
theorem short_loop (n : Nat) (la : List Nat) (by_ : Nat) (hby : 0 < by_) (hby2 : by_ < 4294967296) (ha : ∀ d ∈ la, d < 1000000000) (hl : la.length < 2 ^ 40) :
    ∀ (i m : Nat) (o : List Nat) (r : Nat), i ≤ la.length → i < m → o.length = la.length → (∀ x ∈ o, x < 1000000000) → r < by_ →
      val 1000000000 (la.drop i) = by_ * val 1000000000 (o.drop i) + r →
      ∃ (o' : List Nat) (r' : Nat), (∀ k0 : List PV → Int → Option R, p94_l4L n m (nl .u32 la) by_ (nl .u32 o) r ((i : Int) - 1) k0 = k0 (nl .u32 o') r') ∧ o'.length = la.length ∧ (∀ x ∈ o', x < 1000000000) ∧ r' < by_ ∧ val 1000000000 la = by_ * val 1000000000 o' + r'
  | 0, m + 1, o, r, hi, hm, ho, hlt, hr, hv => by
    refine ⟨o, r, fun k0 => ?_, ho, hlt, hr, by simpa using hv⟩
    simp only [p94_l4L, p94_l4B]
    simp (disch := (first | omega | (simp only [List.length_append, List.length_cons, List.length_nil, List.length_replicate, List.length_take, List.length_drop]; omega))) only [↓c_pos, ↓c_neg, dec_t, dec_f, Bool.and_true, Bool.true_and, Bool.and_false, Bool.false_and, Bool.not_true, Bool.not_false, cond_true, cond_false, inR_t, cutR_t, roomB_t, lenOK_t, w64, bs_size, List.length_append, List.length_cons, List.length_nil, bs_extract, bs_append, bs_push, bs_data, bs_empty, bs_lit, catS_bs, eqS_bs, ite_pos', ite_neg', decide_true, decide_false, if_true, if_false, toNatC, getI_nl, nl_len, nl_set, nl_set0, nl_take, nl_drop, nl_rep, nl_app, hdSz_nl, drop0, wu32, wu64, wu8, List.length_set, List.length_replicate]
  | i + 1, m + 1, o, r, hi, hm, ho, hlt, hr, hv => by
    have hx := getD_lt hB2 ha i
    have hs : r * 1000000000 + la.getD i 0 < by_ * 1000000000 := by
      have : (r + 1) * 1000000000 ≤ by_ * 1000000000 := Nat.mul_le_mul_right _ hr
      omega
    have hq : (r * 1000000000 + la.getD i 0) / by_ < 1000000000 := Nat.div_lt_of_lt_mul hs
    have hmod : (r * 1000000000 + la.getD i 0) % by_ < by_ := Nat.mod_lt _ hby
    have hdm := Nat.div_add_mod (r * 1000000000 + la.getD i 0) by_
    have dropSucc : ∀ l : List Nat, i < l.length → val 1000000000 (l.drop i) = l.getD i 0 + 1000000000 * val 1000000000 (l.drop (i + 1)) := fun l h => by
      rw [List.drop_eq_getElem_cons h, val, List.getD_eq_getElem?_getD, List.getElem?_eq_getElem h]; rfl
    obtain ⟨o', r', h1, h2⟩ := short_loop n la by_ hby hby2 ha hl i m (o.set i ((r * 1000000000 + la.getD i 0) / by_)) ((r * 1000000000 + la.getD i 0) % by_) (by omega) (by omega) (by rw [List.length_set]; exact ho) (set_lt hlt hq i) hmod
      (by
        rw [dropSucc la (by omega), dropSucc _ (by rw [List.length_set]; omega), List.drop_set_of_lt (by omega), hv, List.getD_eq_getElem?_getD, List.getD_eq_getElem?_getD, List.getElem?_set_self (by omega)]
        simp only [Option.getD_some]
        rw [List.getD_eq_getElem?_getD] at hdm
        rw [Nat.mul_add, Nat.mul_add, Nat.mul_left_comm by_ 1000000000]
        omega)
    refine ⟨o', r', fun k0 => ?_, h2⟩
    rw [← h1 k0]
    have e1 : ((i + 1 : Nat) : Int) - 1 = (i : Int) := by omega
    have e3 : (r : Int) * 1000000000 + ((la.getD i 0 : Nat) : Int) = ((r * 1000000000 + la.getD i 0 : Nat) : Int) := by omega
    have hd0 : ¬ ((by_ : Int) = 0) := by omega
    have t1 : Int.tdiv ((r * 1000000000 + la.getD i 0 : Nat) : Int) (by_ : Int) = (((r * 1000000000 + la.getD i 0) / by_ : Nat) : Int) := tdivN _ _
    have t2 : Int.tmod ((r * 1000000000 + la.getD i 0 : Nat) : Int) (by_ : Int) = (((r * 1000000000 + la.getD i 0) % by_ : Nat) : Int) := tmodN _ _
    generalize (r * 1000000000 + la.getD i 0) / by_ = q at *
    generalize (r * 1000000000 + la.getD i 0) % by_ = md at *
    simp only [p94_l4L, p94_l4B]
    simp (disch := (first | omega | (simp only [List.length_append, List.length_cons, List.length_nil, List.length_replicate, List.length_take, List.length_drop]; omega))) only [↓c_pos, ↓c_neg, dec_t, dec_f, Bool.and_true, Bool.true_and, Bool.and_false, Bool.false_and, Bool.not_true, Bool.not_false, cond_true, cond_false, inR_t, cutR_t, roomB_t, lenOK_t, w64, bs_size, List.length_append, List.length_cons, List.length_nil, bs_extract, bs_append, bs_push, bs_data, bs_empty, bs_lit, catS_bs, eqS_bs, ite_pos', ite_neg', decide_true, decide_false, if_true, if_false, toNatC, getI_nl, nl_len, nl_set, nl_set0, nl_take, nl_drop, nl_rep, nl_app, hdSz_nl, drop0, wu32, wu64, wu8, List.length_set, List.length_replicate, e1, e3, t1, t2]
theorem short_eq (n a by_ : Nat) (hby : 0 < by_) (hby2 : by_ < 4294967296) (hla : (toL 1000000000 a).length < 2 ^ 30) (hna : (toL 1000000000 a).length + 1 < n) (k0 : List PV → Int → Option R) : p94 n (NN a) by_ k0 = k0 (NN (a / by_)) ((a % by_ : Nat) : Int) := by
  obtain ⟨o', r', h1, h2, h3, h4, h5⟩ := short_loop (R := R) n (toL 1000000000 a) by_ hby hby2 (toL_lt hB2 a) (by omega)
    (toL 1000000000 a).length n (List.replicate (toL 1000000000 a).length 0) 0 (Nat.le_refl _) (by omega) (by rw [List.length_replicate]) (rep_lt hB2 _) hby (by simp [val])
  rw [val_toL hB2] at h5
  have hq : val 1000000000 o' = a / by_ := by rw [h5, Nat.mul_add_div hby, Nat.div_eq_of_lt h4]; omega
  have hr : r' = a % by_ := by rw [h5, Nat.mul_add_mod, Nat.mod_eq_of_lt h4]
  have ht := fun k0 => trim_eq (R := R) n o' h3 (by omega) (by omega) k0
  rw [hq] at ht
  rw [← hr]
  unfold p94 p94_l4
  have hN : NN a = nl .u32 (toL 1000000000 a) := rfl
  rw [hN]
  rw [show ((0 : Nat) : Int) = 0 from rfl] at h1
  simp (disch := (first | omega | (simp only [List.length_append, List.length_cons, List.length_nil, List.length_replicate, List.length_take, List.length_drop]; omega))) only [↓c_pos, ↓c_neg, dec_t, dec_f, Bool.and_true, Bool.true_and, Bool.and_false, Bool.false_and, Bool.not_true, Bool.not_false, cond_true, cond_false, inR_t, cutR_t, roomB_t, lenOK_t, w64, bs_size, List.length_append, List.length_cons, List.length_nil, bs_extract, bs_append, bs_push, bs_data, bs_empty, bs_lit, catS_bs, eqS_bs, ite_pos', ite_neg', decide_true, decide_false, if_true, if_false, toNatC, getI_nl, nl_len, nl_set, nl_set0, nl_take, nl_drop, nl_rep, nl_app, hdSz_nl, drop0, wu32, wu64, wu8, List.length_set, List.length_replicate, h1, ht]
theorem drop_val_succ {l : List Nat} {i : Nat} (h : i < l.length) : val 1000000000 (l.drop i) = l.getD i 0 + 1000000000 * val 1000000000 (l.drop (i + 1)) := by
  rw [List.drop_eq_getElem_cons h, val, List.getD_eq_getElem?_getD, List.getElem?_eq_getElem h]; rfl
theorem times_in (n : Nat) (la lb : List Nat) (ha : ∀ d ∈ la, d < 1000000000) (hb : ∀ d ∈ lb, d < 1000000000) (hl : la.length + lb.length < 2 ^ 40) (i : Nat) (hi : i < la.length) :
    ∀ (d m k : Nat) (o : List Nat) (c : Nat), d + k = lb.length → d < m → o.length = la.length + lb.length → (∀ x ∈ o, x < 1000000000) → c < 1000000000 →
      ∃ (o' : List Nat) (c' : Nat), (∀ k0 : List PV → List PV → List PV → Int → Int → Int → Int → Option R, p70_l7L n m (nl .u32 la) (nl .u32 lb) (nl .u32 o) i c la.length i lb.length k k0 = k0 (nl .u32 la) (nl .u32 lb) (nl .u32 o') i c' la.length i) ∧
        o'.length = la.length + lb.length ∧ (∀ x ∈ o', x < 1000000000) ∧ c' < 1000000000 ∧ o'.drop (i + lb.length) = o.drop (i + lb.length) ∧
        val 1000000000 o' + 1000000000 ^ (i + lb.length) * c' = val 1000000000 o + 1000000000 ^ (i + k) * c + la.getD i 0 * (1000000000 ^ (i + k) * val 1000000000 (lb.drop k))
  | 0, m + 1, k, o, c, hd, hm, ho, hlt, hc => by
    have hk : k = lb.length := by omega
    subst hk
    refine ⟨o, c, fun k0 => ?_, ho, hlt, hc, rfl, ?_⟩
    · simp only [p70_l7L, p70_l7B]
      simp (disch := (first | omega | (simp only [List.length_append, List.length_cons, List.length_nil, List.length_replicate, List.length_take, List.length_drop]; omega))) only [↓c_pos, ↓c_neg, dec_t, dec_f, Bool.and_true, Bool.true_and, Bool.and_false, Bool.false_and, Bool.not_true, Bool.not_false, cond_true, cond_false, inR_t, cutR_t, roomB_t, lenOK_t, w64, bs_size, List.length_append, List.length_cons, List.length_nil, bs_extract, bs_append, bs_push, bs_data, bs_empty, bs_lit, catS_bs, eqS_bs, ite_pos', ite_neg', decide_true, decide_false, if_true, if_false, toNatC, getI_nl, nl_len, nl_set, nl_set0, nl_take, nl_drop, nl_rep, nl_app, hdSz_nl, drop0, wu32, wu64, wu8, List.length_set, List.length_replicate]
    · rw [List.drop_length]; simp [val]
  | d + 1, m + 1, k, o, c, hd, hm, ho, hlt, hc => by
    have hx := getD_lt hB2 ha i
    have hy := getD_lt hB2 hb k
    have hz := getD_lt hB2 hlt (i + k)
    have hxy : la.getD i 0 * lb.getD k 0 ≤ 999999999 * 999999999 := Nat.mul_le_mul (by omega) (by omega)
    obtain ⟨s, hs⟩ : ∃ s, s = c + (la.getD i 0 * lb.getD k 0 + o.getD (i + k) 0) := ⟨_, rfl⟩
    have hs2 : s / 1000000000 < 1000000000 := by omega
    obtain ⟨o', c', h1, h2, h3, h4, h5, h6⟩ := times_in n la lb ha hb hl i hi d m (k + 1) (o.set (i + k) (s % 1000000000)) (s / 1000000000) (by omega) (by omega) (by rw [List.length_set]; exact ho) (set_lt hlt (Nat.mod_lt _ (by omega)) _) hs2
    refine ⟨o', c', fun k0 => ?_, h2, h3, h4, by rw [h5, List.drop_set_of_lt (by omega)], ?_⟩
    · rw [← h1 k0]
      have e1 : (i : Int) + (k : Int) = ((i + k : Nat) : Int) := by omega
      have e2 : (k : Int) + 1 = ((k + 1 : Nat) : Int) := by omega
      have e4 : ((la.getD i 0 : Nat) : Int) * ((lb.getD k 0 : Nat) : Int) = ((la.getD i 0 * lb.getD k 0 : Nat) : Int) := by rw [Int.natCast_mul]
      generalize la.getD i 0 * lb.getD k 0 = xy at *
      have e3 : (c : Int) + ((xy : Int) + ((o.getD (i + k) 0 : Nat) : Int)) = (s : Int) := by omega
      simp only [p70_l7L, p70_l7B]
      simp (disch := (first | omega | (simp only [List.length_append, List.length_cons, List.length_nil, List.length_replicate, List.length_take, List.length_drop]; omega))) only [↓c_pos, ↓c_neg, dec_t, dec_f, Bool.and_true, Bool.true_and, Bool.and_false, Bool.false_and, Bool.not_true, Bool.not_false, cond_true, cond_false, inR_t, cutR_t, roomB_t, lenOK_t, w64, bs_size, List.length_append, List.length_cons, List.length_nil, bs_extract, bs_append, bs_push, bs_data, bs_empty, bs_lit, catS_bs, eqS_bs, ite_pos', ite_neg', decide_true, decide_false, if_true, if_false, toNatC, getI_nl, nl_len, nl_set, nl_set0, nl_take, nl_drop, nl_rep, nl_app, hdSz_nl, drop0, wu32, wu64, wu8, List.length_set, List.length_replicate, e1, e2, e4, e3, tdivB, tmodB]
    · rw [h6, drop_val_succ (by omega : k < lb.length)]
      have hv := val_set 1000000000 (s % 1000000000) (l := o) (i := i + k) (by omega)
      have hm := Nat.mod_add_div s 1000000000
      rw [show i + (k + 1) = (i + k) + 1 from by omega, Nat.pow_succ]
      generalize 1000000000 ^ (i + k) = P at *
      generalize val 1000000000 (List.drop (k + 1) lb) = V at *
      generalize val 1000000000 (o.set (i + k) (s % 1000000000)) = W at *
      generalize val 1000000000 o = U at *
      generalize s % 1000000000 = q at *
      generalize s / 1000000000 = t at *
      generalize la.getD i 0 = x at *
      generalize lb.getD k 0 = y at *
      generalize o.getD (i + k) 0 = z at *
      clear h1 h3 h4 h5 hlt ha hb
      have h7 : P * q + P * (1000000000 * t) = P * c + P * (x * y) + P * z := by rw [← Nat.mul_add, hm, hs]; grind
      grind
theorem times_out (n : Nat) (la lb : List Nat) (ha : ∀ d ∈ la, d < 1000000000) (hb : ∀ d ∈ lb, d < 1000000000) (hl : la.length + lb.length < 2 ^ 40) (hn : lb.length < n) :
    ∀ (d m i : Nat) (o : List Nat), d + i = la.length → d < m → o.length = la.length + lb.length → (∀ x ∈ o, x < 1000000000) → o.drop (i + lb.length) = List.replicate (la.length - i) 0 → val 1000000000 o = val 1000000000 (la.take i) * val 1000000000 lb →
      ∃ (o' : List Nat), (∀ k0 : List PV → Option R, p70_l3L n m (nl .u32 la) (nl .u32 lb) (nl .u32 o) la.length i k0 = k0 (nl .u32 o')) ∧ o'.length = la.length + lb.length ∧ (∀ x ∈ o', x < 1000000000) ∧ val 1000000000 o' = val 1000000000 la * val 1000000000 lb
  | 0, m + 1, i, o, hd, hm, ho, hlt, hz, hv => by
    have hi : i = la.length := by omega
    subst hi
    refine ⟨o, fun k0 => ?_, ho, hlt, by rw [hv, List.take_length]⟩
    simp only [p70_l3L, p70_l3B]
    simp (disch := (first | omega | (simp only [List.length_append, List.length_cons, List.length_nil, List.length_replicate, List.length_take, List.length_drop]; omega))) only [↓c_pos, ↓c_neg, dec_t, dec_f, Bool.and_true, Bool.true_and, Bool.and_false, Bool.false_and, Bool.not_true, Bool.not_false, cond_true, cond_false, inR_t, cutR_t, roomB_t, lenOK_t, w64, bs_size, List.length_append, List.length_cons, List.length_nil, bs_extract, bs_append, bs_push, bs_data, bs_empty, bs_lit, catS_bs, eqS_bs, ite_pos', ite_neg', decide_true, decide_false, if_true, if_false, toNatC, getI_nl, nl_len, nl_set, nl_set0, nl_take, nl_drop, nl_rep, nl_app, hdSz_nl, drop0, wu32, wu64, wu8, List.length_set, List.length_replicate]
  | d + 1, m + 1, i, o, hd, hm, ho, hlt, hz, hv => by
    obtain ⟨o1, c1, h1, h2, h3, h4, h5, h6⟩ := times_in (R := R) n la lb ha hb hl i (by omega) lb.length n 0 o 0 (by omega) hn ho hlt (by omega)
    have hg : o1.getD (i + lb.length) 0 = 0 := by
      have := congrArg (fun l : List Nat => l.getD 0 0) h5
      simp only [List.getD_eq_getElem?_getD, List.getElem?_drop, Nat.add_zero] at this
      rw [List.getD_eq_getElem?_getD, this]
      have h0 := congrArg (fun l : List Nat => l.getD 0 0) hz
      simp only [List.getD_eq_getElem?_getD, List.getElem?_drop, Nat.add_zero] at h0
      rw [h0, List.getElem?_replicate]
      split <;> rfl
    have hvs := val_set 1000000000 c1 (l := o1) (i := i + lb.length) (by omega)
    rw [hg] at hvs
    obtain ⟨o', q1, q2⟩ := times_out n la lb ha hb hl hn d m (i + 1) (o1.set (i + lb.length) c1) (by omega) (by omega) (by rw [List.length_set]; exact h2) (set_lt h3 h4 _)
      (by
        rw [show i + 1 + lb.length = (i + lb.length) + 1 from by omega, List.drop_set_of_lt (by omega), ← List.drop_drop, h5, hz, List.drop_replicate]
        congr 1)
      (by
        rw [val_take_succ' 1000000000 la]
        rw [List.drop_zero, Nat.add_zero, Nat.mul_zero, Nat.add_zero, hv] at h6
        rw [Nat.mul_zero, Nat.add_zero] at hvs
        rw [hvs, h6]
        grind)
    refine ⟨o', fun k0 => ?_, q2⟩
    rw [← q1 k0]
    have e1 : (i : Int) + (lb.length : Int) = ((i + lb.length : Nat) : Int) := by omega
    have e2 : (i : Int) + 1 = ((i + 1 : Nat) : Int) := by omega
    rw [show ((0 : Nat) : Int) = 0 from rfl] at h1
    simp only [p70_l3L, p70_l3B, p70_l7]
    simp (disch := (first | omega | (simp only [List.length_append, List.length_cons, List.length_nil, List.length_replicate, List.length_take, List.length_drop]; omega))) only [↓c_pos, ↓c_neg, dec_t, dec_f, Bool.and_true, Bool.true_and, Bool.and_false, Bool.false_and, Bool.not_true, Bool.not_false, cond_true, cond_false, inR_t, cutR_t, roomB_t, lenOK_t, w64, bs_size, List.length_append, List.length_cons, List.length_nil, bs_extract, bs_append, bs_push, bs_data, bs_empty, bs_lit, catS_bs, eqS_bs, ite_pos', ite_neg', decide_true, decide_false, if_true, if_false, toNatC, getI_nl, nl_len, nl_set, nl_set0, nl_take, nl_drop, nl_rep, nl_app, hdSz_nl, drop0, wu32, wu64, wu8, List.length_set, List.length_replicate, h1, e1, e2]
theorem times_eq (n a b : Nat) (hla : (toL 1000000000 a).length < 2 ^ 30) (hlb : (toL 1000000000 b).length < 2 ^ 30) (hn : (toL 1000000000 a).length + (toL 1000000000 b).length < n) (k0 : List PV → Option R) : p70 n (NN a) (NN b) k0 = k0 (NN (a * b)) := by
  obtain ⟨o', h1, h2, h3, h4⟩ := times_out (R := R) n (toL 1000000000 a) (toL 1000000000 b) (toL_lt hB2 a) (toL_lt hB2 b) (by omega) (by omega)
    (toL 1000000000 a).length n 0 (List.replicate ((toL 1000000000 a).length + (toL 1000000000 b).length) 0) (by omega) (by omega) (by rw [List.length_replicate]) (rep_lt hB2 _)
    (by rw [List.drop_replicate]; congr 1; omega) (by rw [val_zeros]; simp [val])
  rw [val_toL hB2, val_toL hB2] at h4
  have ht := fun k0 => trim_eq (R := R) n o' h3 (by omega) (by omega) k0
  rw [h4] at ht
  have e1 : ((toL 1000000000 a).length : Int) + ((toL 1000000000 b).length : Int) = (((toL 1000000000 a).length + (toL 1000000000 b).length : Nat) : Int) := by omega
  have hN : NN a = nl .u32 (toL 1000000000 a) := rfl
  have hM : NN b = nl .u32 (toL 1000000000 b) := rfl
  unfold p70 p70_l3
  rw [hN, hM]
  rw [show ((0 : Nat) : Int) = 0 from rfl] at h1
  simp (disch := (first | omega | (simp only [List.length_append, List.length_cons, List.length_nil, List.length_replicate, List.length_take, List.length_drop]; omega))) only [↓c_pos, ↓c_neg, dec_t, dec_f, Bool.and_true, Bool.true_and, Bool.and_false, Bool.false_and, Bool.not_true, Bool.not_false, cond_true, cond_false, inR_t, cutR_t, roomB_t, lenOK_t, w64, bs_size, List.length_append, List.length_cons, List.length_nil, bs_extract, bs_append, bs_push, bs_data, bs_empty, bs_lit, catS_bs, eqS_bs, ite_pos', ite_neg', decide_true, decide_false, if_true, if_false, toNatC, getI_nl, nl_len, nl_set, nl_set0, nl_take, nl_drop, nl_rep, nl_app, hdSz_nl, drop0, wu32, wu64, wu8, List.length_set, List.length_replicate, e1, h1, ht]
end Go.Proofs.YtfbahcfojiaeaaaGreatDoor


set_option linter.unusedVariables false
set_option maxRecDepth 100000
namespace Go.Proofs.YtfbahcfojiaeaaaGreatDoor
open Go Th Go.Proofs
def ann54 : Ann := { loops := [(1, [(0, .id), (1, .id), (4, .id)], [(0, .id), (1, .id), (4, .id)])], cuts := [], frz := [], rm := [.id] }
noncomputable abbrev env54 (n : Nat) : Env := fun _ => none
theorem envok54 (n : Nat) : EnvOK Tryz.prog GI (env54 n) := EnvOK.nil
noncomputable def p54_l1B {R : Type} (n : Nat) (l0 : Bool → List PV → Bool → Option R) (x1 : Bool) (x2 : List PV) (x3 : Bool) (k0 : Bool → List PV → Bool → Option R) : Option R :=
  bif (decide (((x2).length : Int) > 0)) then (bif true then (bif (inR 0 ((x2).length)) then (getI .i64 ((x2).getD ((0 : Int).toNat) (.v (.bool false))) fun e4 => bif true then (bif true then (bif (bif true then (e4 == 0) else false) then (bif (hdSz 1 x2 && cutR 1 ((x2).length : Int) ((x2).length)) then (l0 x1 (((x2).take (((x2).length : Int) : Int).toNat).drop (1 : Int).toNat) x3) else none) else (k0 x1 x2 x3)) else none) else none) else none) else none) else (bif false then none else (bif false then none else (bif false then none else (bif false then none else (bif false then none else (k0 x1 x2 x3))))))
noncomputable def p54_l1L {R : Type} (n : Nat) : Nat → Bool → List PV → Bool → (Bool → List PV → Bool → Option R) → Option R
  | 0, _, _, _, _ => none
  | m + 1, x1, x2, x3, k0 => p54_l1B n (fun x1 x2 x3 => p54_l1L n m x1 x2 x3 k0) x1 x2 x3 k0
noncomputable def p54_l1 {R : Type} (n : Nat) (x1 : Bool) (x2 : List PV) (x3 : Bool) (k0 : Bool → List PV → Bool → Option R) : Option R := p54_l1L n n x1 x2 x3 k0
noncomputable def p54 {R : Type} (n : Nat) (x1 : Bool) (x2 : List PV) (k0 : Bool → List PV → Option R) : Option R :=
  p54_l1 n x1 x2 false (fun y3 y4 y5 => bif (((y4).length : Int) == 0) then (k0 false []) else (k0 y3 y4))
noncomputable abbrev E54 {R : Type} (n : Nat) (c : Code) : Fr → Kc R → Option R := evC Tryz.prog (env54 n) ann54 n (23, []) c
noncomputable def c54_l1 : Code := subC (bodyOf Tryz.f54) [1, 0, 0, 0]
abbrev t54_l1 : Sl (List SV) := (.c (sP sBool) (.c (sP sSh) (.c (sBx 31 (.c (sP sBool) (.c sNl .n))) .n)))
noncomputable abbrev f54_l1 {R : Type} (n m : Nat) (K : Kc R) : t54_l1.T (Option R) := fun x1 x2 x3 => p54_l1L n m x1 x2 x3 (fun y1 y2 y3 => K (.exit 0) (lk (outA ann54.loops 1) [.p (.v (.bool y1)), .p (.sh y2), .bx 31 [.p (.v (.bool y3)), .nl]]))
noncomputable abbrev o54_l1 {R : Type} (n : Nat) (vs : List SV) (K : Kc R) : Option R := oget (t54_l1.ap vs (f54_l1 n n K)) (loopE ann54 1 (E54 n c54_l1) n vs K)
noncomputable abbrev lo54 {R : Type} (n : Nat) : Orc R := fun i vs K => dcnd (Nat.beq i 1) (o54_l1 n vs K) (none)
noncomputable abbrev cu54 {R : Type} (n : Nat) : Orc R := fun i vs K => none
section
variable {R : Type}
noncomputable abbrev V54 (n : Nat) (c : Code) : Fr → Kc R → Option R := evOi Tryz.prog (env54 n) ann54 (23, []) (lo54 n) (cu54 n) c
abbrev K54 (R : Type) (n : Nat) := PartOK (R := R) Tryz.prog (env54 n) ann54 n (23, []) (lo54 n) (cu54 n)
theorem pa54_l1 (n : Nat) : allP (K54 R n) (partsOf ann54 c54_l1) := by
  rw [show partsOf ann54 c54_l1 = [] from by kernel_rfl]; exact trivial
theorem sp54_l1 (n m : Nat) (x1 : Bool) (x2 : List PV) (x3 : Bool) (K : Kc R) : loopE ann54 1 (V54 n c54_l1) (m + 1) [.p (.v (.bool x1)), .p (.sh x2), .bx 31 [.p (.v (.bool x3)), .nl]] K = p54_l1B n (fun x1 x2 x3 => loopE ann54 1 (V54 n c54_l1) m [.p (.v (.bool x1)), .p (.sh x2), .bx 31 [.p (.v (.bool x3)), .nl]] K) x1 x2 x3 (fun y1 y2 y3 => K (.exit 0) (lk (outA ann54.loops 1) [.p (.v (.bool y1)), .p (.sh y2), .bx 31 [.p (.v (.bool y3)), .nl]])) := by kernel_rfl
theorem ep54_l1 (n : Nat) (K : Kc R) : ∀ (m : Nat) (x1 : Bool) (x2 : List PV) (x3 : Bool), loopE ann54 1 (V54 n c54_l1) m [.p (.v (.bool x1)), .p (.sh x2), .bx 31 [.p (.v (.bool x3)), .nl]] K = f54_l1 n m K x1 x2 x3
  | 0, _, _, _ => rfl
  | m + 1, x1, x2, x3 => (sp54_l1 n m x1 x2 x3 K).trans (congrArg (fun l0 => p54_l1B n l0 x1 x2 x3 (fun y1 y2 y3 => K (.exit 0) (lk (outA ann54.loops 1) [.p (.v (.bool y1)), .p (.sh y2), .bx 31 [.p (.v (.bool y3)), .nl]]))) (funext fun z0 => funext fun z1 => funext fun z2 => ep54_l1 n K m z0 z1 z2))
theorem q54_l1 (n : Nat) : K54 R n (false, 1, c54_l1) := part_loop (pa54_l1 n) t54_l1 (f54_l1 n n) (fun K x1 x2 x3 => ep54_l1 n K n x1 x2 x3) fun _ _ => rfl
theorem pa54 (n : Nat) : allP (K54 R n) (partsOf ann54 (bodyOf Tryz.f54)) := by
  rw [show partsOf ann54 (bodyOf Tryz.f54) = [(false, 1, c54_l1)] from by kernel_rfl]; exact ⟨q54_l1 n, trivial⟩
end
abbrev t54 : Sl (List SV) := (.c (sP sBool) (.c (sP sSh) .n))
noncomputable abbrev f54 (n : Nat) {R : Type} (K : List SV → Option R) : t54.T (Option R) := fun x1 x2 => p54 n x1 x2 (fun y1 y2 => K [.p (.agg [.v (.bool y1), .sh y2])])
theorem ep54 {R : Type} (n : Nat) (K : List SV → Option R) (x1 : Bool) (x2 : List PV) : evFn Tryz.prog (env54 n) ann54 n Tryz.f54 [.p (.v (.bool x1)), .p (.sh x2)] K = f54 n K x1 x2 := by
  rw [evFn_evOi (c := bodyOf Tryz.f54) (by kernel_rfl) (pa54 n)]; kernel_rfl
noncomputable abbrev fs54 (n : Nat) : FS := { om := [false, false], run := fun args K => oget (t54.ap args (f54 n K)) none }
theorem ok54 (n : Nat) : FSound Tryz.prog GI 54 (fs54 n) :=
  FSound.good (envok54 n) (ann := ann54) (n := n) Tryz.func54
    (.cons (envok54 n) t54 (f54 n) (fun K x1 x2 => ep54 n K x1 x2) .nil)
    (by kernel_rfl) (by kernel_rfl) (by kernel_rfl)
end Go.Proofs.YtfbahcfojiaeaaaGreatDoor


set_option linter.unusedVariables false
set_option maxRecDepth 100000
namespace Go.Proofs.YtfbahcfojiaeaaaGreatDoor
open Go Th Go.Proofs
def ann83 : Ann := { loops := [(6, [(0, .id), (1, .id), (5, .id)], [(4, .id)])], cuts := [], frz := [], rm := [.id] }
noncomputable abbrev env83 (n : Nat) : Env := fun _ => none
theorem envok83 (n : Nat) : EnvOK Tryz.prog GI (env83 n) := EnvOK.nil
noncomputable def p83_l6B {R : Type} (n : Nat) (l0 : List PV → List PV → Int → Option R) (x1 x2 : List PV) (x3 : Int) (k0 : Int → Option R) (k1 : Option R) : Option R :=
  bif (decide (x3 < ((x1).length : Int))) then (bif (inR x3 ((x1).length)) then (getI .i64 ((x1).getD ((x3 : Int).toNat) (.v (.bool false))) fun e4 => bif (inR x3 ((x2).length)) then (getI .i64 ((x2).getD ((x3 : Int).toNat) (.v (.bool false))) fun e5 => bif (decide (e4 < e5)) then (k0 (-1)) else (bif (inR x3 ((x1).length)) then (getI .i64 ((x1).getD ((x3 : Int).toNat) (.v (.bool false))) fun e6 => bif (inR x3 ((x2).length)) then (getI .i64 ((x2).getD ((x3 : Int).toNat) (.v (.bool false))) fun e7 => bif (decide (e6 > e7)) then (k0 1) else (l0 x1 x2 (IntKind.i64.wrap (x3 + 1)))) else none) else none)) else none) else none) else (k1)
noncomputable def p83_l6L {R : Type} (n : Nat) : Nat → List PV → List PV → Int → (Int → Option R) → (Option R) → Option R
  | 0, _, _, _, _, _ => none
  | m + 1, x1, x2, x3, k0, k1 => p83_l6B n (fun x1 x2 x3 => p83_l6L n m x1 x2 x3 k0 k1) x1 x2 x3 k0 k1
noncomputable def p83_l6 {R : Type} (n : Nat) (x1 x2 : List PV) (x3 : Int) (k0 : Int → Option R) (k1 : Option R) : Option R := p83_l6L n n x1 x2 x3 k0 k1
noncomputable def p83 {R : Type} (n : Nat) (x1 x2 : List PV) (k0 : Int → Option R) : Option R :=
  bif (((x1).length : Int) != ((x2).length : Int)) then (bif (decide (((x1).length : Int) < ((x2).length : Int))) then (k0 (-1)) else (k0 1)) else (p83_l6 n x1 x2 0 (fun y3 => k0 y3) (k0 0))
noncomputable abbrev E83 {R : Type} (n : Nat) (c : Code) : Fr → Kc R → Option R := evC Tryz.prog (env83 n) ann83 n (40, []) c
noncomputable def c83_l6 : Code := subC (bodyOf Tryz.f83) [1, 1, 0, 1, 0, 0]
abbrev t83_l6 : Sl (List SV) := (.c (sP sSh) (.c (sP sSh) (.c (sP (sInt .i64)) .n)))
noncomputable abbrev f83_l6 {R : Type} (n m : Nat) (K : Kc R) : t83_l6.T (Option R) := fun x1 x2 x3 => p83_l6L n m x1 x2 x3 (fun y1 => K .ret (lk (outA ann83.loops 6) [.p (.v (.int .i64 y1))])) (K (.exit 0) (lk (outA ann83.loops 6) [.dead]))
noncomputable abbrev o83_l6 {R : Type} (n : Nat) (vs : List SV) (K : Kc R) : Option R := oget (t83_l6.ap vs (f83_l6 n n K)) (loopE ann83 6 (E83 n c83_l6) n vs K)
noncomputable abbrev lo83 {R : Type} (n : Nat) : Orc R := fun i vs K => dcnd (Nat.beq i 6) (o83_l6 n vs K) (none)
noncomputable abbrev cu83 {R : Type} (n : Nat) : Orc R := fun i vs K => none
section
variable {R : Type}
noncomputable abbrev V83 (n : Nat) (c : Code) : Fr → Kc R → Option R := evOi Tryz.prog (env83 n) ann83 (40, []) (lo83 n) (cu83 n) c
abbrev K83 (R : Type) (n : Nat) := PartOK (R := R) Tryz.prog (env83 n) ann83 n (40, []) (lo83 n) (cu83 n)
theorem pa83_l6 (n : Nat) : allP (K83 R n) (partsOf ann83 c83_l6) := by
  rw [show partsOf ann83 c83_l6 = [] from by kernel_rfl]; exact trivial
theorem sp83_l6 (n m : Nat) (x1 x2 : List PV) (x3 : Int) (K : Kc R) : loopE ann83 6 (V83 n c83_l6) (m + 1) [.p (.sh x1), .p (.sh x2), .p (.v (.int .i64 x3))] K = p83_l6B n (fun x1 x2 x3 => loopE ann83 6 (V83 n c83_l6) m [.p (.sh x1), .p (.sh x2), .p (.v (.int .i64 x3))] K) x1 x2 x3 (fun y1 => K .ret (lk (outA ann83.loops 6) [.p (.v (.int .i64 y1))])) (K (.exit 0) (lk (outA ann83.loops 6) [.dead])) := by kernel_rfl
theorem ep83_l6 (n : Nat) (K : Kc R) : ∀ (m : Nat) (x1 x2 : List PV) (x3 : Int), loopE ann83 6 (V83 n c83_l6) m [.p (.sh x1), .p (.sh x2), .p (.v (.int .i64 x3))] K = f83_l6 n m K x1 x2 x3
  | 0, _, _, _ => rfl
  | m + 1, x1, x2, x3 => (sp83_l6 n m x1 x2 x3 K).trans (congrArg (fun l0 => p83_l6B n l0 x1 x2 x3 (fun y1 => K .ret (lk (outA ann83.loops 6) [.p (.v (.int .i64 y1))])) (K (.exit 0) (lk (outA ann83.loops 6) [.dead]))) (funext fun z0 => funext fun z1 => funext fun z2 => ep83_l6 n K m z0 z1 z2))
theorem q83_l6 (n : Nat) : K83 R n (false, 6, c83_l6) := part_loop (pa83_l6 n) t83_l6 (f83_l6 n n) (fun K x1 x2 x3 => ep83_l6 n K n x1 x2 x3) fun _ _ => rfl
theorem pa83 (n : Nat) : allP (K83 R n) (partsOf ann83 (bodyOf Tryz.f83)) := by
  rw [show partsOf ann83 (bodyOf Tryz.f83) = [(false, 6, c83_l6)] from by kernel_rfl]; exact ⟨q83_l6 n, trivial⟩
end
abbrev t83 : Sl (List SV) := (.c (sP sSh) (.c (sP sSh) .n))
noncomputable abbrev f83 (n : Nat) {R : Type} (K : List SV → Option R) : t83.T (Option R) := fun x1 x2 => p83 n x1 x2 (fun y1 => K [.p (.v (.int .i64 y1))])
theorem ep83 {R : Type} (n : Nat) (K : List SV → Option R) (x1 x2 : List PV) : evFn Tryz.prog (env83 n) ann83 n Tryz.f83 [.p (.sh x1), .p (.sh x2)] K = f83 n K x1 x2 := by
  rw [evFn_evOi (c := bodyOf Tryz.f83) (by kernel_rfl) (pa83 n)]; kernel_rfl
noncomputable abbrev fs83 (n : Nat) : FS := { om := [false, false], run := fun args K => oget (t83.ap args (f83 n K)) none }
theorem ok83 (n : Nat) : FSound Tryz.prog GI 83 (fs83 n) :=
  FSound.good (envok83 n) (ann := ann83) (n := n) Tryz.func83
    (.cons (envok83 n) t83 (f83 n) (fun K x1 x2 => ep83 n K x1 x2) .nil)
    (by kernel_rfl) (by kernel_rfl) (by kernel_rfl)
end Go.Proofs.YtfbahcfojiaeaaaGreatDoor


set_option linter.unusedVariables false
set_option maxRecDepth 100000
namespace Go.Proofs.YtfbahcfojiaeaaaGreatDoor
open Go Th Go.Proofs
def ann99 : Ann := { loops := [], cuts := [], frz := [], rm := [.id] }
noncomputable abbrev env99 (n : Nat) : Env := fun _ => none
theorem envok99 (n : Nat) : EnvOK Tryz.prog GI (env99 n) := EnvOK.nil
noncomputable def p99 {R : Type} (n : Nat) (x1 : List PV) (x2 : Int) (k0 : Int → Option R) : Option R :=
  bif (decide (x2 ≥ ((x1).length : Int))) then (k0 0) else (let v3 := IntKind.i64.wrap (((x1).length : Int) - 1); bif (inR (IntKind.i64.wrap (v3 - x2)) ((x1).length)) then (getI .i64 ((x1).getD ((IntKind.i64.wrap (v3 - x2) : Int).toNat) (.v (.bool false))) fun e4 => k0 e4) else none)
noncomputable abbrev lo99 {R : Type} (n : Nat) : Orc R := fun i vs K => none
noncomputable abbrev cu99 {R : Type} (n : Nat) : Orc R := fun i vs K => none
section
variable {R : Type}
abbrev K99 (R : Type) (n : Nat) := PartOK (R := R) Tryz.prog (env99 n) ann99 n (17, []) (lo99 n) (cu99 n)
theorem pa99 (n : Nat) : allP (K99 R n) (partsOf ann99 (bodyOf Tryz.f99)) := by
  rw [show partsOf ann99 (bodyOf Tryz.f99) = [] from by kernel_rfl]; exact trivial
end
abbrev t99 : Sl (List SV) := (.c (sP sSh) (.c (sP (sInt .i64)) .n))
noncomputable abbrev f99 (n : Nat) {R : Type} (K : List SV → Option R) : t99.T (Option R) := fun x1 x2 => p99 n x1 x2 (fun y1 => K [.p (.v (.int .i64 y1))])
theorem ep99 {R : Type} (n : Nat) (K : List SV → Option R) (x1 : List PV) (x2 : Int) : evFn Tryz.prog (env99 n) ann99 n Tryz.f99 [.p (.sh x1), .p (.v (.int .i64 x2))] K = f99 n K x1 x2 := by
  rw [evFn_evOi (c := bodyOf Tryz.f99) (by kernel_rfl) (pa99 n)]; kernel_rfl
noncomputable abbrev fs99 (n : Nat) : FS := { om := [false, false], run := fun args K => oget (t99.ap args (f99 n K)) none }
theorem ok99 (n : Nat) : FSound Tryz.prog GI 99 (fs99 n) :=
  FSound.good (envok99 n) (ann := ann99) (n := n) Tryz.func99
    (.cons (envok99 n) t99 (f99 n) (fun K x1 x2 => ep99 n K x1 x2) .nil)
    (by kernel_rfl) (by kernel_rfl) (by kernel_rfl)
end Go.Proofs.YtfbahcfojiaeaaaGreatDoor


set_option linter.unusedVariables false
set_option maxRecDepth 100000
namespace Go.Proofs.YtfbahcfojiaeaaaGreatDoor
open Go Th Go.Proofs
def ann84 : Ann := { loops := [(4, [(0, .id), (1, .id), (2, .id), (7, .own 3), (8, .id), (9, .id)], [(6, .id), (7, .id)])], cuts := [(5, [(0, .id), (1, .id), (2, .id), (7, .id), (8, .id), (9, .id)], [(0, .id), (1, .id), (2, .id), (6, .id), (7, .id), (8, .id), (9, .id)]), (6, [(0, .id), (1, .id), (2, .id), (7, .id), (8, .id), (9, .id)], [(0, .id), (1, .id), (2, .id), (6, .id), (7, .id), (8, .id), (9, .id)]), (11, [(0, .id), (1, .id), (2, .id), (7, .id), (8, .id), (9, .id), (10, .id)], [(0, .id), (1, .id), (2, .id), (6, .id), (7, .id), (8, .id), (9, .id)]), (14, [(0, .id), (1, .id), (2, .id), (7, .id), (8, .id), (9, .id), (10, .id)], [(0, .id), (1, .id), (2, .id), (6, .id), (7, .id), (8, .id), (9, .id)])], frz := [], rm := [.id] }
noncomputable abbrev env84 (n : Nat) : Env := fun i => bif Nat.beq i 99 then some (fs99 n) else (fun _ => none) i
theorem envok84 (n : Nat) : EnvOK Tryz.prog GI (env84 n) := EnvOK.cons (EnvOK.nil) (ok99 n)
noncomputable def p84_c14 {R : Type} (n : Nat) (x1 x2 : List PV) (x3 : Int) (x4 : List PV) (x5 x6 x7 : Int) (k0 : List PV → List PV → Int → List PV → Int → Int → Option R) : Option R :=
  bif (lenOK (1 + (x4).length) 8) then (k0 x1 x2 x3 (([.v (.int .i64 x7)] : List PV) ++ x4) x5 x6) else none
noncomputable def p84_c11 {R : Type} (n : Nat) (x1 x2 : List PV) (x3 : Int) (x4 : List PV) (x5 x6 x7 : Int) (k0 : List PV → List PV → Int → List PV → Int → Int → Option R) : Option R :=
  bif (decide (x7 > 9)) then (p84_c14 n x1 x2 x3 x4 1 x6 (IntKind.i64.wrap (x7 - 10)) (fun y8 y9 y10 y11 y12 y13 => k0 y8 y9 y10 y11 y12 y13)) else (p84_c14 n x1 x2 x3 x4 x5 x6 x7 (fun y14 y15 y16 y17 y18 y19 => k0 y14 y15 y16 y17 y18 y19))
noncomputable def p84_c5 {R : Type} (n : Nat) (x1 x2 : List PV) (x3 : Int) (x4 : List PV) (x5 x6 : Int) (k0 : List PV → List PV → Int → List PV → Int → Int → Option R) : Option R :=
  k0 x1 x2 x3 x4 x5 (IntKind.i64.wrap (x6 + 1))
noncomputable def p84_c6 {R : Type} (n : Nat) (x1 x2 : List PV) (x3 : Int) (x4 : List PV) (x5 x6 : Int) (k0 : List PV → List PV → Int → List PV → Int → Int → Option R) : Option R :=
  p99 n x1 x6 (fun y7 => p99 n x2 x6 (fun y8 => let v9 := IntKind.i64.wrap (y7 + (IntKind.i64.wrap (x3 * y8))); bif (decide (IntKind.i64.wrap (v9 + x5) < 0)) then (let v10 := IntKind.i64.wrap ((IntKind.i64.wrap (v9 + x5)) + 10); p84_c11 n x1 x2 x3 x4 (-1) x6 v10 (fun y11 y12 y13 y14 y15 y16 => p84_c5 n y11 y12 y13 y14 y15 y16 (fun y17 y18 y19 y20 y21 y22 => k0 y17 y18 y19 y20 y21 y22))) else (p84_c11 n x1 x2 x3 x4 0 x6 (IntKind.i64.wrap (v9 + x5)) (fun y23 y24 y25 y26 y27 y28 => p84_c5 n y23 y24 y25 y26 y27 y28 (fun y29 y30 y31 y32 y33 y34 => k0 y29 y30 y31 y32 y33 y34)))))
noncomputable def p84_l4B {R : Type} (n : Nat) (l0 : List PV → List PV → Int → List PV → Int → Int → Option R) (x1 x2 : List PV) (x3 : Int) (x4 : List PV) (x5 x6 : Int) (k0 : List PV → Option R) : Option R :=
  bif (decide (x6 < ((x1).length : Int))) then (bif true then (bif true then (bif true then (bif true then (bif true then (bif true then (bif true then (bif true then (p84_c6 n x1 x2 x3 x4 x5 x6 (fun y7 y8 y9 y10 y11 y12 => l0 y7 y8 y9 y10 y11 y12)) else none) else none) else none) else none) else none) else none) else none) else none) else (bif false then none else (bif false then none else (bif false then none else (bif (bif false then true else (decide (x6 < ((x2).length : Int)))) then (bif true then (bif true then (bif true then (p84_c6 n x1 x2 x3 x4 x5 x6 (fun y13 y14 y15 y16 y17 y18 => l0 y13 y14 y15 y16 y17 y18)) else none) else none) else none) else (bif false then none else (bif (bif false then true else (x5 != 0)) then (p84_c6 n x1 x2 x3 x4 x5 x6 (fun y19 y20 y21 y22 y23 y24 => l0 y19 y20 y21 y22 y23 y24)) else (k0 x4)))))))
noncomputable def p84_l4L {R : Type} (n : Nat) : Nat → List PV → List PV → Int → List PV → Int → Int → (List PV → Option R) → Option R
  | 0, _, _, _, _, _, _, _ => none
  | m + 1, x1, x2, x3, x4, x5, x6, k0 => p84_l4B n (fun x1 x2 x3 x4 x5 x6 => p84_l4L n m x1 x2 x3 x4 x5 x6 k0) x1 x2 x3 x4 x5 x6 k0
noncomputable def p84_l4 {R : Type} (n : Nat) (x1 x2 : List PV) (x3 : Int) (x4 : List PV) (x5 x6 : Int) (k0 : List PV → Option R) : Option R := p84_l4L n n x1 x2 x3 x4 x5 x6 k0
noncomputable def p84 {R : Type} (n : Nat) (x1 x2 : List PV) (x3 : Int) (k0 : List PV → Option R) : Option R :=
  p84_l4 n x1 x2 x3 [] 0 0 (fun y4 => k0 y4)
noncomputable abbrev E84 {R : Type} (n : Nat) (c : Code) : Fr → Kc R → Option R := evC Tryz.prog (env84 n) ann84 n (51, []) c
noncomputable def c84_c5 : Code := subC (bodyOf Tryz.f84) [1, 1, 1, 0, 1, 0, 0, 1, 1]
abbrev t84_c5 : Sl (List SV) := (.c (sP sSh) (.c (sP sSh) (.c (sP (sInt .i64)) (.c (sOwn 3) (.c (sP (sInt .i64)) (.c (sP (sInt .i64)) .n))))))
noncomputable abbrev f84_c5 {R : Type} (n : Nat) (K : Kc R) : t84_c5.T (Option R) := fun x1 x2 x3 x4 x5 x6 => p84_c5 n x1 x2 x3 x4 x5 x6 (fun y1 y2 y3 y4 y5 y6 => K .normal (lk (outA ann84.cuts 5) [.p (.sh y1), .p (.sh y2), .p (.v (.int .i64 y3)), .dead, .own 3 y4, .p (.v (.int .i64 y5)), .p (.v (.int .i64 y6))]))
noncomputable abbrev o84_c5 {R : Type} (n : Nat) (vs : List SV) (K : Kc R) : Option R := oget (t84_c5.ap vs (f84_c5 n K)) (cutE ann84 5 (E84 n c84_c5) vs K)
noncomputable def c84_c6 : Code := subC (bodyOf Tryz.f84) [1, 1, 1, 0, 1, 0, 0, 1]
abbrev t84_c6 : Sl (List SV) := (.c (sP sSh) (.c (sP sSh) (.c (sP (sInt .i64)) (.c (sOwn 3) (.c (sP (sInt .i64)) (.c (sP (sInt .i64)) .n))))))
noncomputable abbrev f84_c6 {R : Type} (n : Nat) (K : Kc R) : t84_c6.T (Option R) := fun x1 x2 x3 x4 x5 x6 => p84_c6 n x1 x2 x3 x4 x5 x6 (fun y1 y2 y3 y4 y5 y6 => K .normal (lk (outA ann84.cuts 6) [.p (.sh y1), .p (.sh y2), .p (.v (.int .i64 y3)), .dead, .own 3 y4, .p (.v (.int .i64 y5)), .p (.v (.int .i64 y6))]))
noncomputable abbrev o84_c6 {R : Type} (n : Nat) (vs : List SV) (K : Kc R) : Option R := oget (t84_c6.ap vs (f84_c6 n K)) (cutE ann84 6 (E84 n c84_c6) vs K)
noncomputable def c84_c11 : Code := subC (bodyOf Tryz.f84) [1, 1, 1, 0, 1, 0, 0, 1, 0, 0, 1, 1, 1]
abbrev t84_c11 : Sl (List SV) := (.c (sP sSh) (.c (sP sSh) (.c (sP (sInt .i64)) (.c (sOwn 3) (.c (sP (sInt .i64)) (.c (sP (sInt .i64)) (.c (sP (sInt .i64)) .n)))))))
noncomputable abbrev f84_c11 {R : Type} (n : Nat) (K : Kc R) : t84_c11.T (Option R) := fun x1 x2 x3 x4 x5 x6 x7 => p84_c11 n x1 x2 x3 x4 x5 x6 x7 (fun y1 y2 y3 y4 y5 y6 => K .normal (lk (outA ann84.cuts 11) [.p (.sh y1), .p (.sh y2), .p (.v (.int .i64 y3)), .dead, .own 3 y4, .p (.v (.int .i64 y5)), .p (.v (.int .i64 y6))]))
noncomputable abbrev o84_c11 {R : Type} (n : Nat) (vs : List SV) (K : Kc R) : Option R := oget (t84_c11.ap vs (f84_c11 n K)) (cutE ann84 11 (E84 n c84_c11) vs K)
noncomputable def c84_c14 : Code := subC (bodyOf Tryz.f84) [1, 1, 1, 0, 1, 0, 0, 1, 0, 0, 1, 1, 1, 1]
abbrev t84_c14 : Sl (List SV) := (.c (sP sSh) (.c (sP sSh) (.c (sP (sInt .i64)) (.c (sOwn 3) (.c (sP (sInt .i64)) (.c (sP (sInt .i64)) (.c (sP (sInt .i64)) .n)))))))
noncomputable abbrev f84_c14 {R : Type} (n : Nat) (K : Kc R) : t84_c14.T (Option R) := fun x1 x2 x3 x4 x5 x6 x7 => p84_c14 n x1 x2 x3 x4 x5 x6 x7 (fun y1 y2 y3 y4 y5 y6 => K .normal (lk (outA ann84.cuts 14) [.p (.sh y1), .p (.sh y2), .p (.v (.int .i64 y3)), .dead, .own 3 y4, .p (.v (.int .i64 y5)), .p (.v (.int .i64 y6))]))
noncomputable abbrev o84_c14 {R : Type} (n : Nat) (vs : List SV) (K : Kc R) : Option R := oget (t84_c14.ap vs (f84_c14 n K)) (cutE ann84 14 (E84 n c84_c14) vs K)
noncomputable def c84_l4 : Code := subC (bodyOf Tryz.f84) [1, 1, 1, 0, 1, 0, 0]
abbrev t84_l4 : Sl (List SV) := (.c (sP sSh) (.c (sP sSh) (.c (sP (sInt .i64)) (.c (sOwn 3) (.c (sP (sInt .i64)) (.c (sP (sInt .i64)) .n))))))
noncomputable abbrev f84_l4 {R : Type} (n m : Nat) (K : Kc R) : t84_l4.T (Option R) := fun x1 x2 x3 x4 x5 x6 => p84_l4L n m x1 x2 x3 x4 x5 x6 (fun y1 => K (.exit 0) (lk (outA ann84.loops 4) [.dead, .own 3 y1]))
noncomputable abbrev o84_l4 {R : Type} (n : Nat) (vs : List SV) (K : Kc R) : Option R := oget (t84_l4.ap vs (f84_l4 n n K)) (loopE ann84 4 (E84 n c84_l4) n vs K)
noncomputable abbrev lo84 {R : Type} (n : Nat) : Orc R := fun i vs K => dcnd (Nat.beq i 4) (o84_l4 n vs K) (none)
noncomputable abbrev cu84 {R : Type} (n : Nat) : Orc R := fun i vs K => dcnd (Nat.beq i 14) (o84_c14 n vs K) (dcnd (Nat.beq i 11) (o84_c11 n vs K) (dcnd (Nat.beq i 6) (o84_c6 n vs K) (dcnd (Nat.beq i 5) (o84_c5 n vs K) (none))))
section
variable {R : Type}
noncomputable abbrev V84 (n : Nat) (c : Code) : Fr → Kc R → Option R := evOi Tryz.prog (env84 n) ann84 (51, []) (lo84 n) (cu84 n) c
abbrev K84 (R : Type) (n : Nat) := PartOK (R := R) Tryz.prog (env84 n) ann84 n (51, []) (lo84 n) (cu84 n)
theorem pa84_c14 (n : Nat) : allP (K84 R n) (partsOf ann84 c84_c14) := by
  rw [show partsOf ann84 c84_c14 = [] from by kernel_rfl]; exact trivial
theorem q84_c14 (n : Nat) : K84 R n (true, 14, c84_c14) := part_cut (pa84_c14 n) t84_c14 (f84_c14 n) (fun K x1 x2 x3 x4 x5 x6 x7 => by show cutE _ _ _ _ _ = _; kernel_rfl) fun _ _ => rfl
theorem pa84_c11 (n : Nat) : allP (K84 R n) (partsOf ann84 c84_c11) := by
  rw [show partsOf ann84 c84_c11 = [(true, 14, c84_c14)] from by kernel_rfl]; exact ⟨q84_c14 n, trivial⟩
theorem q84_c11 (n : Nat) : K84 R n (true, 11, c84_c11) := part_cut (pa84_c11 n) t84_c11 (f84_c11 n) (fun K x1 x2 x3 x4 x5 x6 x7 => by show cutE _ _ _ _ _ = _; kernel_rfl) fun _ _ => rfl
theorem pa84_c5 (n : Nat) : allP (K84 R n) (partsOf ann84 c84_c5) := by
  rw [show partsOf ann84 c84_c5 = [] from by kernel_rfl]; exact trivial
theorem q84_c5 (n : Nat) : K84 R n (true, 5, c84_c5) := part_cut (pa84_c5 n) t84_c5 (f84_c5 n) (fun K x1 x2 x3 x4 x5 x6 => by show cutE _ _ _ _ _ = _; kernel_rfl) fun _ _ => rfl
theorem pa84_c6 (n : Nat) : allP (K84 R n) (partsOf ann84 c84_c6) := by
  rw [show partsOf ann84 c84_c6 = [(true, 11, c84_c11), (true, 5, c84_c5)] from by kernel_rfl]; exact ⟨q84_c11 n, q84_c5 n, trivial⟩
theorem q84_c6 (n : Nat) : K84 R n (true, 6, c84_c6) := part_cut (pa84_c6 n) t84_c6 (f84_c6 n) (fun K x1 x2 x3 x4 x5 x6 => by show cutE _ _ _ _ _ = _; kernel_rfl) fun _ _ => rfl
theorem pa84_l4 (n : Nat) : allP (K84 R n) (partsOf ann84 c84_l4) := by
  rw [show partsOf ann84 c84_l4 = [(true, 6, c84_c6)] from by kernel_rfl]; exact ⟨q84_c6 n, trivial⟩
theorem sp84_l4 (n m : Nat) (x1 x2 : List PV) (x3 : Int) (x4 : List PV) (x5 x6 : Int) (K : Kc R) : loopE ann84 4 (V84 n c84_l4) (m + 1) [.p (.sh x1), .p (.sh x2), .p (.v (.int .i64 x3)), .own 3 x4, .p (.v (.int .i64 x5)), .p (.v (.int .i64 x6))] K = p84_l4B n (fun x1 x2 x3 x4 x5 x6 => loopE ann84 4 (V84 n c84_l4) m [.p (.sh x1), .p (.sh x2), .p (.v (.int .i64 x3)), .own 3 x4, .p (.v (.int .i64 x5)), .p (.v (.int .i64 x6))] K) x1 x2 x3 x4 x5 x6 (fun y1 => K (.exit 0) (lk (outA ann84.loops 4) [.dead, .own 3 y1])) := by kernel_rfl
theorem ep84_l4 (n : Nat) (K : Kc R) : ∀ (m : Nat) (x1 x2 : List PV) (x3 : Int) (x4 : List PV) (x5 x6 : Int), loopE ann84 4 (V84 n c84_l4) m [.p (.sh x1), .p (.sh x2), .p (.v (.int .i64 x3)), .own 3 x4, .p (.v (.int .i64 x5)), .p (.v (.int .i64 x6))] K = f84_l4 n m K x1 x2 x3 x4 x5 x6
  | 0, _, _, _, _, _, _ => rfl
  | m + 1, x1, x2, x3, x4, x5, x6 => (sp84_l4 n m x1 x2 x3 x4 x5 x6 K).trans (congrArg (fun l0 => p84_l4B n l0 x1 x2 x3 x4 x5 x6 (fun y1 => K (.exit 0) (lk (outA ann84.loops 4) [.dead, .own 3 y1]))) (funext fun z0 => funext fun z1 => funext fun z2 => funext fun z3 => funext fun z4 => funext fun z5 => ep84_l4 n K m z0 z1 z2 z3 z4 z5))
theorem q84_l4 (n : Nat) : K84 R n (false, 4, c84_l4) := part_loop (pa84_l4 n) t84_l4 (f84_l4 n n) (fun K x1 x2 x3 x4 x5 x6 => ep84_l4 n K n x1 x2 x3 x4 x5 x6) fun _ _ => rfl
theorem pa84 (n : Nat) : allP (K84 R n) (partsOf ann84 (bodyOf Tryz.f84)) := by
  rw [show partsOf ann84 (bodyOf Tryz.f84) = [(false, 4, c84_l4)] from by kernel_rfl]; exact ⟨q84_l4 n, trivial⟩
end
abbrev t84 : Sl (List SV) := (.c (sP sSh) (.c (sP sSh) (.c (sP (sInt .i64)) .n)))
noncomputable abbrev f84 (n : Nat) {R : Type} (K : List SV → Option R) : t84.T (Option R) := fun x1 x2 x3 => p84 n x1 x2 x3 (fun y1 => K [.p (.sh y1)])
theorem ep84 {R : Type} (n : Nat) (K : List SV → Option R) (x1 x2 : List PV) (x3 : Int) : evFn Tryz.prog (env84 n) ann84 n Tryz.f84 [.p (.sh x1), .p (.sh x2), .p (.v (.int .i64 x3))] K = f84 n K x1 x2 x3 := by
  rw [evFn_evOi (c := bodyOf Tryz.f84) (by kernel_rfl) (pa84 n)]; kernel_rfl
noncomputable abbrev fs84 (n : Nat) : FS := { om := [false, false, false], run := fun args K => oget (t84.ap args (f84 n K)) none }
theorem ok84 (n : Nat) : FSound Tryz.prog GI 84 (fs84 n) :=
  FSound.good (envok84 n) (ann := ann84) (n := n) Tryz.func84
    (.cons (envok84 n) t84 (f84 n) (fun K x1 x2 x3 => ep84 n K x1 x2 x3) .nil)
    (by kernel_rfl) (by kernel_rfl) (by kernel_rfl)
end Go.Proofs.YtfbahcfojiaeaaaGreatDoor


set_option linter.unusedVariables false
set_option maxRecDepth 100000
namespace Go.Proofs.YtfbahcfojiaeaaaGreatDoor
open Go Th Go.Proofs
def ann59 : Ann := { loops := [], cuts := [], frz := [], rm := [.id] }
noncomputable abbrev env59 (n : Nat) : Env := fun i => bif Nat.beq i 84 then some (fs84 n) else (fun i => bif Nat.beq i 83 then some (fs83 n) else (fun i => bif Nat.beq i 54 then some (fs54 n) else (fun _ => none) i) i) i
theorem envok59 (n : Nat) : EnvOK Tryz.prog GI (env59 n) := EnvOK.cons (EnvOK.cons (EnvOK.cons (EnvOK.nil) (ok54 n)) (ok83 n)) (ok84 n)
noncomputable def p59 {R : Type} (n : Nat) (x1 : Bool) (x2 : List PV) (x3 : Bool) (x4 : List PV) (k0 : Bool → List PV → Option R) : Option R :=
  bif (x1 == x3) then (p84 n x2 x4 1 (fun y5 => p54 n x1 y5 (fun y6 y7 => k0 y6 y7))) else (p83 n x2 x4 (fun y8 => bif (decide (y8 < 0)) then (p84 n x4 x2 (-1) (fun y9 => p54 n x3 y9 (fun y10 y11 => k0 y10 y11))) else (p84 n x2 x4 (-1) (fun y12 => p54 n x1 y12 (fun y13 y14 => k0 y13 y14)))))
noncomputable abbrev lo59 {R : Type} (n : Nat) : Orc R := fun i vs K => none
noncomputable abbrev cu59 {R : Type} (n : Nat) : Orc R := fun i vs K => none
section
variable {R : Type}
abbrev K59 (R : Type) (n : Nat) := PartOK (R := R) Tryz.prog (env59 n) ann59 n (40, []) (lo59 n) (cu59 n)
theorem pa59 (n : Nat) : allP (K59 R n) (partsOf ann59 (bodyOf Tryz.f59)) := by
  rw [show partsOf ann59 (bodyOf Tryz.f59) = [] from by kernel_rfl]; exact trivial
end
abbrev t59 : Sl (List SV) := (.c (sP (sAgg (.c sBool (.c sSh .n)))) (.c (sP (sAgg (.c sBool (.c sSh .n)))) .n))
noncomputable abbrev f59 (n : Nat) {R : Type} (K : List SV → Option R) : t59.T (Option R) := fun x1 x2 x3 x4 => p59 n x1 x2 x3 x4 (fun y1 y2 => K [.p (.agg [.v (.bool y1), .sh y2])])
theorem ep59 {R : Type} (n : Nat) (K : List SV → Option R) (x1 : Bool) (x2 : List PV) (x3 : Bool) (x4 : List PV) : evFn Tryz.prog (env59 n) ann59 n Tryz.f59 [.p (.agg [.v (.bool x1), .sh x2]), .p (.agg [.v (.bool x3), .sh x4])] K = f59 n K x1 x2 x3 x4 := by
  rw [evFn_evOi (c := bodyOf Tryz.f59) (by kernel_rfl) (pa59 n)]; kernel_rfl
noncomputable abbrev fs59 (n : Nat) : FS := { om := [false, false], run := fun args K => oget (t59.ap args (f59 n K)) none }
theorem ok59 (n : Nat) : FSound Tryz.prog GI 59 (fs59 n) :=
  FSound.good (envok59 n) (ann := ann59) (n := n) Tryz.func59
    (.cons (envok59 n) t59 (f59 n) (fun K x1 x2 x3 x4 => ep59 n K x1 x2 x3 x4) .nil)
    (by kernel_rfl) (by kernel_rfl) (by kernel_rfl)
end Go.Proofs.YtfbahcfojiaeaaaGreatDoor


set_option linter.unusedVariables false
set_option maxRecDepth 100000
namespace Go.Proofs.YtfbahcfojiaeaaaGreatDoor
open Go Th Go.Proofs
def ann50 : Ann := { loops := [], cuts := [], frz := [], rm := [.id] }
noncomputable abbrev env50 (n : Nat) : Env := fun i => bif Nat.beq i 54 then some (fs54 n) else (fun _ => none) i
theorem envok50 (n : Nat) : EnvOK Tryz.prog GI (env50 n) := EnvOK.cons (EnvOK.nil) (ok54 n)
noncomputable def p50 {R : Type} (n : Nat) (x1 : Bool) (x2 : List PV) (k0 : Bool → List PV → Option R) : Option R :=
  p54 n (!x1) x2 (fun y3 y4 => k0 y3 y4)
noncomputable abbrev lo50 {R : Type} (n : Nat) : Orc R := fun i vs K => none
noncomputable abbrev cu50 {R : Type} (n : Nat) : Orc R := fun i vs K => none
section
variable {R : Type}
abbrev K50 (R : Type) (n : Nat) := PartOK (R := R) Tryz.prog (env50 n) ann50 n (9, []) (lo50 n) (cu50 n)
theorem pa50 (n : Nat) : allP (K50 R n) (partsOf ann50 (bodyOf Tryz.f50)) := by
  rw [show partsOf ann50 (bodyOf Tryz.f50) = [] from by kernel_rfl]; exact trivial
end
abbrev t50 : Sl (List SV) := (.c (sP (sAgg (.c sBool (.c sSh .n)))) .n)
noncomputable abbrev f50 (n : Nat) {R : Type} (K : List SV → Option R) : t50.T (Option R) := fun x1 x2 => p50 n x1 x2 (fun y1 y2 => K [.p (.agg [.v (.bool y1), .sh y2])])
theorem ep50 {R : Type} (n : Nat) (K : List SV → Option R) (x1 : Bool) (x2 : List PV) : evFn Tryz.prog (env50 n) ann50 n Tryz.f50 [.p (.agg [.v (.bool x1), .sh x2])] K = f50 n K x1 x2 := by
  rw [evFn_evOi (c := bodyOf Tryz.f50) (by kernel_rfl) (pa50 n)]; kernel_rfl
noncomputable abbrev fs50 (n : Nat) : FS := { om := [false], run := fun args K => oget (t50.ap args (f50 n K)) none }
theorem ok50 (n : Nat) : FSound Tryz.prog GI 50 (fs50 n) :=
  FSound.good (envok50 n) (ann := ann50) (n := n) Tryz.func50
    (.cons (envok50 n) t50 (f50 n) (fun K x1 x2 => ep50 n K x1 x2) .nil)
    (by kernel_rfl) (by kernel_rfl) (by kernel_rfl)
end Go.Proofs.YtfbahcfojiaeaaaGreatDoor


set_option linter.unusedVariables false
set_option maxRecDepth 100000
namespace Go.Proofs.YtfbahcfojiaeaaaGreatDoor
open Go Th Go.Proofs
def ann82 : Ann := { loops := [], cuts := [], frz := [], rm := [.id] }
noncomputable abbrev env82 (n : Nat) : Env := fun i => bif Nat.beq i 59 then some (fs59 n) else (fun i => bif Nat.beq i 50 then some (fs50 n) else (fun _ => none) i) i
theorem envok82 (n : Nat) : EnvOK Tryz.prog GI (env82 n) := EnvOK.cons (EnvOK.cons (EnvOK.nil) (ok50 n)) (ok59 n)
noncomputable def p82 {R : Type} (n : Nat) (x1 : Bool) (x2 : List PV) (x3 : Bool) (x4 : List PV) (k0 : Bool → List PV → Option R) : Option R :=
  p50 n x3 x4 (fun y5 y6 => p59 n x1 x2 y5 y6 (fun y7 y8 => k0 y7 y8))
noncomputable abbrev lo82 {R : Type} (n : Nat) : Orc R := fun i vs K => none
noncomputable abbrev cu82 {R : Type} (n : Nat) : Orc R := fun i vs K => none
section
variable {R : Type}
abbrev K82 (R : Type) (n : Nat) := PartOK (R := R) Tryz.prog (env82 n) ann82 n (9, []) (lo82 n) (cu82 n)
theorem pa82 (n : Nat) : allP (K82 R n) (partsOf ann82 (bodyOf Tryz.f82)) := by
  rw [show partsOf ann82 (bodyOf Tryz.f82) = [] from by kernel_rfl]; exact trivial
end
abbrev t82 : Sl (List SV) := (.c (sP (sAgg (.c sBool (.c sSh .n)))) (.c (sP (sAgg (.c sBool (.c sSh .n)))) .n))
noncomputable abbrev f82 (n : Nat) {R : Type} (K : List SV → Option R) : t82.T (Option R) := fun x1 x2 x3 x4 => p82 n x1 x2 x3 x4 (fun y1 y2 => K [.p (.agg [.v (.bool y1), .sh y2])])
theorem ep82 {R : Type} (n : Nat) (K : List SV → Option R) (x1 : Bool) (x2 : List PV) (x3 : Bool) (x4 : List PV) : evFn Tryz.prog (env82 n) ann82 n Tryz.f82 [.p (.agg [.v (.bool x1), .sh x2]), .p (.agg [.v (.bool x3), .sh x4])] K = f82 n K x1 x2 x3 x4 := by
  rw [evFn_evOi (c := bodyOf Tryz.f82) (by kernel_rfl) (pa82 n)]; kernel_rfl
noncomputable abbrev fs82 (n : Nat) : FS := { om := [false, false], run := fun args K => oget (t82.ap args (f82 n K)) none }
theorem ok82 (n : Nat) : FSound Tryz.prog GI 82 (fs82 n) :=
  FSound.good (envok82 n) (ann := ann82) (n := n) Tryz.func82
    (.cons (envok82 n) t82 (f82 n) (fun K x1 x2 x3 x4 => ep82 n K x1 x2 x3 x4) .nil)
    (by kernel_rfl) (by kernel_rfl) (by kernel_rfl)
end Go.Proofs.YtfbahcfojiaeaaaGreatDoor


set_option linter.unusedVariables false
set_option maxRecDepth 100000
namespace Go.Proofs.YtfbahcfojiaeaaaGreatDoor
open Go Th Go.Proofs
def ann47 : Ann := { loops := [], cuts := [], frz := [], rm := [.id] }
noncomputable abbrev env47 (n : Nat) : Env := fun i => bif Nat.beq i 82 then some (fs82 n) else (fun _ => none) i
theorem envok47 (n : Nat) : EnvOK Tryz.prog GI (env47 n) := EnvOK.cons (EnvOK.nil) (ok82 n)
noncomputable def p47 {R : Type} (n : Nat) (x1 : Bool) (x2 : List PV) (x3 : Bool) (x4 : List PV) (k0 : Int → Option R) : Option R :=
  p82 n x1 x2 x3 x4 (fun y5 y6 => bif (((y6).length : Int) == 0) then (k0 0) else (bif y5 then (k0 (-1)) else (k0 1)))
noncomputable abbrev lo47 {R : Type} (n : Nat) : Orc R := fun i vs K => none
noncomputable abbrev cu47 {R : Type} (n : Nat) : Orc R := fun i vs K => none
section
variable {R : Type}
abbrev K47 (R : Type) (n : Nat) := PartOK (R := R) Tryz.prog (env47 n) ann47 n (15, []) (lo47 n) (cu47 n)
theorem pa47 (n : Nat) : allP (K47 R n) (partsOf ann47 (bodyOf Tryz.f47)) := by
  rw [show partsOf ann47 (bodyOf Tryz.f47) = [] from by kernel_rfl]; exact trivial
end
abbrev t47 : Sl (List SV) := (.c (sP (sAgg (.c sBool (.c sSh .n)))) (.c (sP (sAgg (.c sBool (.c sSh .n)))) .n))
noncomputable abbrev f47 (n : Nat) {R : Type} (K : List SV → Option R) : t47.T (Option R) := fun x1 x2 x3 x4 => p47 n x1 x2 x3 x4 (fun y1 => K [.p (.v (.int .i64 y1))])
theorem ep47 {R : Type} (n : Nat) (K : List SV → Option R) (x1 : Bool) (x2 : List PV) (x3 : Bool) (x4 : List PV) : evFn Tryz.prog (env47 n) ann47 n Tryz.f47 [.p (.agg [.v (.bool x1), .sh x2]), .p (.agg [.v (.bool x3), .sh x4])] K = f47 n K x1 x2 x3 x4 := by
  rw [evFn_evOi (c := bodyOf Tryz.f47) (by kernel_rfl) (pa47 n)]; kernel_rfl
noncomputable abbrev fs47 (n : Nat) : FS := { om := [false, false], run := fun args K => oget (t47.ap args (f47 n K)) none }
theorem ok47 (n : Nat) : FSound Tryz.prog GI 47 (fs47 n) :=
  FSound.good (envok47 n) (ann := ann47) (n := n) Tryz.func47
    (.cons (envok47 n) t47 (f47 n) (fun K x1 x2 x3 x4 => ep47 n K x1 x2 x3 x4) .nil)
    (by kernel_rfl) (by kernel_rfl) (by kernel_rfl)
end Go.Proofs.YtfbahcfojiaeaaaGreatDoor


set_option linter.unusedVariables false
set_option linter.unusedSimpArgs false
namespace Go.Proofs.YtfbahcfojiaeaaaGreatDoor
open Go Th Go.Proofs
variable {R : Type}
def II (a : Nat) : List PV := nl .i64 (DL a)
def ll (a : Nat) : Nat := (toL 10 a).length
theorem DL_length (a : Nat) : (DL a).length = ll a := by unfold DL ll; rw [List.length_reverse]
theorem II_len (a : Nat) : (II a).length = ll a := by unfold II; rw [nl_len, DL_length]
theorem ll_le {a k : Nat} : ll a ≤ k ↔ a < 10 ^ k := toL_len hT2 a k
theorem ll_mono {a b : Nat} (h : a ≤ b) : ll a ≤ ll b := ll_le.2 (Nat.lt_of_le_of_lt h (ll_le.1 (Nat.le_refl _)))
theorem ll_mul (a b : Nat) : ll (a * b) ≤ ll a + ll b := by
  rw [ll_le, Nat.pow_add]
  exact Nat.mul_lt_mul_of_lt_of_lt (ll_le.1 (Nat.le_refl _)) (ll_le.1 (Nat.le_refl _))
theorem ll_add {a b k : Nat} (ha : ll a ≤ k) (hb : ll b ≤ k) : ll (a + b) ≤ k + 1 := by
  rw [ll_le] at *
  rw [Nat.pow_succ]; omega
theorem ll_zero : ll 0 = 0 := by unfold ll; rw [toL_zero]; rfl
theorem ll_eq0 {a : Nat} : ll a = 0 ↔ a = 0 := by
  constructor
  · intro h; exact (toL_eq_nil hT2).1 (List.eq_nil_of_length_eq_zero h)
  · intro h; rw [h, ll_zero]
theorem II_zero : II 0 = [] := by unfold II; rw [DL_zero]; rfl
theorem head_dropWhile (l : List Nat) : (l.dropWhile (· == 0)).head? ≠ some 0 := by
  induction l with
  | nil => simp
  | cons d r ih =>
    rw [List.dropWhile_cons]
    by_cases h : d = 0
    · rw [if_pos (by simpa using h)]; exact ih
    · rw [if_neg (by simpa using h)]; simpa using h
theorem vb_dropWhile (l : List Nat) : vb (l.dropWhile (· == 0)) = vb l := by
  induction l with
  | nil => rfl
  | cons d r ih =>
    rw [List.dropWhile_cons]
    by_cases h : d = 0
    · rw [if_pos (by simpa using h), ih, h, vb_cons]; omega
    · rw [if_neg (by simpa using h)]
theorem DL_dropWhile {l : List Nat} (h : ∀ d ∈ l, d < 10) : DL (vb l) = l.dropWhile (· == 0) := by
  rw [← vb_dropWhile]
  exact DL_vb (fun d hd => h d ((List.dropWhile_sublist _).subset hd)) (head_dropWhile l)
theorem make0_loop (n : Nat) (neg x3 : Bool) (k0 : Bool → List PV → Bool → Option R) : ∀ (m : Nat) (l : List Nat), l.length < m → l.length < 2 ^ 40 → p54_l1L n m neg (nl .i64 l) x3 k0 = k0 neg (nl .i64 (l.dropWhile (· == 0))) x3
  | m + 1, [], hm, hl => by
    simp only [p54_l1L, p54_l1B]
    simp (disch := (first | omega | (simp only [List.length_append, List.length_cons, List.length_nil, List.length_replicate, List.length_take, List.length_drop]; omega))) only [↓c_pos, ↓c_neg, dec_t, dec_f, Bool.and_true, Bool.true_and, Bool.and_false, Bool.false_and, Bool.not_true, Bool.not_false, cond_true, cond_false, inR_t, cutR_t, roomB_t, lenOK_t, w64, bs_size, List.length_append, List.length_cons, List.length_nil, bs_extract, bs_append, bs_push, bs_data, bs_empty, bs_lit, catS_bs, eqS_bs, ite_pos', ite_neg', decide_true, decide_false, if_true, if_false, toNatC, getI_nl, nl_len, nl_set, nl_set0, nl_take, nl_drop, nl_rep, nl_app, hdSz_nl, drop0, wu32, wu64, wu8, List.length_set, List.length_replicate]
    rfl
  | m + 1, d :: r, hm, hl => by
    rw [List.length_cons] at hm hl
    simp only [p54_l1L, p54_l1B]
    have hg : ∀ (K : Int → Option R), getI .i64 ((nl .i64 (d :: r)).getD (0 : Int).toNat (PV.v (Value.bool false))) K = K (d : Int) := fun K => getI_nl (l := d :: r) (i := 0) (by simp)
    have e1 : List.drop (1 : Int).toNat (List.take (r.length + 1) (d :: r)) = r := by
      show List.drop 1 (d :: List.take r.length r) = r
      rw [List.take_length]; rfl
    have e2 : List.drop (0 + 1) (List.take (r.length + 1) (d :: r)) = r := e1
    rw [List.dropWhile_cons]
    by_cases h : d = 0
    · have ih := make0_loop n neg x3 k0 m r (by omega) (by omega)
      rw [if_pos (by simpa using h)]
      subst h
      have e3 : ((0 : Nat) == 0) = true := rfl
      simp (disch := (first | omega | (simp only [List.length_append, List.length_cons, List.length_nil, List.length_replicate, List.length_take, List.length_drop]; omega))) only [↓c_pos, ↓c_neg, dec_t, dec_f, Bool.and_true, Bool.true_and, Bool.and_false, Bool.false_and, Bool.not_true, Bool.not_false, cond_true, cond_false, inR_t, cutR_t, roomB_t, lenOK_t, w64, bs_size, List.length_append, List.length_cons, List.length_nil, bs_extract, bs_append, bs_push, bs_data, bs_empty, bs_lit, catS_bs, eqS_bs, ite_pos', ite_neg', decide_true, decide_false, if_true, if_false, toNatC, getI_nl, nl_len, nl_set, nl_set0, nl_take, nl_drop, nl_rep, nl_app, hdSz_nl, drop0, wu32, wu64, wu8, List.length_set, List.length_replicate, hg, beqInt0, e1, e2, e3, ih, List.length_cons]
    · have e3 : (d == 0) = false := by simpa using h
      rw [if_neg (by simpa using h)]
      simp (disch := (first | omega | (simp only [List.length_append, List.length_cons, List.length_nil, List.length_replicate, List.length_take, List.length_drop]; omega))) only [↓c_pos, ↓c_neg, dec_t, dec_f, Bool.and_true, Bool.true_and, Bool.and_false, Bool.false_and, Bool.not_true, Bool.not_false, cond_true, cond_false, inR_t, cutR_t, roomB_t, lenOK_t, w64, bs_size, List.length_append, List.length_cons, List.length_nil, bs_extract, bs_append, bs_push, bs_data, bs_empty, bs_lit, catS_bs, eqS_bs, ite_pos', ite_neg', decide_true, decide_false, if_true, if_false, toNatC, getI_nl, nl_len, nl_set, nl_set0, nl_take, nl_drop, nl_rep, nl_app, hdSz_nl, drop0, wu32, wu64, wu8, List.length_set, List.length_replicate, hg, beqInt0, e1, e2, e3, List.length_cons]
theorem make0_eq (n : Nat) (neg : Bool) (l : List Nat) (h : ∀ d ∈ l, d < 10) (hn : l.length < n) (hl : l.length < 2 ^ 40) (k0 : Bool → List PV → Option R) : p54 n neg (nl .i64 l) k0 = k0 (neg && !(vb l == 0)) (II (vb l)) := by
  unfold p54 p54_l1
  rw [make0_loop n neg false _ n l hn hl, ← DL_dropWhile h]
  by_cases h0 : vb l = 0
  · rw [h0, II_zero, DL_zero]
    simp [nl]
  · have e1 : ((ll (vb l) : Int) == 0) = false := by
      rw [beqInt0]; simp only [beq_eq_false_iff_ne, ne_eq]
      intro e; exact h0 (ll_eq0.1 e)
    have e2 : (vb l == 0) = false := by simpa using h0
    rw [nl_len, DL_length, e1, e2]
    simp [II]
theorem drop_getD {l : List Nat} {i : Nat} (h : i < l.length) : l.drop i = l.getD i 0 :: l.drop (i + 1) := by
  rw [List.drop_eq_getElem_cons h, List.getD_eq_getElem?_getD, List.getElem?_eq_getElem h]; rfl
theorem rcmp_loop (n : Nat) (la lb : List Nat) (ha : ∀ d ∈ la, d < 10) (hb : ∀ d ∈ lb, d < 10) (hlen : la.length = lb.length) (hl : la.length < 2 ^ 40) (k0 : Int → Option R) (k1 : Option R) :
    ∀ (d m i : Nat), d + i = la.length → d < m → p83_l6L n m (nl .i64 la) (nl .i64 lb) (i : Int) k0 k1 =
      if vb (la.drop i) < vb (lb.drop i) then k0 (-1) else if vb (lb.drop i) < vb (la.drop i) then k0 1 else k1
  | 0, m + 1, i, h, hm => by
    rw [List.drop_eq_nil_of_le (by omega), List.drop_eq_nil_of_le (by omega)]
    simp only [p83_l6L, p83_l6B]
    simp (disch := (first | omega | (simp only [List.length_append, List.length_cons, List.length_nil, List.length_replicate, List.length_take, List.length_drop]; omega))) only [↓c_pos, ↓c_neg, dec_t, dec_f, Bool.and_true, Bool.true_and, Bool.and_false, Bool.false_and, Bool.not_true, Bool.not_false, cond_true, cond_false, inR_t, cutR_t, roomB_t, lenOK_t, w64, bs_size, List.length_append, List.length_cons, List.length_nil, bs_extract, bs_append, bs_push, bs_data, bs_empty, bs_lit, catS_bs, eqS_bs, ite_pos', ite_neg', decide_true, decide_false, if_true, if_false, toNatC, getI_nl, nl_len, nl_set, nl_set0, nl_take, nl_drop, nl_rep, nl_app, hdSz_nl, drop0, wu32, wu64, wu8, List.length_set, List.length_replicate]
  | d + 1, m + 1, i, h, hm => by
    have ih := rcmp_loop n la lb ha hb hlen hl k0 k1 d m (i + 1) (by omega) (by omega)
    have e1 : (i : Int) + 1 = ((i + 1 : Nat) : Int) := by omega
    have va := vb_lt (la.drop (i + 1)) (fun x hx => ha x (List.mem_of_mem_drop hx))
    have vb' := vb_lt (lb.drop (i + 1)) (fun x hx => hb x (List.mem_of_mem_drop hx))
    rw [drop_getD (by omega : i < la.length), drop_getD (by omega : i < lb.length), vb_cons, vb_cons]
    have el : (lb.drop (i + 1)).length = (la.drop (i + 1)).length := by rw [List.length_drop, List.length_drop, hlen]
    rw [el] at vb' ⊢
    simp only [p83_l6L, p83_l6B]
    by_cases h1 : la.getD i 0 < lb.getD i 0
    · simp (disch := (first | omega | (simp only [List.length_append, List.length_cons, List.length_nil, List.length_replicate, List.length_take, List.length_drop]; omega))) only [↓c_pos, ↓c_neg, dec_t, dec_f, Bool.and_true, Bool.true_and, Bool.and_false, Bool.false_and, Bool.not_true, Bool.not_false, cond_true, cond_false, inR_t, cutR_t, roomB_t, lenOK_t, w64, bs_size, List.length_append, List.length_cons, List.length_nil, bs_extract, bs_append, bs_push, bs_data, bs_empty, bs_lit, catS_bs, eqS_bs, ite_pos', ite_neg', decide_true, decide_false, if_true, if_false, toNatC, getI_nl, nl_len, nl_set, nl_set0, nl_take, nl_drop, nl_rep, nl_app, hdSz_nl, drop0, wu32, wu64, wu8, List.length_set, List.length_replicate, e1]
      have : (la.getD i 0 + 1) * 10 ^ (la.drop (i + 1)).length ≤ lb.getD i 0 * 10 ^ (la.drop (i + 1)).length := Nat.mul_le_mul_right _ h1
      rw [Nat.succ_mul] at this
      rw [if_pos (by omega)]
    · by_cases h2 : lb.getD i 0 < la.getD i 0
      · simp (disch := (first | omega | (simp only [List.length_append, List.length_cons, List.length_nil, List.length_replicate, List.length_take, List.length_drop]; omega))) only [↓c_pos, ↓c_neg, dec_t, dec_f, Bool.and_true, Bool.true_and, Bool.and_false, Bool.false_and, Bool.not_true, Bool.not_false, cond_true, cond_false, inR_t, cutR_t, roomB_t, lenOK_t, w64, bs_size, List.length_append, List.length_cons, List.length_nil, bs_extract, bs_append, bs_push, bs_data, bs_empty, bs_lit, catS_bs, eqS_bs, ite_pos', ite_neg', decide_true, decide_false, if_true, if_false, toNatC, getI_nl, nl_len, nl_set, nl_set0, nl_take, nl_drop, nl_rep, nl_app, hdSz_nl, drop0, wu32, wu64, wu8, List.length_set, List.length_replicate, e1]
        have : (lb.getD i 0 + 1) * 10 ^ (la.drop (i + 1)).length ≤ la.getD i 0 * 10 ^ (la.drop (i + 1)).length := Nat.mul_le_mul_right _ h2
        rw [Nat.succ_mul] at this
        rw [if_neg (by omega), if_pos (by omega)]
      · have h3 : la.getD i 0 = lb.getD i 0 := by omega
        simp (disch := (first | omega | (simp only [List.length_append, List.length_cons, List.length_nil, List.length_replicate, List.length_take, List.length_drop]; omega))) only [↓c_pos, ↓c_neg, dec_t, dec_f, Bool.and_true, Bool.true_and, Bool.and_false, Bool.false_and, Bool.not_true, Bool.not_false, cond_true, cond_false, inR_t, cutR_t, roomB_t, lenOK_t, w64, bs_size, List.length_append, List.length_cons, List.length_nil, bs_extract, bs_append, bs_push, bs_data, bs_empty, bs_lit, catS_bs, eqS_bs, ite_pos', ite_neg', decide_true, decide_false, if_true, if_false, toNatC, getI_nl, nl_len, nl_set, nl_set0, nl_take, nl_drop, nl_rep, nl_app, hdSz_nl, drop0, wu32, wu64, wu8, List.length_set, List.length_replicate, e1, ih]
        rw [h3]
        simp only [Nat.add_lt_add_iff_left]
theorem rcmp_eq (n a b : Nat) (ha : ll a < 2 ^ 40) (hb : ll b < 2 ^ 40) (hn : ll a < n) (k0 : Int → Option R) : p83 n (II a) (II b) k0 = k0 (cmpN a b) := by
  unfold p83 p83_l6
  rw [II_len, II_len, bneInt_nat]
  by_cases he : ll a = ll b
  · have e1 : (ll a != ll b) = false := by simp [he]
    have hlp := rcmp_loop n (DL a) (DL b) (DL_lt a) (DL_lt b) (by rw [DL_length, DL_length, he]) (by rw [DL_length]; exact ha) (fun y => k0 y) (k0 0) (ll a) n 0 (by rw [DL_length]; omega) hn
    rw [List.drop_zero, List.drop_zero, vb_DL, vb_DL] at hlp
    rw [e1, cond_false]
    unfold II
    rw [show ((0 : Nat) : Int) = 0 from rfl] at hlp
    rw [hlp]
    unfold cmpN
    split
    · rfl
    · split <;> rfl
  · have e1 : (ll a != ll b) = true := by simpa using he
    rw [e1, cond_true]
    unfold cmpN
    by_cases hlt : ll a < ll b
    · have h2 := toL_lt_len hT2 hlt
      rw [c_pos (by omega), if_pos h2]
    · have h2 := toL_lt_len hT2 (x := b) (y := a) (by unfold ll at *; omega)
      rw [c_neg (by omega), if_neg (by omega), if_pos h2]
theorem digit_eq (n a i : Nat) (ha : ll a < 2 ^ 40) (hi : i < 2 ^ 40) (k0 : Int → Option R) : p99 n (II a) i k0 = k0 (((toL 10 a).getD i 0 : Nat) : Int) := by
  unfold p99 II
  have hll : (toL 10 a).length = ll a := rfl
  by_cases h : ll a ≤ i
  · rw [getD_out h]
    simp (disch := (first | omega | (simp only [List.length_append, List.length_cons, List.length_nil, List.length_replicate, List.length_take, List.length_drop]; omega))) only [↓c_pos, ↓c_neg, dec_t, dec_f, Bool.and_true, Bool.true_and, Bool.and_false, Bool.false_and, Bool.not_true, Bool.not_false, cond_true, cond_false, inR_t, cutR_t, roomB_t, lenOK_t, w64, bs_size, List.length_append, List.length_cons, List.length_nil, bs_extract, bs_append, bs_push, bs_data, bs_empty, bs_lit, catS_bs, eqS_bs, ite_pos', ite_neg', decide_true, decide_false, if_true, if_false, toNatC, getI_nl, nl_len, nl_set, nl_set0, nl_take, nl_drop, nl_rep, nl_app, hdSz_nl, drop0, wu32, wu64, wu8, List.length_set, List.length_replicate, DL_length]
    rfl
  · have hr : (DL a).getD (ll a - 1 - i) 0 = (toL 10 a).getD i 0 := by
      unfold DL
      rw [List.getD_eq_getElem?_getD, List.getD_eq_getElem?_getD, List.getElem?_reverse (by omega)]
      congr 2
      omega
    have e1 : ((ll a : Int) - 1) - (i : Int) = ((ll a - 1 - i : Nat) : Int) := by omega
    have hg : ∀ (K : Int → Option R), getI .i64 ((nl .i64 (DL a)).getD (ll a - 1 - i) (PV.v (Value.bool false))) K = K (((toL 10 a).getD i 0 : Nat) : Int) := fun K => by
      rw [getI_nl (by rw [DL_length]; omega), hr]
    simp (disch := (first | omega | (simp only [List.length_append, List.length_cons, List.length_nil, List.length_replicate, List.length_take, List.length_drop]; omega))) only [↓c_pos, ↓c_neg, dec_t, dec_f, Bool.and_true, Bool.true_and, Bool.and_false, Bool.false_and, Bool.not_true, Bool.not_false, cond_true, cond_false, inR_t, cutR_t, roomB_t, lenOK_t, w64, bs_size, List.length_append, List.length_cons, List.length_nil, bs_extract, bs_append, bs_push, bs_data, bs_empty, bs_lit, catS_bs, eqS_bs, ite_pos', ite_neg', decide_true, decide_false, if_true, if_false, toNatC, getI_nl, nl_len, nl_set, nl_set0, nl_take, nl_drop, nl_rep, nl_app, hdSz_nl, drop0, wu32, wu64, wu8, List.length_set, List.length_replicate, DL_length, e1, hg]
theorem rplus_step (n a b : Nat) (f : Int) (hf : f = 1 ∨ f = -1) (ha : ll a < 2 ^ 30) (hb : ll b < 2 ^ 30) (o : List Nat) (c : Int) (hc : -1 ≤ c ∧ c ≤ 1) (i : Nat) (hi : i < 2 ^ 31) (ho : o.length = i) :
    ∃ (r : Nat) (c' : Int), (∀ k0 : List PV → List PV → Int → List PV → Int → Int → Option R, p84_c6 n (II a) (II b) f (nl .i64 o.reverse) c i k0 = k0 (II a) (II b) f (nl .i64 (o ++ [r]).reverse) c' ((i + 1 : Nat) : Int)) ∧ r < 10 ∧ -1 ≤ c' ∧ c' ≤ 1 ∧
      (((toL 10 a).getD i 0 : Nat) : Int) + f * (((toL 10 b).getD i 0 : Nat) : Int) + c = (r : Int) + 10 * c' := by
  have hx := getD_lt hT2 (toL_lt hT2 a) i
  have hy := getD_lt hT2 (toL_lt hT2 b) i
  have d1 := fun k0 => digit_eq (R := R) n a i (by omega) (by omega) k0
  have d2 := fun k0 => digit_eq (R := R) n b i (by omega) (by omega) k0
  generalize (toL 10 a).getD i 0 = x at *
  generalize (toL 10 b).getD i 0 = y at *
  obtain ⟨v, hv⟩ : ∃ v : Int, v = (x : Int) + f * (y : Int) + c := ⟨_, rfl⟩
  have hv2 : -11 < v ∧ v < 20 := by rcases hf with rfl | rfl <;> omega
  have e1 : (i : Int) + 1 = ((i + 1 : Nat) : Int) := by omega
  have e2 : ∀ r : Nat, nl .i64 (o ++ [r]).reverse = nl .i64 [r] ++ nl .i64 o.reverse := fun r => by rw [List.reverse_append, ← nl_app]; rfl
  have hol : o.reverse.length = i := by rw [List.length_reverse, ho]
  by_cases h1 : v < 0
  · obtain ⟨r, hr⟩ : ∃ r : Nat, (r : Int) = v + 10 := ⟨(v + 10).toNat, by omega⟩
    refine ⟨r, -1, fun k0 => ?_, by omega, by omega, by omega, by omega⟩
    rw [e2]
    rcases hf with rfl | rfl
    · have e3 : (x : Int) + 1 * (y : Int) + c + 10 = (r : Int) := by omega
      simp only [p84_c6, p84_c11, p84_c14, p84_c5, d1, d2]
      simp (disch := (first | omega | (simp only [List.length_append, List.length_cons, List.length_nil, List.length_replicate, List.length_take, List.length_drop]; omega))) only [↓c_pos, ↓c_neg, dec_t, dec_f, Bool.and_true, Bool.true_and, Bool.and_false, Bool.false_and, Bool.not_true, Bool.not_false, cond_true, cond_false, inR_t, cutR_t, roomB_t, lenOK_t, w64, bs_size, List.length_append, List.length_cons, List.length_nil, bs_extract, bs_append, bs_push, bs_data, bs_empty, bs_lit, catS_bs, eqS_bs, ite_pos', ite_neg', decide_true, decide_false, if_true, if_false, toNatC, getI_nl, nl_len, nl_set, nl_set0, nl_take, nl_drop, nl_rep, nl_app, hdSz_nl, drop0, wu32, wu64, wu8, List.length_set, List.length_replicate, e1, e3, hol, nl_one]
    · have e3 : (x : Int) + -1 * (y : Int) + c + 10 = (r : Int) := by omega
      simp only [p84_c6, p84_c11, p84_c14, p84_c5, d1, d2]
      simp (disch := (first | omega | (simp only [List.length_append, List.length_cons, List.length_nil, List.length_replicate, List.length_take, List.length_drop]; omega))) only [↓c_pos, ↓c_neg, dec_t, dec_f, Bool.and_true, Bool.true_and, Bool.and_false, Bool.false_and, Bool.not_true, Bool.not_false, cond_true, cond_false, inR_t, cutR_t, roomB_t, lenOK_t, w64, bs_size, List.length_append, List.length_cons, List.length_nil, bs_extract, bs_append, bs_push, bs_data, bs_empty, bs_lit, catS_bs, eqS_bs, ite_pos', ite_neg', decide_true, decide_false, if_true, if_false, toNatC, getI_nl, nl_len, nl_set, nl_set0, nl_take, nl_drop, nl_rep, nl_app, hdSz_nl, drop0, wu32, wu64, wu8, List.length_set, List.length_replicate, e1, e3, hol, nl_one]
  · by_cases h2 : v > 9
    · obtain ⟨r, hr⟩ : ∃ r : Nat, (r : Int) = v - 10 := ⟨(v - 10).toNat, by omega⟩
      refine ⟨r, 1, fun k0 => ?_, by omega, by omega, by omega, by omega⟩
      rw [e2]
      rcases hf with rfl | rfl
      · have e3 : (x : Int) + 1 * (y : Int) + c - 10 = (r : Int) := by omega
        simp only [p84_c6, p84_c11, p84_c14, p84_c5, d1, d2]
        simp (disch := (first | omega | (simp only [List.length_append, List.length_cons, List.length_nil, List.length_replicate, List.length_take, List.length_drop]; omega))) only [↓c_pos, ↓c_neg, dec_t, dec_f, Bool.and_true, Bool.true_and, Bool.and_false, Bool.false_and, Bool.not_true, Bool.not_false, cond_true, cond_false, inR_t, cutR_t, roomB_t, lenOK_t, w64, bs_size, List.length_append, List.length_cons, List.length_nil, bs_extract, bs_append, bs_push, bs_data, bs_empty, bs_lit, catS_bs, eqS_bs, ite_pos', ite_neg', decide_true, decide_false, if_true, if_false, toNatC, getI_nl, nl_len, nl_set, nl_set0, nl_take, nl_drop, nl_rep, nl_app, hdSz_nl, drop0, wu32, wu64, wu8, List.length_set, List.length_replicate, e1, e3, hol, nl_one]
      · have e3 : (x : Int) + -1 * (y : Int) + c - 10 = (r : Int) := by omega
        simp only [p84_c6, p84_c11, p84_c14, p84_c5, d1, d2]
        simp (disch := (first | omega | (simp only [List.length_append, List.length_cons, List.length_nil, List.length_replicate, List.length_take, List.length_drop]; omega))) only [↓c_pos, ↓c_neg, dec_t, dec_f, Bool.and_true, Bool.true_and, Bool.and_false, Bool.false_and, Bool.not_true, Bool.not_false, cond_true, cond_false, inR_t, cutR_t, roomB_t, lenOK_t, w64, bs_size, List.length_append, List.length_cons, List.length_nil, bs_extract, bs_append, bs_push, bs_data, bs_empty, bs_lit, catS_bs, eqS_bs, ite_pos', ite_neg', decide_true, decide_false, if_true, if_false, toNatC, getI_nl, nl_len, nl_set, nl_set0, nl_take, nl_drop, nl_rep, nl_app, hdSz_nl, drop0, wu32, wu64, wu8, List.length_set, List.length_replicate, e1, e3, hol, nl_one]
    · obtain ⟨r, hr⟩ : ∃ r : Nat, (r : Int) = v := ⟨v.toNat, by omega⟩
      refine ⟨r, 0, fun k0 => ?_, by omega, by omega, by omega, by omega⟩
      rw [e2]
      rcases hf with rfl | rfl
      · have e3 : (x : Int) + 1 * (y : Int) + c = (r : Int) := by omega
        simp only [p84_c6, p84_c11, p84_c14, p84_c5, d1, d2]
        simp (disch := (first | omega | (simp only [List.length_append, List.length_cons, List.length_nil, List.length_replicate, List.length_take, List.length_drop]; omega))) only [↓c_pos, ↓c_neg, dec_t, dec_f, Bool.and_true, Bool.true_and, Bool.and_false, Bool.false_and, Bool.not_true, Bool.not_false, cond_true, cond_false, inR_t, cutR_t, roomB_t, lenOK_t, w64, bs_size, List.length_append, List.length_cons, List.length_nil, bs_extract, bs_append, bs_push, bs_data, bs_empty, bs_lit, catS_bs, eqS_bs, ite_pos', ite_neg', decide_true, decide_false, if_true, if_false, toNatC, getI_nl, nl_len, nl_set, nl_set0, nl_take, nl_drop, nl_rep, nl_app, hdSz_nl, drop0, wu32, wu64, wu8, List.length_set, List.length_replicate, e1, e3, hol, nl_one]
      · have e3 : (x : Int) + -1 * (y : Int) + c = (r : Int) := by omega
        simp only [p84_c6, p84_c11, p84_c14, p84_c5, d1, d2]
        simp (disch := (first | omega | (simp only [List.length_append, List.length_cons, List.length_nil, List.length_replicate, List.length_take, List.length_drop]; omega))) only [↓c_pos, ↓c_neg, dec_t, dec_f, Bool.and_true, Bool.true_and, Bool.and_false, Bool.false_and, Bool.not_true, Bool.not_false, cond_true, cond_false, inR_t, cutR_t, roomB_t, lenOK_t, w64, bs_size, List.length_append, List.length_cons, List.length_nil, bs_extract, bs_append, bs_push, bs_data, bs_empty, bs_lit, catS_bs, eqS_bs, ite_pos', ite_neg', decide_true, decide_false, if_true, if_false, toNatC, getI_nl, nl_len, nl_set, nl_set0, nl_take, nl_drop, nl_rep, nl_app, hdSz_nl, drop0, wu32, wu64, wu8, List.length_set, List.length_replicate, e1, e3, hol, nl_one]
theorem rplus_loop (n a b : Nat) (f : Int) (hf : f = 1 ∨ f = -1) (ha : ll a < 2 ^ 30) (hb : ll b < 2 ^ 30) (hab : 0 ≤ (a : Int) + f * (b : Int)) (K : Nat) (hK : K = max (ll a) (ll b)) :
    ∀ (m i : Nat) (o : List Nat) (c : Int), K + 2 ≤ m + i → i ≤ K + 1 → (i ≤ K ∨ c = 0) → o.length = i → (∀ d ∈ o, d < 10) → (-1 ≤ c ∧ c ≤ 1) → (val 10 o : Int) + (10 ^ i : Nat) * c = (val 10 ((toL 10 a).take i) : Int) + f * (val 10 ((toL 10 b).take i) : Int) →
      ∃ o' : List Nat, (∀ k0 : List PV → Option R, p84_l4L n m (II a) (II b) f (nl .i64 o.reverse) c i k0 = k0 (nl .i64 o'.reverse)) ∧ (∀ d ∈ o', d < 10) ∧ (val 10 o' : Int) = (a : Int) + f * (b : Int) ∧ o'.length ≤ K + 1
  | 0, i, o, c, hm, hi, hic, ho, hd, hc, hv => by omega
  | m + 1, i, o, c, hm, hi, hic, ho, hd, hc, hv => by
    have go : (i < ll a ∨ i < ll b ∨ c ≠ 0) → i ≤ K → (i = K → c = 1) →
        ∃ o' : List Nat, (∀ k0 : List PV → Option R, p84_c6 n (II a) (II b) f (nl .i64 o.reverse) c i (fun x1 x2 x3 x4 x5 x6 => p84_l4L n m x1 x2 x3 x4 x5 x6 k0) = k0 (nl .i64 o'.reverse)) ∧ (∀ d ∈ o', d < 10) ∧ (val 10 o' : Int) = (a : Int) + f * (b : Int) ∧ o'.length ≤ K + 1 := by
      intro _ hiK hc1
      obtain ⟨r, c', s1, s2, s3, s4, s5⟩ := rplus_step (R := R) n a b f hf ha hb o c hc i (by omega) ho
      have hcK : i + 1 ≤ K ∨ c' = 0 := by
        by_cases h : i = K
        · right
          have := hc1 h
          rw [getD_out (by unfold ll at *; omega), getD_out (by unfold ll at *; omega)] at s5
          simp at s5
          omega
        · left; omega
      obtain ⟨o', q1, q2, q3, q4⟩ := rplus_loop n a b f hf ha hb hab K hK m (i + 1) (o ++ [r]) c' (by omega) (by omega) hcK (by rw [List.length_append, ho]; rfl) (by
        intro d h
        rcases List.mem_append.1 h with h | h
        · exact hd d h
        · rw [List.mem_singleton.1 h]; exact s2) ⟨s3, s4⟩ (by
          rw [val_snoc, ho, val_take_succ', val_take_succ', Nat.pow_succ]
          generalize (toL 10 a).getD i 0 = x at *
          generalize (toL 10 b).getD i 0 = y at *
          generalize val 10 ((toL 10 a).take i) = A at *
          generalize val 10 ((toL 10 b).take i) = B at *
          generalize val 10 o = O at *
          generalize 10 ^ i = P at *
          push_cast
          have : (P : Int) * ((x : Int) + f * (y : Int) + c) = (P : Int) * ((r : Int) + 10 * c') := by rw [s5]
          clear s1 hf hab
          grind)
      exact ⟨o', fun k0 => by rw [s1, q1], q2, q3, q4⟩
    simp only [p84_l4L, p84_l4B]
    have hA : i < ll a ∨ ¬ i < ll a := Decidable.em _
    have hB : i < ll b ∨ ¬ i < ll b := Decidable.em _
    rcases hA with hA | hA
    · have g1 : i ≤ K := by clear go; omega
      have g2 : i = K → c = 1 := by clear go; omega
      obtain ⟨o', q1, q2⟩ := go (Or.inl hA) g1 g2
      refine ⟨o', fun k0 => ?_, q2⟩
      rw [← q1 k0]
      simp (disch := (first | omega | (simp only [List.length_append, List.length_cons, List.length_nil, List.length_replicate, List.length_take, List.length_drop]; omega))) only [↓c_pos, ↓c_neg, dec_t, dec_f, Bool.and_true, Bool.true_and, Bool.and_false, Bool.false_and, Bool.not_true, Bool.not_false, cond_true, cond_false, inR_t, cutR_t, roomB_t, lenOK_t, w64, bs_size, List.length_append, List.length_cons, List.length_nil, bs_extract, bs_append, bs_push, bs_data, bs_empty, bs_lit, catS_bs, eqS_bs, ite_pos', ite_neg', decide_true, decide_false, if_true, if_false, toNatC, getI_nl, nl_len, nl_set, nl_set0, nl_take, nl_drop, nl_rep, nl_app, hdSz_nl, drop0, wu32, wu64, wu8, List.length_set, List.length_replicate, II_len]
    rcases hB with hB | hB
    · have g1 : i ≤ K := by clear go; omega
      have g2 : i = K → c = 1 := by clear go; omega
      obtain ⟨o', q1, q2⟩ := go (Or.inr (Or.inl hB)) g1 g2
      refine ⟨o', fun k0 => ?_, q2⟩
      rw [← q1 k0]
      simp (disch := (first | omega | (simp only [List.length_append, List.length_cons, List.length_nil, List.length_replicate, List.length_take, List.length_drop]; omega))) only [↓c_pos, ↓c_neg, dec_t, dec_f, Bool.and_true, Bool.true_and, Bool.and_false, Bool.false_and, Bool.not_true, Bool.not_false, cond_true, cond_false, inR_t, cutR_t, roomB_t, lenOK_t, w64, bs_size, List.length_append, List.length_cons, List.length_nil, bs_extract, bs_append, bs_push, bs_data, bs_empty, bs_lit, catS_bs, eqS_bs, ite_pos', ite_neg', decide_true, decide_false, if_true, if_false, toNatC, getI_nl, nl_len, nl_set, nl_set0, nl_take, nl_drop, nl_rep, nl_app, hdSz_nl, drop0, wu32, wu64, wu8, List.length_set, List.length_replicate, II_len]
    rw [List.take_of_length_le (by unfold ll at *; omega), List.take_of_length_le (by unfold ll at *; omega), val_toL hT2, val_toL hT2] at hv
    have hol := val_lt hT2 o hd
    rw [ho] at hol
    by_cases h0 : c = 0
    · subst h0
      rw [Int.mul_zero, Int.add_zero] at hv
      refine ⟨o, fun k0 => ?_, hd, hv, by omega⟩
      have e : ((0 : Int) != 0) = false := rfl
      simp (disch := (first | omega | (simp only [List.length_append, List.length_cons, List.length_nil, List.length_replicate, List.length_take, List.length_drop]; omega))) only [↓c_pos, ↓c_neg, dec_t, dec_f, Bool.and_true, Bool.true_and, Bool.and_false, Bool.false_and, Bool.not_true, Bool.not_false, cond_true, cond_false, inR_t, cutR_t, roomB_t, lenOK_t, w64, bs_size, List.length_append, List.length_cons, List.length_nil, bs_extract, bs_append, bs_push, bs_data, bs_empty, bs_lit, catS_bs, eqS_bs, ite_pos', ite_neg', decide_true, decide_false, if_true, if_false, toNatC, getI_nl, nl_len, nl_set, nl_set0, nl_take, nl_drop, nl_rep, nl_app, hdSz_nl, drop0, wu32, wu64, wu8, List.length_set, List.length_replicate, II_len, e]
    · have h1 : c = 1 := by
        by_cases h : c = -1
        · exfalso
          subst h
          generalize 10 ^ i = P at *
          omega
        · omega
      have g1 : i ≤ K := by clear go; omega
      obtain ⟨o', q1, q2⟩ := go (Or.inr (Or.inr h0)) g1 (fun _ => h1)
      refine ⟨o', fun k0 => ?_, q2⟩
      rw [← q1 k0]
      have e : (c != 0) = true := by simpa using h0
      simp (disch := (first | omega | (simp only [List.length_append, List.length_cons, List.length_nil, List.length_replicate, List.length_take, List.length_drop]; omega))) only [↓c_pos, ↓c_neg, dec_t, dec_f, Bool.and_true, Bool.true_and, Bool.and_false, Bool.false_and, Bool.not_true, Bool.not_false, cond_true, cond_false, inR_t, cutR_t, roomB_t, lenOK_t, w64, bs_size, List.length_append, List.length_cons, List.length_nil, bs_extract, bs_append, bs_push, bs_data, bs_empty, bs_lit, catS_bs, eqS_bs, ite_pos', ite_neg', decide_true, decide_false, if_true, if_false, toNatC, getI_nl, nl_len, nl_set, nl_set0, nl_take, nl_drop, nl_rep, nl_app, hdSz_nl, drop0, wu32, wu64, wu8, List.length_set, List.length_replicate, II_len, e]
theorem rplus_eq (n a b : Nat) (f : Int) (hf : f = 1 ∨ f = -1) (ha : ll a < 2 ^ 30) (hb : ll b < 2 ^ 30) (hab : 0 ≤ (a : Int) + f * (b : Int)) (hn : max (ll a) (ll b) + 2 ≤ n) :
    ∃ l : List Nat, (∀ k0 : List PV → Option R, p84 n (II a) (II b) f k0 = k0 (nl .i64 l)) ∧ (∀ d ∈ l, d < 10) ∧ (vb l : Int) = (a : Int) + f * (b : Int) ∧ l.length ≤ max (ll a) (ll b) + 1 := by
  obtain ⟨o', q1, q2, q3, q4⟩ := rplus_loop (R := R) n a b f hf ha hb hab _ rfl n 0 [] 0 (by omega) (by omega) (by omega) rfl (by intro d h; cases h) (by omega) (by simp [val])
  refine ⟨o'.reverse, fun k0 => ?_, fun d h => q2 d (List.mem_reverse.1 h), by unfold vb; rw [List.reverse_reverse]; exact q3, by rw [List.length_reverse]; exact q4⟩
  unfold p84 p84_l4
  exact q1 _
abbrev sg (z : Int) : Bool := decide (z < 0)
theorem radd_eq (n : Nat) (x y : Int) (hx : ll x.natAbs ≤ 50000) (hy : ll y.natAbs ≤ 50000) (hn : 200000 ≤ n) (k0 : Bool → List PV → Option R) :
    p59 n (sg x) (II x.natAbs) (sg y) (II y.natAbs) k0 = k0 (sg (x + y)) (II (x + y).natAbs) := by
  unfold p59
  by_cases hs : sg x = sg y
  · obtain ⟨l, q1, q2, q3, q4⟩ := rplus_eq (R := R) n x.natAbs y.natAbs 1 (Or.inl rfl) (by omega) (by omega) (by omega) (by omega)
    have e1 : (sg x == sg y) = true := by simpa using hs
    have e2 : vb l = (x + y).natAbs := by
      have : x < 0 ↔ y < 0 := by simpa [sg] using hs
      omega
    have e3 : (sg x && !((x + y).natAbs == 0)) = sg (x + y) := by
      have : x < 0 ↔ y < 0 := by simpa [sg] using hs
      rw [Bool.eq_iff_iff]
      simp only [sg, Bool.and_eq_true, decide_eq_true_eq, Bool.not_eq_true', beq_eq_false_iff_ne]
      omega
    rw [e1, cond_true, q1, make0_eq n _ l q2 (by omega) (by omega), e2, e3]
  · have e1 : (sg x == sg y) = false := by simpa using hs
    have hxy : ¬ (x < 0 ↔ y < 0) := by simpa [sg] using hs
    rw [e1, cond_false, rcmp_eq n _ _ (by omega) (by omega) (by omega)]
    by_cases hlt : x.natAbs < y.natAbs
    · obtain ⟨l, q1, q2, q3, q4⟩ := rplus_eq (R := R) n y.natAbs x.natAbs (-1) (Or.inr rfl) (by omega) (by omega) (by omega) (by omega)
      have e2 : vb l = (x + y).natAbs := by omega
      have e3 : (sg y && !((x + y).natAbs == 0)) = sg (x + y) := by
        rw [Bool.eq_iff_iff]
        simp only [sg, Bool.and_eq_true, decide_eq_true_eq, Bool.not_eq_true', beq_eq_false_iff_ne]
        omega
      have e4 : cmpN x.natAbs y.natAbs = -1 := by unfold cmpN; rw [if_pos hlt]
      rw [e4, c_pos (by omega), q1, make0_eq n _ l q2 (by omega) (by omega), e2, e3]
    · obtain ⟨l, q1, q2, q3, q4⟩ := rplus_eq (R := R) n x.natAbs y.natAbs (-1) (Or.inr rfl) (by omega) (by omega) (by omega) (by omega)
      have e2 : vb l = (x + y).natAbs := by omega
      have e3 : (sg x && !((x + y).natAbs == 0)) = sg (x + y) := by
        rw [Bool.eq_iff_iff]
        simp only [sg, Bool.and_eq_true, decide_eq_true_eq, Bool.not_eq_true', beq_eq_false_iff_ne]
        omega
      have e4 : ¬ cmpN x.natAbs y.natAbs < 0 := by unfold cmpN; rw [if_neg hlt]; split <;> omega
      rw [c_neg e4, q1, make0_eq n _ l q2 (by omega) (by omega), e2, e3]
theorem rneg_eq (n : Nat) (x : Int) (hx : ll x.natAbs ≤ 50000) (hn : 200000 ≤ n) (k0 : Bool → List PV → Option R) : p50 n (sg x) (II x.natAbs) k0 = k0 (sg (-x)) (II (-x).natAbs) := by
  unfold p50 II
  rw [make0_eq n _ _ (DL_lt _) (by rw [DL_length]; omega) (by rw [DL_length]; omega), vb_DL, Int.natAbs_neg]
  have e3 : (!(sg x) && !(x.natAbs == 0)) = sg (-x) := by
    rw [Bool.eq_iff_iff]
    simp only [sg, Bool.and_eq_true, decide_eq_true_eq, Bool.not_eq_true', beq_eq_false_iff_ne, decide_eq_false_iff_not]
    omega
  rw [e3]; rfl
theorem rsub_eq (n : Nat) (x y : Int) (hx : ll x.natAbs ≤ 50000) (hy : ll y.natAbs ≤ 50000) (hn : 200000 ≤ n) (k0 : Bool → List PV → Option R) :
    p82 n (sg x) (II x.natAbs) (sg y) (II y.natAbs) k0 = k0 (sg (x - y)) (II (x - y).natAbs) := by
  unfold p82
  rw [rneg_eq n y hy hn, radd_eq n x (-y) hx (by rw [Int.natAbs_neg]; exact hy) hn, Int.sub_eq_add_neg]
def cmpZ (x y : Int) : Int := if x < y then -1 else if x = y then 0 else 1
theorem rcmpZ_eq (n : Nat) (x y : Int) (hx : ll x.natAbs ≤ 50000) (hy : ll y.natAbs ≤ 50000) (hn : 200000 ≤ n) (k0 : Int → Option R) :
    p47 n (sg x) (II x.natAbs) (sg y) (II y.natAbs) k0 = k0 (cmpZ x y) := by
  unfold p47 cmpZ
  rw [rsub_eq n x y hx hy hn, II_len, beqInt0]
  by_cases h : x = y
  · have e : (ll (x - y).natAbs == 0) = true := by simp only [beq_iff_eq, ll_eq0]; omega
    rw [e, if_neg (by omega), if_pos h]; rfl
  · have e : (ll (x - y).natAbs == 0) = false := by simp only [beq_eq_false_iff_ne, ne_eq, ll_eq0]; omega
    rw [e, cond_false]
    by_cases h2 : x < y
    · have e2 : sg (x - y) = true := by simp [sg]; omega
      rw [e2, if_pos h2]; rfl
    · have e2 : sg (x - y) = false := by simp [sg]; omega
      rw [e2, if_neg h2, if_neg h]; rfl
end Go.Proofs.YtfbahcfojiaeaaaGreatDoor


set_option linter.unusedVariables false
set_option maxRecDepth 100000
namespace Go.Proofs.YtfbahcfojiaeaaaGreatDoor
open Go Th Go.Proofs
def ann60 : Ann := { loops := [(3, [(2, .id), (3, .id), (4, .id), (5, .id), (6, .id)], [(2, .id), (3, .id), (4, .id), (5, .id)]), (6, [(2, .id), (3, .id), (4, .id), (5, .id), (6, .id), (7, .id)], [(2, .id), (3, .id), (4, .id), (5, .id), (6, .id)]), (12, [(2, .id), (3, .id), (4, .id), (5, .id), (6, .id), (7, .id), (8, .id), (9, .id)], [(2, .id), (3, .id), (4, .id), (5, .id), (6, .id), (7, .id)])], cuts := [], frz := [], rm := [.id] }
noncomputable abbrev env60 (n : Nat) : Env := fun i => bif Nat.beq i 54 then some (fs54 n) else (fun _ => none) i
theorem envok60 (n : Nat) : EnvOK Tryz.prog GI (env60 n) := EnvOK.cons (EnvOK.nil) (ok54 n)
noncomputable def p60_l12B {R : Type} (n : Nat) (l0 : Bool → List PV → Bool → List PV → Bool → List PV → Int → Int → Int → Int → Option R) (x1 : Bool) (x2 : List PV) (x3 : Bool) (x4 : List PV) (x5 : Bool) (x6 : List PV) (x7 x8 x9 x10 : Int) (k0 : Bool → List PV → Bool → List PV → Bool → List PV → Int → Int → Option R) : Option R :=
  bif (decide (x10 > 0)) then (bif (inR (IntKind.i64.wrap (x9 - 1)) ((x6).length)) then (getI .i64 ((x6).getD ((IntKind.i64.wrap (x9 - 1) : Int).toNat) (.v (.bool false))) fun e11 => bif decide (10 = 0) then none else (let v12 := Int.tmod (IntKind.i64.wrap (x10 + e11)) 10; bif (inR (IntKind.i64.wrap (x9 - 1)) ((x6).length)) then (getI .i64 ((x6).getD ((IntKind.i64.wrap (x9 - 1) : Int).toNat) (.v (.bool false))) fun e13 => bif decide (10 = 0) then none else (let v14 := IntKind.i64.wrap (Int.tdiv (IntKind.i64.wrap (x10 + e11)) 10); l0 x1 x2 x3 x4 x5 ((x6).set ((IntKind.i64.wrap (x9 - 1) : Int).toNat) (.v (.int .i64 v12))) x7 x8 (IntKind.i64.wrap (x9 - 1)) v14)) else none)) else none) else (k0 x1 x2 x3 x4 x5 x6 x7 x8)
noncomputable def p60_l12L {R : Type} (n : Nat) : Nat → Bool → List PV → Bool → List PV → Bool → List PV → Int → Int → Int → Int → (Bool → List PV → Bool → List PV → Bool → List PV → Int → Int → Option R) → Option R
  | 0, _, _, _, _, _, _, _, _, _, _, _ => none
  | m + 1, x1, x2, x3, x4, x5, x6, x7, x8, x9, x10, k0 => p60_l12B n (fun x1 x2 x3 x4 x5 x6 x7 x8 x9 x10 => p60_l12L n m x1 x2 x3 x4 x5 x6 x7 x8 x9 x10 k0) x1 x2 x3 x4 x5 x6 x7 x8 x9 x10 k0
noncomputable def p60_l12 {R : Type} (n : Nat) (x1 : Bool) (x2 : List PV) (x3 : Bool) (x4 : List PV) (x5 : Bool) (x6 : List PV) (x7 x8 x9 x10 : Int) (k0 : Bool → List PV → Bool → List PV → Bool → List PV → Int → Int → Option R) : Option R := p60_l12L n n x1 x2 x3 x4 x5 x6 x7 x8 x9 x10 k0
noncomputable def p60_l6B {R : Type} (n : Nat) (l0 : Bool → List PV → Bool → List PV → Bool → List PV → Int → Int → Option R) (x1 : Bool) (x2 : List PV) (x3 : Bool) (x4 : List PV) (x5 : Bool) (x6 : List PV) (x7 x8 : Int) (k0 : Bool → List PV → Bool → List PV → Bool → List PV → Int → Option R) : Option R :=
  bif (decide (x8 ≥ 0)) then (let v9 := IntKind.i64.wrap ((IntKind.i64.wrap (x7 + x8)) + 1); bif (inR v9 ((x6).length)) then (getI .i64 ((x6).getD ((v9 : Int).toNat) (.v (.bool false))) fun e10 => bif (inR x7 ((x2).length)) then (getI .i64 ((x2).getD ((x7 : Int).toNat) (.v (.bool false))) fun e11 => bif (inR x8 ((x4).length)) then (getI .i64 ((x4).getD ((x8 : Int).toNat) (.v (.bool false))) fun e12 => let v13 := IntKind.i64.wrap (e10 + (IntKind.i64.wrap (e11 * e12))); bif decide (10 = 0) then none else (bif (inR v9 ((x6).length)) then (getI .i64 ((x6).getD ((v9 : Int).toNat) (.v (.bool false))) fun e14 => bif decide (10 = 0) then none else (p60_l12 n x1 x2 x3 x4 x5 ((x6).set ((v9 : Int).toNat) (.v (.int .i64 (Int.tmod v13 10)))) x7 x8 v9 (IntKind.i64.wrap (Int.tdiv v13 10)) (fun y15 y16 y17 y18 y19 y20 y21 y22 => l0 y15 y16 y17 y18 y19 y20 y21 (IntKind.i64.wrap (y22 - 1))))) else none)) else none) else none) else none) else (k0 x1 x2 x3 x4 x5 x6 x7)
noncomputable def p60_l6L {R : Type} (n : Nat) : Nat → Bool → List PV → Bool → List PV → Bool → List PV → Int → Int → (Bool → List PV → Bool → List PV → Bool → List PV → Int → Option R) → Option R
  | 0, _, _, _, _, _, _, _, _, _ => none
  | m + 1, x1, x2, x3, x4, x5, x6, x7, x8, k0 => p60_l6B n (fun x1 x2 x3 x4 x5 x6 x7 x8 => p60_l6L n m x1 x2 x3 x4 x5 x6 x7 x8 k0) x1 x2 x3 x4 x5 x6 x7 x8 k0
noncomputable def p60_l6 {R : Type} (n : Nat) (x1 : Bool) (x2 : List PV) (x3 : Bool) (x4 : List PV) (x5 : Bool) (x6 : List PV) (x7 x8 : Int) (k0 : Bool → List PV → Bool → List PV → Bool → List PV → Int → Option R) : Option R := p60_l6L n n x1 x2 x3 x4 x5 x6 x7 x8 k0
noncomputable def p60_l3B {R : Type} (n : Nat) (l0 : Bool → List PV → Bool → List PV → Bool → List PV → Int → Option R) (x1 : Bool) (x2 : List PV) (x3 : Bool) (x4 : List PV) (x5 : Bool) (x6 : List PV) (x7 : Int) (k0 : Bool → List PV → Bool → List PV → Bool → List PV → Option R) : Option R :=
  bif (decide (x7 ≥ 0)) then (let v8 := IntKind.i64.wrap (((x4).length : Int) - 1); p60_l6 n x1 x2 x3 x4 x5 x6 x7 v8 (fun y9 y10 y11 y12 y13 y14 y15 => l0 y9 y10 y11 y12 y13 y14 (IntKind.i64.wrap (y15 - 1)))) else (k0 x1 x2 x3 x4 x5 x6)
noncomputable def p60_l3L {R : Type} (n : Nat) : Nat → Bool → List PV → Bool → List PV → Bool → List PV → Int → (Bool → List PV → Bool → List PV → Bool → List PV → Option R) → Option R
  | 0, _, _, _, _, _, _, _, _ => none
  | m + 1, x1, x2, x3, x4, x5, x6, x7, k0 => p60_l3B n (fun x1 x2 x3 x4 x5 x6 x7 => p60_l3L n m x1 x2 x3 x4 x5 x6 x7 k0) x1 x2 x3 x4 x5 x6 x7 k0
noncomputable def p60_l3 {R : Type} (n : Nat) (x1 : Bool) (x2 : List PV) (x3 : Bool) (x4 : List PV) (x5 : Bool) (x6 : List PV) (x7 : Int) (k0 : Bool → List PV → Bool → List PV → Bool → List PV → Option R) : Option R := p60_l3L n n x1 x2 x3 x4 x5 x6 x7 k0
noncomputable def p60 {R : Type} (n : Nat) (x1 : Bool) (x2 : List PV) (x3 : Bool) (x4 : List PV) (k0 : Bool → List PV → Option R) : Option R :=
  let v5 := IntKind.i64.wrap (((x2).length : Int) + ((x4).length : Int)); bif (decide ((0 : Int) ≤ v5) && decide ((v5 : Int) ≤ v5) && lenOK (v5 : Int).toNat 8) then (let v6 := IntKind.i64.wrap (((x2).length : Int) - 1); p60_l3 n x1 x2 x3 x4 false (List.replicate (v5 : Int).toNat (.v (.int .i64 0) : PV)) v6 (fun y7 y8 y9 y10 y11 y12 => p54 n (!(y7 == y9)) y12 (fun y13 y14 => k0 y13 y14))) else none
noncomputable abbrev E60 {R : Type} (n : Nat) (c : Code) : Fr → Kc R → Option R := evC Tryz.prog (env60 n) ann60 n (85, []) c
noncomputable def c60_l3 : Code := subC (bodyOf Tryz.f60) [1, 1, 0, 1, 0, 0]
abbrev t60_l3 : Sl (List SV) := (.c (sBx 31 (.c (sP sBool) (.c (sP sSh) .n))) (.c (sBx 31 (.c (sP sBool) (.c (sP sSh) .n))) (.c (sBx 31 (.c (sP sBool) (.c sNl .n))) (.c (sOwn 3) (.c (sP (sInt .i64)) .n)))))
noncomputable abbrev f60_l3 {R : Type} (n m : Nat) (K : Kc R) : t60_l3.T (Option R) := fun x1 x2 x3 x4 x5 x6 x7 => p60_l3L n m x1 x2 x3 x4 x5 x6 x7 (fun y1 y2 y3 y4 y5 y6 => K (.exit 0) (lk (outA ann60.loops 3) [.bx 31 [.p (.v (.bool y1)), .p (.sh y2)], .bx 31 [.p (.v (.bool y3)), .p (.sh y4)], .bx 31 [.p (.v (.bool y5)), .nl], .own 3 y6]))
noncomputable abbrev o60_l3 {R : Type} (n : Nat) (vs : List SV) (K : Kc R) : Option R := oget (t60_l3.ap vs (f60_l3 n n K)) (loopE ann60 3 (E60 n c60_l3) n vs K)
noncomputable def c60_l6 : Code := subC (bodyOf Tryz.f60) [1, 1, 0, 1, 0, 0, 1, 0, 0, 1, 0, 0]
abbrev t60_l6 : Sl (List SV) := (.c (sBx 31 (.c (sP sBool) (.c (sP sSh) .n))) (.c (sBx 31 (.c (sP sBool) (.c (sP sSh) .n))) (.c (sBx 31 (.c (sP sBool) (.c sNl .n))) (.c (sOwn 3) (.c (sP (sInt .i64)) (.c (sP (sInt .i64)) .n))))))
noncomputable abbrev f60_l6 {R : Type} (n m : Nat) (K : Kc R) : t60_l6.T (Option R) := fun x1 x2 x3 x4 x5 x6 x7 x8 => p60_l6L n m x1 x2 x3 x4 x5 x6 x7 x8 (fun y1 y2 y3 y4 y5 y6 y7 => K (.exit 2) (lk (outA ann60.loops 6) [.bx 31 [.p (.v (.bool y1)), .p (.sh y2)], .bx 31 [.p (.v (.bool y3)), .p (.sh y4)], .bx 31 [.p (.v (.bool y5)), .nl], .own 3 y6, .p (.v (.int .i64 y7))]))
noncomputable abbrev o60_l6 {R : Type} (n : Nat) (vs : List SV) (K : Kc R) : Option R := oget (t60_l6.ap vs (f60_l6 n n K)) (loopE ann60 6 (E60 n c60_l6) n vs K)
noncomputable def c60_l12 : Code := subC (bodyOf Tryz.f60) [1, 1, 0, 1, 0, 0, 1, 0, 0, 1, 0, 0, 1, 0, 0, 1, 1, 1, 1, 0, 0]
abbrev t60_l12 : Sl (List SV) := (.c (sBx 31 (.c (sP sBool) (.c (sP sSh) .n))) (.c (sBx 31 (.c (sP sBool) (.c (sP sSh) .n))) (.c (sBx 31 (.c (sP sBool) (.c sNl .n))) (.c (sOwn 3) (.c (sP (sInt .i64)) (.c (sP (sInt .i64)) (.c (sP (sInt .i64)) (.c (sP (sInt .i64)) .n))))))))
noncomputable abbrev f60_l12 {R : Type} (n m : Nat) (K : Kc R) : t60_l12.T (Option R) := fun x1 x2 x3 x4 x5 x6 x7 x8 x9 x10 => p60_l12L n m x1 x2 x3 x4 x5 x6 x7 x8 x9 x10 (fun y1 y2 y3 y4 y5 y6 y7 y8 => K (.exit 4) (lk (outA ann60.loops 12) [.bx 31 [.p (.v (.bool y1)), .p (.sh y2)], .bx 31 [.p (.v (.bool y3)), .p (.sh y4)], .bx 31 [.p (.v (.bool y5)), .nl], .own 3 y6, .p (.v (.int .i64 y7)), .p (.v (.int .i64 y8))]))
noncomputable abbrev o60_l12 {R : Type} (n : Nat) (vs : List SV) (K : Kc R) : Option R := oget (t60_l12.ap vs (f60_l12 n n K)) (loopE ann60 12 (E60 n c60_l12) n vs K)
noncomputable abbrev lo60 {R : Type} (n : Nat) : Orc R := fun i vs K => dcnd (Nat.beq i 12) (o60_l12 n vs K) (dcnd (Nat.beq i 6) (o60_l6 n vs K) (dcnd (Nat.beq i 3) (o60_l3 n vs K) (none)))
noncomputable abbrev cu60 {R : Type} (n : Nat) : Orc R := fun i vs K => none
section
variable {R : Type}
noncomputable abbrev V60 (n : Nat) (c : Code) : Fr → Kc R → Option R := evOi Tryz.prog (env60 n) ann60 (85, []) (lo60 n) (cu60 n) c
abbrev K60 (R : Type) (n : Nat) := PartOK (R := R) Tryz.prog (env60 n) ann60 n (85, []) (lo60 n) (cu60 n)
theorem pa60_l12 (n : Nat) : allP (K60 R n) (partsOf ann60 c60_l12) := by
  rw [show partsOf ann60 c60_l12 = [] from by kernel_rfl]; exact trivial
theorem sp60_l12 (n m : Nat) (x1 : Bool) (x2 : List PV) (x3 : Bool) (x4 : List PV) (x5 : Bool) (x6 : List PV) (x7 x8 x9 x10 : Int) (K : Kc R) : loopE ann60 12 (V60 n c60_l12) (m + 1) [.bx 31 [.p (.v (.bool x1)), .p (.sh x2)], .bx 31 [.p (.v (.bool x3)), .p (.sh x4)], .bx 31 [.p (.v (.bool x5)), .nl], .own 3 x6, .p (.v (.int .i64 x7)), .p (.v (.int .i64 x8)), .p (.v (.int .i64 x9)), .p (.v (.int .i64 x10))] K = p60_l12B n (fun x1 x2 x3 x4 x5 x6 x7 x8 x9 x10 => loopE ann60 12 (V60 n c60_l12) m [.bx 31 [.p (.v (.bool x1)), .p (.sh x2)], .bx 31 [.p (.v (.bool x3)), .p (.sh x4)], .bx 31 [.p (.v (.bool x5)), .nl], .own 3 x6, .p (.v (.int .i64 x7)), .p (.v (.int .i64 x8)), .p (.v (.int .i64 x9)), .p (.v (.int .i64 x10))] K) x1 x2 x3 x4 x5 x6 x7 x8 x9 x10 (fun y1 y2 y3 y4 y5 y6 y7 y8 => K (.exit 4) (lk (outA ann60.loops 12) [.bx 31 [.p (.v (.bool y1)), .p (.sh y2)], .bx 31 [.p (.v (.bool y3)), .p (.sh y4)], .bx 31 [.p (.v (.bool y5)), .nl], .own 3 y6, .p (.v (.int .i64 y7)), .p (.v (.int .i64 y8))])) := by kernel_rfl
theorem ep60_l12 (n : Nat) (K : Kc R) : ∀ (m : Nat) (x1 : Bool) (x2 : List PV) (x3 : Bool) (x4 : List PV) (x5 : Bool) (x6 : List PV) (x7 x8 x9 x10 : Int), loopE ann60 12 (V60 n c60_l12) m [.bx 31 [.p (.v (.bool x1)), .p (.sh x2)], .bx 31 [.p (.v (.bool x3)), .p (.sh x4)], .bx 31 [.p (.v (.bool x5)), .nl], .own 3 x6, .p (.v (.int .i64 x7)), .p (.v (.int .i64 x8)), .p (.v (.int .i64 x9)), .p (.v (.int .i64 x10))] K = f60_l12 n m K x1 x2 x3 x4 x5 x6 x7 x8 x9 x10
  | 0, _, _, _, _, _, _, _, _, _, _ => rfl
  | m + 1, x1, x2, x3, x4, x5, x6, x7, x8, x9, x10 => (sp60_l12 n m x1 x2 x3 x4 x5 x6 x7 x8 x9 x10 K).trans (congrArg (fun l0 => p60_l12B n l0 x1 x2 x3 x4 x5 x6 x7 x8 x9 x10 (fun y1 y2 y3 y4 y5 y6 y7 y8 => K (.exit 4) (lk (outA ann60.loops 12) [.bx 31 [.p (.v (.bool y1)), .p (.sh y2)], .bx 31 [.p (.v (.bool y3)), .p (.sh y4)], .bx 31 [.p (.v (.bool y5)), .nl], .own 3 y6, .p (.v (.int .i64 y7)), .p (.v (.int .i64 y8))]))) (funext fun z0 => funext fun z1 => funext fun z2 => funext fun z3 => funext fun z4 => funext fun z5 => funext fun z6 => funext fun z7 => funext fun z8 => funext fun z9 => ep60_l12 n K m z0 z1 z2 z3 z4 z5 z6 z7 z8 z9))
theorem q60_l12 (n : Nat) : K60 R n (false, 12, c60_l12) := part_loop (pa60_l12 n) t60_l12 (f60_l12 n n) (fun K x1 x2 x3 x4 x5 x6 x7 x8 x9 x10 => ep60_l12 n K n x1 x2 x3 x4 x5 x6 x7 x8 x9 x10) fun _ _ => rfl
theorem pa60_l6 (n : Nat) : allP (K60 R n) (partsOf ann60 c60_l6) := by
  rw [show partsOf ann60 c60_l6 = [(false, 12, c60_l12)] from by kernel_rfl]; exact ⟨q60_l12 n, trivial⟩
theorem sp60_l6 (n m : Nat) (x1 : Bool) (x2 : List PV) (x3 : Bool) (x4 : List PV) (x5 : Bool) (x6 : List PV) (x7 x8 : Int) (K : Kc R) : loopE ann60 6 (V60 n c60_l6) (m + 1) [.bx 31 [.p (.v (.bool x1)), .p (.sh x2)], .bx 31 [.p (.v (.bool x3)), .p (.sh x4)], .bx 31 [.p (.v (.bool x5)), .nl], .own 3 x6, .p (.v (.int .i64 x7)), .p (.v (.int .i64 x8))] K = p60_l6B n (fun x1 x2 x3 x4 x5 x6 x7 x8 => loopE ann60 6 (V60 n c60_l6) m [.bx 31 [.p (.v (.bool x1)), .p (.sh x2)], .bx 31 [.p (.v (.bool x3)), .p (.sh x4)], .bx 31 [.p (.v (.bool x5)), .nl], .own 3 x6, .p (.v (.int .i64 x7)), .p (.v (.int .i64 x8))] K) x1 x2 x3 x4 x5 x6 x7 x8 (fun y1 y2 y3 y4 y5 y6 y7 => K (.exit 2) (lk (outA ann60.loops 6) [.bx 31 [.p (.v (.bool y1)), .p (.sh y2)], .bx 31 [.p (.v (.bool y3)), .p (.sh y4)], .bx 31 [.p (.v (.bool y5)), .nl], .own 3 y6, .p (.v (.int .i64 y7))])) := by kernel_rfl
theorem ep60_l6 (n : Nat) (K : Kc R) : ∀ (m : Nat) (x1 : Bool) (x2 : List PV) (x3 : Bool) (x4 : List PV) (x5 : Bool) (x6 : List PV) (x7 x8 : Int), loopE ann60 6 (V60 n c60_l6) m [.bx 31 [.p (.v (.bool x1)), .p (.sh x2)], .bx 31 [.p (.v (.bool x3)), .p (.sh x4)], .bx 31 [.p (.v (.bool x5)), .nl], .own 3 x6, .p (.v (.int .i64 x7)), .p (.v (.int .i64 x8))] K = f60_l6 n m K x1 x2 x3 x4 x5 x6 x7 x8
  | 0, _, _, _, _, _, _, _, _ => rfl
  | m + 1, x1, x2, x3, x4, x5, x6, x7, x8 => (sp60_l6 n m x1 x2 x3 x4 x5 x6 x7 x8 K).trans (congrArg (fun l0 => p60_l6B n l0 x1 x2 x3 x4 x5 x6 x7 x8 (fun y1 y2 y3 y4 y5 y6 y7 => K (.exit 2) (lk (outA ann60.loops 6) [.bx 31 [.p (.v (.bool y1)), .p (.sh y2)], .bx 31 [.p (.v (.bool y3)), .p (.sh y4)], .bx 31 [.p (.v (.bool y5)), .nl], .own 3 y6, .p (.v (.int .i64 y7))]))) (funext fun z0 => funext fun z1 => funext fun z2 => funext fun z3 => funext fun z4 => funext fun z5 => funext fun z6 => funext fun z7 => ep60_l6 n K m z0 z1 z2 z3 z4 z5 z6 z7))
theorem q60_l6 (n : Nat) : K60 R n (false, 6, c60_l6) := part_loop (pa60_l6 n) t60_l6 (f60_l6 n n) (fun K x1 x2 x3 x4 x5 x6 x7 x8 => ep60_l6 n K n x1 x2 x3 x4 x5 x6 x7 x8) fun _ _ => rfl
theorem pa60_l3 (n : Nat) : allP (K60 R n) (partsOf ann60 c60_l3) := by
  rw [show partsOf ann60 c60_l3 = [(false, 6, c60_l6)] from by kernel_rfl]; exact ⟨q60_l6 n, trivial⟩
theorem sp60_l3 (n m : Nat) (x1 : Bool) (x2 : List PV) (x3 : Bool) (x4 : List PV) (x5 : Bool) (x6 : List PV) (x7 : Int) (K : Kc R) : loopE ann60 3 (V60 n c60_l3) (m + 1) [.bx 31 [.p (.v (.bool x1)), .p (.sh x2)], .bx 31 [.p (.v (.bool x3)), .p (.sh x4)], .bx 31 [.p (.v (.bool x5)), .nl], .own 3 x6, .p (.v (.int .i64 x7))] K = p60_l3B n (fun x1 x2 x3 x4 x5 x6 x7 => loopE ann60 3 (V60 n c60_l3) m [.bx 31 [.p (.v (.bool x1)), .p (.sh x2)], .bx 31 [.p (.v (.bool x3)), .p (.sh x4)], .bx 31 [.p (.v (.bool x5)), .nl], .own 3 x6, .p (.v (.int .i64 x7))] K) x1 x2 x3 x4 x5 x6 x7 (fun y1 y2 y3 y4 y5 y6 => K (.exit 0) (lk (outA ann60.loops 3) [.bx 31 [.p (.v (.bool y1)), .p (.sh y2)], .bx 31 [.p (.v (.bool y3)), .p (.sh y4)], .bx 31 [.p (.v (.bool y5)), .nl], .own 3 y6])) := by kernel_rfl
theorem ep60_l3 (n : Nat) (K : Kc R) : ∀ (m : Nat) (x1 : Bool) (x2 : List PV) (x3 : Bool) (x4 : List PV) (x5 : Bool) (x6 : List PV) (x7 : Int), loopE ann60 3 (V60 n c60_l3) m [.bx 31 [.p (.v (.bool x1)), .p (.sh x2)], .bx 31 [.p (.v (.bool x3)), .p (.sh x4)], .bx 31 [.p (.v (.bool x5)), .nl], .own 3 x6, .p (.v (.int .i64 x7))] K = f60_l3 n m K x1 x2 x3 x4 x5 x6 x7
  | 0, _, _, _, _, _, _, _ => rfl
  | m + 1, x1, x2, x3, x4, x5, x6, x7 => (sp60_l3 n m x1 x2 x3 x4 x5 x6 x7 K).trans (congrArg (fun l0 => p60_l3B n l0 x1 x2 x3 x4 x5 x6 x7 (fun y1 y2 y3 y4 y5 y6 => K (.exit 0) (lk (outA ann60.loops 3) [.bx 31 [.p (.v (.bool y1)), .p (.sh y2)], .bx 31 [.p (.v (.bool y3)), .p (.sh y4)], .bx 31 [.p (.v (.bool y5)), .nl], .own 3 y6]))) (funext fun z0 => funext fun z1 => funext fun z2 => funext fun z3 => funext fun z4 => funext fun z5 => funext fun z6 => ep60_l3 n K m z0 z1 z2 z3 z4 z5 z6))
theorem q60_l3 (n : Nat) : K60 R n (false, 3, c60_l3) := part_loop (pa60_l3 n) t60_l3 (f60_l3 n n) (fun K x1 x2 x3 x4 x5 x6 x7 => ep60_l3 n K n x1 x2 x3 x4 x5 x6 x7) fun _ _ => rfl
theorem pa60 (n : Nat) : allP (K60 R n) (partsOf ann60 (bodyOf Tryz.f60)) := by
  rw [show partsOf ann60 (bodyOf Tryz.f60) = [(false, 3, c60_l3)] from by kernel_rfl]; exact ⟨q60_l3 n, trivial⟩
end
abbrev t60 : Sl (List SV) := (.c (sP (sAgg (.c sBool (.c sSh .n)))) (.c (sP (sAgg (.c sBool (.c sSh .n)))) .n))
noncomputable abbrev f60 (n : Nat) {R : Type} (K : List SV → Option R) : t60.T (Option R) := fun x1 x2 x3 x4 => p60 n x1 x2 x3 x4 (fun y1 y2 => K [.p (.agg [.v (.bool y1), .sh y2])])
theorem ep60 {R : Type} (n : Nat) (K : List SV → Option R) (x1 : Bool) (x2 : List PV) (x3 : Bool) (x4 : List PV) : evFn Tryz.prog (env60 n) ann60 n Tryz.f60 [.p (.agg [.v (.bool x1), .sh x2]), .p (.agg [.v (.bool x3), .sh x4])] K = f60 n K x1 x2 x3 x4 := by
  rw [evFn_evOi (c := bodyOf Tryz.f60) (by kernel_rfl) (pa60 n)]; kernel_rfl
noncomputable abbrev fs60 (n : Nat) : FS := { om := [false, false], run := fun args K => oget (t60.ap args (f60 n K)) none }
theorem ok60 (n : Nat) : FSound Tryz.prog GI 60 (fs60 n) :=
  FSound.good (envok60 n) (ann := ann60) (n := n) Tryz.func60
    (.cons (envok60 n) t60 (f60 n) (fun K x1 x2 x3 x4 => ep60 n K x1 x2 x3 x4) .nil)
    (by kernel_rfl) (by kernel_rfl) (by kernel_rfl)
end Go.Proofs.YtfbahcfojiaeaaaGreatDoor


set_option linter.unusedVariables false
set_option maxRecDepth 100000
namespace Go.Proofs.YtfbahcfojiaeaaaGreatDoor
open Go Th Go.Proofs
def ann85 : Ann := { loops := [(3, [(0, .id), (2, .id), (3, .id), (4, .own 3)], [(2, .id), (3, .id), (4, .id)])], cuts := [(7, [(0, .id), (2, .id), (3, .id), (4, .id), (5, .id)], [(0, .id), (2, .id), (3, .id), (4, .id)])], frz := [], rm := [.id] }
noncomputable abbrev env85 (n : Nat) : Env := fun i => bif Nat.beq i 54 then some (fs54 n) else (fun _ => none) i
theorem envok85 (n : Nat) : EnvOK Tryz.prog GI (env85 n) := EnvOK.cons (EnvOK.nil) (ok54 n)
noncomputable def p85_c7 {R : Type} (n : Nat) (x1 : Int) (x2 x3 : Bool) (x4 : List PV) (x5 : Int) (k0 : Int → Bool → Bool → List PV → Option R) : Option R :=
  bif (lenOK (1 + (x4).length) 8) then (bif decide (10 = 0) then none else (k0 (IntKind.i64.wrap (Int.tdiv x1 10)) x2 x3 (([.v (.int .i64 x5)] : List PV) ++ x4))) else none
noncomputable def p85_l3B {R : Type} (n : Nat) (l0 : Int → Bool → Bool → List PV → Option R) (x1 : Int) (x2 x3 : Bool) (x4 : List PV) (k0 : Bool → Bool → List PV → Option R) : Option R :=
  bif (x1 != 0) then (bif decide (10 = 0) then none else (bif (decide (Int.tmod x1 10 < 0)) then (let v5 := IntKind.i64.wrap (0 - (Int.tmod x1 10)); p85_c7 n x1 x2 x3 x4 v5 (fun y6 y7 y8 y9 => l0 y6 y7 y8 y9)) else (p85_c7 n x1 x2 x3 x4 (Int.tmod x1 10) (fun y10 y11 y12 y13 => l0 y10 y11 y12 y13)))) else (k0 x2 x3 x4)
noncomputable def p85_l3L {R : Type} (n : Nat) : Nat → Int → Bool → Bool → List PV → (Bool → Bool → List PV → Option R) → Option R
  | 0, _, _, _, _, _ => none
  | m + 1, x1, x2, x3, x4, k0 => p85_l3B n (fun x1 x2 x3 x4 => p85_l3L n m x1 x2 x3 x4 k0) x1 x2 x3 x4 k0
noncomputable def p85_l3 {R : Type} (n : Nat) (x1 : Int) (x2 x3 : Bool) (x4 : List PV) (k0 : Bool → Bool → List PV → Option R) : Option R := p85_l3L n n x1 x2 x3 x4 k0
noncomputable def p85 {R : Type} (n : Nat) (x1 : Int) (k0 : Bool → List PV → Option R) : Option R :=
  p85_l3 n x1 false (decide (x1 < 0)) [] (fun y2 y3 y4 => p54 n y3 y4 (fun y5 y6 => k0 y5 y6))
noncomputable abbrev E85 {R : Type} (n : Nat) (c : Code) : Fr → Kc R → Option R := evC Tryz.prog (env85 n) ann85 n (25, []) c
noncomputable def c85_c7 : Code := subC (bodyOf Tryz.f85) [1, 1, 1, 0, 0, 0, 1, 0, 1, 1]
abbrev t85_c7 : Sl (List SV) := (.c (sP (sInt .i64)) (.c (sBx 31 (.c (sP sBool) (.c sNl .n))) (.c (sP sBool) (.c (sOwn 3) (.c (sP (sInt .i64)) .n)))))
noncomputable abbrev f85_c7 {R : Type} (n : Nat) (K : Kc R) : t85_c7.T (Option R) := fun x1 x2 x3 x4 x5 => p85_c7 n x1 x2 x3 x4 x5 (fun y1 y2 y3 y4 => K .normal (lk (outA ann85.cuts 7) [.p (.v (.int .i64 y1)), .bx 31 [.p (.v (.bool y2)), .nl], .p (.v (.bool y3)), .own 3 y4]))
noncomputable abbrev o85_c7 {R : Type} (n : Nat) (vs : List SV) (K : Kc R) : Option R := oget (t85_c7.ap vs (f85_c7 n K)) (cutE ann85 7 (E85 n c85_c7) vs K)
noncomputable def c85_l3 : Code := subC (bodyOf Tryz.f85) [1, 1, 1, 0, 0, 0]
abbrev t85_l3 : Sl (List SV) := (.c (sP (sInt .i64)) (.c (sBx 31 (.c (sP sBool) (.c sNl .n))) (.c (sP sBool) (.c (sOwn 3) .n))))
noncomputable abbrev f85_l3 {R : Type} (n m : Nat) (K : Kc R) : t85_l3.T (Option R) := fun x1 x2 x3 x4 => p85_l3L n m x1 x2 x3 x4 (fun y1 y2 y3 => K (.exit 0) (lk (outA ann85.loops 3) [.bx 31 [.p (.v (.bool y1)), .nl], .p (.v (.bool y2)), .own 3 y3]))
noncomputable abbrev o85_l3 {R : Type} (n : Nat) (vs : List SV) (K : Kc R) : Option R := oget (t85_l3.ap vs (f85_l3 n n K)) (loopE ann85 3 (E85 n c85_l3) n vs K)
noncomputable abbrev lo85 {R : Type} (n : Nat) : Orc R := fun i vs K => dcnd (Nat.beq i 3) (o85_l3 n vs K) (none)
noncomputable abbrev cu85 {R : Type} (n : Nat) : Orc R := fun i vs K => dcnd (Nat.beq i 7) (o85_c7 n vs K) (none)
section
variable {R : Type}
noncomputable abbrev V85 (n : Nat) (c : Code) : Fr → Kc R → Option R := evOi Tryz.prog (env85 n) ann85 (25, []) (lo85 n) (cu85 n) c
abbrev K85 (R : Type) (n : Nat) := PartOK (R := R) Tryz.prog (env85 n) ann85 n (25, []) (lo85 n) (cu85 n)
theorem pa85_c7 (n : Nat) : allP (K85 R n) (partsOf ann85 c85_c7) := by
  rw [show partsOf ann85 c85_c7 = [] from by kernel_rfl]; exact trivial
theorem q85_c7 (n : Nat) : K85 R n (true, 7, c85_c7) := part_cut (pa85_c7 n) t85_c7 (f85_c7 n) (fun K x1 x2 x3 x4 x5 => by show cutE _ _ _ _ _ = _; kernel_rfl) fun _ _ => rfl
theorem pa85_l3 (n : Nat) : allP (K85 R n) (partsOf ann85 c85_l3) := by
  rw [show partsOf ann85 c85_l3 = [(true, 7, c85_c7)] from by kernel_rfl]; exact ⟨q85_c7 n, trivial⟩
theorem sp85_l3 (n m : Nat) (x1 : Int) (x2 x3 : Bool) (x4 : List PV) (K : Kc R) : loopE ann85 3 (V85 n c85_l3) (m + 1) [.p (.v (.int .i64 x1)), .bx 31 [.p (.v (.bool x2)), .nl], .p (.v (.bool x3)), .own 3 x4] K = p85_l3B n (fun x1 x2 x3 x4 => loopE ann85 3 (V85 n c85_l3) m [.p (.v (.int .i64 x1)), .bx 31 [.p (.v (.bool x2)), .nl], .p (.v (.bool x3)), .own 3 x4] K) x1 x2 x3 x4 (fun y1 y2 y3 => K (.exit 0) (lk (outA ann85.loops 3) [.bx 31 [.p (.v (.bool y1)), .nl], .p (.v (.bool y2)), .own 3 y3])) := by kernel_rfl
theorem ep85_l3 (n : Nat) (K : Kc R) : ∀ (m : Nat) (x1 : Int) (x2 x3 : Bool) (x4 : List PV), loopE ann85 3 (V85 n c85_l3) m [.p (.v (.int .i64 x1)), .bx 31 [.p (.v (.bool x2)), .nl], .p (.v (.bool x3)), .own 3 x4] K = f85_l3 n m K x1 x2 x3 x4
  | 0, _, _, _, _ => rfl
  | m + 1, x1, x2, x3, x4 => (sp85_l3 n m x1 x2 x3 x4 K).trans (congrArg (fun l0 => p85_l3B n l0 x1 x2 x3 x4 (fun y1 y2 y3 => K (.exit 0) (lk (outA ann85.loops 3) [.bx 31 [.p (.v (.bool y1)), .nl], .p (.v (.bool y2)), .own 3 y3]))) (funext fun z0 => funext fun z1 => funext fun z2 => funext fun z3 => ep85_l3 n K m z0 z1 z2 z3))
theorem q85_l3 (n : Nat) : K85 R n (false, 3, c85_l3) := part_loop (pa85_l3 n) t85_l3 (f85_l3 n n) (fun K x1 x2 x3 x4 => ep85_l3 n K n x1 x2 x3 x4) fun _ _ => rfl
theorem pa85 (n : Nat) : allP (K85 R n) (partsOf ann85 (bodyOf Tryz.f85)) := by
  rw [show partsOf ann85 (bodyOf Tryz.f85) = [(false, 3, c85_l3)] from by kernel_rfl]; exact ⟨q85_l3 n, trivial⟩
end
abbrev t85 : Sl (List SV) := (.c (sP (sInt .i64)) .n)
noncomputable abbrev f85 (n : Nat) {R : Type} (K : List SV → Option R) : t85.T (Option R) := fun x1 => p85 n x1 (fun y1 y2 => K [.p (.agg [.v (.bool y1), .sh y2])])
theorem ep85 {R : Type} (n : Nat) (K : List SV → Option R) (x1 : Int) : evFn Tryz.prog (env85 n) ann85 n Tryz.f85 [.p (.v (.int .i64 x1))] K = f85 n K x1 := by
  rw [evFn_evOi (c := bodyOf Tryz.f85) (by kernel_rfl) (pa85 n)]; kernel_rfl
noncomputable abbrev fs85 (n : Nat) : FS := { om := [false], run := fun args K => oget (t85.ap args (f85 n K)) none }
theorem ok85 (n : Nat) : FSound Tryz.prog GI 85 (fs85 n) :=
  FSound.good (envok85 n) (ann := ann85) (n := n) Tryz.func85
    (.cons (envok85 n) t85 (f85 n) (fun K x1 => ep85 n K x1) .nil)
    (by kernel_rfl) (by kernel_rfl) (by kernel_rfl)
end Go.Proofs.YtfbahcfojiaeaaaGreatDoor


set_option linter.unusedVariables false
set_option maxRecDepth 100000
namespace Go.Proofs.YtfbahcfojiaeaaaGreatDoor
open Go Th Go.Proofs
def ann53 : Ann := { loops := [(4, [(2, .id), (3, .id), (4, .id), (5, .id), (6, .id), (7, .own 3), (8, .id)], [(2, .id), (3, .id), (4, .id), (5, .id), (6, .id), (7, .id)]), (10, [(2, .id), (3, .id), (4, .id), (5, .id), (6, .id), (7, .id), (8, .id), (10, .id)], [(2, .id), (3, .id), (4, .id), (5, .id), (6, .id), (7, .id), (8, .id), (10, .id)])], cuts := [(17, [(2, .id), (3, .id), (4, .id), (5, .id), (11, .id)], [(4, .id), (5, .id)])], frz := [], rm := [.id, .id] }
noncomputable abbrev env53 (n : Nat) : Env := fun i => bif Nat.beq i 85 then some (fs85 n) else (fun i => bif Nat.beq i 84 then some (fs84 n) else (fun i => bif Nat.beq i 83 then some (fs83 n) else (fun i => bif Nat.beq i 82 then some (fs82 n) else (fun i => bif Nat.beq i 60 then some (fs60 n) else (fun i => bif Nat.beq i 54 then some (fs54 n) else (fun _ => none) i) i) i) i) i) i
theorem envok53 (n : Nat) : EnvOK Tryz.prog GI (env53 n) := EnvOK.cons (EnvOK.cons (EnvOK.cons (EnvOK.cons (EnvOK.cons (EnvOK.cons (EnvOK.nil) (ok54 n)) (ok60 n)) (ok82 n)) (ok83 n)) (ok84 n)) (ok85 n)
noncomputable def p53_l10B {R : Type} (n : Nat) (l0 : Bool → List PV → Bool → List PV → Bool → Bool → Bool → List PV → List PV → Int → Int → Option R) (x1 : Bool) (x2 : List PV) (x3 : Bool) (x4 : List PV) (x5 x6 x7 : Bool) (x8 x9 : List PV) (x10 x11 : Int) (k0 : Bool → List PV → Bool → List PV → Bool → Bool → Bool → List PV → List PV → Int → Int → Option R) : Option R :=
  p83 n x8 x4 (fun y12 => bif (decide (y12 ≥ 0)) then (p84 n x8 x4 (-1) (fun y13 => p54 n false y13 (fun y14 y15 => l0 x1 x2 x3 x4 x5 x6 y14 y15 x9 x10 (IntKind.i64.wrap (x11 + 1))))) else (k0 x1 x2 x3 x4 x5 x6 x7 x8 x9 x10 x11))
noncomputable def p53_l10L {R : Type} (n : Nat) : Nat → Bool → List PV → Bool → List PV → Bool → Bool → Bool → List PV → List PV → Int → Int → (Bool → List PV → Bool → List PV → Bool → Bool → Bool → List PV → List PV → Int → Int → Option R) → Option R
  | 0, _, _, _, _, _, _, _, _, _, _, _, _ => none
  | m + 1, x1, x2, x3, x4, x5, x6, x7, x8, x9, x10, x11, k0 => p53_l10B n (fun x1 x2 x3 x4 x5 x6 x7 x8 x9 x10 x11 => p53_l10L n m x1 x2 x3 x4 x5 x6 x7 x8 x9 x10 x11 k0) x1 x2 x3 x4 x5 x6 x7 x8 x9 x10 x11 k0
noncomputable def p53_l10 {R : Type} (n : Nat) (x1 : Bool) (x2 : List PV) (x3 : Bool) (x4 : List PV) (x5 x6 x7 : Bool) (x8 x9 : List PV) (x10 x11 : Int) (k0 : Bool → List PV → Bool → List PV → Bool → Bool → Bool → List PV → List PV → Int → Int → Option R) : Option R := p53_l10L n n x1 x2 x3 x4 x5 x6 x7 x8 x9 x10 x11 k0
noncomputable def p53_l4B {R : Type} (n : Nat) (l0 : Bool → List PV → Bool → List PV → Bool → Bool → Bool → List PV → List PV → Int → Option R) (x1 : Bool) (x2 : List PV) (x3 : Bool) (x4 : List PV) (x5 x6 x7 : Bool) (x8 x9 : List PV) (x10 : Int) (k0 : Bool → List PV → Bool → List PV → Bool → Bool → Bool → List PV → List PV → Option R) : Option R :=
  bif (decide (x10 < ((x2).length : Int))) then (bif (hdSz 1 x8 && lenOK ((x8).length) 8) then (bif (inR x10 ((x2).length)) then (getI .i64 ((x2).getD ((x10 : Int).toNat) (.v (.bool false))) fun e11 => bif (lenOK ((x8).length + 1) 8) then (p54 n false (x8 ++ ([.v (.int .i64 e11)] : List PV)) (fun y12 y13 => p53_l10 n x1 x2 x3 x4 x5 x6 y12 y13 x9 x10 0 (fun y14 y15 y16 y17 y18 y19 y20 y21 y22 y23 y24 => bif (lenOK ((y22).length + 1) 8) then (l0 y14 y15 y16 y17 y18 y19 y20 y21 (y22 ++ ([.v (.int .i64 y24)] : List PV)) (IntKind.i64.wrap (y23 + 1))) else none))) else none) else none) else none) else (k0 x1 x2 x3 x4 x5 x6 x7 x8 x9)
noncomputable def p53_l4L {R : Type} (n : Nat) : Nat → Bool → List PV → Bool → List PV → Bool → Bool → Bool → List PV → List PV → Int → (Bool → List PV → Bool → List PV → Bool → Bool → Bool → List PV → List PV → Option R) → Option R
  | 0, _, _, _, _, _, _, _, _, _, _, _ => none
  | m + 1, x1, x2, x3, x4, x5, x6, x7, x8, x9, x10, k0 => p53_l4B n (fun x1 x2 x3 x4 x5 x6 x7 x8 x9 x10 => p53_l4L n m x1 x2 x3 x4 x5 x6 x7 x8 x9 x10 k0) x1 x2 x3 x4 x5 x6 x7 x8 x9 x10 k0
noncomputable def p53_l4 {R : Type} (n : Nat) (x1 : Bool) (x2 : List PV) (x3 : Bool) (x4 : List PV) (x5 x6 x7 : Bool) (x8 x9 : List PV) (x10 : Int) (k0 : Bool → List PV → Bool → List PV → Bool → Bool → Bool → List PV → List PV → Option R) : Option R := p53_l4L n n x1 x2 x3 x4 x5 x6 x7 x8 x9 x10 k0
noncomputable def p53_c17 {R : Type} (n : Nat) (x1 : Bool) (x2 : List PV) (x3 : Bool) (x4 : List PV) (x5 x6 x7 : Bool) (x8 : List PV) (k0 : Bool → List PV → Bool → List PV → Option R) : Option R :=
  p60 n x7 x8 x3 x4 (fun y9 y10 => p82 n x1 x2 y9 y10 (fun y11 y12 => k0 x7 x8 y11 y12))
noncomputable def p53 {R : Type} (n : Nat) (x1 : Bool) (x2 : List PV) (x3 : Bool) (x4 : List PV) (k0 : Bool → List PV → Bool → List PV → Option R) : Option R :=
  p53_l4 n x1 x2 x3 x4 false false false [] [] 0 (fun y5 y6 y7 y8 y9 y10 y11 y12 y13 => p54 n (!(y5 == y7)) y13 (fun y14 y15 => bif (decide (((y12).length : Int) > 0)) then (bif true then (bif true then (bif true then (bif true then (bif (bif true then (!(y5 == y7)) else false) then (p85 n 1 (fun y16 y17 => p82 n y14 y15 y16 y17 (fun y18 y19 => p53_c17 n y5 y6 y7 y8 y9 y10 y18 y19 (fun y20 y21 y22 y23 => k0 y20 y21 y22 y23)))) else (p53_c17 n y5 y6 y7 y8 y9 y10 y14 y15 (fun y24 y25 y26 y27 => k0 y24 y25 y26 y27))) else none) else none) else none) else none) else (bif false then none else (bif false then none else (bif false then none else (bif false then none else (bif false then none else (bif false then none else (p53_c17 n y5 y6 y7 y8 y9 y10 y14 y15 (fun y28 y29 y30 y31 => k0 y28 y29 y30 y31))))))))))
noncomputable abbrev E53 {R : Type} (n : Nat) (c : Code) : Fr → Kc R → Option R := evC Tryz.prog (env53 n) ann53 n (78, []) c
noncomputable def c53_c17 : Code := subC (bodyOf Tryz.f53) [1, 1, 1, 1, 1, 1]
abbrev t53_c17 : Sl (List SV) := (.c (sBx 31 (.c (sP sBool) (.c (sP sSh) .n))) (.c (sBx 31 (.c (sP sBool) (.c (sP sSh) .n))) (.c (sBx 31 (.c (sP sBool) (.c sNl .n))) (.c (sBx 31 (.c (sP sBool) (.c sNl .n))) (.c (sBx 31 (.c (sP sBool) (.c (sP sSh) .n))) .n)))))
noncomputable abbrev f53_c17 {R : Type} (n : Nat) (K : Kc R) : t53_c17.T (Option R) := fun x1 x2 x3 x4 x5 x6 x7 x8 => p53_c17 n x1 x2 x3 x4 x5 x6 x7 x8 (fun y1 y2 y3 y4 => K .ret (lk (outA ann53.cuts 17) [.bx 31 [.p (.v (.bool y1)), .p (.sh y2)], .bx 31 [.p (.v (.bool y3)), .p (.sh y4)]]))
noncomputable abbrev o53_c17 {R : Type} (n : Nat) (vs : List SV) (K : Kc R) : Option R := oget (t53_c17.ap vs (f53_c17 n K)) (cutE ann53 17 (E53 n c53_c17) vs K)
noncomputable def c53_l4 : Code := subC (bodyOf Tryz.f53) [1, 1, 1, 0, 1, 0, 0]
abbrev t53_l4 : Sl (List SV) := (.c (sBx 31 (.c (sP sBool) (.c (sP sSh) .n))) (.c (sBx 31 (.c (sP sBool) (.c (sP sSh) .n))) (.c (sBx 31 (.c (sP sBool) (.c sNl .n))) (.c (sBx 31 (.c (sP sBool) (.c sNl .n))) (.c (sBx 31 (.c (sP sBool) (.c (sP sSh) .n))) (.c (sOwn 3) (.c (sP (sInt .i64)) .n)))))))
noncomputable abbrev f53_l4 {R : Type} (n m : Nat) (K : Kc R) : t53_l4.T (Option R) := fun x1 x2 x3 x4 x5 x6 x7 x8 x9 x10 => p53_l4L n m x1 x2 x3 x4 x5 x6 x7 x8 x9 x10 (fun y1 y2 y3 y4 y5 y6 y7 y8 y9 => K (.exit 0) (lk (outA ann53.loops 4) [.bx 31 [.p (.v (.bool y1)), .p (.sh y2)], .bx 31 [.p (.v (.bool y3)), .p (.sh y4)], .bx 31 [.p (.v (.bool y5)), .nl], .bx 31 [.p (.v (.bool y6)), .nl], .bx 31 [.p (.v (.bool y7)), .p (.sh y8)], .own 3 y9]))
noncomputable abbrev o53_l4 {R : Type} (n : Nat) (vs : List SV) (K : Kc R) : Option R := oget (t53_l4.ap vs (f53_l4 n n K)) (loopE ann53 4 (E53 n c53_l4) n vs K)
noncomputable def c53_l10 : Code := subC (bodyOf Tryz.f53) [1, 1, 1, 0, 1, 0, 0, 1, 0, 0, 1, 1, 1, 1, 0, 0, 0]
abbrev t53_l10 : Sl (List SV) := (.c (sBx 31 (.c (sP sBool) (.c (sP sSh) .n))) (.c (sBx 31 (.c (sP sBool) (.c (sP sSh) .n))) (.c (sBx 31 (.c (sP sBool) (.c sNl .n))) (.c (sBx 31 (.c (sP sBool) (.c sNl .n))) (.c (sBx 31 (.c (sP sBool) (.c (sP sSh) .n))) (.c (sOwn 3) (.c (sP (sInt .i64)) (.c (sP (sInt .i64)) .n))))))))
noncomputable abbrev f53_l10 {R : Type} (n m : Nat) (K : Kc R) : t53_l10.T (Option R) := fun x1 x2 x3 x4 x5 x6 x7 x8 x9 x10 x11 => p53_l10L n m x1 x2 x3 x4 x5 x6 x7 x8 x9 x10 x11 (fun y1 y2 y3 y4 y5 y6 y7 y8 y9 y10 y11 => K (.exit 2) (lk (outA ann53.loops 10) [.bx 31 [.p (.v (.bool y1)), .p (.sh y2)], .bx 31 [.p (.v (.bool y3)), .p (.sh y4)], .bx 31 [.p (.v (.bool y5)), .nl], .bx 31 [.p (.v (.bool y6)), .nl], .bx 31 [.p (.v (.bool y7)), .p (.sh y8)], .own 3 y9, .p (.v (.int .i64 y10)), .p (.v (.int .i64 y11))]))
noncomputable abbrev o53_l10 {R : Type} (n : Nat) (vs : List SV) (K : Kc R) : Option R := oget (t53_l10.ap vs (f53_l10 n n K)) (loopE ann53 10 (E53 n c53_l10) n vs K)
noncomputable abbrev lo53 {R : Type} (n : Nat) : Orc R := fun i vs K => dcnd (Nat.beq i 10) (o53_l10 n vs K) (dcnd (Nat.beq i 4) (o53_l4 n vs K) (none))
noncomputable abbrev cu53 {R : Type} (n : Nat) : Orc R := fun i vs K => dcnd (Nat.beq i 17) (o53_c17 n vs K) (none)
section
variable {R : Type}
noncomputable abbrev V53 (n : Nat) (c : Code) : Fr → Kc R → Option R := evOi Tryz.prog (env53 n) ann53 (78, []) (lo53 n) (cu53 n) c
abbrev K53 (R : Type) (n : Nat) := PartOK (R := R) Tryz.prog (env53 n) ann53 n (78, []) (lo53 n) (cu53 n)
theorem pa53_l10 (n : Nat) : allP (K53 R n) (partsOf ann53 c53_l10) := by
  rw [show partsOf ann53 c53_l10 = [] from by kernel_rfl]; exact trivial
theorem sp53_l10 (n m : Nat) (x1 : Bool) (x2 : List PV) (x3 : Bool) (x4 : List PV) (x5 x6 x7 : Bool) (x8 x9 : List PV) (x10 x11 : Int) (K : Kc R) : loopE ann53 10 (V53 n c53_l10) (m + 1) [.bx 31 [.p (.v (.bool x1)), .p (.sh x2)], .bx 31 [.p (.v (.bool x3)), .p (.sh x4)], .bx 31 [.p (.v (.bool x5)), .nl], .bx 31 [.p (.v (.bool x6)), .nl], .bx 31 [.p (.v (.bool x7)), .p (.sh x8)], .own 3 x9, .p (.v (.int .i64 x10)), .p (.v (.int .i64 x11))] K = p53_l10B n (fun x1 x2 x3 x4 x5 x6 x7 x8 x9 x10 x11 => loopE ann53 10 (V53 n c53_l10) m [.bx 31 [.p (.v (.bool x1)), .p (.sh x2)], .bx 31 [.p (.v (.bool x3)), .p (.sh x4)], .bx 31 [.p (.v (.bool x5)), .nl], .bx 31 [.p (.v (.bool x6)), .nl], .bx 31 [.p (.v (.bool x7)), .p (.sh x8)], .own 3 x9, .p (.v (.int .i64 x10)), .p (.v (.int .i64 x11))] K) x1 x2 x3 x4 x5 x6 x7 x8 x9 x10 x11 (fun y1 y2 y3 y4 y5 y6 y7 y8 y9 y10 y11 => K (.exit 2) (lk (outA ann53.loops 10) [.bx 31 [.p (.v (.bool y1)), .p (.sh y2)], .bx 31 [.p (.v (.bool y3)), .p (.sh y4)], .bx 31 [.p (.v (.bool y5)), .nl], .bx 31 [.p (.v (.bool y6)), .nl], .bx 31 [.p (.v (.bool y7)), .p (.sh y8)], .own 3 y9, .p (.v (.int .i64 y10)), .p (.v (.int .i64 y11))])) := by kernel_rfl
theorem ep53_l10 (n : Nat) (K : Kc R) : ∀ (m : Nat) (x1 : Bool) (x2 : List PV) (x3 : Bool) (x4 : List PV) (x5 x6 x7 : Bool) (x8 x9 : List PV) (x10 x11 : Int), loopE ann53 10 (V53 n c53_l10) m [.bx 31 [.p (.v (.bool x1)), .p (.sh x2)], .bx 31 [.p (.v (.bool x3)), .p (.sh x4)], .bx 31 [.p (.v (.bool x5)), .nl], .bx 31 [.p (.v (.bool x6)), .nl], .bx 31 [.p (.v (.bool x7)), .p (.sh x8)], .own 3 x9, .p (.v (.int .i64 x10)), .p (.v (.int .i64 x11))] K = f53_l10 n m K x1 x2 x3 x4 x5 x6 x7 x8 x9 x10 x11
  | 0, _, _, _, _, _, _, _, _, _, _, _ => rfl
  | m + 1, x1, x2, x3, x4, x5, x6, x7, x8, x9, x10, x11 => (sp53_l10 n m x1 x2 x3 x4 x5 x6 x7 x8 x9 x10 x11 K).trans (congrArg (fun l0 => p53_l10B n l0 x1 x2 x3 x4 x5 x6 x7 x8 x9 x10 x11 (fun y1 y2 y3 y4 y5 y6 y7 y8 y9 y10 y11 => K (.exit 2) (lk (outA ann53.loops 10) [.bx 31 [.p (.v (.bool y1)), .p (.sh y2)], .bx 31 [.p (.v (.bool y3)), .p (.sh y4)], .bx 31 [.p (.v (.bool y5)), .nl], .bx 31 [.p (.v (.bool y6)), .nl], .bx 31 [.p (.v (.bool y7)), .p (.sh y8)], .own 3 y9, .p (.v (.int .i64 y10)), .p (.v (.int .i64 y11))]))) (funext fun z0 => funext fun z1 => funext fun z2 => funext fun z3 => funext fun z4 => funext fun z5 => funext fun z6 => funext fun z7 => funext fun z8 => funext fun z9 => funext fun z10 => ep53_l10 n K m z0 z1 z2 z3 z4 z5 z6 z7 z8 z9 z10))
theorem q53_l10 (n : Nat) : K53 R n (false, 10, c53_l10) := part_loop (pa53_l10 n) t53_l10 (f53_l10 n n) (fun K x1 x2 x3 x4 x5 x6 x7 x8 x9 x10 x11 => ep53_l10 n K n x1 x2 x3 x4 x5 x6 x7 x8 x9 x10 x11) fun _ _ => rfl
theorem pa53_l4 (n : Nat) : allP (K53 R n) (partsOf ann53 c53_l4) := by
  rw [show partsOf ann53 c53_l4 = [(false, 10, c53_l10)] from by kernel_rfl]; exact ⟨q53_l10 n, trivial⟩
theorem sp53_l4 (n m : Nat) (x1 : Bool) (x2 : List PV) (x3 : Bool) (x4 : List PV) (x5 x6 x7 : Bool) (x8 x9 : List PV) (x10 : Int) (K : Kc R) : loopE ann53 4 (V53 n c53_l4) (m + 1) [.bx 31 [.p (.v (.bool x1)), .p (.sh x2)], .bx 31 [.p (.v (.bool x3)), .p (.sh x4)], .bx 31 [.p (.v (.bool x5)), .nl], .bx 31 [.p (.v (.bool x6)), .nl], .bx 31 [.p (.v (.bool x7)), .p (.sh x8)], .own 3 x9, .p (.v (.int .i64 x10))] K = p53_l4B n (fun x1 x2 x3 x4 x5 x6 x7 x8 x9 x10 => loopE ann53 4 (V53 n c53_l4) m [.bx 31 [.p (.v (.bool x1)), .p (.sh x2)], .bx 31 [.p (.v (.bool x3)), .p (.sh x4)], .bx 31 [.p (.v (.bool x5)), .nl], .bx 31 [.p (.v (.bool x6)), .nl], .bx 31 [.p (.v (.bool x7)), .p (.sh x8)], .own 3 x9, .p (.v (.int .i64 x10))] K) x1 x2 x3 x4 x5 x6 x7 x8 x9 x10 (fun y1 y2 y3 y4 y5 y6 y7 y8 y9 => K (.exit 0) (lk (outA ann53.loops 4) [.bx 31 [.p (.v (.bool y1)), .p (.sh y2)], .bx 31 [.p (.v (.bool y3)), .p (.sh y4)], .bx 31 [.p (.v (.bool y5)), .nl], .bx 31 [.p (.v (.bool y6)), .nl], .bx 31 [.p (.v (.bool y7)), .p (.sh y8)], .own 3 y9])) := by kernel_rfl
theorem ep53_l4 (n : Nat) (K : Kc R) : ∀ (m : Nat) (x1 : Bool) (x2 : List PV) (x3 : Bool) (x4 : List PV) (x5 x6 x7 : Bool) (x8 x9 : List PV) (x10 : Int), loopE ann53 4 (V53 n c53_l4) m [.bx 31 [.p (.v (.bool x1)), .p (.sh x2)], .bx 31 [.p (.v (.bool x3)), .p (.sh x4)], .bx 31 [.p (.v (.bool x5)), .nl], .bx 31 [.p (.v (.bool x6)), .nl], .bx 31 [.p (.v (.bool x7)), .p (.sh x8)], .own 3 x9, .p (.v (.int .i64 x10))] K = f53_l4 n m K x1 x2 x3 x4 x5 x6 x7 x8 x9 x10
  | 0, _, _, _, _, _, _, _, _, _, _ => rfl
  | m + 1, x1, x2, x3, x4, x5, x6, x7, x8, x9, x10 => (sp53_l4 n m x1 x2 x3 x4 x5 x6 x7 x8 x9 x10 K).trans (congrArg (fun l0 => p53_l4B n l0 x1 x2 x3 x4 x5 x6 x7 x8 x9 x10 (fun y1 y2 y3 y4 y5 y6 y7 y8 y9 => K (.exit 0) (lk (outA ann53.loops 4) [.bx 31 [.p (.v (.bool y1)), .p (.sh y2)], .bx 31 [.p (.v (.bool y3)), .p (.sh y4)], .bx 31 [.p (.v (.bool y5)), .nl], .bx 31 [.p (.v (.bool y6)), .nl], .bx 31 [.p (.v (.bool y7)), .p (.sh y8)], .own 3 y9]))) (funext fun z0 => funext fun z1 => funext fun z2 => funext fun z3 => funext fun z4 => funext fun z5 => funext fun z6 => funext fun z7 => funext fun z8 => funext fun z9 => ep53_l4 n K m z0 z1 z2 z3 z4 z5 z6 z7 z8 z9))
theorem q53_l4 (n : Nat) : K53 R n (false, 4, c53_l4) := part_loop (pa53_l4 n) t53_l4 (f53_l4 n n) (fun K x1 x2 x3 x4 x5 x6 x7 x8 x9 x10 => ep53_l4 n K n x1 x2 x3 x4 x5 x6 x7 x8 x9 x10) fun _ _ => rfl
theorem pa53_c17 (n : Nat) : allP (K53 R n) (partsOf ann53 c53_c17) := by
  rw [show partsOf ann53 c53_c17 = [] from by kernel_rfl]; exact trivial
theorem q53_c17 (n : Nat) : K53 R n (true, 17, c53_c17) := part_cut (pa53_c17 n) t53_c17 (f53_c17 n) (fun K x1 x2 x3 x4 x5 x6 x7 x8 => by show cutE _ _ _ _ _ = _; kernel_rfl) fun _ _ => rfl
theorem pa53 (n : Nat) : allP (K53 R n) (partsOf ann53 (bodyOf Tryz.f53)) := by
  rw [show partsOf ann53 (bodyOf Tryz.f53) = [(false, 4, c53_l4), (true, 17, c53_c17)] from by kernel_rfl]; exact ⟨q53_l4 n, q53_c17 n, trivial⟩
end
abbrev t53 : Sl (List SV) := (.c (sP (sAgg (.c sBool (.c sSh .n)))) (.c (sP (sAgg (.c sBool (.c sSh .n)))) .n))
noncomputable abbrev f53 (n : Nat) {R : Type} (K : List SV → Option R) : t53.T (Option R) := fun x1 x2 x3 x4 => p53 n x1 x2 x3 x4 (fun y1 y2 y3 y4 => K [.p (.agg [.v (.bool y1), .sh y2]), .p (.agg [.v (.bool y3), .sh y4])])
theorem ep53 {R : Type} (n : Nat) (K : List SV → Option R) (x1 : Bool) (x2 : List PV) (x3 : Bool) (x4 : List PV) : evFn Tryz.prog (env53 n) ann53 n Tryz.f53 [.p (.agg [.v (.bool x1), .sh x2]), .p (.agg [.v (.bool x3), .sh x4])] K = f53 n K x1 x2 x3 x4 := by
  rw [evFn_evOi (c := bodyOf Tryz.f53) (by kernel_rfl) (pa53 n)]; kernel_rfl
noncomputable abbrev fs53 (n : Nat) : FS := { om := [false, false], run := fun args K => oget (t53.ap args (f53 n K)) none }
theorem ok53 (n : Nat) : FSound Tryz.prog GI 53 (fs53 n) :=
  FSound.good (envok53 n) (ann := ann53) (n := n) Tryz.func53
    (.cons (envok53 n) t53 (f53 n) (fun K x1 x2 x3 x4 => ep53 n K x1 x2 x3 x4) .nil)
    (by kernel_rfl) (by kernel_rfl) (by kernel_rfl)
end Go.Proofs.YtfbahcfojiaeaaaGreatDoor


set_option linter.unusedVariables false
set_option maxRecDepth 100000
namespace Go.Proofs.YtfbahcfojiaeaaaGreatDoor
open Go Th Go.Proofs
def ann51 : Ann := { loops := [(1, [(2, .id), (3, .id), (4, .id)], [(2, .id), (4, .id)])], cuts := [], frz := [], rm := [.id] }
noncomputable abbrev env51 (n : Nat) : Env := fun i => bif Nat.beq i 54 then some (fs54 n) else (fun i => bif Nat.beq i 53 then some (fs53 n) else (fun _ => none) i) i
theorem envok51 (n : Nat) : EnvOK Tryz.prog GI (env51 n) := EnvOK.cons (EnvOK.cons (EnvOK.nil) (ok53 n)) (ok54 n)
noncomputable def p51_l1B {R : Type} (n : Nat) (l0 : Bool → List PV → Bool → List PV → Bool → Option R) (x1 : Bool) (x2 : List PV) (x3 : Bool) (x4 : List PV) (x5 : Bool) (k0 : Bool → List PV → Bool → Option R) : Option R :=
  bif (decide (((x4).length : Int) > 0)) then (p53 n x1 x2 x3 x4 (fun y6 y7 y8 y9 => l0 x3 x4 y8 y9 x5)) else (k0 x1 x2 x5)
noncomputable def p51_l1L {R : Type} (n : Nat) : Nat → Bool → List PV → Bool → List PV → Bool → (Bool → List PV → Bool → Option R) → Option R
  | 0, _, _, _, _, _, _ => none
  | m + 1, x1, x2, x3, x4, x5, k0 => p51_l1B n (fun x1 x2 x3 x4 x5 => p51_l1L n m x1 x2 x3 x4 x5 k0) x1 x2 x3 x4 x5 k0
noncomputable def p51_l1 {R : Type} (n : Nat) (x1 : Bool) (x2 : List PV) (x3 : Bool) (x4 : List PV) (x5 : Bool) (k0 : Bool → List PV → Bool → Option R) : Option R := p51_l1L n n x1 x2 x3 x4 x5 k0
noncomputable def p51 {R : Type} (n : Nat) (x1 : Bool) (x2 : List PV) (x3 : Bool) (x4 : List PV) (k0 : Bool → List PV → Option R) : Option R :=
  p51_l1 n x1 x2 x3 x4 false (fun y5 y6 y7 => p54 n false y6 (fun y8 y9 => k0 y8 y9))
noncomputable abbrev E51 {R : Type} (n : Nat) (c : Code) : Fr → Kc R → Option R := evC Tryz.prog (env51 n) ann51 n (22, []) c
noncomputable def c51_l1 : Code := subC (bodyOf Tryz.f51) [1, 0, 0, 0]
abbrev t51_l1 : Sl (List SV) := (.c (sBx 31 (.c (sP sBool) (.c (sP sSh) .n))) (.c (sBx 31 (.c (sP sBool) (.c (sP sSh) .n))) (.c (sBx 31 (.c (sP sBool) (.c sNl .n))) .n)))
noncomputable abbrev f51_l1 {R : Type} (n m : Nat) (K : Kc R) : t51_l1.T (Option R) := fun x1 x2 x3 x4 x5 => p51_l1L n m x1 x2 x3 x4 x5 (fun y1 y2 y3 => K (.exit 0) (lk (outA ann51.loops 1) [.bx 31 [.p (.v (.bool y1)), .p (.sh y2)], .bx 31 [.p (.v (.bool y3)), .nl]]))
noncomputable abbrev o51_l1 {R : Type} (n : Nat) (vs : List SV) (K : Kc R) : Option R := oget (t51_l1.ap vs (f51_l1 n n K)) (loopE ann51 1 (E51 n c51_l1) n vs K)
noncomputable abbrev lo51 {R : Type} (n : Nat) : Orc R := fun i vs K => dcnd (Nat.beq i 1) (o51_l1 n vs K) (none)
noncomputable abbrev cu51 {R : Type} (n : Nat) : Orc R := fun i vs K => none
section
variable {R : Type}
noncomputable abbrev V51 (n : Nat) (c : Code) : Fr → Kc R → Option R := evOi Tryz.prog (env51 n) ann51 (22, []) (lo51 n) (cu51 n) c
abbrev K51 (R : Type) (n : Nat) := PartOK (R := R) Tryz.prog (env51 n) ann51 n (22, []) (lo51 n) (cu51 n)
theorem pa51_l1 (n : Nat) : allP (K51 R n) (partsOf ann51 c51_l1) := by
  rw [show partsOf ann51 c51_l1 = [] from by kernel_rfl]; exact trivial
theorem sp51_l1 (n m : Nat) (x1 : Bool) (x2 : List PV) (x3 : Bool) (x4 : List PV) (x5 : Bool) (K : Kc R) : loopE ann51 1 (V51 n c51_l1) (m + 1) [.bx 31 [.p (.v (.bool x1)), .p (.sh x2)], .bx 31 [.p (.v (.bool x3)), .p (.sh x4)], .bx 31 [.p (.v (.bool x5)), .nl]] K = p51_l1B n (fun x1 x2 x3 x4 x5 => loopE ann51 1 (V51 n c51_l1) m [.bx 31 [.p (.v (.bool x1)), .p (.sh x2)], .bx 31 [.p (.v (.bool x3)), .p (.sh x4)], .bx 31 [.p (.v (.bool x5)), .nl]] K) x1 x2 x3 x4 x5 (fun y1 y2 y3 => K (.exit 0) (lk (outA ann51.loops 1) [.bx 31 [.p (.v (.bool y1)), .p (.sh y2)], .bx 31 [.p (.v (.bool y3)), .nl]])) := by kernel_rfl
theorem ep51_l1 (n : Nat) (K : Kc R) : ∀ (m : Nat) (x1 : Bool) (x2 : List PV) (x3 : Bool) (x4 : List PV) (x5 : Bool), loopE ann51 1 (V51 n c51_l1) m [.bx 31 [.p (.v (.bool x1)), .p (.sh x2)], .bx 31 [.p (.v (.bool x3)), .p (.sh x4)], .bx 31 [.p (.v (.bool x5)), .nl]] K = f51_l1 n m K x1 x2 x3 x4 x5
  | 0, _, _, _, _, _ => rfl
  | m + 1, x1, x2, x3, x4, x5 => (sp51_l1 n m x1 x2 x3 x4 x5 K).trans (congrArg (fun l0 => p51_l1B n l0 x1 x2 x3 x4 x5 (fun y1 y2 y3 => K (.exit 0) (lk (outA ann51.loops 1) [.bx 31 [.p (.v (.bool y1)), .p (.sh y2)], .bx 31 [.p (.v (.bool y3)), .nl]]))) (funext fun z0 => funext fun z1 => funext fun z2 => funext fun z3 => funext fun z4 => ep51_l1 n K m z0 z1 z2 z3 z4))
theorem q51_l1 (n : Nat) : K51 R n (false, 1, c51_l1) := part_loop (pa51_l1 n) t51_l1 (f51_l1 n n) (fun K x1 x2 x3 x4 x5 => ep51_l1 n K n x1 x2 x3 x4 x5) fun _ _ => rfl
theorem pa51 (n : Nat) : allP (K51 R n) (partsOf ann51 (bodyOf Tryz.f51)) := by
  rw [show partsOf ann51 (bodyOf Tryz.f51) = [(false, 1, c51_l1)] from by kernel_rfl]; exact ⟨q51_l1 n, trivial⟩
end
abbrev t51 : Sl (List SV) := (.c (sP (sAgg (.c sBool (.c sSh .n)))) (.c (sP (sAgg (.c sBool (.c sSh .n)))) .n))
noncomputable abbrev f51 (n : Nat) {R : Type} (K : List SV → Option R) : t51.T (Option R) := fun x1 x2 x3 x4 => p51 n x1 x2 x3 x4 (fun y1 y2 => K [.p (.agg [.v (.bool y1), .sh y2])])
theorem ep51 {R : Type} (n : Nat) (K : List SV → Option R) (x1 : Bool) (x2 : List PV) (x3 : Bool) (x4 : List PV) : evFn Tryz.prog (env51 n) ann51 n Tryz.f51 [.p (.agg [.v (.bool x1), .sh x2]), .p (.agg [.v (.bool x3), .sh x4])] K = f51 n K x1 x2 x3 x4 := by
  rw [evFn_evOi (c := bodyOf Tryz.f51) (by kernel_rfl) (pa51 n)]; kernel_rfl
noncomputable abbrev fs51 (n : Nat) : FS := { om := [false, false], run := fun args K => oget (t51.ap args (f51 n K)) none }
theorem ok51 (n : Nat) : FSound Tryz.prog GI 51 (fs51 n) :=
  FSound.good (envok51 n) (ann := ann51) (n := n) Tryz.func51
    (.cons (envok51 n) t51 (f51 n) (fun K x1 x2 x3 x4 => ep51 n K x1 x2 x3 x4) .nil)
    (by kernel_rfl) (by kernel_rfl) (by kernel_rfl)
end Go.Proofs.YtfbahcfojiaeaaaGreatDoor


set_option linter.unusedVariables false
set_option maxRecDepth 100000
namespace Go.Proofs.YtfbahcfojiaeaaaGreatDoor
open Go Th Go.Proofs
def ann20 : Ann := { loops := [(7, [(1, .id), (3, .id), (4, .id)], [(2, .id), (3, .id)])], cuts := [(6, [(1, .id), (3, .id)], [(2, .id)])], frz := [], rm := [.id] }
noncomputable abbrev env20 (n : Nat) : Env := fun _ => none
theorem envok20 (n : Nat) : EnvOK Tryz.prog GI (env20 n) := EnvOK.nil
noncomputable def p20_l7B {R : Type} (n : Nat) (l0 : Bool → List PV → ByteArray → Int → Option R) (x1 : Bool) (x2 : List PV) (x3 : ByteArray) (x4 : Int) (k0 : ByteArray → Option R) : Option R :=
  bif (decide (x4 < ((x2).length : Int))) then (bif (inR x4 ((x2).length)) then (getI .i64 ((x2).getD ((x4 : Int).toNat) (.v (.bool false))) fun e5 => bif (inR x4 ((x2).length)) then (getI .i64 ((x2).getD ((x4 : Int).toNat) (.v (.bool false))) fun e6 => bif (cutR e5 (IntKind.i64.wrap (e6 + 1)) ((⟨#[48, 49, 50, 51, 52, 53, 54, 55, 56, 57]⟩ : ByteArray)).size) then (catS x3 (ByteArray.extract (⟨#[48, 49, 50, 51, 52, 53, 54, 55, 56, 57]⟩ : ByteArray) (e5 : Int).toNat (IntKind.i64.wrap (e6 + 1) : Int).toNat) fun s7 => l0 x1 x2 s7 (IntKind.i64.wrap (x4 + 1))) else none) else none) else none) else (k0 x3)
noncomputable def p20_l7L {R : Type} (n : Nat) : Nat → Bool → List PV → ByteArray → Int → (ByteArray → Option R) → Option R
  | 0, _, _, _, _, _ => none
  | m + 1, x1, x2, x3, x4, k0 => p20_l7B n (fun x1 x2 x3 x4 => p20_l7L n m x1 x2 x3 x4 k0) x1 x2 x3 x4 k0
noncomputable def p20_l7 {R : Type} (n : Nat) (x1 : Bool) (x2 : List PV) (x3 : ByteArray) (x4 : Int) (k0 : ByteArray → Option R) : Option R := p20_l7L n n x1 x2 x3 x4 k0
noncomputable def p20_c6 {R : Type} (n : Nat) (x1 : Bool) (x2 : List PV) (x3 : ByteArray) (k0 : ByteArray → Option R) : Option R :=
  p20_l7 n x1 x2 x3 0 (fun y4 => k0 y4)
noncomputable def p20 {R : Type} (n : Nat) (x1 : Bool) (x2 : List PV) (k0 : ByteArray → Option R) : Option R :=
  bif (((x2).length : Int) == 0) then (k0 ⟨#[48]⟩) else (bif x1 then (p20_c6 n x1 x2 ⟨#[45]⟩ (fun y3 => k0 y3)) else (p20_c6 n x1 x2 ⟨#[]⟩ (fun y4 => k0 y4)))
noncomputable abbrev E20 {R : Type} (n : Nat) (c : Code) : Fr → Kc R → Option R := evC Tryz.prog (env20 n) ann20 n (33, []) c
noncomputable def c20_c6 : Code := subC (bodyOf Tryz.f20) [1, 1, 1, 1]
abbrev t20_c6 : Sl (List SV) := (.c (sBx 31 (.c (sP sBool) (.c (sP sSh) .n))) (.c (sP sStr) .n))
noncomputable abbrev f20_c6 {R : Type} (n : Nat) (K : Kc R) : t20_c6.T (Option R) := fun x1 x2 x3 => p20_c6 n x1 x2 x3 (fun y1 => K .ret (lk (outA ann20.cuts 6) [.p (.v (.string y1))]))
noncomputable abbrev o20_c6 {R : Type} (n : Nat) (vs : List SV) (K : Kc R) : Option R := oget (t20_c6.ap vs (f20_c6 n K)) (cutE ann20 6 (E20 n c20_c6) vs K)
noncomputable def c20_l7 : Code := subC (bodyOf Tryz.f20) [1, 1, 1, 1, 0, 1, 0, 0]
abbrev t20_l7 : Sl (List SV) := (.c (sBx 31 (.c (sP sBool) (.c (sP sSh) .n))) (.c (sP sStr) (.c (sP (sInt .i64)) .n)))
noncomputable abbrev f20_l7 {R : Type} (n m : Nat) (K : Kc R) : t20_l7.T (Option R) := fun x1 x2 x3 x4 => p20_l7L n m x1 x2 x3 x4 (fun y1 => K (.exit 0) (lk (outA ann20.loops 7) [.dead, .p (.v (.string y1))]))
noncomputable abbrev o20_l7 {R : Type} (n : Nat) (vs : List SV) (K : Kc R) : Option R := oget (t20_l7.ap vs (f20_l7 n n K)) (loopE ann20 7 (E20 n c20_l7) n vs K)
noncomputable abbrev lo20 {R : Type} (n : Nat) : Orc R := fun i vs K => dcnd (Nat.beq i 7) (o20_l7 n vs K) (none)
noncomputable abbrev cu20 {R : Type} (n : Nat) : Orc R := fun i vs K => dcnd (Nat.beq i 6) (o20_c6 n vs K) (none)
section
variable {R : Type}
noncomputable abbrev V20 (n : Nat) (c : Code) : Fr → Kc R → Option R := evOi Tryz.prog (env20 n) ann20 (33, []) (lo20 n) (cu20 n) c
abbrev K20 (R : Type) (n : Nat) := PartOK (R := R) Tryz.prog (env20 n) ann20 n (33, []) (lo20 n) (cu20 n)
theorem pa20_l7 (n : Nat) : allP (K20 R n) (partsOf ann20 c20_l7) := by
  rw [show partsOf ann20 c20_l7 = [] from by kernel_rfl]; exact trivial
theorem sp20_l7 (n m : Nat) (x1 : Bool) (x2 : List PV) (x3 : ByteArray) (x4 : Int) (K : Kc R) : loopE ann20 7 (V20 n c20_l7) (m + 1) [.bx 31 [.p (.v (.bool x1)), .p (.sh x2)], .p (.v (.string x3)), .p (.v (.int .i64 x4))] K = p20_l7B n (fun x1 x2 x3 x4 => loopE ann20 7 (V20 n c20_l7) m [.bx 31 [.p (.v (.bool x1)), .p (.sh x2)], .p (.v (.string x3)), .p (.v (.int .i64 x4))] K) x1 x2 x3 x4 (fun y1 => K (.exit 0) (lk (outA ann20.loops 7) [.dead, .p (.v (.string y1))])) := by kernel_rfl
theorem ep20_l7 (n : Nat) (K : Kc R) : ∀ (m : Nat) (x1 : Bool) (x2 : List PV) (x3 : ByteArray) (x4 : Int), loopE ann20 7 (V20 n c20_l7) m [.bx 31 [.p (.v (.bool x1)), .p (.sh x2)], .p (.v (.string x3)), .p (.v (.int .i64 x4))] K = f20_l7 n m K x1 x2 x3 x4
  | 0, _, _, _, _ => rfl
  | m + 1, x1, x2, x3, x4 => (sp20_l7 n m x1 x2 x3 x4 K).trans (congrArg (fun l0 => p20_l7B n l0 x1 x2 x3 x4 (fun y1 => K (.exit 0) (lk (outA ann20.loops 7) [.dead, .p (.v (.string y1))]))) (funext fun z0 => funext fun z1 => funext fun z2 => funext fun z3 => ep20_l7 n K m z0 z1 z2 z3))
theorem q20_l7 (n : Nat) : K20 R n (false, 7, c20_l7) := part_loop (pa20_l7 n) t20_l7 (f20_l7 n n) (fun K x1 x2 x3 x4 => ep20_l7 n K n x1 x2 x3 x4) fun _ _ => rfl
theorem pa20_c6 (n : Nat) : allP (K20 R n) (partsOf ann20 c20_c6) := by
  rw [show partsOf ann20 c20_c6 = [(false, 7, c20_l7)] from by kernel_rfl]; exact ⟨q20_l7 n, trivial⟩
theorem q20_c6 (n : Nat) : K20 R n (true, 6, c20_c6) := part_cut (pa20_c6 n) t20_c6 (f20_c6 n) (fun K x1 x2 x3 => by show cutE _ _ _ _ _ = _; kernel_rfl) fun _ _ => rfl
theorem pa20 (n : Nat) : allP (K20 R n) (partsOf ann20 (bodyOf Tryz.f20)) := by
  rw [show partsOf ann20 (bodyOf Tryz.f20) = [(true, 6, c20_c6)] from by kernel_rfl]; exact ⟨q20_c6 n, trivial⟩
end
abbrev t20 : Sl (List SV) := (.c (sP (sAgg (.c sBool (.c sSh .n)))) .n)
noncomputable abbrev f20 (n : Nat) {R : Type} (K : List SV → Option R) : t20.T (Option R) := fun x1 x2 => p20 n x1 x2 (fun y1 => K [.p (.v (.string y1))])
theorem ep20 {R : Type} (n : Nat) (K : List SV → Option R) (x1 : Bool) (x2 : List PV) : evFn Tryz.prog (env20 n) ann20 n Tryz.f20 [.p (.agg [.v (.bool x1), .sh x2])] K = f20 n K x1 x2 := by
  rw [evFn_evOi (c := bodyOf Tryz.f20) (by kernel_rfl) (pa20 n)]; kernel_rfl
noncomputable abbrev fs20 (n : Nat) : FS := { om := [false], run := fun args K => oget (t20.ap args (f20 n K)) none }
theorem ok20 (n : Nat) : FSound Tryz.prog GI 20 (fs20 n) :=
  FSound.good (envok20 n) (ann := ann20) (n := n) Tryz.func20
    (.cons (envok20 n) t20 (f20 n) (fun K x1 x2 => ep20 n K x1 x2) .nil)
    (by kernel_rfl) (by kernel_rfl) (by kernel_rfl)
end Go.Proofs.YtfbahcfojiaeaaaGreatDoor


set_option linter.unusedVariables false
set_option maxRecDepth 100000
namespace Go.Proofs.YtfbahcfojiaeaaaGreatDoor
open Go Th Go.Proofs
def ann16 : Ann := { loops := [(4, [(0, .id), (2, .id), (3, .id), (4, .own 3), (5, .id)], [(2, .id), (3, .id), (4, .id)])], cuts := [(5, [(0, .id), (2, .id), (3, .id), (4, .id), (5, .id)], [(0, .id), (2, .id), (3, .id), (4, .id), (5, .id)])], frz := [], rm := [.id] }
noncomputable abbrev env16 (n : Nat) : Env := fun i => bif Nat.beq i 54 then some (fs54 n) else (fun _ => none) i
theorem envok16 (n : Nat) : EnvOK Tryz.prog GI (env16 n) := EnvOK.cons (EnvOK.nil) (ok54 n)
noncomputable def p16_c5 {R : Type} (n : Nat) (x1 : ByteArray) (x2 x3 : Bool) (x4 : List PV) (x5 : Int) (k0 : ByteArray → Bool → Bool → List PV → Int → Option R) : Option R :=
  k0 x1 x2 x3 x4 (IntKind.i64.wrap (x5 + 1))
noncomputable def p16_l4B {R : Type} (n : Nat) (l0 : ByteArray → Bool → Bool → List PV → Int → Option R) (x1 : ByteArray) (x2 x3 : Bool) (x4 : List PV) (x5 : Int) (k0 : Bool → Bool → List PV → Option R) : Option R :=
  bif (decide (x5 < ((x1).size : Int))) then (bif (inR x5 (x1).size) then (bif (byteAt x1 x5 == 45) then (p16_c5 n x1 x2 true x4 x5 (fun y6 y7 y8 y9 y10 => l0 y6 y7 y8 y9 y10)) else (bif (inR x5 (x1).size) then (let v11 := IntKind.u8.wrap ((byteAt x1 x5) - 48); bif (lenOK ((x4).length + 1) 8) then (p16_c5 n x1 x2 x3 (x4 ++ ([.v (.int .i64 (IntKind.i64.wrap (v11)))] : List PV)) x5 (fun y12 y13 y14 y15 y16 => l0 y12 y13 y14 y15 y16)) else none) else none)) else none) else (k0 x2 x3 x4)
noncomputable def p16_l4L {R : Type} (n : Nat) : Nat → ByteArray → Bool → Bool → List PV → Int → (Bool → Bool → List PV → Option R) → Option R
  | 0, _, _, _, _, _, _ => none
  | m + 1, x1, x2, x3, x4, x5, k0 => p16_l4B n (fun x1 x2 x3 x4 x5 => p16_l4L n m x1 x2 x3 x4 x5 k0) x1 x2 x3 x4 x5 k0
noncomputable def p16_l4 {R : Type} (n : Nat) (x1 : ByteArray) (x2 x3 : Bool) (x4 : List PV) (x5 : Int) (k0 : Bool → Bool → List PV → Option R) : Option R := p16_l4L n n x1 x2 x3 x4 x5 k0
noncomputable def p16 {R : Type} (n : Nat) (x1 : ByteArray) (k0 : Bool → List PV → Option R) : Option R :=
  p16_l4 n x1 false false [] 0 (fun y2 y3 y4 => p54 n y3 y4 (fun y5 y6 => k0 y5 y6))
noncomputable abbrev E16 {R : Type} (n : Nat) (c : Code) : Fr → Kc R → Option R := evC Tryz.prog (env16 n) ann16 n (27, []) c
noncomputable def c16_c5 : Code := subC (bodyOf Tryz.f16) [1, 1, 1, 0, 1, 0, 0, 1, 1]
abbrev t16_c5 : Sl (List SV) := (.c (sP sStr) (.c (sBx 31 (.c (sP sBool) (.c sNl .n))) (.c (sP sBool) (.c (sOwn 3) (.c (sP (sInt .i64)) .n)))))
noncomputable abbrev f16_c5 {R : Type} (n : Nat) (K : Kc R) : t16_c5.T (Option R) := fun x1 x2 x3 x4 x5 => p16_c5 n x1 x2 x3 x4 x5 (fun y1 y2 y3 y4 y5 => K .normal (lk (outA ann16.cuts 5) [.p (.v (.string y1)), .bx 31 [.p (.v (.bool y2)), .nl], .p (.v (.bool y3)), .own 3 y4, .p (.v (.int .i64 y5))]))
noncomputable abbrev o16_c5 {R : Type} (n : Nat) (vs : List SV) (K : Kc R) : Option R := oget (t16_c5.ap vs (f16_c5 n K)) (cutE ann16 5 (E16 n c16_c5) vs K)
noncomputable def c16_l4 : Code := subC (bodyOf Tryz.f16) [1, 1, 1, 0, 1, 0, 0]
abbrev t16_l4 : Sl (List SV) := (.c (sP sStr) (.c (sBx 31 (.c (sP sBool) (.c sNl .n))) (.c (sP sBool) (.c (sOwn 3) (.c (sP (sInt .i64)) .n)))))
noncomputable abbrev f16_l4 {R : Type} (n m : Nat) (K : Kc R) : t16_l4.T (Option R) := fun x1 x2 x3 x4 x5 => p16_l4L n m x1 x2 x3 x4 x5 (fun y1 y2 y3 => K (.exit 0) (lk (outA ann16.loops 4) [.bx 31 [.p (.v (.bool y1)), .nl], .p (.v (.bool y2)), .own 3 y3]))
noncomputable abbrev o16_l4 {R : Type} (n : Nat) (vs : List SV) (K : Kc R) : Option R := oget (t16_l4.ap vs (f16_l4 n n K)) (loopE ann16 4 (E16 n c16_l4) n vs K)
noncomputable abbrev lo16 {R : Type} (n : Nat) : Orc R := fun i vs K => dcnd (Nat.beq i 4) (o16_l4 n vs K) (none)
noncomputable abbrev cu16 {R : Type} (n : Nat) : Orc R := fun i vs K => dcnd (Nat.beq i 5) (o16_c5 n vs K) (none)
section
variable {R : Type}
noncomputable abbrev V16 (n : Nat) (c : Code) : Fr → Kc R → Option R := evOi Tryz.prog (env16 n) ann16 (27, []) (lo16 n) (cu16 n) c
abbrev K16 (R : Type) (n : Nat) := PartOK (R := R) Tryz.prog (env16 n) ann16 n (27, []) (lo16 n) (cu16 n)
theorem pa16_c5 (n : Nat) : allP (K16 R n) (partsOf ann16 c16_c5) := by
  rw [show partsOf ann16 c16_c5 = [] from by kernel_rfl]; exact trivial
theorem q16_c5 (n : Nat) : K16 R n (true, 5, c16_c5) := part_cut (pa16_c5 n) t16_c5 (f16_c5 n) (fun K x1 x2 x3 x4 x5 => by show cutE _ _ _ _ _ = _; kernel_rfl) fun _ _ => rfl
theorem pa16_l4 (n : Nat) : allP (K16 R n) (partsOf ann16 c16_l4) := by
  rw [show partsOf ann16 c16_l4 = [(true, 5, c16_c5)] from by kernel_rfl]; exact ⟨q16_c5 n, trivial⟩
theorem sp16_l4 (n m : Nat) (x1 : ByteArray) (x2 x3 : Bool) (x4 : List PV) (x5 : Int) (K : Kc R) : loopE ann16 4 (V16 n c16_l4) (m + 1) [.p (.v (.string x1)), .bx 31 [.p (.v (.bool x2)), .nl], .p (.v (.bool x3)), .own 3 x4, .p (.v (.int .i64 x5))] K = p16_l4B n (fun x1 x2 x3 x4 x5 => loopE ann16 4 (V16 n c16_l4) m [.p (.v (.string x1)), .bx 31 [.p (.v (.bool x2)), .nl], .p (.v (.bool x3)), .own 3 x4, .p (.v (.int .i64 x5))] K) x1 x2 x3 x4 x5 (fun y1 y2 y3 => K (.exit 0) (lk (outA ann16.loops 4) [.bx 31 [.p (.v (.bool y1)), .nl], .p (.v (.bool y2)), .own 3 y3])) := by kernel_rfl
theorem ep16_l4 (n : Nat) (K : Kc R) : ∀ (m : Nat) (x1 : ByteArray) (x2 x3 : Bool) (x4 : List PV) (x5 : Int), loopE ann16 4 (V16 n c16_l4) m [.p (.v (.string x1)), .bx 31 [.p (.v (.bool x2)), .nl], .p (.v (.bool x3)), .own 3 x4, .p (.v (.int .i64 x5))] K = f16_l4 n m K x1 x2 x3 x4 x5
  | 0, _, _, _, _, _ => rfl
  | m + 1, x1, x2, x3, x4, x5 => (sp16_l4 n m x1 x2 x3 x4 x5 K).trans (congrArg (fun l0 => p16_l4B n l0 x1 x2 x3 x4 x5 (fun y1 y2 y3 => K (.exit 0) (lk (outA ann16.loops 4) [.bx 31 [.p (.v (.bool y1)), .nl], .p (.v (.bool y2)), .own 3 y3]))) (funext fun z0 => funext fun z1 => funext fun z2 => funext fun z3 => funext fun z4 => ep16_l4 n K m z0 z1 z2 z3 z4))
theorem q16_l4 (n : Nat) : K16 R n (false, 4, c16_l4) := part_loop (pa16_l4 n) t16_l4 (f16_l4 n n) (fun K x1 x2 x3 x4 x5 => ep16_l4 n K n x1 x2 x3 x4 x5) fun _ _ => rfl
theorem pa16 (n : Nat) : allP (K16 R n) (partsOf ann16 (bodyOf Tryz.f16)) := by
  rw [show partsOf ann16 (bodyOf Tryz.f16) = [(false, 4, c16_l4)] from by kernel_rfl]; exact ⟨q16_l4 n, trivial⟩
end
abbrev t16 : Sl (List SV) := (.c (sP sStr) .n)
noncomputable abbrev f16 (n : Nat) {R : Type} (K : List SV → Option R) : t16.T (Option R) := fun x1 => p16 n x1 (fun y1 y2 => K [.p (.agg [.v (.bool y1), .sh y2])])
theorem ep16 {R : Type} (n : Nat) (K : List SV → Option R) (x1 : ByteArray) : evFn Tryz.prog (env16 n) ann16 n Tryz.f16 [.p (.v (.string x1))] K = f16 n K x1 := by
  rw [evFn_evOi (c := bodyOf Tryz.f16) (by kernel_rfl) (pa16 n)]; kernel_rfl
noncomputable abbrev fs16 (n : Nat) : FS := { om := [false], run := fun args K => oget (t16.ap args (f16 n K)) none }
theorem ok16 (n : Nat) : FSound Tryz.prog GI 16 (fs16 n) :=
  FSound.good (envok16 n) (ann := ann16) (n := n) Tryz.func16
    (.cons (envok16 n) t16 (f16 n) (fun K x1 => ep16 n K x1) .nil)
    (by kernel_rfl) (by kernel_rfl) (by kernel_rfl)
end Go.Proofs.YtfbahcfojiaeaaaGreatDoor
