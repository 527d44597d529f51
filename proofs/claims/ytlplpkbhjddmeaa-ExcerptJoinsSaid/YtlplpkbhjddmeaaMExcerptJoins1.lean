/- Proved: the law ExcerptJoins returns true at all its arguments (no further conditions): the row and what it stands on. -/
import Derived.Test.YtlplpkbhjddmeaaMExcerptJoins0
import Derived.Test.YtlplpkbhjddmeaaT1
import Derived.Test.YtlplpkbhjddmeaaRows
import Derived.WalkKit
import Derived.ProofKit
import Derived.OpenShut
import Derived.ShutString
import Derived.ChangeOld
import Derived.Below
import Derived.SizedLaws

set_option linter.unusedVariables false
set_option linter.unusedSimpArgs false
namespace Go.Proofs.Ytlplpkbhjddmeaa
open Go Th Go.Proofs
variable {R : Type}
def isRest (c : UInt8) : Bool := decide (128 ≤ c.toNat) && decide (c.toNat ≤ 191)
def marg (l : List UInt8) : List UInt8 := l.flatMap fun c => if c = 9 then [9] else if isRest c then [] else [32]
def car (l : List UInt8) : Nat := l.countP fun c => !isRest c
theorem marg_snoc (l : List UInt8) (c : UInt8) : marg (l ++ [c]) = marg l ++ (if c = 9 then [9] else if isRest c then [] else [32]) := by simp [marg]
theorem car_snoc (l : List UInt8) (c : UInt8) : car (l ++ [c]) = car l + (if isRest c then 0 else 1) := by
  unfold car; rw [List.countP_append, List.countP_singleton]; cases isRest c <;> rfl
theorem marg_le (l : List UInt8) : (marg l).length ≤ l.length := by
  induction l with
  | nil => exact Nat.le_refl _
  | cons c l ih =>
    simp only [marg, List.flatMap_cons, List.length_append, List.length_cons] at ih ⊢
    split
    · simp only [List.length_cons, List.length_nil]; omega
    · split <;> simp only [List.length_cons, List.length_nil] <;> omega
theorem car_le (l : List UInt8) : car l ≤ l.length := List.countP_le_length
theorem eq9 {c : UInt8} : (((c.toNat : Int)) == 9) = decide (c = 9) := by
  rw [Bool.eq_iff_iff]
  simp only [beq_iff_eq, decide_eq_true_eq]
  constructor
  · intro h; apply UInt8.toNat_inj.1; simp; omega
  · rintro rfl; rfl
theorem p22_eq (n : Nat) (c : UInt8) (k : Bool → Option R) : p22 n (c.toNat : Int) k = k (isRest c) := by
  unfold p22 isRest
  by_cases h : 128 ≤ c.toNat
  · simp (disch := (first | omega | (simp only [List.length_append, List.length_cons, List.length_nil, List.length_replicate, List.length_take, List.length_drop]; omega))) only [↓c_pos, ↓c_neg, dec_t, dec_f, Bool.and_true, Bool.true_and, Bool.and_false, Bool.false_and, Bool.not_true, Bool.not_false, cond_true, cond_false, inR_t, cutR_t, roomB_t, lenOK_t, w64, bs_size, List.length_append, List.length_cons, List.length_nil, bs_extract, bs_append, bs_push, bs_data, bs_empty, bs_lit, catS_bs, eqS_bs, ite_pos', ite_neg', decide_true, decide_false, if_true, if_false, h, Bool.true_and]
    congr 1
    by_cases h2 : c.toNat ≤ 191
    · rw [decide_eq_true (by omega), decide_eq_true h2]
    · rw [decide_eq_false (by omega), decide_eq_false h2]
  · simp (disch := (first | omega | (simp only [List.length_append, List.length_cons, List.length_nil, List.length_replicate, List.length_take, List.length_drop]; omega))) only [↓c_pos, ↓c_neg, dec_t, dec_f, Bool.and_true, Bool.true_and, Bool.and_false, Bool.false_and, Bool.not_true, Bool.not_false, cond_true, cond_false, inR_t, cutR_t, roomB_t, lenOK_t, w64, bs_size, List.length_append, List.length_cons, List.length_nil, bs_extract, bs_append, bs_push, bs_data, bs_empty, bs_lit, catS_bs, eqS_bs, ite_pos', ite_neg', decide_true, decide_false, if_true, if_false, h, Bool.false_and]
theorem p13_loop1 (n : Nat) (l B : List UInt8) (f t e : Int) (b w : Nat) (hw : b + w ≤ l.length) (hb : l.length < 2 ^ 40) (hB : B.length < 2 ^ 41) (k0 : ByteArray → Int → Int → Int → ByteArray → Option R) : ∀ (d m i : Nat), d + i = w → d < m →
    p13_l9L n m (bs l) f t b e (bs (B ++ marg ((l.drop b).take i))) w i k0 = k0 (bs l) f t e (bs (B ++ marg ((l.drop b).take w)))
  | 0, m + 1, i, h, _ => by
    simp only [p13_l9L, p13_l9B]
    simp (disch := (first | omega | (simp only [List.length_append, List.length_cons, List.length_nil, List.length_replicate, List.length_take, List.length_drop]; omega))) only [↓c_pos, ↓c_neg, dec_t, dec_f, Bool.and_true, Bool.true_and, Bool.and_false, Bool.false_and, Bool.not_true, Bool.not_false, cond_true, cond_false, inR_t, cutR_t, roomB_t, lenOK_t, w64, bs_size, List.length_append, List.length_cons, List.length_nil, bs_extract, bs_append, bs_push, bs_data, bs_empty, bs_lit, catS_bs, eqS_bs, ite_pos', ite_neg', decide_true, decide_false, if_true, if_false, show i = w from by omega]
  | d + 1, m + 1, i, h, hm => by
    have ih := p13_loop1 n l B f t e b w hw hb hB k0 d m (i + 1) (by omega) (by omega)
    have hm2 := marg_le ((l.drop b).take i)
    rw [List.length_take, List.length_drop] at hm2
    have hlen : (B ++ marg ((l.drop b).take i)).length ≤ B.length + i := by rw [List.length_append]; omega
    rw [take_snoc' (by rw [List.length_drop]; omega), marg_snoc, List.getElem_drop] at ih
    simp only [p13_l9L, p13_l9B]
    have e1 : ((b : Int) + (i : Int)) = ((b + i : Nat) : Int) := by omega
    have e2 : ((i : Int) + 1) = ((i + 1 : Nat) : Int) := by omega
    simp (disch := (first | omega | (simp only [List.length_append, List.length_cons, List.length_nil, List.length_replicate, List.length_take, List.length_drop]; omega))) only [↓c_pos, ↓c_neg, dec_t, dec_f, Bool.and_true, Bool.true_and, Bool.and_false, Bool.false_and, Bool.not_true, Bool.not_false, cond_true, cond_false, inR_t, cutR_t, roomB_t, lenOK_t, w64, bs_size, List.length_append, List.length_cons, List.length_nil, bs_extract, bs_append, bs_push, bs_data, bs_empty, bs_lit, catS_bs, eqS_bs, ite_pos', ite_neg', decide_true, decide_false, if_true, if_false, e1, e2, byte_get, eq9, p22_eq, Bool.true_and, Bool.and_true]
    by_cases h9 : l[b + i] = 9
    · simp only [h9, decide_true, cond_true, if_true] at ih ⊢
      rw [List.append_assoc]
      exact ih
    · simp only [h9, decide_false, cond_false, if_false] at ih ⊢
      cases hr : isRest l[b + i] with
      | true => simp only [hr, Bool.not_true, cond_false, if_true, List.append_nil] at ih ⊢; exact ih
      | false => simp only [hr, Bool.not_false, cond_true, Bool.false_eq_true, if_false] at ih ⊢; rw [List.append_assoc]; exact ih
theorem p13_loop2 (n : Nat) (l : List UInt8) (f w : Nat) (t : Int) (B : ByteArray) (hw : f + w ≤ l.length) (hb : l.length < 2 ^ 40) (k0 : ByteArray → Int → Option R) : ∀ (d m i : Nat), d + i = w → d < m →
    p13_l19L n m (bs l) f t B (car ((l.drop f).take i) : Nat) w i k0 = k0 B (car ((l.drop f).take w) : Nat)
  | 0, m + 1, i, h, _ => by
    simp only [p13_l19L, p13_l19B]
    simp (disch := (first | omega | (simp only [List.length_append, List.length_cons, List.length_nil, List.length_replicate, List.length_take, List.length_drop]; omega))) only [↓c_pos, ↓c_neg, dec_t, dec_f, Bool.and_true, Bool.true_and, Bool.and_false, Bool.false_and, Bool.not_true, Bool.not_false, cond_true, cond_false, inR_t, cutR_t, roomB_t, lenOK_t, w64, bs_size, List.length_append, List.length_cons, List.length_nil, bs_extract, bs_append, bs_push, bs_data, bs_empty, bs_lit, catS_bs, eqS_bs, ite_pos', ite_neg', decide_true, decide_false, if_true, if_false, show i = w from by omega]
  | d + 1, m + 1, i, h, hm => by
    have ih := p13_loop2 n l f w t B hw hb k0 d m (i + 1) (by omega) (by omega)
    have hm2 := car_le ((l.drop f).take i)
    rw [List.length_take, List.length_drop] at hm2
    rw [take_snoc' (by rw [List.length_drop]; omega), car_snoc, List.getElem_drop] at ih
    simp only [p13_l19L, p13_l19B]
    have e1 : ((f : Int) + (i : Int)) = ((f + i : Nat) : Int) := by omega
    have e2 : ((i : Int) + 1) = ((i + 1 : Nat) : Int) := by omega
    simp (disch := (first | omega | (simp only [List.length_append, List.length_cons, List.length_nil, List.length_replicate, List.length_take, List.length_drop]; omega))) only [↓c_pos, ↓c_neg, dec_t, dec_f, Bool.and_true, Bool.true_and, Bool.and_false, Bool.false_and, Bool.not_true, Bool.not_false, cond_true, cond_false, inR_t, cutR_t, roomB_t, lenOK_t, w64, bs_size, List.length_append, List.length_cons, List.length_nil, bs_extract, bs_append, bs_push, bs_data, bs_empty, bs_lit, catS_bs, eqS_bs, ite_pos', ite_neg', decide_true, decide_false, if_true, if_false, e1, e2, byte_get, p22_eq]
    cases hr : isRest l[f + i] with
    | true => simp only [hr, Bool.not_true, cond_false, if_true, Nat.add_zero] at ih ⊢; exact ih
    | false => simp only [hr, Bool.not_false, cond_true, Bool.false_eq_true, if_false] at ih ⊢; exact_mod_cast ih
def exc (l : List UInt8) (f t : Nat) : List UInt8 :=
  ((l.drop (f - tw (l.take f))).takeWhile (· != 10) ++ [10]) ++ (marg ((l.drop (f - tw (l.take f))).take (tw (l.take f))) ++ List.replicate (max (car ((l.drop f).take (min (t - f) (ln (l.drop f))))) 1) 94)
def excerpt (l : List UInt8) (f t : Int) : List UInt8 × Int := if f < 0 ∨ t < f ∨ l.length < t then ([], 2) else (exc l f.toNat t.toNat, 0)
theorem tw_all (l : List UInt8) : ∀ x ∈ l.drop (l.length - tw l), (x != 10) = true := by
  intro x hx
  have e : l.drop (l.length - tw l) = (l.reverse.takeWhile (· != 10)).reverse := by
    have h : l.reverse.takeWhile (· != 10) = l.reverse.take (tw l) := by
      have := List.takeWhile_prefix (l := l.reverse) (p := (· != 10))
      rw [List.prefix_iff_eq_take] at this
      exact this
    rw [h, List.take_reverse, List.reverse_reverse]
  rw [e, List.mem_reverse] at hx
  exact of_takeWhile (p := (· != 10)) hx
theorem line_split (l : List UInt8) (f : Nat) (hf : f ≤ l.length) :
    (l.drop (f - tw (l.take f))).takeWhile (· != 10) = (l.drop (f - tw (l.take f))).take (tw (l.take f)) ++ (l.drop f).takeWhile (· != 10) := by
  have hle := tw_le (l.take f)
  have hlen : (l.take f).length = f := by rw [List.length_take]; omega
  have hs : l.drop (f - tw (l.take f)) = (l.drop (f - tw (l.take f))).take (tw (l.take f)) ++ l.drop f := by
    have := (List.take_append_drop (tw (l.take f)) (l.drop (f - tw (l.take f)))).symm
    rw [List.drop_drop, show f - tw (l.take f) + tw (l.take f) = f from by omega] at this
    exact this
  have ha := tw_all (l.take f)
  rw [hlen] at ha
  have e2 : (l.take f).drop (f - tw (l.take f)) = (l.drop (f - tw (l.take f))).take (tw (l.take f)) := by
    rw [List.drop_take, show f - (f - tw (l.take f)) = tw (l.take f) from by omega]
  rw [e2] at ha
  conv => lhs; rw [hs]
  rw [List.takeWhile_append_of_pos ha]
theorem repeat_one (c : UInt8) : ∀ n, Lib.repeatL [c] n = List.replicate n c
  | 0 => rfl
  | n + 1 => by rw [Lib.repeatL, repeat_one c n]; rfl
theorem p13_eq (n : Nat) (l : List UInt8) (f t : Int) (hb : l.length < 2 ^ 40) (hn : l.length + 1 < n) (k : ByteArray → Int → Option R) : p13 n (bs l) f t k = k (bs (excerpt l f t).1) (excerpt l f t).2 := by
  unfold p13 p13_c3 excerpt
  by_cases h0 : f < 0
  · simp (disch := (first | omega | (simp only [List.length_append, List.length_cons, List.length_nil, List.length_replicate, List.length_take, List.length_drop]; omega))) only [↓c_pos, ↓c_neg, dec_t, dec_f, Bool.and_true, Bool.true_and, Bool.and_false, Bool.false_and, Bool.not_true, Bool.not_false, cond_true, cond_false, inR_t, cutR_t, roomB_t, lenOK_t, w64, bs_size, List.length_append, List.length_cons, List.length_nil, bs_extract, bs_append, bs_push, bs_data, bs_empty, bs_lit, catS_bs, eqS_bs, ite_pos', ite_neg', decide_true, decide_false, if_true, if_false, h0, true_or]
  by_cases h1 : f > t
  · simp (disch := (first | omega | (simp only [List.length_append, List.length_cons, List.length_nil, List.length_replicate, List.length_take, List.length_drop]; omega))) only [↓c_pos, ↓c_neg, dec_t, dec_f, Bool.and_true, Bool.true_and, Bool.and_false, Bool.false_and, Bool.not_true, Bool.not_false, cond_true, cond_false, inR_t, cutR_t, roomB_t, lenOK_t, w64, bs_size, List.length_append, List.length_cons, List.length_nil, bs_extract, bs_append, bs_push, bs_data, bs_empty, bs_lit, catS_bs, eqS_bs, ite_pos', ite_neg', decide_true, decide_false, if_true, if_false, h1, true_or, or_true]
  by_cases h2 : t > l.length
  · simp (disch := (first | omega | (simp only [List.length_append, List.length_cons, List.length_nil, List.length_replicate, List.length_take, List.length_drop]; omega))) only [↓c_pos, ↓c_neg, dec_t, dec_f, Bool.and_true, Bool.true_and, Bool.and_false, Bool.false_and, Bool.not_true, Bool.not_false, cond_true, cond_false, inR_t, cutR_t, roomB_t, lenOK_t, w64, bs_size, List.length_append, List.length_cons, List.length_nil, bs_extract, bs_append, bs_push, bs_data, bs_empty, bs_lit, catS_bs, eqS_bs, ite_pos', ite_neg', decide_true, decide_false, if_true, if_false]
  obtain ⟨f, rfl⟩ := Int.eq_ofNat_of_zero_le (Int.not_lt.1 h0)
  obtain ⟨t, rfl⟩ := Int.eq_ofNat_of_zero_le (show 0 ≤ t by omega)
  have htw := tw_le (l.take f)
  have hlen : (l.take f).length = f := by rw [List.length_take]; omega
  have hln := ln_le (l.drop f)
  rw [List.length_drop] at hln
  have hp20 := p20_eq (R := R) n (l.take f) (by omega) (by omega)
  have hp21 := p21_eq (R := R) n l f (by omega) (by omega)
  obtain ⟨b, hbd⟩ : ∃ b, b = f - tw (l.take f) := ⟨_, rfl⟩
  have e0 : (List.drop (0 : Int).toNat (List.take (f : Int).toNat l)) = l.take f := rfl
  have e1 : (f : Int) - 1 - (tw (l.take f) : Int) + 1 = (b : Int) := by omega
  have e2 : (f : Int) - (b : Int) = ((tw (l.take f) : Nat) : Int) := by omega
  have e3 : (List.drop ((b : Int)).toNat (List.take (((f + ln (l.drop f) : Nat) : Int)).toNat l)) = (l.drop b).takeWhile (· != 10) := by
    rw [hbd, line_split l f (by omega), ← take_ln]
    simp only [Int.toNat_natCast]
    rw [← hbd, List.drop_take, show f + ln (l.drop f) - b = tw (l.take f) + ln (l.drop f) from by omega, List.take_add, List.drop_drop, show b + tw (l.take f) = f from by omega]
  have hL : ((l.drop b).takeWhile (· != 10)).length ≤ l.length := by
    have := ln_le (l.drop b); unfold ln at this; rw [List.length_drop] at this; omega
  have hk1 := fun k0 => p13_loop1 (R := R) n l ((l.drop b).takeWhile (· != 10) ++ [10]) f t ((f + ln (l.drop f) : Nat) : Int) b (tw (l.take f)) (by omega) hb (by rw [List.length_append]; simp only [List.length_cons, List.length_nil]; omega) k0 (tw (l.take f)) n 0 (by omega) (by omega)
  simp only [List.take_zero, marg, List.flatMap_nil, List.append_nil] at hk1
  rw [show ((0 : Nat) : Int) = 0 from rfl] at hk1
  have hk2 := fun B k0 => p13_loop2 (R := R) n l f (min (t - f) (ln (l.drop f))) t B (by omega) hb k0 (min (t - f) (ln (l.drop f))) n 0 (by omega) (by omega)
  simp only [List.take_zero, car, List.countP_nil] at hk2
  rw [show ((0 : Nat) : Int) = 0 from rfl] at hk2
  have e4 : minI (t : Int) ((f + ln (l.drop f) : Nat) : Int) - (f : Int) = ((min (t - f) (ln (l.drop f)) : Nat) : Int) := by unfold minI; split <;> omega
  have e5 : maxI 0 ((min (t - f) (ln (l.drop f)) : Nat) : Int) = ((min (t - f) (ln (l.drop f)) : Nat) : Int) := by unfold maxI; split <;> omega
  have hc := car_le ((l.drop f).take (min (t - f) (ln (l.drop f))))
  rw [List.length_take, List.length_drop] at hc
  have e6 : maxI (car ((l.drop f).take (min (t - f) (ln (l.drop f)))) : Int) 1 = ((max (car ((l.drop f).take (min (t - f) (ln (l.drop f))))) 1 : Nat) : Int) := by unfold maxI; split <;> omega
  have hm := marg_le ((l.drop b).take (tw (l.take f)))
  rw [List.length_take, List.length_drop] at hm
  have hL2 : (List.takeWhile (fun x => x != 10) (List.drop b l) ++ [10] ++ marg (List.take (tw (List.take f l)) (List.drop b l))).length ≤ 2 * l.length + 1 := by
    simp only [List.length_append, List.length_cons, List.length_nil]; omega
  have hcl : ([94] : List UInt8).length = 1 := rfl
  have hn0 : ([] : List UInt8).length = 0 := rfl
  have h10 : ([10] : List UInt8).length = 1 := rfl
  have e7 : ∀ c : Nat, repB (bs [94]) ((max c 1 : Nat) : Int) = bs (List.replicate (max c 1) 94) := fun c => by rw [repB_bs, Int.toNat_natCast, repeat_one]
  have hrl : ∀ c : Nat, (List.replicate (max c 1) (94 : UInt8)).length = max c 1 := fun c => List.length_replicate
  have e8 : ∀ c : Nat, ((max c 1 : Nat) : Int).toNat = max c 1 := fun c => Int.toNat_natCast _
  simp only [marg, car] at *
  simp (disch := (first | omega | (simp only [List.length_append, List.length_cons, List.length_nil, List.length_replicate, List.length_take, List.length_drop]; omega))) only [↓c_pos, ↓c_neg, dec_t, dec_f, Bool.and_true, Bool.true_and, Bool.and_false, Bool.false_and, Bool.not_true, Bool.not_false, cond_true, cond_false, inR_t, cutR_t, roomB_t, lenOK_t, w64, bs_size, List.length_append, List.length_cons, List.length_nil, bs_extract, bs_append, bs_push, bs_data, bs_empty, bs_lit, catS_bs, eqS_bs, ite_pos', ite_neg', decide_true, decide_false, if_true, if_false, e0, hp20, hlen, hp21, e1, e2, e3, hcl, h10, hn0, List.nil_append, p13_l9, p13_l19, hk1, e4, e5, hk2, e6]
  generalize hC : List.countP (fun c => !isRest c) (List.take (min (t - f) (ln (List.drop f l))) (List.drop f l)) = C at *
  simp (disch := (first | omega | (simp only [List.length_append, List.length_cons, List.length_nil, List.length_replicate, List.length_take, List.length_drop]; omega))) only [↓c_pos, ↓c_neg, dec_t, dec_f, Bool.and_true, Bool.true_and, Bool.and_false, Bool.false_and, Bool.not_true, Bool.not_false, cond_true, cond_false, inR_t, cutR_t, roomB_t, lenOK_t, w64, bs_size, List.length_append, List.length_cons, List.length_nil, bs_extract, bs_append, bs_push, bs_data, bs_empty, bs_lit, catS_bs, eqS_bs, ite_pos', ite_neg', decide_true, decide_false, if_true, if_false, e7, e8, hrl, Bool.and_true, Bool.true_and]
  unfold exc
  simp only [Int.toNat_natCast, marg, car]
  rw [hC, ← hbd, List.append_assoc]
theorem isRest_ge {c : UInt8} (h : ¬ 128 ≤ c.toNat) : isRest c = false := by unfold isRest; rw [decide_eq_false h]; rfl
theorem isRest_lt {c : UInt8} (h : 128 ≤ c.toNat) : isRest c = decide ((c.toNat : Int) < 192) := by
  unfold isRest
  rw [decide_eq_true h, Bool.true_and]
  by_cases h2 : c.toNat ≤ 191
  · rw [decide_eq_true h2, decide_eq_true (by omega)]
  · rw [decide_eq_false h2, decide_eq_false (by omega)]
theorem p14_loop (n : Nat) (L O : List UInt8) (f t col : Nat) (hft : f ≤ t) (ht : t < 2 ^ 40) (hb : L.length < 2 ^ 40) (hO : O.length < 2 ^ 41) (k0 : ByteArray → ByteArray → Option R) : ∀ (d m i : Nat), d + i = L.length → d < m →
    p14_l8L n m f t col (bs L) (bs (O ++ marg (L.take (min i col)))) (bs (List.replicate (car ((L.drop col).take (min (i - col) (t - f)))) 94)) i k0
      = k0 (bs (O ++ marg (L.take (min L.length col)))) (bs (List.replicate (car ((L.drop col).take (min (L.length - col) (t - f)))) 94))
  | 0, m + 1, i, h, _ => by
    simp only [p14_l8L, p14_l8B]
    have e : i = L.length := by omega
    simp (disch := (first | omega | (simp only [List.length_append, List.length_cons, List.length_nil, List.length_replicate, List.length_take, List.length_drop]; omega))) only [↓c_pos, ↓c_neg, dec_t, dec_f, Bool.and_true, Bool.true_and, Bool.and_false, Bool.false_and, Bool.not_true, Bool.not_false, cond_true, cond_false, inR_t, cutR_t, roomB_t, lenOK_t, w64, bs_size, List.length_append, List.length_cons, List.length_nil, bs_extract, bs_append, bs_push, bs_data, bs_empty, bs_lit, catS_bs, eqS_bs, ite_pos', ite_neg', decide_true, decide_false, if_true, if_false, e]
  | d + 1, m + 1, i, h, hm => by
    have ih := p14_loop n L O f t col hft ht hb hO k0 d m (i + 1) (by omega) (by omega)
    have hm1 := marg_le (L.take (min i col))
    have hm2 := car_le ((L.drop col).take (min (i - col) (t - f)))
    rw [List.length_take] at hm1
    rw [List.length_take, List.length_drop] at hm2
    have e2 : ((i : Int) + 1) = ((i + 1 : Nat) : Int) := by omega
    have key : ∀ r : Bool, isRest L[i] = r → p14_c11 n f t col (bs L) (bs (O ++ marg (L.take (min i col)))) (bs (List.replicate (car ((L.drop col).take (min (i - col) (t - f)))) 94)) i r
        (fun y8 y9 y10 y11 y12 y13 y14 => p14_c9 n y8 y9 y10 y11 y12 y13 y14 (fun y15 y16 y17 y18 y19 y20 y21 => p14_l8L n m y15 y16 y17 y18 y19 y20 y21 k0))
        = k0 (bs (O ++ marg (L.take (min L.length col)))) (bs (List.replicate (car ((L.drop col).take (min (L.length - col) (t - f)))) 94)) := by
      intro r hr
      rw [← ih]
      unfold p14_c11 p14_c12 p14_c14 p14_c9
      by_cases hc : i < col
      · have q1 : min i col = i := by omega
        have q2 : min (i + 1) col = i + 1 := by omega
        have q3 : i - col = 0 := by omega
        have q4 : i + 1 - col = 0 := by omega
        have hs := marg_snoc (L.take i) L[i]
        rw [← take_snoc' (by omega)] at hs
        rw [q1, q2, q3, q4, hs, hr]
        rw [q1] at hm1
        simp (disch := (first | omega | (simp only [List.length_append, List.length_cons, List.length_nil, List.length_replicate, List.length_take, List.length_drop]; omega))) only [↓c_pos, ↓c_neg, dec_t, dec_f, Bool.and_true, Bool.true_and, Bool.and_false, Bool.false_and, Bool.not_true, Bool.not_false, cond_true, cond_false, inR_t, cutR_t, roomB_t, lenOK_t, w64, bs_size, List.length_append, List.length_cons, List.length_nil, bs_extract, bs_append, bs_push, bs_data, bs_empty, bs_lit, catS_bs, eqS_bs, ite_pos', ite_neg', decide_true, decide_false, if_true, if_false, byte_get, eq9, e2]
        by_cases h9 : L[i] = 9
        · simp (disch := (first | omega | (simp only [List.length_append, List.length_cons, List.length_nil, List.length_replicate, List.length_take, List.length_drop]; omega))) only [↓c_pos, ↓c_neg, dec_t, dec_f, Bool.and_true, Bool.true_and, Bool.and_false, Bool.false_and, Bool.not_true, Bool.not_false, cond_true, cond_false, inR_t, cutR_t, roomB_t, lenOK_t, w64, bs_size, List.length_append, List.length_cons, List.length_nil, bs_extract, bs_append, bs_push, bs_data, bs_empty, bs_lit, catS_bs, eqS_bs, ite_pos', ite_neg', decide_true, decide_false, if_true, if_false, h9, List.append_assoc]
        · cases r
          · simp (disch := (first | omega | (simp only [List.length_append, List.length_cons, List.length_nil, List.length_replicate, List.length_take, List.length_drop]; omega))) only [↓c_pos, ↓c_neg, dec_t, dec_f, Bool.and_true, Bool.true_and, Bool.and_false, Bool.false_and, Bool.not_true, Bool.not_false, cond_true, cond_false, inR_t, cutR_t, roomB_t, lenOK_t, w64, bs_size, List.length_append, List.length_cons, List.length_nil, bs_extract, bs_append, bs_push, bs_data, bs_empty, bs_lit, catS_bs, eqS_bs, ite_pos', ite_neg', decide_true, decide_false, if_true, if_false, h9, List.append_assoc]
            first | done | rfl
          · simp (disch := (first | omega | (simp only [List.length_append, List.length_cons, List.length_nil, List.length_replicate, List.length_take, List.length_drop]; omega))) only [↓c_pos, ↓c_neg, dec_t, dec_f, Bool.and_true, Bool.true_and, Bool.and_false, Bool.false_and, Bool.not_true, Bool.not_false, cond_true, cond_false, inR_t, cutR_t, roomB_t, lenOK_t, w64, bs_size, List.length_append, List.length_cons, List.length_nil, bs_extract, bs_append, bs_push, bs_data, bs_empty, bs_lit, catS_bs, eqS_bs, ite_pos', ite_neg', decide_true, decide_false, if_true, if_false, h9, List.append_nil]
            first | done | rfl
      · have q1 : min i col = col := by omega
        have q2 : min (i + 1) col = col := by omega
        rw [q1, q2]
        by_cases hw : i - col < t - f
        · have q3 : min (i - col) (t - f) = i - col := by omega
          have q4 : min (i + 1 - col) (t - f) = (i - col) + 1 := by omega
          have hs := car_snoc ((L.drop col).take (i - col)) L[i]
          have hg : L[i] = (L.drop col)[i - col]'(by rw [List.length_drop]; omega) := by
            rw [List.getElem_drop]; congr 1; omega
          rw [hg, ← take_snoc' (by rw [List.length_drop]; omega), ← hg] at hs
          rw [q3, q4, hs, hr]
          rw [q3] at hm2
          have e3 : ((i : Int) - (col : Int)) < (t : Int) - (f : Int) := by omega
          simp (disch := (first | omega | (simp only [List.length_append, List.length_cons, List.length_nil, List.length_replicate, List.length_take, List.length_drop]; omega))) only [↓c_pos, ↓c_neg, dec_t, dec_f, Bool.and_true, Bool.true_and, Bool.and_false, Bool.false_and, Bool.not_true, Bool.not_false, cond_true, cond_false, inR_t, cutR_t, roomB_t, lenOK_t, w64, bs_size, List.length_append, List.length_cons, List.length_nil, bs_extract, bs_append, bs_push, bs_data, bs_empty, bs_lit, catS_bs, eqS_bs, ite_pos', ite_neg', decide_true, decide_false, if_true, if_false, e2, List.length_replicate]
          cases r
          · simp (disch := (first | omega | (simp only [List.length_append, List.length_cons, List.length_nil, List.length_replicate, List.length_take, List.length_drop]; omega))) only [↓c_pos, ↓c_neg, dec_t, dec_f, Bool.and_true, Bool.true_and, Bool.and_false, Bool.false_and, Bool.not_true, Bool.not_false, cond_true, cond_false, inR_t, cutR_t, roomB_t, lenOK_t, w64, bs_size, List.length_append, List.length_cons, List.length_nil, bs_extract, bs_append, bs_push, bs_data, bs_empty, bs_lit, catS_bs, eqS_bs, ite_pos', ite_neg', decide_true, decide_false, if_true, if_false, List.length_replicate]
            rw [show car (List.take (i - col) (List.drop col L)) + (if false = true then 0 else 1) = car (List.take (i - col) (List.drop col L)) + 1 from rfl, List.replicate_succ']
          · simp (disch := (first | omega | (simp only [List.length_append, List.length_cons, List.length_nil, List.length_replicate, List.length_take, List.length_drop]; omega))) only [↓c_pos, ↓c_neg, dec_t, dec_f, Bool.and_true, Bool.true_and, Bool.and_false, Bool.false_and, Bool.not_true, Bool.not_false, cond_true, cond_false, inR_t, cutR_t, roomB_t, lenOK_t, w64, bs_size, List.length_append, List.length_cons, List.length_nil, bs_extract, bs_append, bs_push, bs_data, bs_empty, bs_lit, catS_bs, eqS_bs, ite_pos', ite_neg', decide_true, decide_false, if_true, if_false, Nat.add_zero]
        · have q3 : min (i - col) (t - f) = t - f := by omega
          have q4 : min (i + 1 - col) (t - f) = t - f := by omega
          rw [q3, q4]
          simp (disch := (first | omega | (simp only [List.length_append, List.length_cons, List.length_nil, List.length_replicate, List.length_take, List.length_drop]; omega))) only [↓c_pos, ↓c_neg, dec_t, dec_f, Bool.and_true, Bool.true_and, Bool.and_false, Bool.false_and, Bool.not_true, Bool.not_false, cond_true, cond_false, inR_t, cutR_t, roomB_t, lenOK_t, w64, bs_size, List.length_append, List.length_cons, List.length_nil, bs_extract, bs_append, bs_push, bs_data, bs_empty, bs_lit, catS_bs, eqS_bs, ite_pos', ite_neg', decide_true, decide_false, if_true, if_false, e2]
    simp only [p14_l8L, p14_l8B]
    by_cases h128 : 128 ≤ L[i].toNat
    · simp (disch := (first | omega | (simp only [List.length_append, List.length_cons, List.length_nil, List.length_replicate, List.length_take, List.length_drop]; omega))) only [↓c_pos, ↓c_neg, dec_t, dec_f, Bool.and_true, Bool.true_and, Bool.and_false, Bool.false_and, Bool.not_true, Bool.not_false, cond_true, cond_false, inR_t, cutR_t, roomB_t, lenOK_t, w64, bs_size, List.length_append, List.length_cons, List.length_nil, bs_extract, bs_append, bs_push, bs_data, bs_empty, bs_lit, catS_bs, eqS_bs, ite_pos', ite_neg', decide_true, decide_false, if_true, if_false, byte_get]
      exact key _ (isRest_lt h128)
    · simp (disch := (first | omega | (simp only [List.length_append, List.length_cons, List.length_nil, List.length_replicate, List.length_take, List.length_drop]; omega))) only [↓c_pos, ↓c_neg, dec_t, dec_f, Bool.and_true, Bool.true_and, Bool.and_false, Bool.false_and, Bool.not_true, Bool.not_false, cond_true, cond_false, inR_t, cutR_t, roomB_t, lenOK_t, w64, bs_size, List.length_append, List.length_cons, List.length_nil, bs_extract, bs_append, bs_push, bs_data, bs_empty, bs_lit, catS_bs, eqS_bs, ite_pos', ite_neg', decide_true, decide_false, if_true, if_false, byte_get]
      exact key _ (isRest_ge h128)
theorem p14_eq (n : Nat) (l : List UInt8) (f t : Int) (hb : l.length < 2 ^ 40) (hn : l.length + 1 < n) (k : ByteArray → Int → Option R) : p14 n (bs l) f t k = k (bs (excerpt l f t).1) (excerpt l f t).2 := by
  unfold p14 p14_c3 excerpt
  by_cases h0 : f < 0
  · simp (disch := (first | omega | (simp only [List.length_append, List.length_cons, List.length_nil, List.length_replicate, List.length_take, List.length_drop]; omega))) only [↓c_pos, ↓c_neg, dec_t, dec_f, Bool.and_true, Bool.true_and, Bool.and_false, Bool.false_and, Bool.not_true, Bool.not_false, cond_true, cond_false, inR_t, cutR_t, roomB_t, lenOK_t, w64, bs_size, List.length_append, List.length_cons, List.length_nil, bs_extract, bs_append, bs_push, bs_data, bs_empty, bs_lit, catS_bs, eqS_bs, ite_pos', ite_neg', decide_true, decide_false, if_true, if_false, h0, true_or]
  by_cases h1 : f > t
  · simp (disch := (first | omega | (simp only [List.length_append, List.length_cons, List.length_nil, List.length_replicate, List.length_take, List.length_drop]; omega))) only [↓c_pos, ↓c_neg, dec_t, dec_f, Bool.and_true, Bool.true_and, Bool.and_false, Bool.false_and, Bool.not_true, Bool.not_false, cond_true, cond_false, inR_t, cutR_t, roomB_t, lenOK_t, w64, bs_size, List.length_append, List.length_cons, List.length_nil, bs_extract, bs_append, bs_push, bs_data, bs_empty, bs_lit, catS_bs, eqS_bs, ite_pos', ite_neg', decide_true, decide_false, if_true, if_false, h1, true_or, or_true]
  by_cases h2 : t > l.length
  · simp (disch := (first | omega | (simp only [List.length_append, List.length_cons, List.length_nil, List.length_replicate, List.length_take, List.length_drop]; omega))) only [↓c_pos, ↓c_neg, dec_t, dec_f, Bool.and_true, Bool.true_and, Bool.and_false, Bool.false_and, Bool.not_true, Bool.not_false, cond_true, cond_false, inR_t, cutR_t, roomB_t, lenOK_t, w64, bs_size, List.length_append, List.length_cons, List.length_nil, bs_extract, bs_append, bs_push, bs_data, bs_empty, bs_lit, catS_bs, eqS_bs, ite_pos', ite_neg', decide_true, decide_false, if_true, if_false]
  obtain ⟨f, rfl⟩ := Int.eq_ofNat_of_zero_le (Int.not_lt.1 h0)
  obtain ⟨t, rfl⟩ := Int.eq_ofNat_of_zero_le (show 0 ≤ t by omega)
  have hlc : lineCol l f = ((((l.take f).count 10 : Nat) : Int), ((tw (l.take f) : Nat) : Int), 0) := by
    unfold lineCol; rw [if_neg (by omega)]; rfl
  have hp12 := fun k0 => p12_eq (R := R) n l f (by omega) (by omega) k0
  simp only [hlc] at hp12
  have hbg := begR_count l f (by omega)
  have hbi : begI l ((l.take f).count 10 : Nat) = ((f - tw (l.take f) : Nat) : Int) := by
    unfold begI
    rw [if_neg (by omega), Int.toNat_natCast, hbg]
  have hline : line l ((l.take f).count 10 : Nat) = ((l.drop (f - tw (l.take f))).takeWhile (· != 10), 0) := by
    unfold line
    rw [hbi, if_neg (by omega), Int.toNat_natCast]
  have hp18 := fun k0 => p18_eq (R := R) n l ((l.take f).count 10 : Nat) (by omega) (by omega) k0
  simp only [hline] at hp18
  have hs := line_split l f (by omega)
  have htw := tw_le (l.take f)
  have hlen : (l.take f).length = f := by rw [List.length_take]; omega
  obtain ⟨L, hL⟩ : ∃ L, L = (l.drop (f - tw (l.take f))).takeWhile (· != 10) := ⟨_, rfl⟩
  rw [← hL] at hp18 hs
  have hLl : L.length ≤ l.length := by
    rw [hL]; have := ln_le (l.drop (f - tw (l.take f))); unfold ln at this; rw [List.length_drop] at this; omega
  have hA : (List.take (tw (l.take f)) (l.drop (f - tw (l.take f)))).length = tw (l.take f) := by rw [List.length_take, List.length_drop]; omega
  have hT : L.take (tw (l.take f)) = (l.drop (f - tw (l.take f))).take (tw (l.take f)) := by rw [hs, List.take_append_of_le_length (by omega), List.take_of_length_le (by omega)]
  have hD : L.drop (tw (l.take f)) = (l.drop f).take (ln (l.drop f)) := by rw [hs, List.drop_append_of_le_length (by omega), List.drop_of_length_le (by omega), take_ln]; rfl
  have hLn : L.length = tw (l.take f) + ln (l.drop f) := by rw [hs, List.length_append, hA]; rfl
  have hlp := fun k0 => p14_loop (R := R) n L (L ++ [10]) f t (tw (l.take f)) (by omega) (by omega) (by omega) (by rw [List.length_append]; simp only [List.length_cons, List.length_nil]; omega) k0 L.length n 0 (by omega) (by omega)
  simp only [Nat.zero_min, Nat.zero_sub, List.take_zero, marg, car, List.flatMap_nil, List.countP_nil, List.replicate_zero, List.append_nil] at hlp
  rw [show ((0 : Nat) : Int) = 0 from rfl] at hlp
  have hf2 : min L.length (tw (l.take f)) = tw (l.take f) := by omega
  have hf3 : L.length - tw (l.take f) = ln (l.drop f) := by omega
  rw [hf2, hT, hf3, hD, List.take_take] at hlp
  have hmn : min (min (ln (List.drop f l)) (t - f)) (ln (List.drop f l)) = min (t - f) (ln (l.drop f)) := by omega
  rw [hmn] at hlp
  have hm := marg_le ((l.drop (f - tw (l.take f))).take (tw (l.take f)))
  rw [List.length_take, List.length_drop] at hm
  have hcl := car_le ((l.drop f).take (min (t - f) (ln (l.drop f))))
  rw [List.length_take, List.length_drop] at hcl
  unfold exc
  simp only [marg, car, Int.toNat_natCast] at *
  rw [← hL]
  generalize hC : List.countP (fun c => !isRest c) (List.take (min (t - f) (ln (List.drop f l))) (List.drop f l)) = C at *
  simp (disch := (first | omega | (simp only [List.length_append, List.length_cons, List.length_nil, List.length_replicate, List.length_take, List.length_drop]; omega))) only [↓c_pos, ↓c_neg, dec_t, dec_f, Bool.and_true, Bool.true_and, Bool.and_false, Bool.false_and, Bool.not_true, Bool.not_false, cond_true, cond_false, inR_t, cutR_t, roomB_t, lenOK_t, w64, bs_size, List.length_append, List.length_cons, List.length_nil, bs_extract, bs_append, bs_push, bs_data, bs_empty, bs_lit, catS_bs, eqS_bs, ite_pos', ite_neg', decide_true, decide_false, if_true, if_false, hp12, hp18, p14_l8, hlp, p14_c19, List.length_replicate]
  by_cases hC0 : C = 0
  · simp (disch := (first | omega | (simp only [List.length_append, List.length_cons, List.length_nil, List.length_replicate, List.length_take, List.length_drop]; omega))) only [↓c_pos, ↓c_neg, dec_t, dec_f, Bool.and_true, Bool.true_and, Bool.and_false, Bool.false_and, Bool.not_true, Bool.not_false, cond_true, cond_false, inR_t, cutR_t, roomB_t, lenOK_t, w64, bs_size, List.length_append, List.length_cons, List.length_nil, bs_extract, bs_append, bs_push, bs_data, bs_empty, bs_lit, catS_bs, eqS_bs, ite_pos', ite_neg', decide_true, decide_false, if_true, if_false, hC0]
    simp [bs]
  · rw [show max C 1 = C from by omega]
    have : (List.replicate C (94 : UInt8) == []) = false := by
      cases C with
      | zero => exact absurd rfl hC0
      | succ C => rfl
    simp (disch := (first | omega | (simp only [List.length_append, List.length_cons, List.length_nil, List.length_replicate, List.length_take, List.length_drop]; omega))) only [↓c_pos, ↓c_neg, dec_t, dec_f, Bool.and_true, Bool.true_and, Bool.and_false, Bool.false_and, Bool.not_true, Bool.not_false, cond_true, cond_false, inR_t, cutR_t, roomB_t, lenOK_t, w64, bs_size, List.length_append, List.length_cons, List.length_nil, bs_extract, bs_append, bs_push, bs_data, bs_empty, bs_lit, catS_bs, eqS_bs, ite_pos', ite_neg', decide_true, decide_false, if_true, if_false, this, List.append_assoc]
theorem p17_eq (n : Nat) (l : List UInt8) (x : Int) (hx : x < 2 ^ 63) (hb : l.length < 2 ^ 62) (hn : l.length + 1 < n) (k : ByteArray → Int → Option R) : p17 n (bs l) x k = k (bs (line l x).1) (line l x).2 := by
  unfold p17
  rw [p27_eq n l x hx hb hn]
  have hle := begI_le l x
  by_cases h : begI l x < 0
  · simp (disch := (first | omega | (simp only [List.length_append, List.length_cons, List.length_nil, List.length_replicate, List.length_take, List.length_drop]; omega))) only [↓c_pos, ↓c_neg, dec_t, dec_f, Bool.and_true, Bool.true_and, Bool.and_false, Bool.false_and, Bool.not_true, Bool.not_false, cond_true, cond_false, inR_t, cutR_t, roomB_t, lenOK_t, w64, bs_size, List.length_append, List.length_cons, List.length_nil, bs_extract, bs_append, bs_push, bs_data, bs_empty, bs_lit, catS_bs, eqS_bs, ite_pos', ite_neg', decide_true, decide_false, if_true, if_false, line, h]
  · obtain ⟨b, hb2⟩ := Int.eq_ofNat_of_zero_le (Int.not_lt.1 h)
    have hp := p21_eq (R := R) n l b (by omega) hb
    have hl := ln_le (l.drop b)
    rw [List.length_drop] at hl
    unfold line
    rw [hb2]
    simp (disch := (first | omega | (simp only [List.length_append, List.length_cons, List.length_nil, List.length_replicate, List.length_take, List.length_drop]; omega))) only [↓c_pos, ↓c_neg, dec_t, dec_f, Bool.and_true, Bool.true_and, Bool.and_false, Bool.false_and, Bool.not_true, Bool.not_false, cond_true, cond_false, inR_t, cutR_t, roomB_t, lenOK_t, w64, bs_size, List.length_append, List.length_cons, List.length_nil, bs_extract, bs_append, bs_push, bs_data, bs_empty, bs_lit, catS_bs, eqS_bs, ite_pos', ite_neg', decide_true, decide_false, if_true, if_false, hp]
    simp only [Int.toNat_natCast]
    rw [← take_ln, List.drop_take, show b + ln (l.drop b) - b = ln (l.drop b) from by omega]
theorem p16_eq (n : Nat) (l : List UInt8) (x y : Int) (hx1 : x < 2 ^ 63) (hb : l.length < 2 ^ 62) (hn : l.length + 1 < n) (k : Int → Int → Option R) : p16 n (bs l) x y k = k (offset l x y).1 (offset l x y).2 := by
  unfold p16 offset
  rw [p18_eq n l x hb hn]
  have hle := begI_le l x
  unfold line
  by_cases h : begI l x < 0
  · simp (disch := (first | omega | (simp only [List.length_append, List.length_cons, List.length_nil, List.length_replicate, List.length_take, List.length_drop]; omega))) only [↓c_pos, ↓c_neg, dec_t, dec_f, Bool.and_true, Bool.true_and, Bool.and_false, Bool.false_and, Bool.not_true, Bool.not_false, cond_true, cond_false, inR_t, cutR_t, roomB_t, lenOK_t, w64, bs_size, List.length_append, List.length_cons, List.length_nil, bs_extract, bs_append, bs_push, bs_data, bs_empty, bs_lit, catS_bs, eqS_bs, ite_pos', ite_neg', decide_true, decide_false, if_true, if_false, h]
    rfl
  · obtain ⟨b, hb2⟩ := Int.eq_ofNat_of_zero_le (Int.not_lt.1 h)
    have hl := ln_le (l.drop b)
    rw [List.length_drop] at hl
    have hp := fun k => p28_eq (R := R) n l x hb hn k
    rw [hb2] at hp ⊢
    have hL : ((l.drop b).takeWhile (· != 10)).length = ln (l.drop b) := rfl
    simp only [Int.toNat_natCast]
    by_cases h1 : y < 0
    · simp (disch := (first | omega | (simp only [List.length_append, List.length_cons, List.length_nil, List.length_replicate, List.length_take, List.length_drop]; omega))) only [↓c_pos, ↓c_neg, dec_t, dec_f, Bool.and_true, Bool.true_and, Bool.and_false, Bool.false_and, Bool.not_true, Bool.not_false, cond_true, cond_false, inR_t, cutR_t, roomB_t, lenOK_t, w64, bs_size, List.length_append, List.length_cons, List.length_nil, bs_extract, bs_append, bs_push, bs_data, bs_empty, bs_lit, catS_bs, eqS_bs, ite_pos', ite_neg', decide_true, decide_false, if_true, if_false, h1, show ((0 : Int) != 0) = false from rfl, true_or]
    by_cases h2 : y > ln (l.drop b)
    · simp (disch := (first | omega | (simp only [List.length_append, List.length_cons, List.length_nil, List.length_replicate, List.length_take, List.length_drop]; omega))) only [↓c_pos, ↓c_neg, dec_t, dec_f, Bool.and_true, Bool.true_and, Bool.and_false, Bool.false_and, Bool.not_true, Bool.not_false, cond_true, cond_false, inR_t, cutR_t, roomB_t, lenOK_t, w64, bs_size, List.length_append, List.length_cons, List.length_nil, bs_extract, bs_append, bs_push, bs_data, bs_empty, bs_lit, catS_bs, eqS_bs, ite_pos', ite_neg', decide_true, decide_false, if_true, if_false, hL, show ((0 : Int) != 0) = false from rfl]
    · simp (disch := (first | omega | (simp only [List.length_append, List.length_cons, List.length_nil, List.length_replicate, List.length_take, List.length_drop]; omega))) only [↓c_pos, ↓c_neg, dec_t, dec_f, Bool.and_true, Bool.true_and, Bool.and_false, Bool.false_and, Bool.not_true, Bool.not_false, cond_true, cond_false, inR_t, cutR_t, roomB_t, lenOK_t, w64, bs_size, List.length_append, List.length_cons, List.length_nil, bs_extract, bs_append, bs_push, bs_data, bs_empty, bs_lit, catS_bs, eqS_bs, ite_pos', ite_neg', decide_true, decide_false, if_true, if_false, hL, hp, show ((0 : Int) != 0) = false from rfl]
end Go.Proofs.Ytlplpkbhjddmeaa


set_option linter.unusedVariables false
set_option maxRecDepth 100000
namespace Go.Proofs.Ytlplpkbhjddmeaa
open Go Th Go.Proofs
def ann10 : Ann := { loops := [], cuts := [], frz := [], rm := [.id] }
noncomputable abbrev env10 (n : Nat) : Env := fun i => bif Nat.beq i 15 then some (fs15 n) else (fun i => bif Nat.beq i 13 then some (fs13 n) else (fun i => bif Nat.beq i 11 then some (fs11 n) else (fun _ => none) i) i) i
theorem envok10 (n : Nat) : EnvOK Try.prog (env10 n) := EnvOK.cons (EnvOK.cons (EnvOK.cons (EnvOK.nil) (ok11 n)) (ok13 n)) (ok15 n)
noncomputable def p10 {R : Type} (n : Nat)  (k0 : Bool → Option R) : Option R :=
  p11 n ⟨#[97, 98, 10, 99, 100, 10]⟩ 4 (fun (y1 : Int) (y2 : Int) (y3 : Int) => p11 n ⟨#[97, 98, 10, 99, 100, 10]⟩ 2 (fun (y4 : Int) (y5 : Int) (y6 : Int) => p15 n ⟨#[97, 98, 10, 99, 100, 10]⟩ 1 2 (fun (y7 : Int) (y8 : Int) => p13 n ⟨#[97, 98, 10, 99, 100, 10]⟩ 3 5 (fun (y9 : ByteArray) (y10 : Int) => p13 n ⟨#[97, 98, 10, 99, 100, 10]⟩ 6 6 (fun (y11 : ByteArray) (y12 : Int) => bif (y1 == 1) then (bif (bif true then (y2 == 1) else false) then (bif (bif true then (y3 == 0) else false) then (bif (bif true then (y4 == 0) else false) then (bif (bif true then (y5 == 2) else false) then (bif (bif true then (y6 == 0) else false) then (bif (bif true then (y7 == 5) else false) then (bif (bif true then (y8 == 0) else false) then (bif (bif true then eqS y9 (⟨#[99, 100, 10, 94, 94]⟩ : ByteArray) else false) then (bif (bif true then (y10 == 0) else false) then (bif (bif true then eqS y11 (⟨#[10, 94]⟩ : ByteArray) else false) then (k0 (bif true then (y12 == 0) else false)) else (k0 false)) else (k0 false)) else (k0 false)) else (k0 false)) else (k0 false)) else (k0 false)) else (k0 false)) else (k0 false)) else (k0 false)) else (k0 false)) else (k0 false))))))
noncomputable abbrev lo10 {R : Type} (n : Nat) : Orc R := fun i vs K => none
noncomputable abbrev cu10 {R : Type} (n : Nat) : Orc R := fun i vs K => none
section
variable {R : Type}
theorem pa10 (n : Nat) : allP (PartOK (R := R) Try.prog (env10 n) ann10 n (89, []) (lo10 n) (cu10 n)) (partsOf ann10 (bodyOf Try.f10)) := by
  have h : partsOf ann10 (bodyOf Try.f10) = [] := by kernel_rfl
  rw [h]
  exact trivial
theorem ep10 (n : Nat)  (K : List SV → Option R) : evFnOi Try.prog (env10 n) ann10 (lo10 n) (cu10 n) Try.f10 [] K = p10 n  (fun (y1 : Bool) => K [.p (.v (.bool y1))]) := by kernel_rfl
noncomputable abbrev fs10a1 (n : Nat) (args : List SV) (K : List SV → Option R) : Option R := none
noncomputable abbrev fs10t0 (n : Nat) (D : Option R) (args : List SV) (K : List SV → Option R) : Option R :=
  dNil args D (p10 n  (fun (y1 : Bool) => K [.p (.v (.bool y1))]))
noncomputable abbrev fs10a0 (n : Nat) (args : List SV) (K : List SV → Option R) : Option R := fs10t0 n (fs10a1 n args K) args K
theorem hs10a1 (n : Nat) (args : List SV) (K : List SV → Option R) (res : R) : fs10a1 n args K = some res → evFn Try.prog (env10 n) ann10 n Try.f10 args K = some res := fun h => by cases h
theorem hs10a0 (n : Nat) (args : List SV) (K : List SV → Option R) (res : R) : fs10a0 n args K = some res → evFn Try.prog (env10 n) ann10 n Try.f10 args K = some res := by
  unfold fs10a0 fs10t0
  refine dNil_imp (fun e => ?_) (hs10a1 n _ K res)
  subst e
  intro h
  rw [evFn_evOi (c := bodyOf Try.f10) (by kernel_rfl) (pa10 n), ep10]
  exact h
end
noncomputable abbrev fs10 (n : Nat) : FS := { om := [], run := fun args K => fs10a0 n args K }
theorem ok10 (n : Nat) : FSound Try.prog 10 (fs10 n) :=
  FSound.of (envok10 n) (ann := ann10) (n := n) (by kernel_rfl) Try.func10 (by kernel_rfl) (by kernel_rfl) fun {R args K res} h => hs10a0 n args K res h
end Go.Proofs.Ytlplpkbhjddmeaa


namespace Go.Proofs.Ytlplpkbhjddmeaa
open Go Th Go.Proofs
theorem p10_eq {R : Type} (m : Nat) (k0 : Bool → Option R) : p10 (m + 20) k0 = k0 true := by kernel_rfl
theorem p10_run {R : Type} (n : Nat) (h : 20 ≤ n) (k0 : Bool → Option R) : p10 n k0 = k0 true := by
  rw [show n = (n - 20) + 20 from by omega]; exact p10_eq _ k0
end Go.Proofs.Ytlplpkbhjddmeaa


set_option linter.unusedVariables false
set_option maxRecDepth 100000
namespace Go.Proofs.Ytlplpkbhjddmeaa
open Go Th Go.Proofs
def ann8 : Ann := { loops := [(7, [(0, .id), (3, .id), (4, .id)], [(2, .id)])], cuts := [(8, [(0, .id), (3, .id), (4, .id)], [(0, .id), (2, .id), (3, .id), (4, .id)]), (16, [(0, .id), (3, .id), (4, .id), (5, .id)], [(0, .id), (2, .id), (3, .id), (4, .id)])], frz := [], rm := [.id] }
noncomputable abbrev env8 (n : Nat) : Env := fun i => bif Nat.beq i 17 then some (fs17 n) else (fun i => bif Nat.beq i 10 then some (fs10 n) else (fun _ => none) i) i
theorem envok8 (n : Nat) : EnvOK Try.prog (env8 n) := EnvOK.cons (EnvOK.cons (EnvOK.nil) (ok10 n)) (ok17 n)
noncomputable def p8_c16 {R : Type} (n : Nat) (x1 : ByteArray) (x2 : ByteArray) (x3 : Int) (x4 : ByteArray) (k0 : ByteArray → ByteArray → Int → Option R) : Option R :=
  catS x2 x4 fun s5 => k0 x1 s5 x3
noncomputable def p8_c8 {R : Type} (n : Nat) (x1 : ByteArray) (x2 : ByteArray) (x3 : Int) (k0 : ByteArray → ByteArray → Int → Option R) : Option R :=
  k0 x1 x2 (IntKind.i64.wrap (x3 + 1))
noncomputable def p8_l7B {R : Type} (n : Nat) (l0 : ByteArray → ByteArray → Int → Option R) (x1 : ByteArray) (x2 : ByteArray) (x3 : Int) (k0 : Bool → Option R) (k1 : Option R) : Option R :=
  let v4 := IntKind.i64.wrap (((x1).size : Int) + 1); bif (decide (x3 ≤ v4)) then (p17 n x1 x3 (fun (y5 : ByteArray) (y6 : Int) => bif (y6 == 9) then (bif (decide (x3 > 0)) then (k0 (bif true then eqS x2 x1 else false)) else (k0 false)) else (bif (y6 != 0) then (k0 false) else (bif (decide (x3 > 0)) then (catS x2 (⟨#[10]⟩ : ByteArray) fun s7 => p8_c16 n x1 s7 x3 y5 (fun (y8 : ByteArray) (y9 : ByteArray) (y10 : Int) => p8_c8 n y8 y9 y10 (fun (y11 : ByteArray) (y12 : ByteArray) (y13 : Int) => l0 y11 y12 y13))) else (p8_c16 n x1 x2 x3 y5 (fun (y14 : ByteArray) (y15 : ByteArray) (y16 : Int) => p8_c8 n y14 y15 y16 (fun (y17 : ByteArray) (y18 : ByteArray) (y19 : Int) => l0 y17 y18 y19))))))) else (k1)
noncomputable def p8_l7L {R : Type} (n : Nat) : Nat → ByteArray → ByteArray → Int → (Bool → Option R) → (Option R) → Option R
  | 0, _, _, _, _, _ => none
  | m + 1, x1, x2, x3, k0, k1 => p8_l7B n (fun x1 x2 x3 => p8_l7L n m x1 x2 x3 k0 k1) x1 x2 x3 k0 k1
noncomputable def p8_l7 {R : Type} (n : Nat) (x1 : ByteArray) (x2 : ByteArray) (x3 : Int) (k0 : Bool → Option R) (k1 : Option R) : Option R := p8_l7L n n x1 x2 x3 k0 k1
noncomputable def p8 {R : Type} (n : Nat) (x1 : ByteArray) (k0 : Bool → Option R) : Option R :=
  p10 n (fun (y2 : Bool) => bif (!y2) then (k0 false) else (bif (decide (((x1).size : Int) > 300)) then (k0 true) else (p8_l7 n x1 ⟨#[]⟩ 0 (fun (y3 : Bool) => k0 y3) (k0 false))))
noncomputable def c8_c8 : Code := subC (bodyOf Try.f8) [1, 1, 1, 1, 0, 1, 0, 0, 1, 1]
noncomputable abbrev o8_c8a1 {R : Type} (n : Nat) (vs : List SV) (K : Kc R) : Option R := evCut (fun f k => evC Try.prog (env8 n) ann8 n (43, []) c8_c8 f k) (liveA ann8.cuts 8) (outA ann8.cuts 8) vs K
noncomputable abbrev o8_c8t0 {R : Type} (n : Nat) (D : Option R) (vs : List SV) (K : Kc R) : Option R :=
  dCons vs D fun z1 z2 => dP z1 D fun z3 => dStr z3 D fun x1 => dCons z2 D fun z4 z5 => dP z4 D fun z6 => dStr z6 D fun x2 => dCons z5 D fun z7 z8 => dP z7 D fun z9 => dInt .i64 z9 D fun x3 => dNil z8 D (p8_c8 n x1 x2 x3 (fun (y1 : ByteArray) (y2 : ByteArray) (y3 : Int) => K .normal (lk (outA ann8.cuts 8) [.p (.v (.string y1)), .dead, .p (.v (.string y2)), .p (.v (.int .i64 y3))])))
noncomputable abbrev o8_c8a0 {R : Type} (n : Nat) (vs : List SV) (K : Kc R) : Option R := o8_c8t0 n (o8_c8a1 n vs K) vs K
noncomputable abbrev o8_c8 {R : Type} (n : Nat) (vs : List SV) (K : Kc R) : Option R := o8_c8a0 n vs K
noncomputable def c8_c16 : Code := subC (bodyOf Try.f8) [1, 1, 1, 1, 0, 1, 0, 0, 1, 0, 0, 1, 1, 1, 1]
noncomputable abbrev o8_c16a1 {R : Type} (n : Nat) (vs : List SV) (K : Kc R) : Option R := evCut (fun f k => evC Try.prog (env8 n) ann8 n (43, []) c8_c16 f k) (liveA ann8.cuts 16) (outA ann8.cuts 16) vs K
noncomputable abbrev o8_c16t0 {R : Type} (n : Nat) (D : Option R) (vs : List SV) (K : Kc R) : Option R :=
  dCons vs D fun z1 z2 => dP z1 D fun z3 => dStr z3 D fun x1 => dCons z2 D fun z4 z5 => dP z4 D fun z6 => dStr z6 D fun x2 => dCons z5 D fun z7 z8 => dP z7 D fun z9 => dInt .i64 z9 D fun x3 => dCons z8 D fun z10 z11 => dP z10 D fun z12 => dStr z12 D fun x4 => dNil z11 D (p8_c16 n x1 x2 x3 x4 (fun (y1 : ByteArray) (y2 : ByteArray) (y3 : Int) => K .normal (lk (outA ann8.cuts 16) [.p (.v (.string y1)), .dead, .p (.v (.string y2)), .p (.v (.int .i64 y3))])))
noncomputable abbrev o8_c16a0 {R : Type} (n : Nat) (vs : List SV) (K : Kc R) : Option R := o8_c16t0 n (o8_c16a1 n vs K) vs K
noncomputable abbrev o8_c16 {R : Type} (n : Nat) (vs : List SV) (K : Kc R) : Option R := o8_c16a0 n vs K
noncomputable def c8_l7 : Code := subC (bodyOf Try.f8) [1, 1, 1, 1, 0, 1, 0, 0]
noncomputable abbrev o8_l7a1 {R : Type} (n : Nat) (vs : List SV) (K : Kc R) : Option R := evLoop (fun f k => evC Try.prog (env8 n) ann8 n (43, []) c8_l7 f k) (liveA ann8.loops 7) (outA ann8.loops 7) n vs K
noncomputable abbrev o8_l7t0 {R : Type} (n : Nat) (D : Option R) (vs : List SV) (K : Kc R) : Option R :=
  dCons vs D fun z1 z2 => dP z1 D fun z3 => dStr z3 D fun x1 => dCons z2 D fun z4 z5 => dP z4 D fun z6 => dStr z6 D fun x2 => dCons z5 D fun z7 z8 => dP z7 D fun z9 => dInt .i64 z9 D fun x3 => dNil z8 D (p8_l7 n x1 x2 x3 (fun (y1 : Bool) => K .ret (lk (outA ann8.loops 7) [.p (.v (.bool y1))])) (K (.exit 0) (lk (outA ann8.loops 7) [.dead])))
noncomputable abbrev o8_l7a0 {R : Type} (n : Nat) (vs : List SV) (K : Kc R) : Option R := o8_l7t0 n (o8_l7a1 n vs K) vs K
noncomputable abbrev o8_l7 {R : Type} (n : Nat) (vs : List SV) (K : Kc R) : Option R := o8_l7a0 n vs K
noncomputable abbrev lo8 {R : Type} (n : Nat) : Orc R := fun i vs K => bif Nat.beq i 7 then o8_l7 n vs K else none
noncomputable abbrev cu8 {R : Type} (n : Nat) : Orc R := fun i vs K => bif Nat.beq i 16 then o8_c16 n vs K else bif Nat.beq i 8 then o8_c8 n vs K else none
section
variable {R : Type}
theorem pa8_c16 (n : Nat) : allP (PartOK (R := R) Try.prog (env8 n) ann8 n (43, []) (lo8 n) (cu8 n)) (partsOf ann8 c8_c16) := by
  have h : partsOf ann8 c8_c16 = [] := by kernel_rfl
  rw [h]
  exact trivial
theorem ep8_c16 (n : Nat) (x1 : ByteArray) (x2 : ByteArray) (x3 : Int) (x4 : ByteArray) (K : Kc R) : evCut (fun f k => evOi Try.prog (env8 n) ann8 (43, []) (lo8 n) (cu8 n) c8_c16 f k) (liveA ann8.cuts 16) (outA ann8.cuts 16) [.p (.v (.string x1)), .p (.v (.string x2)), .p (.v (.int .i64 x3)), .p (.v (.string x4))] K = p8_c16 n x1 x2 x3 x4 (fun (y1 : ByteArray) (y2 : ByteArray) (y3 : Int) => K .normal (lk (outA ann8.cuts 16) [.p (.v (.string y1)), .dead, .p (.v (.string y2)), .p (.v (.int .i64 y3))])) := by kernel_rfl
theorem q8_c16a1 (n : Nat) (vs : List SV) (K : Kc R) : evCut (fun f k => evC Try.prog (env8 n) ann8 n (43, []) c8_c16 f k) (liveA ann8.cuts 16) (outA ann8.cuts 16) vs K = o8_c16a1 n vs K := rfl
theorem q8_c16a0 (n : Nat) (vs : List SV) (K : Kc R) : evCut (fun f k => evC Try.prog (env8 n) ann8 n (43, []) c8_c16 f k) (liveA ann8.cuts 16) (outA ann8.cuts 16) vs K = o8_c16a0 n vs K := by
  unfold o8_c16a0 o8_c16t0
  refine dCons_eq (fun _ _ e => ?_) (q8_c16a1 n _ K)
  subst e
  refine dP_eq (fun _ e => ?_) (q8_c16a1 n _ K)
  subst e
  refine dStr_eq (fun _ e => ?_) (q8_c16a1 n _ K)
  subst e
  refine dCons_eq (fun _ _ e => ?_) (q8_c16a1 n _ K)
  subst e
  refine dP_eq (fun _ e => ?_) (q8_c16a1 n _ K)
  subst e
  refine dStr_eq (fun _ e => ?_) (q8_c16a1 n _ K)
  subst e
  refine dCons_eq (fun _ _ e => ?_) (q8_c16a1 n _ K)
  subst e
  refine dP_eq (fun _ e => ?_) (q8_c16a1 n _ K)
  subst e
  refine dInt_eq (fun _ e => ?_) (q8_c16a1 n _ K)
  subst e
  refine dCons_eq (fun _ _ e => ?_) (q8_c16a1 n _ K)
  subst e
  refine dP_eq (fun _ e => ?_) (q8_c16a1 n _ K)
  subst e
  refine dStr_eq (fun _ e => ?_) (q8_c16a1 n _ K)
  subst e
  refine dNil_eq (fun e => ?_) (q8_c16a1 n _ K)
  subst e
  rw [evCut_congr (evC_evOi c8_c16 (pa8_c16 n))]
  exact ep8_c16 n _ _ _ _ K
theorem q8_c16 (n : Nat) : PartOK (R := R) Try.prog (env8 n) ann8 n (43, []) (lo8 n) (cu8 n) (true, 16, c8_c16) := fun vs K => q8_c16a0 n vs K
theorem pa8_c8 (n : Nat) : allP (PartOK (R := R) Try.prog (env8 n) ann8 n (43, []) (lo8 n) (cu8 n)) (partsOf ann8 c8_c8) := by
  have h : partsOf ann8 c8_c8 = [] := by kernel_rfl
  rw [h]
  exact trivial
theorem ep8_c8 (n : Nat) (x1 : ByteArray) (x2 : ByteArray) (x3 : Int) (K : Kc R) : evCut (fun f k => evOi Try.prog (env8 n) ann8 (43, []) (lo8 n) (cu8 n) c8_c8 f k) (liveA ann8.cuts 8) (outA ann8.cuts 8) [.p (.v (.string x1)), .p (.v (.string x2)), .p (.v (.int .i64 x3))] K = p8_c8 n x1 x2 x3 (fun (y1 : ByteArray) (y2 : ByteArray) (y3 : Int) => K .normal (lk (outA ann8.cuts 8) [.p (.v (.string y1)), .dead, .p (.v (.string y2)), .p (.v (.int .i64 y3))])) := by kernel_rfl
theorem q8_c8a1 (n : Nat) (vs : List SV) (K : Kc R) : evCut (fun f k => evC Try.prog (env8 n) ann8 n (43, []) c8_c8 f k) (liveA ann8.cuts 8) (outA ann8.cuts 8) vs K = o8_c8a1 n vs K := rfl
theorem q8_c8a0 (n : Nat) (vs : List SV) (K : Kc R) : evCut (fun f k => evC Try.prog (env8 n) ann8 n (43, []) c8_c8 f k) (liveA ann8.cuts 8) (outA ann8.cuts 8) vs K = o8_c8a0 n vs K := by
  unfold o8_c8a0 o8_c8t0
  refine dCons_eq (fun _ _ e => ?_) (q8_c8a1 n _ K)
  subst e
  refine dP_eq (fun _ e => ?_) (q8_c8a1 n _ K)
  subst e
  refine dStr_eq (fun _ e => ?_) (q8_c8a1 n _ K)
  subst e
  refine dCons_eq (fun _ _ e => ?_) (q8_c8a1 n _ K)
  subst e
  refine dP_eq (fun _ e => ?_) (q8_c8a1 n _ K)
  subst e
  refine dStr_eq (fun _ e => ?_) (q8_c8a1 n _ K)
  subst e
  refine dCons_eq (fun _ _ e => ?_) (q8_c8a1 n _ K)
  subst e
  refine dP_eq (fun _ e => ?_) (q8_c8a1 n _ K)
  subst e
  refine dInt_eq (fun _ e => ?_) (q8_c8a1 n _ K)
  subst e
  refine dNil_eq (fun e => ?_) (q8_c8a1 n _ K)
  subst e
  rw [evCut_congr (evC_evOi c8_c8 (pa8_c8 n))]
  exact ep8_c8 n _ _ _ K
theorem q8_c8 (n : Nat) : PartOK (R := R) Try.prog (env8 n) ann8 n (43, []) (lo8 n) (cu8 n) (true, 8, c8_c8) := fun vs K => q8_c8a0 n vs K
theorem pa8_l7 (n : Nat) : allP (PartOK (R := R) Try.prog (env8 n) ann8 n (43, []) (lo8 n) (cu8 n)) (partsOf ann8 c8_l7) := by
  have h : partsOf ann8 c8_l7 = [(true, 16, c8_c16), (true, 8, c8_c8)] := by kernel_rfl
  rw [h]
  exact ⟨q8_c16 n, q8_c8 n, trivial⟩
theorem sp8_l7 (n m : Nat) (x1 : ByteArray) (x2 : ByteArray) (x3 : Int) (K : Kc R) : evLoop (fun f k => evOi Try.prog (env8 n) ann8 (43, []) (lo8 n) (cu8 n) c8_l7 f k) (liveA ann8.loops 7) (outA ann8.loops 7) (m + 1) [.p (.v (.string x1)), .p (.v (.string x2)), .p (.v (.int .i64 x3))] K = p8_l7B n (fun (x1 : ByteArray) (x2 : ByteArray) (x3 : Int) => evLoop (fun f k => evOi Try.prog (env8 n) ann8 (43, []) (lo8 n) (cu8 n) c8_l7 f k) (liveA ann8.loops 7) (outA ann8.loops 7) m [.p (.v (.string x1)), .p (.v (.string x2)), .p (.v (.int .i64 x3))] K) x1 x2 x3 (fun (y1 : Bool) => K .ret (lk (outA ann8.loops 7) [.p (.v (.bool y1))])) (K (.exit 0) (lk (outA ann8.loops 7) [.dead])) := by kernel_rfl
theorem ep8_l7 (n : Nat) (K : Kc R) : ∀ (m : Nat) (x1 : ByteArray) (x2 : ByteArray) (x3 : Int), evLoop (fun f k => evOi Try.prog (env8 n) ann8 (43, []) (lo8 n) (cu8 n) c8_l7 f k) (liveA ann8.loops 7) (outA ann8.loops 7) m [.p (.v (.string x1)), .p (.v (.string x2)), .p (.v (.int .i64 x3))] K = p8_l7L n m x1 x2 x3 (fun (y1 : Bool) => K .ret (lk (outA ann8.loops 7) [.p (.v (.bool y1))])) (K (.exit 0) (lk (outA ann8.loops 7) [.dead]))
  | 0, _, _, _ => rfl
  | m + 1, x1, x2, x3 => (sp8_l7 n m x1 x2 x3 K).trans (congrArg (fun l => p8_l7B n l x1 x2 x3 (fun (y1 : Bool) => K .ret (lk (outA ann8.loops 7) [.p (.v (.bool y1))])) (K (.exit 0) (lk (outA ann8.loops 7) [.dead]))) ((funext fun z0 => (funext fun z1 => (funext fun z2 => (ep8_l7 n K m z0 z1 z2))))))
theorem q8_l7a1 (n : Nat) (vs : List SV) (K : Kc R) : evLoop (fun f k => evC Try.prog (env8 n) ann8 n (43, []) c8_l7 f k) (liveA ann8.loops 7) (outA ann8.loops 7) n vs K = o8_l7a1 n vs K := rfl
theorem q8_l7a0 (n : Nat) (vs : List SV) (K : Kc R) : evLoop (fun f k => evC Try.prog (env8 n) ann8 n (43, []) c8_l7 f k) (liveA ann8.loops 7) (outA ann8.loops 7) n vs K = o8_l7a0 n vs K := by
  unfold o8_l7a0 o8_l7t0
  refine dCons_eq (fun _ _ e => ?_) (q8_l7a1 n _ K)
  subst e
  refine dP_eq (fun _ e => ?_) (q8_l7a1 n _ K)
  subst e
  refine dStr_eq (fun _ e => ?_) (q8_l7a1 n _ K)
  subst e
  refine dCons_eq (fun _ _ e => ?_) (q8_l7a1 n _ K)
  subst e
  refine dP_eq (fun _ e => ?_) (q8_l7a1 n _ K)
  subst e
  refine dStr_eq (fun _ e => ?_) (q8_l7a1 n _ K)
  subst e
  refine dCons_eq (fun _ _ e => ?_) (q8_l7a1 n _ K)
  subst e
  refine dP_eq (fun _ e => ?_) (q8_l7a1 n _ K)
  subst e
  refine dInt_eq (fun _ e => ?_) (q8_l7a1 n _ K)
  subst e
  refine dNil_eq (fun e => ?_) (q8_l7a1 n _ K)
  subst e
  rw [evLoop_congr (evC_evOi c8_l7 (pa8_l7 n))]
  exact ep8_l7 n K n _ _ _
theorem q8_l7 (n : Nat) : PartOK (R := R) Try.prog (env8 n) ann8 n (43, []) (lo8 n) (cu8 n) (false, 7, c8_l7) := fun vs K => q8_l7a0 n vs K
theorem pa8 (n : Nat) : allP (PartOK (R := R) Try.prog (env8 n) ann8 n (43, []) (lo8 n) (cu8 n)) (partsOf ann8 (bodyOf Try.f8)) := by
  have h : partsOf ann8 (bodyOf Try.f8) = [(false, 7, c8_l7)] := by kernel_rfl
  rw [h]
  exact ⟨q8_l7 n, trivial⟩
theorem ep8 (n : Nat) (x1 : ByteArray) (K : List SV → Option R) : evFnOi Try.prog (env8 n) ann8 (lo8 n) (cu8 n) Try.f8 [.p (.v (.string x1))] K = p8 n x1 (fun (y1 : Bool) => K [.p (.v (.bool y1))]) := by kernel_rfl
noncomputable abbrev fs8a1 (n : Nat) (args : List SV) (K : List SV → Option R) : Option R := none
noncomputable abbrev fs8t0 (n : Nat) (D : Option R) (args : List SV) (K : List SV → Option R) : Option R :=
  dCons args D fun z1 z2 => dP z1 D fun z3 => dStr z3 D fun x1 => dNil z2 D (p8 n x1 (fun (y1 : Bool) => K [.p (.v (.bool y1))]))
noncomputable abbrev fs8a0 (n : Nat) (args : List SV) (K : List SV → Option R) : Option R := fs8t0 n (fs8a1 n args K) args K
theorem hs8a1 (n : Nat) (args : List SV) (K : List SV → Option R) (res : R) : fs8a1 n args K = some res → evFn Try.prog (env8 n) ann8 n Try.f8 args K = some res := fun h => by cases h
theorem hs8a0 (n : Nat) (args : List SV) (K : List SV → Option R) (res : R) : fs8a0 n args K = some res → evFn Try.prog (env8 n) ann8 n Try.f8 args K = some res := by
  unfold fs8a0 fs8t0
  refine dCons_imp (fun _ _ e => ?_) (hs8a1 n _ K res)
  subst e
  refine dP_imp (fun _ e => ?_) (hs8a1 n _ K res)
  subst e
  refine dStr_imp (fun _ e => ?_) (hs8a1 n _ K res)
  subst e
  refine dNil_imp (fun e => ?_) (hs8a1 n _ K res)
  subst e
  intro h
  rw [evFn_evOi (c := bodyOf Try.f8) (by kernel_rfl) (pa8 n), ep8]
  exact h
end
noncomputable abbrev fs8 (n : Nat) : FS := { om := [false], run := fun args K => fs8a0 n args K }
theorem ok8 (n : Nat) : FSound Try.prog 8 (fs8 n) :=
  FSound.of (envok8 n) (ann := ann8) (n := n) (by kernel_rfl) Try.func8 (by kernel_rfl) (by kernel_rfl) fun {R args K res} h => hs8a0 n args K res h
end Go.Proofs.Ytlplpkbhjddmeaa


set_option linter.unusedVariables false
set_option linter.unusedSimpArgs false
namespace Go.Proofs.Ytlplpkbhjddmeaa
open Go Th Go.Proofs
def upto (l : List UInt8) : Nat → List UInt8
  | 0 => []
  | i + 1 => (if i = 0 then [] else upto l i ++ [10]) ++ (line l i).1
theorem begR_none : ∀ (l : List UInt8) (k : Nat), begR l k = none ↔ l.count 10 < k
  | l, 0 => by simp [begR_zero]
  | [], k + 1 => by simp [begR]
  | c :: r, k + 1 => by
    simp only [begR, Option.map_eq_none_iff, List.count_cons]
    by_cases hc : c = 10
    · rw [if_pos hc, begR_none r k]; simp [hc]
    · rw [if_neg hc, begR_none r (k + 1)]; simp [hc]
theorem begR_next : ∀ (l : List UInt8) (k b : Nat), begR l k = some b → k < l.count 10 → begR l (k + 1) = some (b + ln (l.drop b) + 1) ∧ b + ln (l.drop b) < l.length ∧ l[b + ln (l.drop b)]? = some 10
  | [], k, b, h, hk => by simp at hk
  | c :: r, 0, b, h, hk => by
    rw [begR_zero] at h
    cases h
    rw [begR_step]
    have h1 := ln_index (c :: r)
    have h2 := indexByte_lt (c :: r) 10
    have hi : 0 ≤ Lib.indexByte (c :: r) 10 := by
      by_cases h0 : Lib.indexByte (c :: r) 10 < 0
      · have := begR_step (c :: r) 0
        rw [if_pos h0] at this
        rw [begR_none] at this
        omega
      · omega
    rw [if_pos hi] at h1
    rw [if_neg (by omega), begR_zero, List.drop_zero]
    have hln : (Lib.indexByte (c :: r) 10).toNat = ln (c :: r) := by omega
    refine ⟨by simp only [Option.map_some, hln, Nat.zero_add], by omega, ?_⟩
    rw [Nat.zero_add]
    have hlt : ln (c :: r) < (c :: r).length := by omega
    rw [List.getElem?_eq_getElem hlt]
    congr 1
    have := List.dropWhile_append_of_pos (l₁ := (c :: r).takeWhile (· != 10)) (l₂ := (c :: r).drop (ln (c :: r))) (p := (· != 10)) (fun x hx => of_takeWhile (p := (· != 10)) hx)
    rw [← take_ln, List.take_append_drop] at this
    have hd : (c :: r).drop (ln (c :: r)) = (c :: r)[ln (c :: r)] :: (c :: r).drop (ln (c :: r) + 1) := List.drop_eq_getElem_cons hlt
    rw [hd, List.dropWhile_cons] at this
    by_cases hq : (c :: r)[ln (c :: r)] = 10
    · exact hq
    · exfalso
      have hq2 : ((c :: r)[ln (c :: r)] != 10) = true := by simpa using hq
      have htw : (c :: r).takeWhile (· != 10) ++ [(c :: r)[ln (c :: r)]] ++ ((c :: r).drop (ln (c :: r) + 1)).takeWhile (· != 10) = (c :: r).takeWhile (· != 10) := by
        conv => rhs; rw [← List.take_append_drop (ln (c :: r)) (c :: r), List.takeWhile_append_of_pos (by rw [take_ln]; exact fun x hx => of_takeWhile (p := (· != 10)) hx), hd, List.takeWhile_cons, if_pos hq2, take_ln]
        simp
      have := congrArg List.length htw
      simp at this
  | c :: r, k + 1, b, h, hk => by
    simp only [begR, Option.map_eq_some_iff] at h
    obtain ⟨a, h1, rfl⟩ := h
    rw [List.count_cons] at hk
    have hk2 : (if c = 10 then k else k + 1) < r.count 10 := by
      by_cases hc : c = 10
      · simp [hc] at hk ⊢; omega
      · simp [hc] at hk ⊢; omega
    obtain ⟨q1, q2, q3⟩ := begR_next r _ a h1 hk2
    refine ⟨?_, by simp only [List.drop_succ_cons, List.length_cons]; omega, ?_⟩
    · simp only [List.drop_succ_cons]
      rw [begR]
      have : (if c = 10 then k + 1 else k + 1 + 1) = (if c = 10 then k else k + 1) + 1 := by split <;> rfl
      rw [this, q1]
      simp only [Option.map_some]
      congr 1; omega
    · rw [List.drop_succ_cons, show a + 1 + ln (r.drop a) = (a + ln (r.drop a)) + 1 from by omega, List.getElem?_cons_succ]
      exact q3
theorem begR_head : ∀ (l : List UInt8) (k b : Nat), begR l k = some b → (l.take b).count 10 = k
  | l, 0, b, h => by rw [begR_zero] at h; cases h; rfl
  | [], k + 1, b, h => by cases h
  | c :: r, k + 1, b, h => by
    simp only [begR, Option.map_eq_some_iff] at h
    obtain ⟨a, h1, rfl⟩ := h
    have := begR_head r _ a h1
    rw [List.take_succ_cons, List.count_cons, this]
    by_cases hc : c = 10 <;> simp [hc]
theorem upto_take (l : List UInt8) : ∀ (i b : Nat), begR l i = some b → upto l (i + 1) = l.take (b + ln (l.drop b))
  | 0, b, h => by
    rw [begR_zero] at h; cases h
    have e : line l (0 : Nat) = ((l.drop 0).takeWhile (· != 10), 0) := by
      unfold line begI; simp [begR_zero]
    simp only [upto, if_true, List.nil_append]
    rw [e, ← take_ln]
    simp
  | i + 1, b, h => by
    have hn : ¬ l.count 10 < i + 1 := fun q => by rw [(begR_none l (i + 1)).2 q] at h; cases h
    obtain ⟨a, ha⟩ : ∃ a, begR l i = some a := by
      cases hb : begR l i with
      | none => rw [begR_none] at hb; omega
      | some a => exact ⟨a, rfl⟩
    obtain ⟨q1, q2, q3⟩ := begR_next l i a ha (by omega)
    rw [q1] at h
    cases h
    have e : line l ((i + 1 : Nat) : Int) = ((l.drop (a + ln (l.drop a) + 1)).takeWhile (· != 10), 0) := by
      unfold line begI
      rw [if_neg (by omega : ¬ ((i + 1 : Nat) : Int) < 0), Int.toNat_natCast, q1]
      simp only []
      rw [if_neg (by omega), Int.toNat_natCast]
    have ih := upto_take l i a ha
    rw [upto, if_neg (by omega), ih, e, ← take_ln]
    have h10 : l.take (a + ln (l.drop a)) ++ [10] = l.take (a + ln (l.drop a) + 1) := by
      rw [List.take_add_one, q3]; rfl
    rw [h10, ← List.take_add]
theorem joins_loop {R : Type} (n : Nat) (l : List UInt8) (hb : l.length ≤ 300) (hn : 4000 ≤ n) (k : Bool → Option R) (k1 : Option R) : ∀ (d m i : Nat), d + i = l.count 10 + 1 → d < m →
    p8_l7L n m (bs l) (bs (upto l i)) i k k1 = k true
  | 0, m + 1, i, h, hm => by
    have hc := List.count_le_length (a := (10 : UInt8)) (l := l)
    have h17 := fun k => p17_eq (R := R) n l i (by omega) (by omega) (by omega) k
    have hnb : begR l i = none := (begR_none l i).2 (by omega)
    have hl : line l i = ([], 9) := by
      unfold line begI
      rw [if_neg (by omega : ¬ (i : Int) < 0), Int.toNat_natCast, hnb]
      rfl
    obtain ⟨b, hb2⟩ : ∃ b, begR l (l.count 10) = some b := by
      cases hq : begR l (l.count 10) with
      | none => rw [begR_none] at hq; omega
      | some b => exact ⟨b, rfl⟩
    have hu := upto_take l (l.count 10) b hb2
    have hble := begR_le l _ b hb2
    have hfull : b + ln (l.drop b) = l.length := by
      by_cases hq : ln (l.drop b) = (l.drop b).length
      · rw [hq, List.length_drop]; omega
      · exfalso
        have h1 := ln_index (l.drop b)
        have hlt : ln (l.drop b) < (l.drop b).length := by have := ln_le (l.drop b); omega
        have hi : 0 ≤ Lib.indexByte (l.drop b) 10 := by
          by_cases h0 : 0 ≤ Lib.indexByte (l.drop b) 10
          · exact h0
          · rw [if_neg h0] at h1; omega
        have hs := begR_step (l.drop b) 0
        rw [if_neg (by omega), begR_zero] at hs
        have hcnt : ¬ (l.drop b).count 10 < 1 := fun q => by rw [(begR_none (l.drop b) 1).2 q] at hs; cases hs
        have htot : (l.take b).count 10 + (l.drop b).count 10 = l.count 10 := by rw [← List.count_append, List.take_append_drop]
        have hbc := begR_count l b hble
        have hge : begR (l.take b) (l.count 10) = none := (begR_none _ _).2 (by omega)
        have : (l.take b).count 10 = l.count 10 := begR_head l (l.count 10) b hb2
        omega
    rw [show i = l.count 10 + 1 from by omega] at *
    rw [hu, hfull, List.take_length]
    simp only [hl] at h17
    simp only [p8_l7L, p8_l7B]
    simp (disch := (first | omega | (simp only [List.length_append, List.length_cons, List.length_nil, List.length_replicate, List.length_take, List.length_drop]; omega))) only [↓c_pos, ↓c_neg, dec_t, dec_f, Bool.and_true, Bool.true_and, Bool.and_false, Bool.false_and, Bool.not_true, Bool.not_false, cond_true, cond_false, inR_t, cutR_t, roomB_t, lenOK_t, w64, bs_size, List.length_append, List.length_cons, List.length_nil, bs_extract, bs_append, bs_push, bs_data, bs_empty, bs_lit, catS_bs, eqS_bs, ite_pos', ite_neg', decide_true, decide_false, if_true, if_false, h17, show ((9 : Int) == 9) = true from rfl, beq_self_eq_true]
  | d + 1, m + 1, i, h, hm => by
    have hc := List.count_le_length (a := (10 : UInt8)) (l := l)
    have ih := joins_loop n l hb hn k k1 d m (i + 1) (by omega) (by omega)
    have h17 := fun k => p17_eq (R := R) n l i (by omega) (by omega) (by omega) k
    obtain ⟨b, hb2⟩ : ∃ b, begR l i = some b := by
      cases hq : begR l i with
      | none => rw [begR_none] at hq; omega
      | some b => exact ⟨b, rfl⟩
    have hl : line l i = ((l.drop b).takeWhile (· != 10), 0) := by
      unfold line begI
      rw [if_neg (by omega : ¬ (i : Int) < 0), Int.toNat_natCast, hb2]
      simp only []
      rw [if_neg (by omega), Int.toNat_natCast]
    have hle : ((l.drop b).takeWhile (· != 10)).length ≤ l.length := by
      have := ln_le (l.drop b); unfold ln at this; rw [List.length_drop] at this; omega
    have hui : i ≠ 0 → (upto l i).length ≤ l.length := by
      intro h0
      obtain ⟨j, rfl⟩ : ∃ j, i = j + 1 := ⟨i - 1, by omega⟩
      obtain ⟨a, ha⟩ : ∃ a, begR l j = some a := by
        cases hq : begR l j with
        | none => rw [begR_none] at hq; omega
        | some b => exact ⟨b, rfl⟩
      rw [upto_take l j a ha, List.length_take]; omega
    rw [upto, hl] at ih
    simp only [hl] at h17
    simp only [p8_l7L, p8_l7B, p8_c8, p8_c16]
    have e2 : ((i : Int) + 1) = ((i + 1 : Nat) : Int) := by omega
    by_cases h0 : i = 0
    · subst h0
      simp only [if_true, List.nil_append] at ih
      simp (disch := (first | omega | (simp only [List.length_append, List.length_cons, List.length_nil, List.length_replicate, List.length_take, List.length_drop]; omega))) only [↓c_pos, ↓c_neg, dec_t, dec_f, Bool.and_true, Bool.true_and, Bool.and_false, Bool.false_and, Bool.not_true, Bool.not_false, cond_true, cond_false, inR_t, cutR_t, roomB_t, lenOK_t, w64, bs_size, List.length_append, List.length_cons, List.length_nil, bs_extract, bs_append, bs_push, bs_data, bs_empty, bs_lit, catS_bs, eqS_bs, ite_pos', ite_neg', decide_true, decide_false, if_true, if_false, h17, show ((0 : Int) == 9) = false from rfl, show ((0 : Int) != 0) = false from rfl, upto, List.nil_append]
      exact ih
    · have := hui h0
      rw [if_neg h0] at ih
      simp (disch := (first | omega | (simp only [List.length_append, List.length_cons, List.length_nil, List.length_replicate, List.length_take, List.length_drop]; omega))) only [↓c_pos, ↓c_neg, dec_t, dec_f, Bool.and_true, Bool.true_and, Bool.and_false, Bool.false_and, Bool.not_true, Bool.not_false, cond_true, cond_false, inR_t, cutR_t, roomB_t, lenOK_t, w64, bs_size, List.length_append, List.length_cons, List.length_nil, bs_extract, bs_append, bs_push, bs_data, bs_empty, bs_lit, catS_bs, eqS_bs, ite_pos', ite_neg', decide_true, decide_false, if_true, if_false, h17, show ((0 : Int) == 9) = false from rfl, show ((0 : Int) != 0) = false from rfl, e2]
      exact ih
theorem run_ExcerptJoins {R : Type} (n : Nat) (hn : 4000 ≤ n) (a0 : ByteArray) (w0 : a0.size ≤ 140737488351232) (k : Bool → Option R) : p8 n a0 k = k true := by
  unfold p8
  rw [p10_run n (by omega)]
  obtain ⟨l, rfl⟩ : ∃ l, a0 = bs l := ⟨a0.data.toList, rfl⟩
  by_cases hs : (l.length : Int) > 300
  · simp (disch := (first | omega | (simp only [List.length_append, List.length_cons, List.length_nil, List.length_replicate, List.length_take, List.length_drop]; omega))) only [↓c_pos, ↓c_neg, dec_t, dec_f, Bool.and_true, Bool.true_and, Bool.and_false, Bool.false_and, Bool.not_true, Bool.not_false, cond_true, cond_false, inR_t, cutR_t, roomB_t, lenOK_t, w64, bs_size, List.length_append, List.length_cons, List.length_nil, bs_extract, bs_append, bs_push, bs_data, bs_empty, bs_lit, catS_bs, eqS_bs, ite_pos', ite_neg', decide_true, decide_false, if_true, if_false]
  have h := joins_loop n l (by omega) (by omega) k (k false) (l.count 10 + 1) n 0 (by omega) (by have := List.count_le_length (a := (10 : UInt8)) (l := l); omega)
  simp only [upto] at h
  simp (disch := (first | omega | (simp only [List.length_append, List.length_cons, List.length_nil, List.length_replicate, List.length_take, List.length_drop]; omega))) only [↓c_pos, ↓c_neg, dec_t, dec_f, Bool.and_true, Bool.true_and, Bool.and_false, Bool.false_and, Bool.not_true, Bool.not_false, cond_true, cond_false, inR_t, cutR_t, roomB_t, lenOK_t, w64, bs_size, List.length_append, List.length_cons, List.length_nil, bs_extract, bs_append, bs_push, bs_data, bs_empty, bs_lit, catS_bs, eqS_bs, ite_pos', ite_neg', decide_true, decide_false, if_true, if_false, p8_l7]
  exact h
theorem fsr_ExcerptJoins (n : Nat) (a0 : ByteArray) {R : Type} (K : List SV → Option R) : (fs8 n).run ((#[.string a0] : Array Value).toList.map fun x => SV.p (.v x)) K = p8 n a0 (fun y => K [.p (.v (.bool y))]) := rfl
theorem law_ExcerptJoins (W : World) (a0 : ByteArray) (w0 : a0.size ≤ 140737488351232) : Calls Try.prog 8 #[.string a0] W fun e w' => e = .returned (.bool true) ∧ RowKit.Below W.heap.size W w' :=
  law_calls (ok8 4000) (by
    rw [fsr_ExcerptJoins, run_ExcerptJoins 4000 (by omega) a0 w0]; rfl) W
end Go.Proofs.Ytlplpkbhjddmeaa


namespace Go.Proofs.Ytlplpkbhjddmeaa.excerptJoins
open Go.ChangeShapes Go.WideShapes Go.ChangeAt Go.RowKit
open Go.ChangeMaps (open_string shut_string)
theorem own : ownKnob Try.prog.godebug = none := by kernel_rfl
set_option maxRecDepth 100000 in
theorem lifted (os : Os) (started : os.Started) (H : Type) (enc : TypeId × Value → H) :
    ReturnsInHanded {} Try.checked os 8 .any (Rows.excerptJoinsSpec.pre6 enc Try.prog Try.f8 Rows.excerptJoinsRow.domain false) (Rows.excerptJoinsSpec.post enc Try.prog Try.f8 false true false false) := by
  refine returnsInHanded_of_change_sized (C := Try.checked) own started (by kernel_rfl) Try.func8
    (ChangeSpec.witness6 (enc := enc) (C := Try.checked) false ⟨#[], #[.string ByteArray.empty], []⟩ 8 (by kernel_rfl) (by kernel_rfl) (by kernel_rfl) (by kernel_rfl)) ?_
  intro W base args ds gs before hval0 hW hcnd hsz0 _
  have hsz : (DataW.weightsEach Try.prog (Try.f8.params.toList ++ Rows.excerptJoinsSpec.plain.varTypes Try.prog) (ds ++ gs)).all (· ≤ reachBytes) = true := hsz0
  have hval : ∀ (j : Nat) t v, Try.f8.params[j]? = some t → args[j]? = some v → Value.okWide Try.prog W .any base t v := hval0
  have hW' := hW
  obtain ⟨p, q, hA0, hV, rfl, hfz, hnd⟩ := hW
  have hA : DataW.TrodAll enc Try.prog W 0 (fun _ => true) true Try.f8.params.toList args.toList ds p := hA0
  rw [Try.params8] at hA hval hsz
  obtain ⟨v0, vs0, d0, ds0, p0, q0, hargs, rfl, rfl, h0, r0⟩ := trodAll_cons hA
  obtain ⟨rfl, rfl, rfl⟩ := trodAll_nil r0
  obtain rfl : args = #[v0] := by cases args; simp_all
  obtain ⟨rfl, rfl⟩ := trodVars_none hV
  obtain ⟨a0, rfl, rfl, rfl, y0⟩ := open_string Try.underlying9 (hval 0 9 v0 rfl rfl) h0
  have w0 : a0.size ≤ 140737488351232 := by
    have z := sized_string hsz (j := 0) (t := 9) rfl rfl
    rw [Array.length_toList] at z
    exact z
  clear hA0 hval0 hsz0 hsz
  refine (law_ExcerptJoins W a0 w0).mono fun e W' ⟨he, bel⟩ => ?_
  subst he
  exact ⟨_, rfl, _, _, _, [], _, [], hW', trodAll_mk1 (shut_bool Try.underlying4 _), (trodAll_cons_mk (shut_string Try.underlying9 y0) trodAll_mk0), rfl, bel.frame _, fun h => by cases h⟩
theorem over : Rows.excerptJoinsRow.holds Try.pinned (OpenSpec.ofChange Rows.excerptJoinsSpec) :=
  OpenClaim.holds_of_wide 8 Try.f8 rfl rfl rfl rfl rfl rfl rfl ⟨rfl, rfl, rfl, rfl, rfl⟩ rfl rfl rfl rfl rfl (by kernel_rfl) Try.func8 (by kernel_rfl)
    (of_decide_eq_true (by kernel_rfl)) (by unfold Func.isWrapper; first | (rw [if_pos (by decide +kernel)]; kernel_rfl) | (rw [if_neg (by decide +kernel)]; exact ⟨rfl, rfl⟩))
    (fun os started H enc _ => lifted os started H enc)
theorem proved : Rows.ExcerptJoinsSaid := over
end Go.Proofs.Ytlplpkbhjddmeaa.excerptJoins
namespace Go.Proofs.Ytlplpkbhjddmeaa
theorem excerptJoins_holds : Rows.ExcerptJoinsSaid := excerptJoins.proved
end Go.Proofs.Ytlplpkbhjddmeaa
