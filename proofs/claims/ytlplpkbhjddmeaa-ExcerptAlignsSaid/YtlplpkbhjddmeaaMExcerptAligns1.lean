/- Proved: the law ExcerptAligns returns true at all its arguments (no further conditions): the row and what it stands on. -/
import Derived.Test.YtlplpkbhjddmeaaMExcerptAligns0
import Derived.Test.YtlplpkbhjddmeaaT1
import Derived.Test.YtlplpkbhjddmeaaRows
import Derived.WalkKit
import Derived.ProofKit
import Derived.OpenShut
import Derived.ShutString
import Derived.ChangeOld
import Derived.Below
import Derived.SizedLaws

set_option linter.unusedVariables false
set_option linter.unusedSimpArgs false
namespace Go.Proofs.Ytlplpkbhjddmeaa
open Go Th Go.Proofs
variable {R : Type}
def isRest (c : UInt8) : Bool := decide (128 ≤ c.toNat) && decide (c.toNat ≤ 191)
def marg (l : List UInt8) : List UInt8 := l.flatMap fun c => if c = 9 then [9] else if isRest c then [] else [32]
def car (l : List UInt8) : Nat := l.countP fun c => !isRest c
theorem marg_snoc (l : List UInt8) (c : UInt8) : marg (l ++ [c]) = marg l ++ (if c = 9 then [9] else if isRest c then [] else [32]) := by simp [marg]
theorem car_snoc (l : List UInt8) (c : UInt8) : car (l ++ [c]) = car l + (if isRest c then 0 else 1) := by
  unfold car; rw [List.countP_append, List.countP_singleton]; cases isRest c <;> rfl
theorem marg_le (l : List UInt8) : (marg l).length ≤ l.length := by
  induction l with
  | nil => exact Nat.le_refl _
  | cons c l ih =>
    simp only [marg, List.flatMap_cons, List.length_append, List.length_cons] at ih ⊢
    split
    · simp only [List.length_cons, List.length_nil]; omega
    · split <;> simp only [List.length_cons, List.length_nil] <;> omega
theorem car_le (l : List UInt8) : car l ≤ l.length := List.countP_le_length
theorem eq9 {c : UInt8} : (((c.toNat : Int)) == 9) = decide (c = 9) := by
  rw [Bool.eq_iff_iff]
  simp only [beq_iff_eq, decide_eq_true_eq]
  constructor
  · intro h; apply UInt8.toNat_inj.1; simp; omega
  · rintro rfl; rfl
theorem p22_eq (n : Nat) (c : UInt8) (k : Bool → Option R) : p22 n (c.toNat : Int) k = k (isRest c) := by
  unfold p22 isRest
  by_cases h : 128 ≤ c.toNat
  · simp (disch := (first | omega | (simp only [List.length_append, List.length_cons, List.length_nil, List.length_replicate, List.length_take, List.length_drop]; omega))) only [↓c_pos, ↓c_neg, dec_t, dec_f, Bool.and_true, Bool.true_and, Bool.and_false, Bool.false_and, Bool.not_true, Bool.not_false, cond_true, cond_false, inR_t, cutR_t, roomB_t, lenOK_t, w64, bs_size, List.length_append, List.length_cons, List.length_nil, bs_extract, bs_append, bs_push, bs_data, bs_empty, bs_lit, catS_bs, eqS_bs, ite_pos', ite_neg', decide_true, decide_false, if_true, if_false, h, Bool.true_and]
    congr 1
    by_cases h2 : c.toNat ≤ 191
    · rw [decide_eq_true (by omega), decide_eq_true h2]
    · rw [decide_eq_false (by omega), decide_eq_false h2]
  · simp (disch := (first | omega | (simp only [List.length_append, List.length_cons, List.length_nil, List.length_replicate, List.length_take, List.length_drop]; omega))) only [↓c_pos, ↓c_neg, dec_t, dec_f, Bool.and_true, Bool.true_and, Bool.and_false, Bool.false_and, Bool.not_true, Bool.not_false, cond_true, cond_false, inR_t, cutR_t, roomB_t, lenOK_t, w64, bs_size, List.length_append, List.length_cons, List.length_nil, bs_extract, bs_append, bs_push, bs_data, bs_empty, bs_lit, catS_bs, eqS_bs, ite_pos', ite_neg', decide_true, decide_false, if_true, if_false, h, Bool.false_and]
theorem p13_loop1 (n : Nat) (l B : List UInt8) (f t e : Int) (b w : Nat) (hw : b + w ≤ l.length) (hb : l.length < 2 ^ 40) (hB : B.length < 2 ^ 41) (k0 : ByteArray → Int → Int → Int → ByteArray → Option R) : ∀ (d m i : Nat), d + i = w → d < m →
    p13_l9L n m (bs l) f t b e (bs (B ++ marg ((l.drop b).take i))) w i k0 = k0 (bs l) f t e (bs (B ++ marg ((l.drop b).take w)))
  | 0, m + 1, i, h, _ => by
    simp only [p13_l9L, p13_l9B]
    simp (disch := (first | omega | (simp only [List.length_append, List.length_cons, List.length_nil, List.length_replicate, List.length_take, List.length_drop]; omega))) only [↓c_pos, ↓c_neg, dec_t, dec_f, Bool.and_true, Bool.true_and, Bool.and_false, Bool.false_and, Bool.not_true, Bool.not_false, cond_true, cond_false, inR_t, cutR_t, roomB_t, lenOK_t, w64, bs_size, List.length_append, List.length_cons, List.length_nil, bs_extract, bs_append, bs_push, bs_data, bs_empty, bs_lit, catS_bs, eqS_bs, ite_pos', ite_neg', decide_true, decide_false, if_true, if_false, show i = w from by omega]
  | d + 1, m + 1, i, h, hm => by
    have ih := p13_loop1 n l B f t e b w hw hb hB k0 d m (i + 1) (by omega) (by omega)
    have hm2 := marg_le ((l.drop b).take i)
    rw [List.length_take, List.length_drop] at hm2
    have hlen : (B ++ marg ((l.drop b).take i)).length ≤ B.length + i := by rw [List.length_append]; omega
    rw [take_snoc' (by rw [List.length_drop]; omega), marg_snoc, List.getElem_drop] at ih
    simp only [p13_l9L, p13_l9B]
    have e1 : ((b : Int) + (i : Int)) = ((b + i : Nat) : Int) := by omega
    have e2 : ((i : Int) + 1) = ((i + 1 : Nat) : Int) := by omega
    simp (disch := (first | omega | (simp only [List.length_append, List.length_cons, List.length_nil, List.length_replicate, List.length_take, List.length_drop]; omega))) only [↓c_pos, ↓c_neg, dec_t, dec_f, Bool.and_true, Bool.true_and, Bool.and_false, Bool.false_and, Bool.not_true, Bool.not_false, cond_true, cond_false, inR_t, cutR_t, roomB_t, lenOK_t, w64, bs_size, List.length_append, List.length_cons, List.length_nil, bs_extract, bs_append, bs_push, bs_data, bs_empty, bs_lit, catS_bs, eqS_bs, ite_pos', ite_neg', decide_true, decide_false, if_true, if_false, e1, e2, byte_get, eq9, p22_eq, Bool.true_and, Bool.and_true]
    by_cases h9 : l[b + i] = 9
    · simp only [h9, decide_true, cond_true, if_true] at ih ⊢
      rw [List.append_assoc]
      exact ih
    · simp only [h9, decide_false, cond_false, if_false] at ih ⊢
      cases hr : isRest l[b + i] with
      | true => simp only [hr, Bool.not_true, cond_false, if_true, List.append_nil] at ih ⊢; exact ih
      | false => simp only [hr, Bool.not_false, cond_true, Bool.false_eq_true, if_false] at ih ⊢; rw [List.append_assoc]; exact ih
theorem p13_loop2 (n : Nat) (l : List UInt8) (f w : Nat) (t : Int) (B : ByteArray) (hw : f + w ≤ l.length) (hb : l.length < 2 ^ 40) (k0 : ByteArray → Int → Option R) : ∀ (d m i : Nat), d + i = w → d < m →
    p13_l19L n m (bs l) f t B (car ((l.drop f).take i) : Nat) w i k0 = k0 B (car ((l.drop f).take w) : Nat)
  | 0, m + 1, i, h, _ => by
    simp only [p13_l19L, p13_l19B]
    simp (disch := (first | omega | (simp only [List.length_append, List.length_cons, List.length_nil, List.length_replicate, List.length_take, List.length_drop]; omega))) only [↓c_pos, ↓c_neg, dec_t, dec_f, Bool.and_true, Bool.true_and, Bool.and_false, Bool.false_and, Bool.not_true, Bool.not_false, cond_true, cond_false, inR_t, cutR_t, roomB_t, lenOK_t, w64, bs_size, List.length_append, List.length_cons, List.length_nil, bs_extract, bs_append, bs_push, bs_data, bs_empty, bs_lit, catS_bs, eqS_bs, ite_pos', ite_neg', decide_true, decide_false, if_true, if_false, show i = w from by omega]
  | d + 1, m + 1, i, h, hm => by
    have ih := p13_loop2 n l f w t B hw hb k0 d m (i + 1) (by omega) (by omega)
    have hm2 := car_le ((l.drop f).take i)
    rw [List.length_take, List.length_drop] at hm2
    rw [take_snoc' (by rw [List.length_drop]; omega), car_snoc, List.getElem_drop] at ih
    simp only [p13_l19L, p13_l19B]
    have e1 : ((f : Int) + (i : Int)) = ((f + i : Nat) : Int) := by omega
    have e2 : ((i : Int) + 1) = ((i + 1 : Nat) : Int) := by omega
    simp (disch := (first | omega | (simp only [List.length_append, List.length_cons, List.length_nil, List.length_replicate, List.length_take, List.length_drop]; omega))) only [↓c_pos, ↓c_neg, dec_t, dec_f, Bool.and_true, Bool.true_and, Bool.and_false, Bool.false_and, Bool.not_true, Bool.not_false, cond_true, cond_false, inR_t, cutR_t, roomB_t, lenOK_t, w64, bs_size, List.length_append, List.length_cons, List.length_nil, bs_extract, bs_append, bs_push, bs_data, bs_empty, bs_lit, catS_bs, eqS_bs, ite_pos', ite_neg', decide_true, decide_false, if_true, if_false, e1, e2, byte_get, p22_eq]
    cases hr : isRest l[f + i] with
    | true => simp only [hr, Bool.not_true, cond_false, if_true, Nat.add_zero] at ih ⊢; exact ih
    | false => simp only [hr, Bool.not_false, cond_true, Bool.false_eq_true, if_false] at ih ⊢; exact_mod_cast ih
def exc (l : List UInt8) (f t : Nat) : List UInt8 :=
  ((l.drop (f - tw (l.take f))).takeWhile (· != 10) ++ [10]) ++ (marg ((l.drop (f - tw (l.take f))).take (tw (l.take f))) ++ List.replicate (max (car ((l.drop f).take (min (t - f) (ln (l.drop f))))) 1) 94)
def excerpt (l : List UInt8) (f t : Int) : List UInt8 × Int := if f < 0 ∨ t < f ∨ l.length < t then ([], 2) else (exc l f.toNat t.toNat, 0)
theorem tw_all (l : List UInt8) : ∀ x ∈ l.drop (l.length - tw l), (x != 10) = true := by
  intro x hx
  have e : l.drop (l.length - tw l) = (l.reverse.takeWhile (· != 10)).reverse := by
    have h : l.reverse.takeWhile (· != 10) = l.reverse.take (tw l) := by
      have := List.takeWhile_prefix (l := l.reverse) (p := (· != 10))
      rw [List.prefix_iff_eq_take] at this
      exact this
    rw [h, List.take_reverse, List.reverse_reverse]
  rw [e, List.mem_reverse] at hx
  exact of_takeWhile (p := (· != 10)) hx
theorem line_split (l : List UInt8) (f : Nat) (hf : f ≤ l.length) :
    (l.drop (f - tw (l.take f))).takeWhile (· != 10) = (l.drop (f - tw (l.take f))).take (tw (l.take f)) ++ (l.drop f).takeWhile (· != 10) := by
  have hle := tw_le (l.take f)
  have hlen : (l.take f).length = f := by rw [List.length_take]; omega
  have hs : l.drop (f - tw (l.take f)) = (l.drop (f - tw (l.take f))).take (tw (l.take f)) ++ l.drop f := by
    have := (List.take_append_drop (tw (l.take f)) (l.drop (f - tw (l.take f)))).symm
    rw [List.drop_drop, show f - tw (l.take f) + tw (l.take f) = f from by omega] at this
    exact this
  have ha := tw_all (l.take f)
  rw [hlen] at ha
  have e2 : (l.take f).drop (f - tw (l.take f)) = (l.drop (f - tw (l.take f))).take (tw (l.take f)) := by
    rw [List.drop_take, show f - (f - tw (l.take f)) = tw (l.take f) from by omega]
  rw [e2] at ha
  conv => lhs; rw [hs]
  rw [List.takeWhile_append_of_pos ha]
theorem repeat_one (c : UInt8) : ∀ n, Lib.repeatL [c] n = List.replicate n c
  | 0 => rfl
  | n + 1 => by rw [Lib.repeatL, repeat_one c n]; rfl
theorem p13_eq (n : Nat) (l : List UInt8) (f t : Int) (hb : l.length < 2 ^ 40) (hn : l.length + 1 < n) (k : ByteArray → Int → Option R) : p13 n (bs l) f t k = k (bs (excerpt l f t).1) (excerpt l f t).2 := by
  unfold p13 p13_c3 excerpt
  by_cases h0 : f < 0
  · simp (disch := (first | omega | (simp only [List.length_append, List.length_cons, List.length_nil, List.length_replicate, List.length_take, List.length_drop]; omega))) only [↓c_pos, ↓c_neg, dec_t, dec_f, Bool.and_true, Bool.true_and, Bool.and_false, Bool.false_and, Bool.not_true, Bool.not_false, cond_true, cond_false, inR_t, cutR_t, roomB_t, lenOK_t, w64, bs_size, List.length_append, List.length_cons, List.length_nil, bs_extract, bs_append, bs_push, bs_data, bs_empty, bs_lit, catS_bs, eqS_bs, ite_pos', ite_neg', decide_true, decide_false, if_true, if_false, h0, true_or]
  by_cases h1 : f > t
  · simp (disch := (first | omega | (simp only [List.length_append, List.length_cons, List.length_nil, List.length_replicate, List.length_take, List.length_drop]; omega))) only [↓c_pos, ↓c_neg, dec_t, dec_f, Bool.and_true, Bool.true_and, Bool.and_false, Bool.false_and, Bool.not_true, Bool.not_false, cond_true, cond_false, inR_t, cutR_t, roomB_t, lenOK_t, w64, bs_size, List.length_append, List.length_cons, List.length_nil, bs_extract, bs_append, bs_push, bs_data, bs_empty, bs_lit, catS_bs, eqS_bs, ite_pos', ite_neg', decide_true, decide_false, if_true, if_false, h1, true_or, or_true]
  by_cases h2 : t > l.length
  · simp (disch := (first | omega | (simp only [List.length_append, List.length_cons, List.length_nil, List.length_replicate, List.length_take, List.length_drop]; omega))) only [↓c_pos, ↓c_neg, dec_t, dec_f, Bool.and_true, Bool.true_and, Bool.and_false, Bool.false_and, Bool.not_true, Bool.not_false, cond_true, cond_false, inR_t, cutR_t, roomB_t, lenOK_t, w64, bs_size, List.length_append, List.length_cons, List.length_nil, bs_extract, bs_append, bs_push, bs_data, bs_empty, bs_lit, catS_bs, eqS_bs, ite_pos', ite_neg', decide_true, decide_false, if_true, if_false]
  obtain ⟨f, rfl⟩ := Int.eq_ofNat_of_zero_le (Int.not_lt.1 h0)
  obtain ⟨t, rfl⟩ := Int.eq_ofNat_of_zero_le (show 0 ≤ t by omega)
  have htw := tw_le (l.take f)
  have hlen : (l.take f).length = f := by rw [List.length_take]; omega
  have hln := ln_le (l.drop f)
  rw [List.length_drop] at hln
  have hp20 := p20_eq (R := R) n (l.take f) (by omega) (by omega)
  have hp21 := p21_eq (R := R) n l f (by omega) (by omega)
  obtain ⟨b, hbd⟩ : ∃ b, b = f - tw (l.take f) := ⟨_, rfl⟩
  have e0 : (List.drop (0 : Int).toNat (List.take (f : Int).toNat l)) = l.take f := rfl
  have e1 : (f : Int) - 1 - (tw (l.take f) : Int) + 1 = (b : Int) := by omega
  have e2 : (f : Int) - (b : Int) = ((tw (l.take f) : Nat) : Int) := by omega
  have e3 : (List.drop ((b : Int)).toNat (List.take (((f + ln (l.drop f) : Nat) : Int)).toNat l)) = (l.drop b).takeWhile (· != 10) := by
    rw [hbd, line_split l f (by omega), ← take_ln]
    simp only [Int.toNat_natCast]
    rw [← hbd, List.drop_take, show f + ln (l.drop f) - b = tw (l.take f) + ln (l.drop f) from by omega, List.take_add, List.drop_drop, show b + tw (l.take f) = f from by omega]
  have hL : ((l.drop b).takeWhile (· != 10)).length ≤ l.length := by
    have := ln_le (l.drop b); unfold ln at this; rw [List.length_drop] at this; omega
  have hk1 := fun k0 => p13_loop1 (R := R) n l ((l.drop b).takeWhile (· != 10) ++ [10]) f t ((f + ln (l.drop f) : Nat) : Int) b (tw (l.take f)) (by omega) hb (by rw [List.length_append]; simp only [List.length_cons, List.length_nil]; omega) k0 (tw (l.take f)) n 0 (by omega) (by omega)
  simp only [List.take_zero, marg, List.flatMap_nil, List.append_nil] at hk1
  rw [show ((0 : Nat) : Int) = 0 from rfl] at hk1
  have hk2 := fun B k0 => p13_loop2 (R := R) n l f (min (t - f) (ln (l.drop f))) t B (by omega) hb k0 (min (t - f) (ln (l.drop f))) n 0 (by omega) (by omega)
  simp only [List.take_zero, car, List.countP_nil] at hk2
  rw [show ((0 : Nat) : Int) = 0 from rfl] at hk2
  have e4 : minI (t : Int) ((f + ln (l.drop f) : Nat) : Int) - (f : Int) = ((min (t - f) (ln (l.drop f)) : Nat) : Int) := by unfold minI; split <;> omega
  have e5 : maxI 0 ((min (t - f) (ln (l.drop f)) : Nat) : Int) = ((min (t - f) (ln (l.drop f)) : Nat) : Int) := by unfold maxI; split <;> omega
  have hc := car_le ((l.drop f).take (min (t - f) (ln (l.drop f))))
  rw [List.length_take, List.length_drop] at hc
  have e6 : maxI (car ((l.drop f).take (min (t - f) (ln (l.drop f)))) : Int) 1 = ((max (car ((l.drop f).take (min (t - f) (ln (l.drop f))))) 1 : Nat) : Int) := by unfold maxI; split <;> omega
  have hm := marg_le ((l.drop b).take (tw (l.take f)))
  rw [List.length_take, List.length_drop] at hm
  have hL2 : (List.takeWhile (fun x => x != 10) (List.drop b l) ++ [10] ++ marg (List.take (tw (List.take f l)) (List.drop b l))).length ≤ 2 * l.length + 1 := by
    simp only [List.length_append, List.length_cons, List.length_nil]; omega
  have hcl : ([94] : List UInt8).length = 1 := rfl
  have hn0 : ([] : List UInt8).length = 0 := rfl
  have h10 : ([10] : List UInt8).length = 1 := rfl
  have e7 : ∀ c : Nat, repB (bs [94]) ((max c 1 : Nat) : Int) = bs (List.replicate (max c 1) 94) := fun c => by rw [repB_bs, Int.toNat_natCast, repeat_one]
  have hrl : ∀ c : Nat, (List.replicate (max c 1) (94 : UInt8)).length = max c 1 := fun c => List.length_replicate
  have e8 : ∀ c : Nat, ((max c 1 : Nat) : Int).toNat = max c 1 := fun c => Int.toNat_natCast _
  simp only [marg, car] at *
  simp (disch := (first | omega | (simp only [List.length_append, List.length_cons, List.length_nil, List.length_replicate, List.length_take, List.length_drop]; omega))) only [↓c_pos, ↓c_neg, dec_t, dec_f, Bool.and_true, Bool.true_and, Bool.and_false, Bool.false_and, Bool.not_true, Bool.not_false, cond_true, cond_false, inR_t, cutR_t, roomB_t, lenOK_t, w64, bs_size, List.length_append, List.length_cons, List.length_nil, bs_extract, bs_append, bs_push, bs_data, bs_empty, bs_lit, catS_bs, eqS_bs, ite_pos', ite_neg', decide_true, decide_false, if_true, if_false, e0, hp20, hlen, hp21, e1, e2, e3, hcl, h10, hn0, List.nil_append, p13_l9, p13_l19, hk1, e4, e5, hk2, e6]
  generalize hC : List.countP (fun c => !isRest c) (List.take (min (t - f) (ln (List.drop f l))) (List.drop f l)) = C at *
  simp (disch := (first | omega | (simp only [List.length_append, List.length_cons, List.length_nil, List.length_replicate, List.length_take, List.length_drop]; omega))) only [↓c_pos, ↓c_neg, dec_t, dec_f, Bool.and_true, Bool.true_and, Bool.and_false, Bool.false_and, Bool.not_true, Bool.not_false, cond_true, cond_false, inR_t, cutR_t, roomB_t, lenOK_t, w64, bs_size, List.length_append, List.length_cons, List.length_nil, bs_extract, bs_append, bs_push, bs_data, bs_empty, bs_lit, catS_bs, eqS_bs, ite_pos', ite_neg', decide_true, decide_false, if_true, if_false, e7, e8, hrl, Bool.and_true, Bool.true_and]
  unfold exc
  simp only [Int.toNat_natCast, marg, car]
  rw [hC, ← hbd, List.append_assoc]
theorem isRest_ge {c : UInt8} (h : ¬ 128 ≤ c.toNat) : isRest c = false := by unfold isRest; rw [decide_eq_false h]; rfl
theorem isRest_lt {c : UInt8} (h : 128 ≤ c.toNat) : isRest c = decide ((c.toNat : Int) < 192) := by
  unfold isRest
  rw [decide_eq_true h, Bool.true_and]
  by_cases h2 : c.toNat ≤ 191
  · rw [decide_eq_true h2, decide_eq_true (by omega)]
  · rw [decide_eq_false h2, decide_eq_false (by omega)]
theorem p14_loop (n : Nat) (L O : List UInt8) (f t col : Nat) (hft : f ≤ t) (ht : t < 2 ^ 40) (hb : L.length < 2 ^ 40) (hO : O.length < 2 ^ 41) (k0 : ByteArray → ByteArray → Option R) : ∀ (d m i : Nat), d + i = L.length → d < m →
    p14_l8L n m f t col (bs L) (bs (O ++ marg (L.take (min i col)))) (bs (List.replicate (car ((L.drop col).take (min (i - col) (t - f)))) 94)) i k0
      = k0 (bs (O ++ marg (L.take (min L.length col)))) (bs (List.replicate (car ((L.drop col).take (min (L.length - col) (t - f)))) 94))
  | 0, m + 1, i, h, _ => by
    simp only [p14_l8L, p14_l8B]
    have e : i = L.length := by omega
    simp (disch := (first | omega | (simp only [List.length_append, List.length_cons, List.length_nil, List.length_replicate, List.length_take, List.length_drop]; omega))) only [↓c_pos, ↓c_neg, dec_t, dec_f, Bool.and_true, Bool.true_and, Bool.and_false, Bool.false_and, Bool.not_true, Bool.not_false, cond_true, cond_false, inR_t, cutR_t, roomB_t, lenOK_t, w64, bs_size, List.length_append, List.length_cons, List.length_nil, bs_extract, bs_append, bs_push, bs_data, bs_empty, bs_lit, catS_bs, eqS_bs, ite_pos', ite_neg', decide_true, decide_false, if_true, if_false, e]
  | d + 1, m + 1, i, h, hm => by
    have ih := p14_loop n L O f t col hft ht hb hO k0 d m (i + 1) (by omega) (by omega)
    have hm1 := marg_le (L.take (min i col))
    have hm2 := car_le ((L.drop col).take (min (i - col) (t - f)))
    rw [List.length_take] at hm1
    rw [List.length_take, List.length_drop] at hm2
    have e2 : ((i : Int) + 1) = ((i + 1 : Nat) : Int) := by omega
    have key : ∀ r : Bool, isRest L[i] = r → p14_c11 n f t col (bs L) (bs (O ++ marg (L.take (min i col)))) (bs (List.replicate (car ((L.drop col).take (min (i - col) (t - f)))) 94)) i r
        (fun y8 y9 y10 y11 y12 y13 y14 => p14_c9 n y8 y9 y10 y11 y12 y13 y14 (fun y15 y16 y17 y18 y19 y20 y21 => p14_l8L n m y15 y16 y17 y18 y19 y20 y21 k0))
        = k0 (bs (O ++ marg (L.take (min L.length col)))) (bs (List.replicate (car ((L.drop col).take (min (L.length - col) (t - f)))) 94)) := by
      intro r hr
      rw [← ih]
      unfold p14_c11 p14_c12 p14_c14 p14_c9
      by_cases hc : i < col
      · have q1 : min i col = i := by omega
        have q2 : min (i + 1) col = i + 1 := by omega
        have q3 : i - col = 0 := by omega
        have q4 : i + 1 - col = 0 := by omega
        have hs := marg_snoc (L.take i) L[i]
        rw [← take_snoc' (by omega)] at hs
        rw [q1, q2, q3, q4, hs, hr]
        rw [q1] at hm1
        simp (disch := (first | omega | (simp only [List.length_append, List.length_cons, List.length_nil, List.length_replicate, List.length_take, List.length_drop]; omega))) only [↓c_pos, ↓c_neg, dec_t, dec_f, Bool.and_true, Bool.true_and, Bool.and_false, Bool.false_and, Bool.not_true, Bool.not_false, cond_true, cond_false, inR_t, cutR_t, roomB_t, lenOK_t, w64, bs_size, List.length_append, List.length_cons, List.length_nil, bs_extract, bs_append, bs_push, bs_data, bs_empty, bs_lit, catS_bs, eqS_bs, ite_pos', ite_neg', decide_true, decide_false, if_true, if_false, byte_get, eq9, e2]
        by_cases h9 : L[i] = 9
        · simp (disch := (first | omega | (simp only [List.length_append, List.length_cons, List.length_nil, List.length_replicate, List.length_take, List.length_drop]; omega))) only [↓c_pos, ↓c_neg, dec_t, dec_f, Bool.and_true, Bool.true_and, Bool.and_false, Bool.false_and, Bool.not_true, Bool.not_false, cond_true, cond_false, inR_t, cutR_t, roomB_t, lenOK_t, w64, bs_size, List.length_append, List.length_cons, List.length_nil, bs_extract, bs_append, bs_push, bs_data, bs_empty, bs_lit, catS_bs, eqS_bs, ite_pos', ite_neg', decide_true, decide_false, if_true, if_false, h9, List.append_assoc]
        · cases r
          · simp (disch := (first | omega | (simp only [List.length_append, List.length_cons, List.length_nil, List.length_replicate, List.length_take, List.length_drop]; omega))) only [↓c_pos, ↓c_neg, dec_t, dec_f, Bool.and_true, Bool.true_and, Bool.and_false, Bool.false_and, Bool.not_true, Bool.not_false, cond_true, cond_false, inR_t, cutR_t, roomB_t, lenOK_t, w64, bs_size, List.length_append, List.length_cons, List.length_nil, bs_extract, bs_append, bs_push, bs_data, bs_empty, bs_lit, catS_bs, eqS_bs, ite_pos', ite_neg', decide_true, decide_false, if_true, if_false, h9, List.append_assoc]
            first | done | rfl
          · simp (disch := (first | omega | (simp only [List.length_append, List.length_cons, List.length_nil, List.length_replicate, List.length_take, List.length_drop]; omega))) only [↓c_pos, ↓c_neg, dec_t, dec_f, Bool.and_true, Bool.true_and, Bool.and_false, Bool.false_and, Bool.not_true, Bool.not_false, cond_true, cond_false, inR_t, cutR_t, roomB_t, lenOK_t, w64, bs_size, List.length_append, List.length_cons, List.length_nil, bs_extract, bs_append, bs_push, bs_data, bs_empty, bs_lit, catS_bs, eqS_bs, ite_pos', ite_neg', decide_true, decide_false, if_true, if_false, h9, List.append_nil]
            first | done | rfl
      · have q1 : min i col = col := by omega
        have q2 : min (i + 1) col = col := by omega
        rw [q1, q2]
        by_cases hw : i - col < t - f
        · have q3 : min (i - col) (t - f) = i - col := by omega
          have q4 : min (i + 1 - col) (t - f) = (i - col) + 1 := by omega
          have hs := car_snoc ((L.drop col).take (i - col)) L[i]
          have hg : L[i] = (L.drop col)[i - col]'(by rw [List.length_drop]; omega) := by
            rw [List.getElem_drop]; congr 1; omega
          rw [hg, ← take_snoc' (by rw [List.length_drop]; omega), ← hg] at hs
          rw [q3, q4, hs, hr]
          rw [q3] at hm2
          have e3 : ((i : Int) - (col : Int)) < (t : Int) - (f : Int) := by omega
          simp (disch := (first | omega | (simp only [List.length_append, List.length_cons, List.length_nil, List.length_replicate, List.length_take, List.length_drop]; omega))) only [↓c_pos, ↓c_neg, dec_t, dec_f, Bool.and_true, Bool.true_and, Bool.and_false, Bool.false_and, Bool.not_true, Bool.not_false, cond_true, cond_false, inR_t, cutR_t, roomB_t, lenOK_t, w64, bs_size, List.length_append, List.length_cons, List.length_nil, bs_extract, bs_append, bs_push, bs_data, bs_empty, bs_lit, catS_bs, eqS_bs, ite_pos', ite_neg', decide_true, decide_false, if_true, if_false, e2, List.length_replicate]
          cases r
          · simp (disch := (first | omega | (simp only [List.length_append, List.length_cons, List.length_nil, List.length_replicate, List.length_take, List.length_drop]; omega))) only [↓c_pos, ↓c_neg, dec_t, dec_f, Bool.and_true, Bool.true_and, Bool.and_false, Bool.false_and, Bool.not_true, Bool.not_false, cond_true, cond_false, inR_t, cutR_t, roomB_t, lenOK_t, w64, bs_size, List.length_append, List.length_cons, List.length_nil, bs_extract, bs_append, bs_push, bs_data, bs_empty, bs_lit, catS_bs, eqS_bs, ite_pos', ite_neg', decide_true, decide_false, if_true, if_false, List.length_replicate]
            rw [show car (List.take (i - col) (List.drop col L)) + (if false = true then 0 else 1) = car (List.take (i - col) (List.drop col L)) + 1 from rfl, List.replicate_succ']
          · simp (disch := (first | omega | (simp only [List.length_append, List.length_cons, List.length_nil, List.length_replicate, List.length_take, List.length_drop]; omega))) only [↓c_pos, ↓c_neg, dec_t, dec_f, Bool.and_true, Bool.true_and, Bool.and_false, Bool.false_and, Bool.not_true, Bool.not_false, cond_true, cond_false, inR_t, cutR_t, roomB_t, lenOK_t, w64, bs_size, List.length_append, List.length_cons, List.length_nil, bs_extract, bs_append, bs_push, bs_data, bs_empty, bs_lit, catS_bs, eqS_bs, ite_pos', ite_neg', decide_true, decide_false, if_true, if_false, Nat.add_zero]
        · have q3 : min (i - col) (t - f) = t - f := by omega
          have q4 : min (i + 1 - col) (t - f) = t - f := by omega
          rw [q3, q4]
          simp (disch := (first | omega | (simp only [List.length_append, List.length_cons, List.length_nil, List.length_replicate, List.length_take, List.length_drop]; omega))) only [↓c_pos, ↓c_neg, dec_t, dec_f, Bool.and_true, Bool.true_and, Bool.and_false, Bool.false_and, Bool.not_true, Bool.not_false, cond_true, cond_false, inR_t, cutR_t, roomB_t, lenOK_t, w64, bs_size, List.length_append, List.length_cons, List.length_nil, bs_extract, bs_append, bs_push, bs_data, bs_empty, bs_lit, catS_bs, eqS_bs, ite_pos', ite_neg', decide_true, decide_false, if_true, if_false, e2]
    simp only [p14_l8L, p14_l8B]
    by_cases h128 : 128 ≤ L[i].toNat
    · simp (disch := (first | omega | (simp only [List.length_append, List.length_cons, List.length_nil, List.length_replicate, List.length_take, List.length_drop]; omega))) only [↓c_pos, ↓c_neg, dec_t, dec_f, Bool.and_true, Bool.true_and, Bool.and_false, Bool.false_and, Bool.not_true, Bool.not_false, cond_true, cond_false, inR_t, cutR_t, roomB_t, lenOK_t, w64, bs_size, List.length_append, List.length_cons, List.length_nil, bs_extract, bs_append, bs_push, bs_data, bs_empty, bs_lit, catS_bs, eqS_bs, ite_pos', ite_neg', decide_true, decide_false, if_true, if_false, byte_get]
      exact key _ (isRest_lt h128)
    · simp (disch := (first | omega | (simp only [List.length_append, List.length_cons, List.length_nil, List.length_replicate, List.length_take, List.length_drop]; omega))) only [↓c_pos, ↓c_neg, dec_t, dec_f, Bool.and_true, Bool.true_and, Bool.and_false, Bool.false_and, Bool.not_true, Bool.not_false, cond_true, cond_false, inR_t, cutR_t, roomB_t, lenOK_t, w64, bs_size, List.length_append, List.length_cons, List.length_nil, bs_extract, bs_append, bs_push, bs_data, bs_empty, bs_lit, catS_bs, eqS_bs, ite_pos', ite_neg', decide_true, decide_false, if_true, if_false, byte_get]
      exact key _ (isRest_ge h128)
theorem p14_eq (n : Nat) (l : List UInt8) (f t : Int) (hb : l.length < 2 ^ 40) (hn : l.length + 1 < n) (k : ByteArray → Int → Option R) : p14 n (bs l) f t k = k (bs (excerpt l f t).1) (excerpt l f t).2 := by
  unfold p14 p14_c3 excerpt
  by_cases h0 : f < 0
  · simp (disch := (first | omega | (simp only [List.length_append, List.length_cons, List.length_nil, List.length_replicate, List.length_take, List.length_drop]; omega))) only [↓c_pos, ↓c_neg, dec_t, dec_f, Bool.and_true, Bool.true_and, Bool.and_false, Bool.false_and, Bool.not_true, Bool.not_false, cond_true, cond_false, inR_t, cutR_t, roomB_t, lenOK_t, w64, bs_size, List.length_append, List.length_cons, List.length_nil, bs_extract, bs_append, bs_push, bs_data, bs_empty, bs_lit, catS_bs, eqS_bs, ite_pos', ite_neg', decide_true, decide_false, if_true, if_false, h0, true_or]
  by_cases h1 : f > t
  · simp (disch := (first | omega | (simp only [List.length_append, List.length_cons, List.length_nil, List.length_replicate, List.length_take, List.length_drop]; omega))) only [↓c_pos, ↓c_neg, dec_t, dec_f, Bool.and_true, Bool.true_and, Bool.and_false, Bool.false_and, Bool.not_true, Bool.not_false, cond_true, cond_false, inR_t, cutR_t, roomB_t, lenOK_t, w64, bs_size, List.length_append, List.length_cons, List.length_nil, bs_extract, bs_append, bs_push, bs_data, bs_empty, bs_lit, catS_bs, eqS_bs, ite_pos', ite_neg', decide_true, decide_false, if_true, if_false, h1, true_or, or_true]
  by_cases h2 : t > l.length
  · simp (disch := (first | omega | (simp only [List.length_append, List.length_cons, List.length_nil, List.length_replicate, List.length_take, List.length_drop]; omega))) only [↓c_pos, ↓c_neg, dec_t, dec_f, Bool.and_true, Bool.true_and, Bool.and_false, Bool.false_and, Bool.not_true, Bool.not_false, cond_true, cond_false, inR_t, cutR_t, roomB_t, lenOK_t, w64, bs_size, List.length_append, List.length_cons, List.length_nil, bs_extract, bs_append, bs_push, bs_data, bs_empty, bs_lit, catS_bs, eqS_bs, ite_pos', ite_neg', decide_true, decide_false, if_true, if_false]
  obtain ⟨f, rfl⟩ := Int.eq_ofNat_of_zero_le (Int.not_lt.1 h0)
  obtain ⟨t, rfl⟩ := Int.eq_ofNat_of_zero_le (show 0 ≤ t by omega)
  have hlc : lineCol l f = ((((l.take f).count 10 : Nat) : Int), ((tw (l.take f) : Nat) : Int), 0) := by
    unfold lineCol; rw [if_neg (by omega)]; rfl
  have hp12 := fun k0 => p12_eq (R := R) n l f (by omega) (by omega) k0
  simp only [hlc] at hp12
  have hbg := begR_count l f (by omega)
  have hbi : begI l ((l.take f).count 10 : Nat) = ((f - tw (l.take f) : Nat) : Int) := by
    unfold begI
    rw [if_neg (by omega), Int.toNat_natCast, hbg]
  have hline : line l ((l.take f).count 10 : Nat) = ((l.drop (f - tw (l.take f))).takeWhile (· != 10), 0) := by
    unfold line
    rw [hbi, if_neg (by omega), Int.toNat_natCast]
  have hp18 := fun k0 => p18_eq (R := R) n l ((l.take f).count 10 : Nat) (by omega) (by omega) k0
  simp only [hline] at hp18
  have hs := line_split l f (by omega)
  have htw := tw_le (l.take f)
  have hlen : (l.take f).length = f := by rw [List.length_take]; omega
  obtain ⟨L, hL⟩ : ∃ L, L = (l.drop (f - tw (l.take f))).takeWhile (· != 10) := ⟨_, rfl⟩
  rw [← hL] at hp18 hs
  have hLl : L.length ≤ l.length := by
    rw [hL]; have := ln_le (l.drop (f - tw (l.take f))); unfold ln at this; rw [List.length_drop] at this; omega
  have hA : (List.take (tw (l.take f)) (l.drop (f - tw (l.take f)))).length = tw (l.take f) := by rw [List.length_take, List.length_drop]; omega
  have hT : L.take (tw (l.take f)) = (l.drop (f - tw (l.take f))).take (tw (l.take f)) := by rw [hs, List.take_append_of_le_length (by omega), List.take_of_length_le (by omega)]
  have hD : L.drop (tw (l.take f)) = (l.drop f).take (ln (l.drop f)) := by rw [hs, List.drop_append_of_le_length (by omega), List.drop_of_length_le (by omega), take_ln]; rfl
  have hLn : L.length = tw (l.take f) + ln (l.drop f) := by rw [hs, List.length_append, hA]; rfl
  have hlp := fun k0 => p14_loop (R := R) n L (L ++ [10]) f t (tw (l.take f)) (by omega) (by omega) (by omega) (by rw [List.length_append]; simp only [List.length_cons, List.length_nil]; omega) k0 L.length n 0 (by omega) (by omega)
  simp only [Nat.zero_min, Nat.zero_sub, List.take_zero, marg, car, List.flatMap_nil, List.countP_nil, List.replicate_zero, List.append_nil] at hlp
  rw [show ((0 : Nat) : Int) = 0 from rfl] at hlp
  have hf2 : min L.length (tw (l.take f)) = tw (l.take f) := by omega
  have hf3 : L.length - tw (l.take f) = ln (l.drop f) := by omega
  rw [hf2, hT, hf3, hD, List.take_take] at hlp
  have hmn : min (min (ln (List.drop f l)) (t - f)) (ln (List.drop f l)) = min (t - f) (ln (l.drop f)) := by omega
  rw [hmn] at hlp
  have hm := marg_le ((l.drop (f - tw (l.take f))).take (tw (l.take f)))
  rw [List.length_take, List.length_drop] at hm
  have hcl := car_le ((l.drop f).take (min (t - f) (ln (l.drop f))))
  rw [List.length_take, List.length_drop] at hcl
  unfold exc
  simp only [marg, car, Int.toNat_natCast] at *
  rw [← hL]
  generalize hC : List.countP (fun c => !isRest c) (List.take (min (t - f) (ln (List.drop f l))) (List.drop f l)) = C at *
  simp (disch := (first | omega | (simp only [List.length_append, List.length_cons, List.length_nil, List.length_replicate, List.length_take, List.length_drop]; omega))) only [↓c_pos, ↓c_neg, dec_t, dec_f, Bool.and_true, Bool.true_and, Bool.and_false, Bool.false_and, Bool.not_true, Bool.not_false, cond_true, cond_false, inR_t, cutR_t, roomB_t, lenOK_t, w64, bs_size, List.length_append, List.length_cons, List.length_nil, bs_extract, bs_append, bs_push, bs_data, bs_empty, bs_lit, catS_bs, eqS_bs, ite_pos', ite_neg', decide_true, decide_false, if_true, if_false, hp12, hp18, p14_l8, hlp, p14_c19, List.length_replicate]
  by_cases hC0 : C = 0
  · simp (disch := (first | omega | (simp only [List.length_append, List.length_cons, List.length_nil, List.length_replicate, List.length_take, List.length_drop]; omega))) only [↓c_pos, ↓c_neg, dec_t, dec_f, Bool.and_true, Bool.true_and, Bool.and_false, Bool.false_and, Bool.not_true, Bool.not_false, cond_true, cond_false, inR_t, cutR_t, roomB_t, lenOK_t, w64, bs_size, List.length_append, List.length_cons, List.length_nil, bs_extract, bs_append, bs_push, bs_data, bs_empty, bs_lit, catS_bs, eqS_bs, ite_pos', ite_neg', decide_true, decide_false, if_true, if_false, hC0]
    simp [bs]
  · rw [show max C 1 = C from by omega]
    have : (List.replicate C (94 : UInt8) == []) = false := by
      cases C with
      | zero => exact absurd rfl hC0
      | succ C => rfl
    simp (disch := (first | omega | (simp only [List.length_append, List.length_cons, List.length_nil, List.length_replicate, List.length_take, List.length_drop]; omega))) only [↓c_pos, ↓c_neg, dec_t, dec_f, Bool.and_true, Bool.true_and, Bool.and_false, Bool.false_and, Bool.not_true, Bool.not_false, cond_true, cond_false, inR_t, cutR_t, roomB_t, lenOK_t, w64, bs_size, List.length_append, List.length_cons, List.length_nil, bs_extract, bs_append, bs_push, bs_data, bs_empty, bs_lit, catS_bs, eqS_bs, ite_pos', ite_neg', decide_true, decide_false, if_true, if_false, this, List.append_assoc]
theorem p17_eq (n : Nat) (l : List UInt8) (x : Int) (hx : x < 2 ^ 63) (hb : l.length < 2 ^ 62) (hn : l.length + 1 < n) (k : ByteArray → Int → Option R) : p17 n (bs l) x k = k (bs (line l x).1) (line l x).2 := by
  unfold p17
  rw [p27_eq n l x hx hb hn]
  have hle := begI_le l x
  by_cases h : begI l x < 0
  · simp (disch := (first | omega | (simp only [List.length_append, List.length_cons, List.length_nil, List.length_replicate, List.length_take, List.length_drop]; omega))) only [↓c_pos, ↓c_neg, dec_t, dec_f, Bool.and_true, Bool.true_and, Bool.and_false, Bool.false_and, Bool.not_true, Bool.not_false, cond_true, cond_false, inR_t, cutR_t, roomB_t, lenOK_t, w64, bs_size, List.length_append, List.length_cons, List.length_nil, bs_extract, bs_append, bs_push, bs_data, bs_empty, bs_lit, catS_bs, eqS_bs, ite_pos', ite_neg', decide_true, decide_false, if_true, if_false, line, h]
  · obtain ⟨b, hb2⟩ := Int.eq_ofNat_of_zero_le (Int.not_lt.1 h)
    have hp := p21_eq (R := R) n l b (by omega) hb
    have hl := ln_le (l.drop b)
    rw [List.length_drop] at hl
    unfold line
    rw [hb2]
    simp (disch := (first | omega | (simp only [List.length_append, List.length_cons, List.length_nil, List.length_replicate, List.length_take, List.length_drop]; omega))) only [↓c_pos, ↓c_neg, dec_t, dec_f, Bool.and_true, Bool.true_and, Bool.and_false, Bool.false_and, Bool.not_true, Bool.not_false, cond_true, cond_false, inR_t, cutR_t, roomB_t, lenOK_t, w64, bs_size, List.length_append, List.length_cons, List.length_nil, bs_extract, bs_append, bs_push, bs_data, bs_empty, bs_lit, catS_bs, eqS_bs, ite_pos', ite_neg', decide_true, decide_false, if_true, if_false, hp]
    simp only [Int.toNat_natCast]
    rw [← take_ln, List.drop_take, show b + ln (l.drop b) - b = ln (l.drop b) from by omega]
theorem p16_eq (n : Nat) (l : List UInt8) (x y : Int) (hx1 : x < 2 ^ 63) (hb : l.length < 2 ^ 62) (hn : l.length + 1 < n) (k : Int → Int → Option R) : p16 n (bs l) x y k = k (offset l x y).1 (offset l x y).2 := by
  unfold p16 offset
  rw [p18_eq n l x hb hn]
  have hle := begI_le l x
  unfold line
  by_cases h : begI l x < 0
  · simp (disch := (first | omega | (simp only [List.length_append, List.length_cons, List.length_nil, List.length_replicate, List.length_take, List.length_drop]; omega))) only [↓c_pos, ↓c_neg, dec_t, dec_f, Bool.and_true, Bool.true_and, Bool.and_false, Bool.false_and, Bool.not_true, Bool.not_false, cond_true, cond_false, inR_t, cutR_t, roomB_t, lenOK_t, w64, bs_size, List.length_append, List.length_cons, List.length_nil, bs_extract, bs_append, bs_push, bs_data, bs_empty, bs_lit, catS_bs, eqS_bs, ite_pos', ite_neg', decide_true, decide_false, if_true, if_false, h]
    rfl
  · obtain ⟨b, hb2⟩ := Int.eq_ofNat_of_zero_le (Int.not_lt.1 h)
    have hl := ln_le (l.drop b)
    rw [List.length_drop] at hl
    have hp := fun k => p28_eq (R := R) n l x hb hn k
    rw [hb2] at hp ⊢
    have hL : ((l.drop b).takeWhile (· != 10)).length = ln (l.drop b) := rfl
    simp only [Int.toNat_natCast]
    by_cases h1 : y < 0
    · simp (disch := (first | omega | (simp only [List.length_append, List.length_cons, List.length_nil, List.length_replicate, List.length_take, List.length_drop]; omega))) only [↓c_pos, ↓c_neg, dec_t, dec_f, Bool.and_true, Bool.true_and, Bool.and_false, Bool.false_and, Bool.not_true, Bool.not_false, cond_true, cond_false, inR_t, cutR_t, roomB_t, lenOK_t, w64, bs_size, List.length_append, List.length_cons, List.length_nil, bs_extract, bs_append, bs_push, bs_data, bs_empty, bs_lit, catS_bs, eqS_bs, ite_pos', ite_neg', decide_true, decide_false, if_true, if_false, h1, show ((0 : Int) != 0) = false from rfl, true_or]
    by_cases h2 : y > ln (l.drop b)
    · simp (disch := (first | omega | (simp only [List.length_append, List.length_cons, List.length_nil, List.length_replicate, List.length_take, List.length_drop]; omega))) only [↓c_pos, ↓c_neg, dec_t, dec_f, Bool.and_true, Bool.true_and, Bool.and_false, Bool.false_and, Bool.not_true, Bool.not_false, cond_true, cond_false, inR_t, cutR_t, roomB_t, lenOK_t, w64, bs_size, List.length_append, List.length_cons, List.length_nil, bs_extract, bs_append, bs_push, bs_data, bs_empty, bs_lit, catS_bs, eqS_bs, ite_pos', ite_neg', decide_true, decide_false, if_true, if_false, hL, show ((0 : Int) != 0) = false from rfl]
    · simp (disch := (first | omega | (simp only [List.length_append, List.length_cons, List.length_nil, List.length_replicate, List.length_take, List.length_drop]; omega))) only [↓c_pos, ↓c_neg, dec_t, dec_f, Bool.and_true, Bool.true_and, Bool.and_false, Bool.false_and, Bool.not_true, Bool.not_false, cond_true, cond_false, inR_t, cutR_t, roomB_t, lenOK_t, w64, bs_size, List.length_append, List.length_cons, List.length_nil, bs_extract, bs_append, bs_push, bs_data, bs_empty, bs_lit, catS_bs, eqS_bs, ite_pos', ite_neg', decide_true, decide_false, if_true, if_false, hL, hp, show ((0 : Int) != 0) = false from rfl]
end Go.Proofs.Ytlplpkbhjddmeaa


set_option linter.unusedVariables false
set_option maxRecDepth 100000
namespace Go.Proofs.Ytlplpkbhjddmeaa
open Go Th Go.Proofs
def ann10 : Ann := { loops := [], cuts := [], frz := [], rm := [.id] }
noncomputable abbrev env10 (n : Nat) : Env := fun i => bif Nat.beq i 15 then some (fs15 n) else (fun i => bif Nat.beq i 13 then some (fs13 n) else (fun i => bif Nat.beq i 11 then some (fs11 n) else (fun _ => none) i) i) i
theorem envok10 (n : Nat) : EnvOK Try.prog (env10 n) := EnvOK.cons (EnvOK.cons (EnvOK.cons (EnvOK.nil) (ok11 n)) (ok13 n)) (ok15 n)
noncomputable def p10 {R : Type} (n : Nat)  (k0 : Bool → Option R) : Option R :=
  p11 n ⟨#[97, 98, 10, 99, 100, 10]⟩ 4 (fun (y1 : Int) (y2 : Int) (y3 : Int) => p11 n ⟨#[97, 98, 10, 99, 100, 10]⟩ 2 (fun (y4 : Int) (y5 : Int) (y6 : Int) => p15 n ⟨#[97, 98, 10, 99, 100, 10]⟩ 1 2 (fun (y7 : Int) (y8 : Int) => p13 n ⟨#[97, 98, 10, 99, 100, 10]⟩ 3 5 (fun (y9 : ByteArray) (y10 : Int) => p13 n ⟨#[97, 98, 10, 99, 100, 10]⟩ 6 6 (fun (y11 : ByteArray) (y12 : Int) => bif (y1 == 1) then (bif (bif true then (y2 == 1) else false) then (bif (bif true then (y3 == 0) else false) then (bif (bif true then (y4 == 0) else false) then (bif (bif true then (y5 == 2) else false) then (bif (bif true then (y6 == 0) else false) then (bif (bif true then (y7 == 5) else false) then (bif (bif true then (y8 == 0) else false) then (bif (bif true then eqS y9 (⟨#[99, 100, 10, 94, 94]⟩ : ByteArray) else false) then (bif (bif true then (y10 == 0) else false) then (bif (bif true then eqS y11 (⟨#[10, 94]⟩ : ByteArray) else false) then (k0 (bif true then (y12 == 0) else false)) else (k0 false)) else (k0 false)) else (k0 false)) else (k0 false)) else (k0 false)) else (k0 false)) else (k0 false)) else (k0 false)) else (k0 false)) else (k0 false)) else (k0 false))))))
noncomputable abbrev lo10 {R : Type} (n : Nat) : Orc R := fun i vs K => none
noncomputable abbrev cu10 {R : Type} (n : Nat) : Orc R := fun i vs K => none
section
variable {R : Type}
theorem pa10 (n : Nat) : allP (PartOK (R := R) Try.prog (env10 n) ann10 n (89, []) (lo10 n) (cu10 n)) (partsOf ann10 (bodyOf Try.f10)) := by
  have h : partsOf ann10 (bodyOf Try.f10) = [] := by kernel_rfl
  rw [h]
  exact trivial
theorem ep10 (n : Nat)  (K : List SV → Option R) : evFnOi Try.prog (env10 n) ann10 (lo10 n) (cu10 n) Try.f10 [] K = p10 n  (fun (y1 : Bool) => K [.p (.v (.bool y1))]) := by kernel_rfl
noncomputable abbrev fs10a1 (n : Nat) (args : List SV) (K : List SV → Option R) : Option R := none
noncomputable abbrev fs10t0 (n : Nat) (D : Option R) (args : List SV) (K : List SV → Option R) : Option R :=
  dNil args D (p10 n  (fun (y1 : Bool) => K [.p (.v (.bool y1))]))
noncomputable abbrev fs10a0 (n : Nat) (args : List SV) (K : List SV → Option R) : Option R := fs10t0 n (fs10a1 n args K) args K
theorem hs10a1 (n : Nat) (args : List SV) (K : List SV → Option R) (res : R) : fs10a1 n args K = some res → evFn Try.prog (env10 n) ann10 n Try.f10 args K = some res := fun h => by cases h
theorem hs10a0 (n : Nat) (args : List SV) (K : List SV → Option R) (res : R) : fs10a0 n args K = some res → evFn Try.prog (env10 n) ann10 n Try.f10 args K = some res := by
  unfold fs10a0 fs10t0
  refine dNil_imp (fun e => ?_) (hs10a1 n _ K res)
  subst e
  intro h
  rw [evFn_evOi (c := bodyOf Try.f10) (by kernel_rfl) (pa10 n), ep10]
  exact h
end
noncomputable abbrev fs10 (n : Nat) : FS := { om := [], run := fun args K => fs10a0 n args K }
theorem ok10 (n : Nat) : FSound Try.prog 10 (fs10 n) :=
  FSound.of (envok10 n) (ann := ann10) (n := n) (by kernel_rfl) Try.func10 (by kernel_rfl) (by kernel_rfl) fun {R args K res} h => hs10a0 n args K res h
end Go.Proofs.Ytlplpkbhjddmeaa


namespace Go.Proofs.Ytlplpkbhjddmeaa
open Go Th Go.Proofs
theorem p10_eq {R : Type} (m : Nat) (k0 : Bool → Option R) : p10 (m + 20) k0 = k0 true := by kernel_rfl
theorem p10_run {R : Type} (n : Nat) (h : 20 ≤ n) (k0 : Bool → Option R) : p10 n k0 = k0 true := by
  rw [show n = (n - 20) + 20 from by omega]; exact p10_eq _ k0
end Go.Proofs.Ytlplpkbhjddmeaa


set_option linter.unusedVariables false
set_option maxRecDepth 100000
namespace Go.Proofs.Ytlplpkbhjddmeaa
open Go Th Go.Proofs
def ann9 : Ann := { loops := [(14, [(1, .id), (2, .id), (10, .id), (12, .id), (14, .id), (15, .id)], [(1, .id), (2, .id), (6, .id), (10, .id), (12, .id), (14, .id), (15, .id)]), (19, [(1, .id), (2, .id), (10, .id), (12, .id), (14, .id), (15, .id), (16, .id)], [(1, .id), (2, .id), (6, .id), (10, .id), (12, .id), (14, .id), (15, .id)]), (24, [(1, .id), (2, .id), (10, .id), (12, .id), (14, .id), (15, .id), (17, .id)], [(1, .id), (2, .id), (6, .id), (10, .id), (14, .id), (15, .id)])], cuts := [(12, [(1, .id), (2, .id), (7, .id), (10, .id), (12, .id)], [(6, .id)]), (15, [(1, .id), (2, .id), (10, .id), (12, .id), (14, .id), (15, .id)], [(1, .id), (2, .id), (6, .id), (10, .id), (12, .id), (14, .id), (15, .id)])], frz := [], rm := [.id] }
noncomputable abbrev env9 (n : Nat) : Env := fun i => bif Nat.beq i 17 then some (fs17 n) else (fun i => bif Nat.beq i 13 then some (fs13 n) else (fun i => bif Nat.beq i 11 then some (fs11 n) else (fun i => bif Nat.beq i 10 then some (fs10 n) else (fun _ => none) i) i) i) i
theorem envok9 (n : Nat) : EnvOK Try.prog (env9 n) := EnvOK.cons (EnvOK.cons (EnvOK.cons (EnvOK.cons (EnvOK.nil) (ok10 n)) (ok11 n)) (ok13 n)) (ok17 n)
noncomputable def p9_c15 {R : Type} (n : Nat) (x1 : Int) (x2 : Int) (x3 : Int) (x4 : ByteArray) (x5 : ByteArray) (x6 : Int) (k0 : Int → Int → Bool → Int → ByteArray → ByteArray → Int → Option R) (k1 : Int → Int → Int → ByteArray → ByteArray → Int → Option R) : Option R :=
  bif (inR x6 (x5).size) then (bif (byteAt x5 x6 != 32) then (bif (inR x6 (x5).size) then (bif (bif true then (byteAt x5 x6 != 9) else false) then (k0 x1 x2 false x3 x4 x5 x6) else (k1 x1 x2 x3 x4 x5 (IntKind.i64.wrap (x6 + 1)))) else none) else (k1 x1 x2 x3 x4 x5 (IntKind.i64.wrap (x6 + 1)))) else none
noncomputable def p9_l14B {R : Type} (n : Nat) (l0 : Int → Int → Int → ByteArray → ByteArray → Int → Option R) (x1 : Int) (x2 : Int) (x3 : Int) (x4 : ByteArray) (x5 : ByteArray) (x6 : Int) (k0 : Int → Int → Bool → Int → ByteArray → ByteArray → Int → Option R) (k1 : Int → Int → Int → ByteArray → ByteArray → Int → Option R) : Option R :=
  bif (decide (x6 < ((x5).size : Int))) then (bif (inR x6 (x5).size) then (bif (bif true then (byteAt x5 x6 != 94) else false) then (p9_c15 n x1 x2 x3 x4 x5 x6 (fun (y7 : Int) (y8 : Int) (y9 : Bool) (y10 : Int) (y11 : ByteArray) (y12 : ByteArray) (y13 : Int) => k0 y7 y8 y9 y10 y11 y12 y13) (fun (y14 : Int) (y15 : Int) (y16 : Int) (y17 : ByteArray) (y18 : ByteArray) (y19 : Int) => l0 y14 y15 y16 y17 y18 y19)) else (k1 x1 x2 x3 x4 x5 x6)) else none) else (k1 x1 x2 x3 x4 x5 x6)
noncomputable def p9_l14L {R : Type} (n : Nat) : Nat → Int → Int → Int → ByteArray → ByteArray → Int → (Int → Int → Bool → Int → ByteArray → ByteArray → Int → Option R) → (Int → Int → Int → ByteArray → ByteArray → Int → Option R) → Option R
  | 0, _, _, _, _, _, _, _, _ => none
  | m + 1, x1, x2, x3, x4, x5, x6, k0, k1 => p9_l14B n (fun x1 x2 x3 x4 x5 x6 => p9_l14L n m x1 x2 x3 x4 x5 x6 k0 k1) x1 x2 x3 x4 x5 x6 k0 k1
noncomputable def p9_l14 {R : Type} (n : Nat) (x1 : Int) (x2 : Int) (x3 : Int) (x4 : ByteArray) (x5 : ByteArray) (x6 : Int) (k0 : Int → Int → Bool → Int → ByteArray → ByteArray → Int → Option R) (k1 : Int → Int → Int → ByteArray → ByteArray → Int → Option R) : Option R := p9_l14L n n x1 x2 x3 x4 x5 x6 k0 k1
noncomputable def p9_l19B {R : Type} (n : Nat) (l0 : Int → Int → Int → ByteArray → ByteArray → Int → Int → Option R) (x1 : Int) (x2 : Int) (x3 : Int) (x4 : ByteArray) (x5 : ByteArray) (x6 : Int) (x7 : Int) (k0 : Int → Int → Bool → Int → ByteArray → ByteArray → Int → Option R) (k1 : Int → Int → Int → ByteArray → ByteArray → Int → Option R) : Option R :=
  bif (decide (x7 < ((x5).size : Int))) then (bif (inR x7 (x5).size) then (bif (byteAt x5 x7 != 94) then (k0 x1 x2 false x3 x4 x5 x6) else (l0 x1 x2 x3 x4 x5 x6 (IntKind.i64.wrap (x7 + 1)))) else none) else (k1 x1 x2 x3 x4 x5 x6)
noncomputable def p9_l19L {R : Type} (n : Nat) : Nat → Int → Int → Int → ByteArray → ByteArray → Int → Int → (Int → Int → Bool → Int → ByteArray → ByteArray → Int → Option R) → (Int → Int → Int → ByteArray → ByteArray → Int → Option R) → Option R
  | 0, _, _, _, _, _, _, _, _, _ => none
  | m + 1, x1, x2, x3, x4, x5, x6, x7, k0, k1 => p9_l19B n (fun x1 x2 x3 x4 x5 x6 x7 => p9_l19L n m x1 x2 x3 x4 x5 x6 x7 k0 k1) x1 x2 x3 x4 x5 x6 x7 k0 k1
noncomputable def p9_l19 {R : Type} (n : Nat) (x1 : Int) (x2 : Int) (x3 : Int) (x4 : ByteArray) (x5 : ByteArray) (x6 : Int) (x7 : Int) (k0 : Int → Int → Bool → Int → ByteArray → ByteArray → Int → Option R) (k1 : Int → Int → Int → ByteArray → ByteArray → Int → Option R) : Option R := p9_l19L n n x1 x2 x3 x4 x5 x6 x7 k0 k1
noncomputable def p9_l24B {R : Type} (n : Nat) (l0 : Int → Int → Int → ByteArray → ByteArray → Int → Int → Option R) (x1 : Int) (x2 : Int) (x3 : Int) (x4 : ByteArray) (x5 : ByteArray) (x6 : Int) (x7 : Int) (k0 : Int → Int → Bool → Int → ByteArray → Int → Option R) (k1 : Int → Int → Int → ByteArray → Int → Option R) : Option R :=
  bif (decide (x7 < ((x4).size : Int))) then (bif (inR x7 (x4).size) then (bif (decide (byteAt x4 x7 ≥ 128)) then (k0 x1 x2 (decide (x6 ≤ x3)) x3 x5 x6) else (l0 x1 x2 x3 x4 x5 x6 (IntKind.i64.wrap (x7 + 1)))) else none) else (k1 x1 x2 x3 x5 x6)
noncomputable def p9_l24L {R : Type} (n : Nat) : Nat → Int → Int → Int → ByteArray → ByteArray → Int → Int → (Int → Int → Bool → Int → ByteArray → Int → Option R) → (Int → Int → Int → ByteArray → Int → Option R) → Option R
  | 0, _, _, _, _, _, _, _, _, _ => none
  | m + 1, x1, x2, x3, x4, x5, x6, x7, k0, k1 => p9_l24B n (fun x1 x2 x3 x4 x5 x6 x7 => p9_l24L n m x1 x2 x3 x4 x5 x6 x7 k0 k1) x1 x2 x3 x4 x5 x6 x7 k0 k1
noncomputable def p9_l24 {R : Type} (n : Nat) (x1 : Int) (x2 : Int) (x3 : Int) (x4 : ByteArray) (x5 : ByteArray) (x6 : Int) (x7 : Int) (k0 : Int → Int → Bool → Int → ByteArray → Int → Option R) (k1 : Int → Int → Int → ByteArray → Int → Option R) : Option R := p9_l24L n n x1 x2 x3 x4 x5 x6 x7 k0 k1
noncomputable def p9_c12 {R : Type} (n : Nat) (x1 : Int) (x2 : Int) (x3 : ByteArray) (x4 : Int) (x5 : ByteArray) (k0 : Bool → Option R) : Option R :=
  let v6 := IntKind.i64.wrap (((x5).size : Int) + 1); bif (cutR v6 ((x3).size : Int) (x3).size) then (p9_l14 n x1 x2 x4 x5 (ByteArray.extract x3 (v6 : Int).toNat (((x3).size : Int) : Int).toNat) 0 (fun (y7 : Int) (y8 : Int) (y9 : Bool) (y10 : Int) (y11 : ByteArray) (y12 : ByteArray) (y13 : Int) => k0 y9) (fun (y14 : Int) (y15 : Int) (y16 : Int) (y17 : ByteArray) (y18 : ByteArray) (y19 : Int) => p9_l19 n y14 y15 y16 y17 y18 y19 y19 (fun (y20 : Int) (y21 : Int) (y22 : Bool) (y23 : Int) (y24 : ByteArray) (y25 : ByteArray) (y26 : Int) => k0 y22) (fun (y27 : Int) (y28 : Int) (y29 : Int) (y30 : ByteArray) (y31 : ByteArray) (y32 : Int) => p9_l24 n y27 y28 y29 y30 y31 y32 0 (fun (y33 : Int) (y34 : Int) (y35 : Bool) (y36 : Int) (y37 : ByteArray) (y38 : Int) => k0 y35) (fun (y39 : Int) (y40 : Int) (y41 : Int) (y42 : ByteArray) (y43 : Int) => bif (y43 == y41) then (let v44 := IntKind.i64.wrap (((y42).size : Int) - y43); let v45 := maxI 1 (IntKind.i64.wrap (y40 - y39)); k0 (bif true then (decide (v44 ≤ v45)) else false)) else (k0 false))))) else none
noncomputable def p9 {R : Type} (n : Nat) (x1 : ByteArray) (x2 : Int) (x3 : Int) (k0 : Bool → Option R) : Option R :=
  p10 n (fun (y4 : Bool) => bif (!y4) then (k0 false) else (bif (decide (((x1).size : Int) > 1000)) then (k0 true) else (p13 n x1 x2 x3 (fun (y5 : ByteArray) (y6 : Int) => bif (y6 != 0) then (k0 (eqS y5 (⟨#[]⟩ : ByteArray))) else (p11 n x1 x2 (fun (y7 : Int) (y8 : Int) (y9 : Int) => p17 n x1 y7 (fun (y10 : ByteArray) (y11 : Int) => bif (y11 != 0) then (k0 false) else (let v12 := IntKind.i64.wrap (((y10).size : Int) + 2); bif (bif false then true else (decide (((y5).size : Int) < v12))) then (k0 false) else (let v13 := IntKind.i64.wrap (((y10).size : Int) + 1); bif (cutR 0 v13 (y5).size) then (catS y10 (⟨#[10]⟩ : ByteArray) fun s14 => bif (bif false then true else (!eqS (ByteArray.extract y5 (0 : Int).toNat (v13 : Int).toNat) s14)) then (k0 false) else (let v15 := IntKind.i64.wrap (((y5).size : Int) - 1); bif (inR v15 (y5).size) then (bif (bif false then true else (byteAt y5 v15 != 94)) then (k0 false) else (p9_c12 n x2 x3 y5 y8 y10 (fun (y16 : Bool) => k0 y16))) else none)) else none)))))))))
noncomputable def c9_c12 : Code := subC (bodyOf Try.f9) [1, 1, 1, 1, 1, 1, 1, 1]
noncomputable abbrev o9_c12a1 {R : Type} (n : Nat) (vs : List SV) (K : Kc R) : Option R := evCut (fun f k => evC Try.prog (env9 n) ann9 n (141, []) c9_c12 f k) (liveA ann9.cuts 12) (outA ann9.cuts 12) vs K
noncomputable abbrev o9_c12t0 {R : Type} (n : Nat) (D : Option R) (vs : List SV) (K : Kc R) : Option R :=
  dCons vs D fun z1 z2 => dP z1 D fun z3 => dInt .i64 z3 D fun x1 => dCons z2 D fun z4 z5 => dP z4 D fun z6 => dInt .i64 z6 D fun x2 => dCons z5 D fun z7 z8 => dP z7 D fun z9 => dStr z9 D fun x3 => dCons z8 D fun z10 z11 => dP z10 D fun z12 => dInt .i64 z12 D fun x4 => dCons z11 D fun z13 z14 => dP z13 D fun z15 => dStr z15 D fun x5 => dNil z14 D (p9_c12 n x1 x2 x3 x4 x5 (fun (y1 : Bool) => K .ret (lk (outA ann9.cuts 12) [.p (.v (.bool y1))])))
noncomputable abbrev o9_c12a0 {R : Type} (n : Nat) (vs : List SV) (K : Kc R) : Option R := o9_c12t0 n (o9_c12a1 n vs K) vs K
noncomputable abbrev o9_c12 {R : Type} (n : Nat) (vs : List SV) (K : Kc R) : Option R := o9_c12a0 n vs K
noncomputable def c9_c15 : Code := subC (bodyOf Try.f9) [1, 1, 1, 1, 1, 1, 1, 1, 1, 1, 0, 0, 0, 1]
noncomputable abbrev o9_c15a1 {R : Type} (n : Nat) (vs : List SV) (K : Kc R) : Option R := evCut (fun f k => evC Try.prog (env9 n) ann9 n (141, []) c9_c15 f k) (liveA ann9.cuts 15) (outA ann9.cuts 15) vs K
noncomputable abbrev o9_c15t0 {R : Type} (n : Nat) (D : Option R) (vs : List SV) (K : Kc R) : Option R :=
  dCons vs D fun z1 z2 => dP z1 D fun z3 => dInt .i64 z3 D fun x1 => dCons z2 D fun z4 z5 => dP z4 D fun z6 => dInt .i64 z6 D fun x2 => dCons z5 D fun z7 z8 => dP z7 D fun z9 => dInt .i64 z9 D fun x3 => dCons z8 D fun z10 z11 => dP z10 D fun z12 => dStr z12 D fun x4 => dCons z11 D fun z13 z14 => dP z13 D fun z15 => dStr z15 D fun x5 => dCons z14 D fun z16 z17 => dP z16 D fun z18 => dInt .i64 z18 D fun x6 => dNil z17 D (p9_c15 n x1 x2 x3 x4 x5 x6 (fun (y1 : Int) (y2 : Int) (y3 : Bool) (y4 : Int) (y5 : ByteArray) (y6 : ByteArray) (y7 : Int) => K .ret (lk (outA ann9.cuts 15) [.p (.v (.int .i64 y1)), .p (.v (.int .i64 y2)), .p (.v (.bool y3)), .p (.v (.int .i64 y4)), .p (.v (.string y5)), .p (.v (.string y6)), .p (.v (.int .i64 y7))])) (fun (y1 : Int) (y2 : Int) (y3 : Int) (y4 : ByteArray) (y5 : ByteArray) (y6 : Int) => K .normal (lk (outA ann9.cuts 15) [.p (.v (.int .i64 y1)), .p (.v (.int .i64 y2)), .dead, .p (.v (.int .i64 y3)), .p (.v (.string y4)), .p (.v (.string y5)), .p (.v (.int .i64 y6))])))
noncomputable abbrev o9_c15a0 {R : Type} (n : Nat) (vs : List SV) (K : Kc R) : Option R := o9_c15t0 n (o9_c15a1 n vs K) vs K
noncomputable abbrev o9_c15 {R : Type} (n : Nat) (vs : List SV) (K : Kc R) : Option R := o9_c15a0 n vs K
noncomputable def c9_l14 : Code := subC (bodyOf Try.f9) [1, 1, 1, 1, 1, 1, 1, 1, 1, 1, 0, 0, 0]
noncomputable abbrev o9_l14a1 {R : Type} (n : Nat) (vs : List SV) (K : Kc R) : Option R := evLoop (fun f k => evC Try.prog (env9 n) ann9 n (141, []) c9_l14 f k) (liveA ann9.loops 14) (outA ann9.loops 14) n vs K
noncomputable abbrev o9_l14t0 {R : Type} (n : Nat) (D : Option R) (vs : List SV) (K : Kc R) : Option R :=
  dCons vs D fun z1 z2 => dP z1 D fun z3 => dInt .i64 z3 D fun x1 => dCons z2 D fun z4 z5 => dP z4 D fun z6 => dInt .i64 z6 D fun x2 => dCons z5 D fun z7 z8 => dP z7 D fun z9 => dInt .i64 z9 D fun x3 => dCons z8 D fun z10 z11 => dP z10 D fun z12 => dStr z12 D fun x4 => dCons z11 D fun z13 z14 => dP z13 D fun z15 => dStr z15 D fun x5 => dCons z14 D fun z16 z17 => dP z16 D fun z18 => dInt .i64 z18 D fun x6 => dNil z17 D (p9_l14 n x1 x2 x3 x4 x5 x6 (fun (y1 : Int) (y2 : Int) (y3 : Bool) (y4 : Int) (y5 : ByteArray) (y6 : ByteArray) (y7 : Int) => K .ret (lk (outA ann9.loops 14) [.p (.v (.int .i64 y1)), .p (.v (.int .i64 y2)), .p (.v (.bool y3)), .p (.v (.int .i64 y4)), .p (.v (.string y5)), .p (.v (.string y6)), .p (.v (.int .i64 y7))])) (fun (y1 : Int) (y2 : Int) (y3 : Int) (y4 : ByteArray) (y5 : ByteArray) (y6 : Int) => K (.exit 0) (lk (outA ann9.loops 14) [.p (.v (.int .i64 y1)), .p (.v (.int .i64 y2)), .dead, .p (.v (.int .i64 y3)), .p (.v (.string y4)), .p (.v (.string y5)), .p (.v (.int .i64 y6))])))
noncomputable abbrev o9_l14a0 {R : Type} (n : Nat) (vs : List SV) (K : Kc R) : Option R := o9_l14t0 n (o9_l14a1 n vs K) vs K
noncomputable abbrev o9_l14 {R : Type} (n : Nat) (vs : List SV) (K : Kc R) : Option R := o9_l14a0 n vs K
noncomputable def c9_l19 : Code := subC (bodyOf Try.f9) [1, 1, 1, 1, 1, 1, 1, 1, 1, 1, 1, 0, 1, 0, 0]
noncomputable abbrev o9_l19a1 {R : Type} (n : Nat) (vs : List SV) (K : Kc R) : Option R := evLoop (fun f k => evC Try.prog (env9 n) ann9 n (141, []) c9_l19 f k) (liveA ann9.loops 19) (outA ann9.loops 19) n vs K
noncomputable abbrev o9_l19t0 {R : Type} (n : Nat) (D : Option R) (vs : List SV) (K : Kc R) : Option R :=
  dCons vs D fun z1 z2 => dP z1 D fun z3 => dInt .i64 z3 D fun x1 => dCons z2 D fun z4 z5 => dP z4 D fun z6 => dInt .i64 z6 D fun x2 => dCons z5 D fun z7 z8 => dP z7 D fun z9 => dInt .i64 z9 D fun x3 => dCons z8 D fun z10 z11 => dP z10 D fun z12 => dStr z12 D fun x4 => dCons z11 D fun z13 z14 => dP z13 D fun z15 => dStr z15 D fun x5 => dCons z14 D fun z16 z17 => dP z16 D fun z18 => dInt .i64 z18 D fun x6 => dCons z17 D fun z19 z20 => dP z19 D fun z21 => dInt .i64 z21 D fun x7 => dNil z20 D (p9_l19 n x1 x2 x3 x4 x5 x6 x7 (fun (y1 : Int) (y2 : Int) (y3 : Bool) (y4 : Int) (y5 : ByteArray) (y6 : ByteArray) (y7 : Int) => K .ret (lk (outA ann9.loops 19) [.p (.v (.int .i64 y1)), .p (.v (.int .i64 y2)), .p (.v (.bool y3)), .p (.v (.int .i64 y4)), .p (.v (.string y5)), .p (.v (.string y6)), .p (.v (.int .i64 y7))])) (fun (y1 : Int) (y2 : Int) (y3 : Int) (y4 : ByteArray) (y5 : ByteArray) (y6 : Int) => K (.exit 2) (lk (outA ann9.loops 19) [.p (.v (.int .i64 y1)), .p (.v (.int .i64 y2)), .dead, .p (.v (.int .i64 y3)), .p (.v (.string y4)), .p (.v (.string y5)), .p (.v (.int .i64 y6))])))
noncomputable abbrev o9_l19a0 {R : Type} (n : Nat) (vs : List SV) (K : Kc R) : Option R := o9_l19t0 n (o9_l19a1 n vs K) vs K
noncomputable abbrev o9_l19 {R : Type} (n : Nat) (vs : List SV) (K : Kc R) : Option R := o9_l19a0 n vs K
noncomputable def c9_l24 : Code := subC (bodyOf Try.f9) [1, 1, 1, 1, 1, 1, 1, 1, 1, 1, 1, 1, 0, 1, 0, 0]
noncomputable abbrev o9_l24a1 {R : Type} (n : Nat) (vs : List SV) (K : Kc R) : Option R := evLoop (fun f k => evC Try.prog (env9 n) ann9 n (141, []) c9_l24 f k) (liveA ann9.loops 24) (outA ann9.loops 24) n vs K
noncomputable abbrev o9_l24t0 {R : Type} (n : Nat) (D : Option R) (vs : List SV) (K : Kc R) : Option R :=
  dCons vs D fun z1 z2 => dP z1 D fun z3 => dInt .i64 z3 D fun x1 => dCons z2 D fun z4 z5 => dP z4 D fun z6 => dInt .i64 z6 D fun x2 => dCons z5 D fun z7 z8 => dP z7 D fun z9 => dInt .i64 z9 D fun x3 => dCons z8 D fun z10 z11 => dP z10 D fun z12 => dStr z12 D fun x4 => dCons z11 D fun z13 z14 => dP z13 D fun z15 => dStr z15 D fun x5 => dCons z14 D fun z16 z17 => dP z16 D fun z18 => dInt .i64 z18 D fun x6 => dCons z17 D fun z19 z20 => dP z19 D fun z21 => dInt .i64 z21 D fun x7 => dNil z20 D (p9_l24 n x1 x2 x3 x4 x5 x6 x7 (fun (y1 : Int) (y2 : Int) (y3 : Bool) (y4 : Int) (y5 : ByteArray) (y6 : Int) => K .ret (lk (outA ann9.loops 24) [.p (.v (.int .i64 y1)), .p (.v (.int .i64 y2)), .p (.v (.bool y3)), .p (.v (.int .i64 y4)), .p (.v (.string y5)), .p (.v (.int .i64 y6))])) (fun (y1 : Int) (y2 : Int) (y3 : Int) (y4 : ByteArray) (y5 : Int) => K (.exit 4) (lk (outA ann9.loops 24) [.p (.v (.int .i64 y1)), .p (.v (.int .i64 y2)), .dead, .p (.v (.int .i64 y3)), .p (.v (.string y4)), .p (.v (.int .i64 y5))])))
noncomputable abbrev o9_l24a0 {R : Type} (n : Nat) (vs : List SV) (K : Kc R) : Option R := o9_l24t0 n (o9_l24a1 n vs K) vs K
noncomputable abbrev o9_l24 {R : Type} (n : Nat) (vs : List SV) (K : Kc R) : Option R := o9_l24a0 n vs K
noncomputable abbrev lo9 {R : Type} (n : Nat) : Orc R := fun i vs K => bif Nat.beq i 24 then o9_l24 n vs K else bif Nat.beq i 19 then o9_l19 n vs K else bif Nat.beq i 14 then o9_l14 n vs K else none
noncomputable abbrev cu9 {R : Type} (n : Nat) : Orc R := fun i vs K => bif Nat.beq i 15 then o9_c15 n vs K else bif Nat.beq i 12 then o9_c12 n vs K else none
section
variable {R : Type}
theorem pa9_c15 (n : Nat) : allP (PartOK (R := R) Try.prog (env9 n) ann9 n (141, []) (lo9 n) (cu9 n)) (partsOf ann9 c9_c15) := by
  have h : partsOf ann9 c9_c15 = [] := by kernel_rfl
  rw [h]
  exact trivial
theorem ep9_c15 (n : Nat) (x1 : Int) (x2 : Int) (x3 : Int) (x4 : ByteArray) (x5 : ByteArray) (x6 : Int) (K : Kc R) : evCut (fun f k => evOi Try.prog (env9 n) ann9 (141, []) (lo9 n) (cu9 n) c9_c15 f k) (liveA ann9.cuts 15) (outA ann9.cuts 15) [.p (.v (.int .i64 x1)), .p (.v (.int .i64 x2)), .p (.v (.int .i64 x3)), .p (.v (.string x4)), .p (.v (.string x5)), .p (.v (.int .i64 x6))] K = p9_c15 n x1 x2 x3 x4 x5 x6 (fun (y1 : Int) (y2 : Int) (y3 : Bool) (y4 : Int) (y5 : ByteArray) (y6 : ByteArray) (y7 : Int) => K .ret (lk (outA ann9.cuts 15) [.p (.v (.int .i64 y1)), .p (.v (.int .i64 y2)), .p (.v (.bool y3)), .p (.v (.int .i64 y4)), .p (.v (.string y5)), .p (.v (.string y6)), .p (.v (.int .i64 y7))])) (fun (y1 : Int) (y2 : Int) (y3 : Int) (y4 : ByteArray) (y5 : ByteArray) (y6 : Int) => K .normal (lk (outA ann9.cuts 15) [.p (.v (.int .i64 y1)), .p (.v (.int .i64 y2)), .dead, .p (.v (.int .i64 y3)), .p (.v (.string y4)), .p (.v (.string y5)), .p (.v (.int .i64 y6))])) := by kernel_rfl
theorem q9_c15a1 (n : Nat) (vs : List SV) (K : Kc R) : evCut (fun f k => evC Try.prog (env9 n) ann9 n (141, []) c9_c15 f k) (liveA ann9.cuts 15) (outA ann9.cuts 15) vs K = o9_c15a1 n vs K := rfl
theorem q9_c15a0 (n : Nat) (vs : List SV) (K : Kc R) : evCut (fun f k => evC Try.prog (env9 n) ann9 n (141, []) c9_c15 f k) (liveA ann9.cuts 15) (outA ann9.cuts 15) vs K = o9_c15a0 n vs K := by
  unfold o9_c15a0 o9_c15t0
  refine dCons_eq (fun _ _ e => ?_) (q9_c15a1 n _ K)
  subst e
  refine dP_eq (fun _ e => ?_) (q9_c15a1 n _ K)
  subst e
  refine dInt_eq (fun _ e => ?_) (q9_c15a1 n _ K)
  subst e
  refine dCons_eq (fun _ _ e => ?_) (q9_c15a1 n _ K)
  subst e
  refine dP_eq (fun _ e => ?_) (q9_c15a1 n _ K)
  subst e
  refine dInt_eq (fun _ e => ?_) (q9_c15a1 n _ K)
  subst e
  refine dCons_eq (fun _ _ e => ?_) (q9_c15a1 n _ K)
  subst e
  refine dP_eq (fun _ e => ?_) (q9_c15a1 n _ K)
  subst e
  refine dInt_eq (fun _ e => ?_) (q9_c15a1 n _ K)
  subst e
  refine dCons_eq (fun _ _ e => ?_) (q9_c15a1 n _ K)
  subst e
  refine dP_eq (fun _ e => ?_) (q9_c15a1 n _ K)
  subst e
  refine dStr_eq (fun _ e => ?_) (q9_c15a1 n _ K)
  subst e
  refine dCons_eq (fun _ _ e => ?_) (q9_c15a1 n _ K)
  subst e
  refine dP_eq (fun _ e => ?_) (q9_c15a1 n _ K)
  subst e
  refine dStr_eq (fun _ e => ?_) (q9_c15a1 n _ K)
  subst e
  refine dCons_eq (fun _ _ e => ?_) (q9_c15a1 n _ K)
  subst e
  refine dP_eq (fun _ e => ?_) (q9_c15a1 n _ K)
  subst e
  refine dInt_eq (fun _ e => ?_) (q9_c15a1 n _ K)
  subst e
  refine dNil_eq (fun e => ?_) (q9_c15a1 n _ K)
  subst e
  rw [evCut_congr (evC_evOi c9_c15 (pa9_c15 n))]
  exact ep9_c15 n _ _ _ _ _ _ K
theorem q9_c15 (n : Nat) : PartOK (R := R) Try.prog (env9 n) ann9 n (141, []) (lo9 n) (cu9 n) (true, 15, c9_c15) := fun vs K => q9_c15a0 n vs K
theorem pa9_l14 (n : Nat) : allP (PartOK (R := R) Try.prog (env9 n) ann9 n (141, []) (lo9 n) (cu9 n)) (partsOf ann9 c9_l14) := by
  have h : partsOf ann9 c9_l14 = [(true, 15, c9_c15)] := by kernel_rfl
  rw [h]
  exact ⟨q9_c15 n, trivial⟩
theorem sp9_l14 (n m : Nat) (x1 : Int) (x2 : Int) (x3 : Int) (x4 : ByteArray) (x5 : ByteArray) (x6 : Int) (K : Kc R) : evLoop (fun f k => evOi Try.prog (env9 n) ann9 (141, []) (lo9 n) (cu9 n) c9_l14 f k) (liveA ann9.loops 14) (outA ann9.loops 14) (m + 1) [.p (.v (.int .i64 x1)), .p (.v (.int .i64 x2)), .p (.v (.int .i64 x3)), .p (.v (.string x4)), .p (.v (.string x5)), .p (.v (.int .i64 x6))] K = p9_l14B n (fun (x1 : Int) (x2 : Int) (x3 : Int) (x4 : ByteArray) (x5 : ByteArray) (x6 : Int) => evLoop (fun f k => evOi Try.prog (env9 n) ann9 (141, []) (lo9 n) (cu9 n) c9_l14 f k) (liveA ann9.loops 14) (outA ann9.loops 14) m [.p (.v (.int .i64 x1)), .p (.v (.int .i64 x2)), .p (.v (.int .i64 x3)), .p (.v (.string x4)), .p (.v (.string x5)), .p (.v (.int .i64 x6))] K) x1 x2 x3 x4 x5 x6 (fun (y1 : Int) (y2 : Int) (y3 : Bool) (y4 : Int) (y5 : ByteArray) (y6 : ByteArray) (y7 : Int) => K .ret (lk (outA ann9.loops 14) [.p (.v (.int .i64 y1)), .p (.v (.int .i64 y2)), .p (.v (.bool y3)), .p (.v (.int .i64 y4)), .p (.v (.string y5)), .p (.v (.string y6)), .p (.v (.int .i64 y7))])) (fun (y1 : Int) (y2 : Int) (y3 : Int) (y4 : ByteArray) (y5 : ByteArray) (y6 : Int) => K (.exit 0) (lk (outA ann9.loops 14) [.p (.v (.int .i64 y1)), .p (.v (.int .i64 y2)), .dead, .p (.v (.int .i64 y3)), .p (.v (.string y4)), .p (.v (.string y5)), .p (.v (.int .i64 y6))])) := by kernel_rfl
theorem ep9_l14 (n : Nat) (K : Kc R) : ∀ (m : Nat) (x1 : Int) (x2 : Int) (x3 : Int) (x4 : ByteArray) (x5 : ByteArray) (x6 : Int), evLoop (fun f k => evOi Try.prog (env9 n) ann9 (141, []) (lo9 n) (cu9 n) c9_l14 f k) (liveA ann9.loops 14) (outA ann9.loops 14) m [.p (.v (.int .i64 x1)), .p (.v (.int .i64 x2)), .p (.v (.int .i64 x3)), .p (.v (.string x4)), .p (.v (.string x5)), .p (.v (.int .i64 x6))] K = p9_l14L n m x1 x2 x3 x4 x5 x6 (fun (y1 : Int) (y2 : Int) (y3 : Bool) (y4 : Int) (y5 : ByteArray) (y6 : ByteArray) (y7 : Int) => K .ret (lk (outA ann9.loops 14) [.p (.v (.int .i64 y1)), .p (.v (.int .i64 y2)), .p (.v (.bool y3)), .p (.v (.int .i64 y4)), .p (.v (.string y5)), .p (.v (.string y6)), .p (.v (.int .i64 y7))])) (fun (y1 : Int) (y2 : Int) (y3 : Int) (y4 : ByteArray) (y5 : ByteArray) (y6 : Int) => K (.exit 0) (lk (outA ann9.loops 14) [.p (.v (.int .i64 y1)), .p (.v (.int .i64 y2)), .dead, .p (.v (.int .i64 y3)), .p (.v (.string y4)), .p (.v (.string y5)), .p (.v (.int .i64 y6))]))
  | 0, _, _, _, _, _, _ => rfl
  | m + 1, x1, x2, x3, x4, x5, x6 => (sp9_l14 n m x1 x2 x3 x4 x5 x6 K).trans (congrArg (fun l => p9_l14B n l x1 x2 x3 x4 x5 x6 (fun (y1 : Int) (y2 : Int) (y3 : Bool) (y4 : Int) (y5 : ByteArray) (y6 : ByteArray) (y7 : Int) => K .ret (lk (outA ann9.loops 14) [.p (.v (.int .i64 y1)), .p (.v (.int .i64 y2)), .p (.v (.bool y3)), .p (.v (.int .i64 y4)), .p (.v (.string y5)), .p (.v (.string y6)), .p (.v (.int .i64 y7))])) (fun (y1 : Int) (y2 : Int) (y3 : Int) (y4 : ByteArray) (y5 : ByteArray) (y6 : Int) => K (.exit 0) (lk (outA ann9.loops 14) [.p (.v (.int .i64 y1)), .p (.v (.int .i64 y2)), .dead, .p (.v (.int .i64 y3)), .p (.v (.string y4)), .p (.v (.string y5)), .p (.v (.int .i64 y6))]))) ((funext fun z0 => (funext fun z1 => (funext fun z2 => (funext fun z3 => (funext fun z4 => (funext fun z5 => (ep9_l14 n K m z0 z1 z2 z3 z4 z5)))))))))
theorem q9_l14a1 (n : Nat) (vs : List SV) (K : Kc R) : evLoop (fun f k => evC Try.prog (env9 n) ann9 n (141, []) c9_l14 f k) (liveA ann9.loops 14) (outA ann9.loops 14) n vs K = o9_l14a1 n vs K := rfl
theorem q9_l14a0 (n : Nat) (vs : List SV) (K : Kc R) : evLoop (fun f k => evC Try.prog (env9 n) ann9 n (141, []) c9_l14 f k) (liveA ann9.loops 14) (outA ann9.loops 14) n vs K = o9_l14a0 n vs K := by
  unfold o9_l14a0 o9_l14t0
  refine dCons_eq (fun _ _ e => ?_) (q9_l14a1 n _ K)
  subst e
  refine dP_eq (fun _ e => ?_) (q9_l14a1 n _ K)
  subst e
  refine dInt_eq (fun _ e => ?_) (q9_l14a1 n _ K)
  subst e
  refine dCons_eq (fun _ _ e => ?_) (q9_l14a1 n _ K)
  subst e
  refine dP_eq (fun _ e => ?_) (q9_l14a1 n _ K)
  subst e
  refine dInt_eq (fun _ e => ?_) (q9_l14a1 n _ K)
  subst e
  refine dCons_eq (fun _ _ e => ?_) (q9_l14a1 n _ K)
  subst e
  refine dP_eq (fun _ e => ?_) (q9_l14a1 n _ K)
  subst e
  refine dInt_eq (fun _ e => ?_) (q9_l14a1 n _ K)
  subst e
  refine dCons_eq (fun _ _ e => ?_) (q9_l14a1 n _ K)
  subst e
  refine dP_eq (fun _ e => ?_) (q9_l14a1 n _ K)
  subst e
  refine dStr_eq (fun _ e => ?_) (q9_l14a1 n _ K)
  subst e
  refine dCons_eq (fun _ _ e => ?_) (q9_l14a1 n _ K)
  subst e
  refine dP_eq (fun _ e => ?_) (q9_l14a1 n _ K)
  subst e
  refine dStr_eq (fun _ e => ?_) (q9_l14a1 n _ K)
  subst e
  refine dCons_eq (fun _ _ e => ?_) (q9_l14a1 n _ K)
  subst e
  refine dP_eq (fun _ e => ?_) (q9_l14a1 n _ K)
  subst e
  refine dInt_eq (fun _ e => ?_) (q9_l14a1 n _ K)
  subst e
  refine dNil_eq (fun e => ?_) (q9_l14a1 n _ K)
  subst e
  rw [evLoop_congr (evC_evOi c9_l14 (pa9_l14 n))]
  exact ep9_l14 n K n _ _ _ _ _ _
theorem q9_l14 (n : Nat) : PartOK (R := R) Try.prog (env9 n) ann9 n (141, []) (lo9 n) (cu9 n) (false, 14, c9_l14) := fun vs K => q9_l14a0 n vs K
theorem pa9_l19 (n : Nat) : allP (PartOK (R := R) Try.prog (env9 n) ann9 n (141, []) (lo9 n) (cu9 n)) (partsOf ann9 c9_l19) := by
  have h : partsOf ann9 c9_l19 = [] := by kernel_rfl
  rw [h]
  exact trivial
theorem sp9_l19 (n m : Nat) (x1 : Int) (x2 : Int) (x3 : Int) (x4 : ByteArray) (x5 : ByteArray) (x6 : Int) (x7 : Int) (K : Kc R) : evLoop (fun f k => evOi Try.prog (env9 n) ann9 (141, []) (lo9 n) (cu9 n) c9_l19 f k) (liveA ann9.loops 19) (outA ann9.loops 19) (m + 1) [.p (.v (.int .i64 x1)), .p (.v (.int .i64 x2)), .p (.v (.int .i64 x3)), .p (.v (.string x4)), .p (.v (.string x5)), .p (.v (.int .i64 x6)), .p (.v (.int .i64 x7))] K = p9_l19B n (fun (x1 : Int) (x2 : Int) (x3 : Int) (x4 : ByteArray) (x5 : ByteArray) (x6 : Int) (x7 : Int) => evLoop (fun f k => evOi Try.prog (env9 n) ann9 (141, []) (lo9 n) (cu9 n) c9_l19 f k) (liveA ann9.loops 19) (outA ann9.loops 19) m [.p (.v (.int .i64 x1)), .p (.v (.int .i64 x2)), .p (.v (.int .i64 x3)), .p (.v (.string x4)), .p (.v (.string x5)), .p (.v (.int .i64 x6)), .p (.v (.int .i64 x7))] K) x1 x2 x3 x4 x5 x6 x7 (fun (y1 : Int) (y2 : Int) (y3 : Bool) (y4 : Int) (y5 : ByteArray) (y6 : ByteArray) (y7 : Int) => K .ret (lk (outA ann9.loops 19) [.p (.v (.int .i64 y1)), .p (.v (.int .i64 y2)), .p (.v (.bool y3)), .p (.v (.int .i64 y4)), .p (.v (.string y5)), .p (.v (.string y6)), .p (.v (.int .i64 y7))])) (fun (y1 : Int) (y2 : Int) (y3 : Int) (y4 : ByteArray) (y5 : ByteArray) (y6 : Int) => K (.exit 2) (lk (outA ann9.loops 19) [.p (.v (.int .i64 y1)), .p (.v (.int .i64 y2)), .dead, .p (.v (.int .i64 y3)), .p (.v (.string y4)), .p (.v (.string y5)), .p (.v (.int .i64 y6))])) := by kernel_rfl
theorem ep9_l19 (n : Nat) (K : Kc R) : ∀ (m : Nat) (x1 : Int) (x2 : Int) (x3 : Int) (x4 : ByteArray) (x5 : ByteArray) (x6 : Int) (x7 : Int), evLoop (fun f k => evOi Try.prog (env9 n) ann9 (141, []) (lo9 n) (cu9 n) c9_l19 f k) (liveA ann9.loops 19) (outA ann9.loops 19) m [.p (.v (.int .i64 x1)), .p (.v (.int .i64 x2)), .p (.v (.int .i64 x3)), .p (.v (.string x4)), .p (.v (.string x5)), .p (.v (.int .i64 x6)), .p (.v (.int .i64 x7))] K = p9_l19L n m x1 x2 x3 x4 x5 x6 x7 (fun (y1 : Int) (y2 : Int) (y3 : Bool) (y4 : Int) (y5 : ByteArray) (y6 : ByteArray) (y7 : Int) => K .ret (lk (outA ann9.loops 19) [.p (.v (.int .i64 y1)), .p (.v (.int .i64 y2)), .p (.v (.bool y3)), .p (.v (.int .i64 y4)), .p (.v (.string y5)), .p (.v (.string y6)), .p (.v (.int .i64 y7))])) (fun (y1 : Int) (y2 : Int) (y3 : Int) (y4 : ByteArray) (y5 : ByteArray) (y6 : Int) => K (.exit 2) (lk (outA ann9.loops 19) [.p (.v (.int .i64 y1)), .p (.v (.int .i64 y2)), .dead, .p (.v (.int .i64 y3)), .p (.v (.string y4)), .p (.v (.string y5)), .p (.v (.int .i64 y6))]))
  | 0, _, _, _, _, _, _, _ => rfl
  | m + 1, x1, x2, x3, x4, x5, x6, x7 => (sp9_l19 n m x1 x2 x3 x4 x5 x6 x7 K).trans (congrArg (fun l => p9_l19B n l x1 x2 x3 x4 x5 x6 x7 (fun (y1 : Int) (y2 : Int) (y3 : Bool) (y4 : Int) (y5 : ByteArray) (y6 : ByteArray) (y7 : Int) => K .ret (lk (outA ann9.loops 19) [.p (.v (.int .i64 y1)), .p (.v (.int .i64 y2)), .p (.v (.bool y3)), .p (.v (.int .i64 y4)), .p (.v (.string y5)), .p (.v (.string y6)), .p (.v (.int .i64 y7))])) (fun (y1 : Int) (y2 : Int) (y3 : Int) (y4 : ByteArray) (y5 : ByteArray) (y6 : Int) => K (.exit 2) (lk (outA ann9.loops 19) [.p (.v (.int .i64 y1)), .p (.v (.int .i64 y2)), .dead, .p (.v (.int .i64 y3)), .p (.v (.string y4)), .p (.v (.string y5)), .p (.v (.int .i64 y6))]))) ((funext fun z0 => (funext fun z1 => (funext fun z2 => (funext fun z3 => (funext fun z4 => (funext fun z5 => (funext fun z6 => (ep9_l19 n K m z0 z1 z2 z3 z4 z5 z6))))))))))
theorem q9_l19a1 (n : Nat) (vs : List SV) (K : Kc R) : evLoop (fun f k => evC Try.prog (env9 n) ann9 n (141, []) c9_l19 f k) (liveA ann9.loops 19) (outA ann9.loops 19) n vs K = o9_l19a1 n vs K := rfl
theorem q9_l19a0 (n : Nat) (vs : List SV) (K : Kc R) : evLoop (fun f k => evC Try.prog (env9 n) ann9 n (141, []) c9_l19 f k) (liveA ann9.loops 19) (outA ann9.loops 19) n vs K = o9_l19a0 n vs K := by
  unfold o9_l19a0 o9_l19t0
  refine dCons_eq (fun _ _ e => ?_) (q9_l19a1 n _ K)
  subst e
  refine dP_eq (fun _ e => ?_) (q9_l19a1 n _ K)
  subst e
  refine dInt_eq (fun _ e => ?_) (q9_l19a1 n _ K)
  subst e
  refine dCons_eq (fun _ _ e => ?_) (q9_l19a1 n _ K)
  subst e
  refine dP_eq (fun _ e => ?_) (q9_l19a1 n _ K)
  subst e
  refine dInt_eq (fun _ e => ?_) (q9_l19a1 n _ K)
  subst e
  refine dCons_eq (fun _ _ e => ?_) (q9_l19a1 n _ K)
  subst e
  refine dP_eq (fun _ e => ?_) (q9_l19a1 n _ K)
  subst e
  refine dInt_eq (fun _ e => ?_) (q9_l19a1 n _ K)
  subst e
  refine dCons_eq (fun _ _ e => ?_) (q9_l19a1 n _ K)
  subst e
  refine dP_eq (fun _ e => ?_) (q9_l19a1 n _ K)
  subst e
  refine dStr_eq (fun _ e => ?_) (q9_l19a1 n _ K)
  subst e
  refine dCons_eq (fun _ _ e => ?_) (q9_l19a1 n _ K)
  subst e
  refine dP_eq (fun _ e => ?_) (q9_l19a1 n _ K)
  subst e
  refine dStr_eq (fun _ e => ?_) (q9_l19a1 n _ K)
  subst e
  refine dCons_eq (fun _ _ e => ?_) (q9_l19a1 n _ K)
  subst e
  refine dP_eq (fun _ e => ?_) (q9_l19a1 n _ K)
  subst e
  refine dInt_eq (fun _ e => ?_) (q9_l19a1 n _ K)
  subst e
  refine dCons_eq (fun _ _ e => ?_) (q9_l19a1 n _ K)
  subst e
  refine dP_eq (fun _ e => ?_) (q9_l19a1 n _ K)
  subst e
  refine dInt_eq (fun _ e => ?_) (q9_l19a1 n _ K)
  subst e
  refine dNil_eq (fun e => ?_) (q9_l19a1 n _ K)
  subst e
  rw [evLoop_congr (evC_evOi c9_l19 (pa9_l19 n))]
  exact ep9_l19 n K n _ _ _ _ _ _ _
theorem q9_l19 (n : Nat) : PartOK (R := R) Try.prog (env9 n) ann9 n (141, []) (lo9 n) (cu9 n) (false, 19, c9_l19) := fun vs K => q9_l19a0 n vs K
theorem pa9_l24 (n : Nat) : allP (PartOK (R := R) Try.prog (env9 n) ann9 n (141, []) (lo9 n) (cu9 n)) (partsOf ann9 c9_l24) := by
  have h : partsOf ann9 c9_l24 = [] := by kernel_rfl
  rw [h]
  exact trivial
theorem sp9_l24 (n m : Nat) (x1 : Int) (x2 : Int) (x3 : Int) (x4 : ByteArray) (x5 : ByteArray) (x6 : Int) (x7 : Int) (K : Kc R) : evLoop (fun f k => evOi Try.prog (env9 n) ann9 (141, []) (lo9 n) (cu9 n) c9_l24 f k) (liveA ann9.loops 24) (outA ann9.loops 24) (m + 1) [.p (.v (.int .i64 x1)), .p (.v (.int .i64 x2)), .p (.v (.int .i64 x3)), .p (.v (.string x4)), .p (.v (.string x5)), .p (.v (.int .i64 x6)), .p (.v (.int .i64 x7))] K = p9_l24B n (fun (x1 : Int) (x2 : Int) (x3 : Int) (x4 : ByteArray) (x5 : ByteArray) (x6 : Int) (x7 : Int) => evLoop (fun f k => evOi Try.prog (env9 n) ann9 (141, []) (lo9 n) (cu9 n) c9_l24 f k) (liveA ann9.loops 24) (outA ann9.loops 24) m [.p (.v (.int .i64 x1)), .p (.v (.int .i64 x2)), .p (.v (.int .i64 x3)), .p (.v (.string x4)), .p (.v (.string x5)), .p (.v (.int .i64 x6)), .p (.v (.int .i64 x7))] K) x1 x2 x3 x4 x5 x6 x7 (fun (y1 : Int) (y2 : Int) (y3 : Bool) (y4 : Int) (y5 : ByteArray) (y6 : Int) => K .ret (lk (outA ann9.loops 24) [.p (.v (.int .i64 y1)), .p (.v (.int .i64 y2)), .p (.v (.bool y3)), .p (.v (.int .i64 y4)), .p (.v (.string y5)), .p (.v (.int .i64 y6))])) (fun (y1 : Int) (y2 : Int) (y3 : Int) (y4 : ByteArray) (y5 : Int) => K (.exit 4) (lk (outA ann9.loops 24) [.p (.v (.int .i64 y1)), .p (.v (.int .i64 y2)), .dead, .p (.v (.int .i64 y3)), .p (.v (.string y4)), .p (.v (.int .i64 y5))])) := by kernel_rfl
theorem ep9_l24 (n : Nat) (K : Kc R) : ∀ (m : Nat) (x1 : Int) (x2 : Int) (x3 : Int) (x4 : ByteArray) (x5 : ByteArray) (x6 : Int) (x7 : Int), evLoop (fun f k => evOi Try.prog (env9 n) ann9 (141, []) (lo9 n) (cu9 n) c9_l24 f k) (liveA ann9.loops 24) (outA ann9.loops 24) m [.p (.v (.int .i64 x1)), .p (.v (.int .i64 x2)), .p (.v (.int .i64 x3)), .p (.v (.string x4)), .p (.v (.string x5)), .p (.v (.int .i64 x6)), .p (.v (.int .i64 x7))] K = p9_l24L n m x1 x2 x3 x4 x5 x6 x7 (fun (y1 : Int) (y2 : Int) (y3 : Bool) (y4 : Int) (y5 : ByteArray) (y6 : Int) => K .ret (lk (outA ann9.loops 24) [.p (.v (.int .i64 y1)), .p (.v (.int .i64 y2)), .p (.v (.bool y3)), .p (.v (.int .i64 y4)), .p (.v (.string y5)), .p (.v (.int .i64 y6))])) (fun (y1 : Int) (y2 : Int) (y3 : Int) (y4 : ByteArray) (y5 : Int) => K (.exit 4) (lk (outA ann9.loops 24) [.p (.v (.int .i64 y1)), .p (.v (.int .i64 y2)), .dead, .p (.v (.int .i64 y3)), .p (.v (.string y4)), .p (.v (.int .i64 y5))]))
  | 0, _, _, _, _, _, _, _ => rfl
  | m + 1, x1, x2, x3, x4, x5, x6, x7 => (sp9_l24 n m x1 x2 x3 x4 x5 x6 x7 K).trans (congrArg (fun l => p9_l24B n l x1 x2 x3 x4 x5 x6 x7 (fun (y1 : Int) (y2 : Int) (y3 : Bool) (y4 : Int) (y5 : ByteArray) (y6 : Int) => K .ret (lk (outA ann9.loops 24) [.p (.v (.int .i64 y1)), .p (.v (.int .i64 y2)), .p (.v (.bool y3)), .p (.v (.int .i64 y4)), .p (.v (.string y5)), .p (.v (.int .i64 y6))])) (fun (y1 : Int) (y2 : Int) (y3 : Int) (y4 : ByteArray) (y5 : Int) => K (.exit 4) (lk (outA ann9.loops 24) [.p (.v (.int .i64 y1)), .p (.v (.int .i64 y2)), .dead, .p (.v (.int .i64 y3)), .p (.v (.string y4)), .p (.v (.int .i64 y5))]))) ((funext fun z0 => (funext fun z1 => (funext fun z2 => (funext fun z3 => (funext fun z4 => (funext fun z5 => (funext fun z6 => (ep9_l24 n K m z0 z1 z2 z3 z4 z5 z6))))))))))
theorem q9_l24a1 (n : Nat) (vs : List SV) (K : Kc R) : evLoop (fun f k => evC Try.prog (env9 n) ann9 n (141, []) c9_l24 f k) (liveA ann9.loops 24) (outA ann9.loops 24) n vs K = o9_l24a1 n vs K := rfl
theorem q9_l24a0 (n : Nat) (vs : List SV) (K : Kc R) : evLoop (fun f k => evC Try.prog (env9 n) ann9 n (141, []) c9_l24 f k) (liveA ann9.loops 24) (outA ann9.loops 24) n vs K = o9_l24a0 n vs K := by
  unfold o9_l24a0 o9_l24t0
  refine dCons_eq (fun _ _ e => ?_) (q9_l24a1 n _ K)
  subst e
  refine dP_eq (fun _ e => ?_) (q9_l24a1 n _ K)
  subst e
  refine dInt_eq (fun _ e => ?_) (q9_l24a1 n _ K)
  subst e
  refine dCons_eq (fun _ _ e => ?_) (q9_l24a1 n _ K)
  subst e
  refine dP_eq (fun _ e => ?_) (q9_l24a1 n _ K)
  subst e
  refine dInt_eq (fun _ e => ?_) (q9_l24a1 n _ K)
  subst e
  refine dCons_eq (fun _ _ e => ?_) (q9_l24a1 n _ K)
  subst e
  refine dP_eq (fun _ e => ?_) (q9_l24a1 n _ K)
  subst e
  refine dInt_eq (fun _ e => ?_) (q9_l24a1 n _ K)
  subst e
  refine dCons_eq (fun _ _ e => ?_) (q9_l24a1 n _ K)
  subst e
  refine dP_eq (fun _ e => ?_) (q9_l24a1 n _ K)
  subst e
  refine dStr_eq (fun _ e => ?_) (q9_l24a1 n _ K)
  subst e
  refine dCons_eq (fun _ _ e => ?_) (q9_l24a1 n _ K)
  subst e
  refine dP_eq (fun _ e => ?_) (q9_l24a1 n _ K)
  subst e
  refine dStr_eq (fun _ e => ?_) (q9_l24a1 n _ K)
  subst e
  refine dCons_eq (fun _ _ e => ?_) (q9_l24a1 n _ K)
  subst e
  refine dP_eq (fun _ e => ?_) (q9_l24a1 n _ K)
  subst e
  refine dInt_eq (fun _ e => ?_) (q9_l24a1 n _ K)
  subst e
  refine dCons_eq (fun _ _ e => ?_) (q9_l24a1 n _ K)
  subst e
  refine dP_eq (fun _ e => ?_) (q9_l24a1 n _ K)
  subst e
  refine dInt_eq (fun _ e => ?_) (q9_l24a1 n _ K)
  subst e
  refine dNil_eq (fun e => ?_) (q9_l24a1 n _ K)
  subst e
  rw [evLoop_congr (evC_evOi c9_l24 (pa9_l24 n))]
  exact ep9_l24 n K n _ _ _ _ _ _ _
theorem q9_l24 (n : Nat) : PartOK (R := R) Try.prog (env9 n) ann9 n (141, []) (lo9 n) (cu9 n) (false, 24, c9_l24) := fun vs K => q9_l24a0 n vs K
theorem pa9_c12 (n : Nat) : allP (PartOK (R := R) Try.prog (env9 n) ann9 n (141, []) (lo9 n) (cu9 n)) (partsOf ann9 c9_c12) := by
  have h : partsOf ann9 c9_c12 = [(false, 14, c9_l14), (false, 19, c9_l19), (false, 24, c9_l24)] := by kernel_rfl
  rw [h]
  exact ⟨q9_l14 n, q9_l19 n, q9_l24 n, trivial⟩
theorem ep9_c12 (n : Nat) (x1 : Int) (x2 : Int) (x3 : ByteArray) (x4 : Int) (x5 : ByteArray) (K : Kc R) : evCut (fun f k => evOi Try.prog (env9 n) ann9 (141, []) (lo9 n) (cu9 n) c9_c12 f k) (liveA ann9.cuts 12) (outA ann9.cuts 12) [.p (.v (.int .i64 x1)), .p (.v (.int .i64 x2)), .p (.v (.string x3)), .p (.v (.int .i64 x4)), .p (.v (.string x5))] K = p9_c12 n x1 x2 x3 x4 x5 (fun (y1 : Bool) => K .ret (lk (outA ann9.cuts 12) [.p (.v (.bool y1))])) := by kernel_rfl
theorem q9_c12a1 (n : Nat) (vs : List SV) (K : Kc R) : evCut (fun f k => evC Try.prog (env9 n) ann9 n (141, []) c9_c12 f k) (liveA ann9.cuts 12) (outA ann9.cuts 12) vs K = o9_c12a1 n vs K := rfl
theorem q9_c12a0 (n : Nat) (vs : List SV) (K : Kc R) : evCut (fun f k => evC Try.prog (env9 n) ann9 n (141, []) c9_c12 f k) (liveA ann9.cuts 12) (outA ann9.cuts 12) vs K = o9_c12a0 n vs K := by
  unfold o9_c12a0 o9_c12t0
  refine dCons_eq (fun _ _ e => ?_) (q9_c12a1 n _ K)
  subst e
  refine dP_eq (fun _ e => ?_) (q9_c12a1 n _ K)
  subst e
  refine dInt_eq (fun _ e => ?_) (q9_c12a1 n _ K)
  subst e
  refine dCons_eq (fun _ _ e => ?_) (q9_c12a1 n _ K)
  subst e
  refine dP_eq (fun _ e => ?_) (q9_c12a1 n _ K)
  subst e
  refine dInt_eq (fun _ e => ?_) (q9_c12a1 n _ K)
  subst e
  refine dCons_eq (fun _ _ e => ?_) (q9_c12a1 n _ K)
  subst e
  refine dP_eq (fun _ e => ?_) (q9_c12a1 n _ K)
  subst e
  refine dStr_eq (fun _ e => ?_) (q9_c12a1 n _ K)
  subst e
  refine dCons_eq (fun _ _ e => ?_) (q9_c12a1 n _ K)
  subst e
  refine dP_eq (fun _ e => ?_) (q9_c12a1 n _ K)
  subst e
  refine dInt_eq (fun _ e => ?_) (q9_c12a1 n _ K)
  subst e
  refine dCons_eq (fun _ _ e => ?_) (q9_c12a1 n _ K)
  subst e
  refine dP_eq (fun _ e => ?_) (q9_c12a1 n _ K)
  subst e
  refine dStr_eq (fun _ e => ?_) (q9_c12a1 n _ K)
  subst e
  refine dNil_eq (fun e => ?_) (q9_c12a1 n _ K)
  subst e
  rw [evCut_congr (evC_evOi c9_c12 (pa9_c12 n))]
  exact ep9_c12 n _ _ _ _ _ K
theorem q9_c12 (n : Nat) : PartOK (R := R) Try.prog (env9 n) ann9 n (141, []) (lo9 n) (cu9 n) (true, 12, c9_c12) := fun vs K => q9_c12a0 n vs K
theorem pa9 (n : Nat) : allP (PartOK (R := R) Try.prog (env9 n) ann9 n (141, []) (lo9 n) (cu9 n)) (partsOf ann9 (bodyOf Try.f9)) := by
  have h : partsOf ann9 (bodyOf Try.f9) = [(true, 12, c9_c12)] := by kernel_rfl
  rw [h]
  exact ⟨q9_c12 n, trivial⟩
theorem ep9 (n : Nat) (x1 : ByteArray) (x2 : Int) (x3 : Int) (K : List SV → Option R) : evFnOi Try.prog (env9 n) ann9 (lo9 n) (cu9 n) Try.f9 [.p (.v (.string x1)), .p (.v (.int .i64 x2)), .p (.v (.int .i64 x3))] K = p9 n x1 x2 x3 (fun (y1 : Bool) => K [.p (.v (.bool y1))]) := by kernel_rfl
noncomputable abbrev fs9a1 (n : Nat) (args : List SV) (K : List SV → Option R) : Option R := none
noncomputable abbrev fs9t0 (n : Nat) (D : Option R) (args : List SV) (K : List SV → Option R) : Option R :=
  dCons args D fun z1 z2 => dP z1 D fun z3 => dStr z3 D fun x1 => dCons z2 D fun z4 z5 => dP z4 D fun z6 => dInt .i64 z6 D fun x2 => dCons z5 D fun z7 z8 => dP z7 D fun z9 => dInt .i64 z9 D fun x3 => dNil z8 D (p9 n x1 x2 x3 (fun (y1 : Bool) => K [.p (.v (.bool y1))]))
noncomputable abbrev fs9a0 (n : Nat) (args : List SV) (K : List SV → Option R) : Option R := fs9t0 n (fs9a1 n args K) args K
theorem hs9a1 (n : Nat) (args : List SV) (K : List SV → Option R) (res : R) : fs9a1 n args K = some res → evFn Try.prog (env9 n) ann9 n Try.f9 args K = some res := fun h => by cases h
theorem hs9a0 (n : Nat) (args : List SV) (K : List SV → Option R) (res : R) : fs9a0 n args K = some res → evFn Try.prog (env9 n) ann9 n Try.f9 args K = some res := by
  unfold fs9a0 fs9t0
  refine dCons_imp (fun _ _ e => ?_) (hs9a1 n _ K res)
  subst e
  refine dP_imp (fun _ e => ?_) (hs9a1 n _ K res)
  subst e
  refine dStr_imp (fun _ e => ?_) (hs9a1 n _ K res)
  subst e
  refine dCons_imp (fun _ _ e => ?_) (hs9a1 n _ K res)
  subst e
  refine dP_imp (fun _ e => ?_) (hs9a1 n _ K res)
  subst e
  refine dInt_imp (fun _ e => ?_) (hs9a1 n _ K res)
  subst e
  refine dCons_imp (fun _ _ e => ?_) (hs9a1 n _ K res)
  subst e
  refine dP_imp (fun _ e => ?_) (hs9a1 n _ K res)
  subst e
  refine dInt_imp (fun _ e => ?_) (hs9a1 n _ K res)
  subst e
  refine dNil_imp (fun e => ?_) (hs9a1 n _ K res)
  subst e
  intro h
  rw [evFn_evOi (c := bodyOf Try.f9) (by kernel_rfl) (pa9 n), ep9]
  exact h
end
noncomputable abbrev fs9 (n : Nat) : FS := { om := [false, false, false], run := fun args K => fs9a0 n args K }
theorem ok9 (n : Nat) : FSound Try.prog 9 (fs9 n) :=
  FSound.of (envok9 n) (ann := ann9) (n := n) (by kernel_rfl) Try.func9 (by kernel_rfl) (by kernel_rfl) fun {R args K res} h => hs9a0 n args K res h
end Go.Proofs.Ytlplpkbhjddmeaa


set_option linter.unusedVariables false
set_option linter.unusedSimpArgs false
namespace Go.Proofs.Ytlplpkbhjddmeaa
open Go Th Go.Proofs
theorem marg_mem (l : List UInt8) : ∀ x ∈ marg l, x = 9 ∨ x = 32 := by
  intro x hx
  simp only [marg, List.mem_flatMap] at hx
  obtain ⟨c, _, h⟩ := hx
  split at h
  · simp at h; exact .inl h
  · split at h
    · simp at h
    · simp at h; exact .inr h
theorem marg_ascii : ∀ (l : List UInt8), (∀ x ∈ l, ¬ 128 ≤ x.toNat) → (marg l).length = l.length
  | [], _ => rfl
  | c :: l, h => by
    have ih := marg_ascii l fun x hx => h x (List.mem_cons_of_mem _ hx)
    have hc := h c (List.mem_cons_self ..)
    simp only [marg, List.flatMap_cons, List.length_append, List.length_cons] at ih ⊢
    rw [ih, isRest_ge hc]
    split
    · simp only [List.length_cons, List.length_nil]; omega
    · simp only [Bool.false_eq_true, if_false, List.length_cons, List.length_nil]; omega
theorem aligns1 {R : Type} (n : Nat) (f t col : Int) (B : ByteArray) (M : List UInt8) (c : Nat) (hM : M.length ≤ 1000) (h932 : ∀ x ∈ M, x = 9 ∨ x = 32)
    (k0 : Int → Int → Bool → Int → ByteArray → ByteArray → Int → Option R) (k1 : Int → Int → Int → ByteArray → ByteArray → Int → Option R) (hc : 1 ≤ c) (hc2 : c ≤ 2000) : ∀ (d m i : Nat), d + i = M.length → d < m →
    p9_l14L n m f t col B (bs (M ++ List.replicate c 94)) i k0 k1 = k1 f t col B (bs (M ++ List.replicate c 94)) (M.length : Int)
  | 0, m + 1, i, h, hm => by
    have e : i = M.length := by omega
    have hb : byteAt (bs (M ++ List.replicate c 94)) (i : Int) = 94 := by
      rw [byteAt_nat (by simp only [List.length_append, List.length_replicate]; omega)]
      have : (M ++ List.replicate c (94 : UInt8))[i]? = some 94 := by rw [List.getElem?_append_right (by omega), List.getElem?_replicate, if_pos (by omega)]
      rw [List.getElem?_eq_getElem (by simp only [List.length_append, List.length_replicate]; omega)] at this
      rw [Option.some.inj this]; rfl
    simp only [p9_l14L, p9_l14B]
    simp (disch := (first | omega | (simp only [List.length_append, List.length_cons, List.length_nil, List.length_replicate, List.length_take, List.length_drop]; omega))) only [↓c_pos, ↓c_neg, dec_t, dec_f, Bool.and_true, Bool.true_and, Bool.and_false, Bool.false_and, Bool.not_true, Bool.not_false, cond_true, cond_false, inR_t, cutR_t, roomB_t, lenOK_t, w64, bs_size, List.length_append, List.length_cons, List.length_nil, bs_extract, bs_append, bs_push, bs_data, bs_empty, bs_lit, catS_bs, eqS_bs, ite_pos', ite_neg', decide_true, decide_false, if_true, if_false, List.length_replicate, hb, show ((94 : Int) != 94) = false from rfl]
    rw [e]
  | d + 1, m + 1, i, h, hm => by
    have ih := aligns1 n f t col B M c hM h932 k0 k1 hc hc2 d m (i + 1) (by omega) (by omega)
    have hi : i < M.length := by omega
    have hb : byteAt (bs (M ++ List.replicate c 94)) (i : Int) = ((M[i]).toNat : Int) := by
      rw [byteAt_nat (by simp only [List.length_append, List.length_replicate]; omega), List.getElem_append_left hi]
    simp only [p9_l14L, p9_l14B, p9_c15]
    have e2 : ((i : Int) + 1) = ((i + 1 : Nat) : Int) := by omega
    rcases h932 M[i] (List.getElem_mem hi) with q | q
    · simp (disch := (first | omega | (simp only [List.length_append, List.length_cons, List.length_nil, List.length_replicate, List.length_take, List.length_drop]; omega))) only [↓c_pos, ↓c_neg, dec_t, dec_f, Bool.and_true, Bool.true_and, Bool.and_false, Bool.false_and, Bool.not_true, Bool.not_false, cond_true, cond_false, inR_t, cutR_t, roomB_t, lenOK_t, w64, bs_size, List.length_append, List.length_cons, List.length_nil, bs_extract, bs_append, bs_push, bs_data, bs_empty, bs_lit, catS_bs, eqS_bs, ite_pos', ite_neg', decide_true, decide_false, if_true, if_false, List.length_replicate, hb, q, e2, show (((9 : UInt8).toNat : Int) != 94) = true from rfl, show (((9 : UInt8).toNat : Int) != 32) = true from rfl, show (((9 : UInt8).toNat : Int) != 9) = false from rfl]
      exact ih
    · simp (disch := (first | omega | (simp only [List.length_append, List.length_cons, List.length_nil, List.length_replicate, List.length_take, List.length_drop]; omega))) only [↓c_pos, ↓c_neg, dec_t, dec_f, Bool.and_true, Bool.true_and, Bool.and_false, Bool.false_and, Bool.not_true, Bool.not_false, cond_true, cond_false, inR_t, cutR_t, roomB_t, lenOK_t, w64, bs_size, List.length_append, List.length_cons, List.length_nil, bs_extract, bs_append, bs_push, bs_data, bs_empty, bs_lit, catS_bs, eqS_bs, ite_pos', ite_neg', decide_true, decide_false, if_true, if_false, List.length_replicate, hb, q, e2, show (((32 : UInt8).toNat : Int) != 94) = true from rfl, show (((32 : UInt8).toNat : Int) != 32) = false from rfl]
      exact ih
theorem aligns2 {R : Type} (n : Nat) (f t col mg : Int) (B : ByteArray) (M : List UInt8) (c : Nat) (hM : M.length ≤ 1000) (hc2 : c ≤ 2000)
    (k0 : Int → Int → Bool → Int → ByteArray → ByteArray → Int → Option R) (k1 : Int → Int → Int → ByteArray → ByteArray → Int → Option R) : ∀ (d m i : Nat), d + i = M.length + c ∧ M.length ≤ i → d < m →
    p9_l19L n m f t col B (bs (M ++ List.replicate c 94)) mg i k0 k1 = k1 f t col B (bs (M ++ List.replicate c 94)) mg
  | 0, m + 1, i, h, hm => by
    simp only [p9_l19L, p9_l19B]
    simp (disch := (first | omega | (simp only [List.length_append, List.length_cons, List.length_nil, List.length_replicate, List.length_take, List.length_drop]; omega))) only [↓c_pos, ↓c_neg, dec_t, dec_f, Bool.and_true, Bool.true_and, Bool.and_false, Bool.false_and, Bool.not_true, Bool.not_false, cond_true, cond_false, inR_t, cutR_t, roomB_t, lenOK_t, w64, bs_size, List.length_append, List.length_cons, List.length_nil, bs_extract, bs_append, bs_push, bs_data, bs_empty, bs_lit, catS_bs, eqS_bs, ite_pos', ite_neg', decide_true, decide_false, if_true, if_false, List.length_replicate]
  | d + 1, m + 1, i, h, hm => by
    have ih := aligns2 n f t col mg B M c hM hc2 k0 k1 d m (i + 1) (by omega) (by omega)
    have hb : byteAt (bs (M ++ List.replicate c 94)) (i : Int) = 94 := by
      rw [byteAt_nat (by simp only [List.length_append, List.length_replicate]; omega)]
      have : (M ++ List.replicate c (94 : UInt8))[i]? = some 94 := by rw [List.getElem?_append_right (by omega), List.getElem?_replicate, if_pos (by omega)]
      rw [List.getElem?_eq_getElem (by simp only [List.length_append, List.length_replicate]; omega)] at this
      rw [Option.some.inj this]; rfl
    simp only [p9_l19L, p9_l19B]
    have e2 : ((i : Int) + 1) = ((i + 1 : Nat) : Int) := by omega
    simp (disch := (first | omega | (simp only [List.length_append, List.length_cons, List.length_nil, List.length_replicate, List.length_take, List.length_drop]; omega))) only [↓c_pos, ↓c_neg, dec_t, dec_f, Bool.and_true, Bool.true_and, Bool.and_false, Bool.false_and, Bool.not_true, Bool.not_false, cond_true, cond_false, inR_t, cutR_t, roomB_t, lenOK_t, w64, bs_size, List.length_append, List.length_cons, List.length_nil, bs_extract, bs_append, bs_push, bs_data, bs_empty, bs_lit, catS_bs, eqS_bs, ite_pos', ite_neg', decide_true, decide_false, if_true, if_false, List.length_replicate, hb, show ((94 : Int) != 94) = false from rfl, e2]
    exact ih
theorem aligns3 {R : Type} (n : Nat) (f t col mg : Int) (L : List UInt8) (B : ByteArray) (hM : L.length ≤ 1000)
    (k0 : Int → Int → Bool → Int → ByteArray → Int → Option R) (k1 : Int → Int → Int → ByteArray → Int → Option R) : ∀ (d m i : Nat), d + i = L.length → d < m →
    p9_l24L n m f t col (bs L) B mg i k0 k1 = if ∃ x ∈ L.drop i, 128 ≤ x.toNat then k0 f t (decide (mg ≤ col)) col B mg else k1 f t col B mg
  | 0, m + 1, i, h, hm => by
    simp only [p9_l24L, p9_l24B]
    rw [List.drop_of_length_le (by omega), if_neg (by simp)]
    simp (disch := (first | omega | (simp only [List.length_append, List.length_cons, List.length_nil, List.length_replicate, List.length_take, List.length_drop]; omega))) only [↓c_pos, ↓c_neg, dec_t, dec_f, Bool.and_true, Bool.true_and, Bool.and_false, Bool.false_and, Bool.not_true, Bool.not_false, cond_true, cond_false, inR_t, cutR_t, roomB_t, lenOK_t, w64, bs_size, List.length_append, List.length_cons, List.length_nil, bs_extract, bs_append, bs_push, bs_data, bs_empty, bs_lit, catS_bs, eqS_bs, ite_pos', ite_neg', decide_true, decide_false, if_true, if_false]
  | d + 1, m + 1, i, h, hm => by
    have ih := aligns3 n f t col mg L B hM k0 k1 d m (i + 1) (by omega) (by omega)
    have e2 : ((i : Int) + 1) = ((i + 1 : Nat) : Int) := by omega
    simp only [p9_l24L, p9_l24B]
    rw [List.drop_eq_getElem_cons (by omega)]
    by_cases h128 : 128 ≤ L[i].toNat
    · rw [if_pos ⟨_, List.mem_cons_self .., h128⟩]
      simp (disch := (first | omega | (simp only [List.length_append, List.length_cons, List.length_nil, List.length_replicate, List.length_take, List.length_drop]; omega))) only [↓c_pos, ↓c_neg, dec_t, dec_f, Bool.and_true, Bool.true_and, Bool.and_false, Bool.false_and, Bool.not_true, Bool.not_false, cond_true, cond_false, inR_t, cutR_t, roomB_t, lenOK_t, w64, bs_size, List.length_append, List.length_cons, List.length_nil, bs_extract, bs_append, bs_push, bs_data, bs_empty, bs_lit, catS_bs, eqS_bs, ite_pos', ite_neg', decide_true, decide_false, if_true, if_false, byte_get]
    · have hx : (∃ x ∈ L[i] :: L.drop (i + 1), 128 ≤ x.toNat) ↔ (∃ x ∈ L.drop (i + 1), 128 ≤ x.toNat) := by
        constructor
        · rintro ⟨x, hx, q⟩
          rcases List.mem_cons.1 hx with rfl | hx
          · exact absurd q h128
          · exact ⟨x, hx, q⟩
        · rintro ⟨x, hx, q⟩; exact ⟨x, List.mem_cons_of_mem _ hx, q⟩
      simp only [hx]
      simp (disch := (first | omega | (simp only [List.length_append, List.length_cons, List.length_nil, List.length_replicate, List.length_take, List.length_drop]; omega))) only [↓c_pos, ↓c_neg, dec_t, dec_f, Bool.and_true, Bool.true_and, Bool.and_false, Bool.false_and, Bool.not_true, Bool.not_false, cond_true, cond_false, inR_t, cutR_t, roomB_t, lenOK_t, w64, bs_size, List.length_append, List.length_cons, List.length_nil, bs_extract, bs_append, bs_push, bs_data, bs_empty, bs_lit, catS_bs, eqS_bs, ite_pos', ite_neg', decide_true, decide_false, if_true, if_false, byte_get, e2]
      exact ih
theorem run_ExcerptAligns {R : Type} (n : Nat) (hn : 4000 ≤ n) (a0 : ByteArray) (a1 : Int) (a2 : Int) (w0 : a0.size ≤ 140737488351232) (w1 : (Lit.int .i64 a1).wf = true) (w2 : (Lit.int .i64 a2).wf = true) (k : Bool → Option R) : p9 n a0 a1 a2 k = k true := by
  unfold p9
  rw [p10_run n (by omega)]
  obtain ⟨l, rfl⟩ : ∃ l, a0 = bs l := ⟨a0.data.toList, rfl⟩
  by_cases hs : (l.length : Int) > 1000
  · simp (disch := (first | omega | (simp only [List.length_append, List.length_cons, List.length_nil, List.length_replicate, List.length_take, List.length_drop]; omega))) only [↓c_pos, ↓c_neg, dec_t, dec_f, Bool.and_true, Bool.true_and, Bool.and_false, Bool.false_and, Bool.not_true, Bool.not_false, cond_true, cond_false, inR_t, cutR_t, roomB_t, lenOK_t, w64, bs_size, List.length_append, List.length_cons, List.length_nil, bs_extract, bs_append, bs_push, bs_data, bs_empty, bs_lit, catS_bs, eqS_bs, ite_pos', ite_neg', decide_true, decide_false, if_true, if_false]
  have h1 := fun k => p13_eq (R := R) n l a1 a2 (by omega) (by omega) k
  by_cases hbad : a1 < 0 ∨ a2 < a1 ∨ l.length < a2
  · have e : excerpt l a1 a2 = ([], 2) := by unfold excerpt; rw [if_pos hbad]
    simp only [e] at h1
    simp (disch := (first | omega | (simp only [List.length_append, List.length_cons, List.length_nil, List.length_replicate, List.length_take, List.length_drop]; omega))) only [↓c_pos, ↓c_neg, dec_t, dec_f, Bool.and_true, Bool.true_and, Bool.and_false, Bool.false_and, Bool.not_true, Bool.not_false, cond_true, cond_false, inR_t, cutR_t, roomB_t, lenOK_t, w64, bs_size, List.length_append, List.length_cons, List.length_nil, bs_extract, bs_append, bs_push, bs_data, bs_empty, bs_lit, catS_bs, eqS_bs, ite_pos', ite_neg', decide_true, decide_false, if_true, if_false, h1, show ((2 : Int) != 0) = true from rfl, beq_self_eq_true]
  obtain ⟨f, rfl⟩ := Int.eq_ofNat_of_zero_le (show 0 ≤ a1 by omega)
  obtain ⟨t, rfl⟩ := Int.eq_ofNat_of_zero_le (show 0 ≤ a2 by omega)
  have e : excerpt l f t = (exc l f t, 0) := by unfold excerpt; rw [if_neg hbad]; rfl
  simp only [e] at h1
  have htw := tw_le (l.take f)
  have hlen : (l.take f).length = f := by rw [List.length_take]; omega
  have hlc : lineCol l f = ((((l.take f).count 10 : Nat) : Int), ((tw (l.take f) : Nat) : Int), 0) := by
    unfold lineCol; rw [if_neg (by omega)]; rfl
  have h2 := fun k => p11_eq (R := R) n l f (by omega) (by omega) k
  simp only [hlc] at h2
  have hcl := List.count_le_length (a := (10 : UInt8)) (l := l.take f)
  have hbi : begI l ((l.take f).count 10 : Nat) = ((f - tw (l.take f) : Nat) : Int) := by
    unfold begI
    rw [if_neg (by omega), Int.toNat_natCast, begR_count l f (by omega)]
  have hline : line l ((l.take f).count 10 : Nat) = ((l.drop (f - tw (l.take f))).takeWhile (· != 10), 0) := by
    unfold line
    rw [hbi, if_neg (by omega), Int.toNat_natCast]
  have h3 := fun k => p17_eq (R := R) n l ((l.take f).count 10 : Nat) (by omega) (by omega) (by omega) k
  simp only [hline] at h3
  have hsp := line_split l f (by omega)
  have hlt := ln_le (l.drop f)
  rw [List.length_drop] at hlt
  obtain ⟨L, hL⟩ : ∃ L, L = (l.drop (f - tw (l.take f))).takeWhile (· != 10) := ⟨_, rfl⟩
  obtain ⟨P, hP⟩ : ∃ P, P = (l.drop (f - tw (l.take f))).take (tw (l.take f)) := ⟨_, rfl⟩
  obtain ⟨c, hc⟩ : ∃ c, c = max (car ((l.drop f).take (min (t - f) (ln (l.drop f))))) 1 := ⟨_, rfl⟩
  have hPl : P.length = tw (l.take f) := by rw [hP, List.length_take, List.length_drop]; omega
  have hexc : exc l f t = (L ++ [10]) ++ (marg P ++ List.replicate c 94) := by unfold exc; rw [← hL, ← hP, ← hc]
  have hLn : L.length = tw (l.take f) + ln (l.drop f) := by rw [hL, hsp, List.length_append, ← hP, hPl]; rfl
  have hcc : c ≤ max 1 (t - f) := by
    have := car_le ((l.drop f).take (min (t - f) (ln (l.drop f))))
    rw [List.length_take, List.length_drop] at this
    omega
  have hc1 : 1 ≤ c := by omega
  have hcb : c ≤ l.length + 1 := by omega
  have hPL : P = L.take P.length := by
    rw [hPl, hL, hsp, ← hP, ← hPl, List.take_left]
  have hm := marg_le P
  rw [← hL] at h3
  rw [hexc] at h1
  have hl10 : ([10] : List UInt8).length = 1 := rfl
  have ht1 : List.drop (0 : Int).toNat (List.take ((L.length : Int) + 1).toNat (L ++ [10] ++ (marg P ++ List.replicate c 94))) = L ++ [10] := by
    rw [show ((L.length : Int) + 1).toNat = (L ++ [10]).length from by rw [List.length_append, hl10]; omega, List.take_left]; rfl
  have hEl : (marg P ++ List.replicate c (94 : UInt8)).length = (marg P).length + c := by simp only [List.length_append, List.length_replicate]
  have hM : ∀ x ∈ marg P, x = 9 ∨ x = 32 := marg_mem P
  have hasc : (∀ x ∈ L, ¬ 128 ≤ x.toNat) → (marg P).length = P.length := fun h => marg_ascii P fun x hx => h x (by rw [hPL] at hx; exact List.mem_of_mem_take hx)
  have hl1 := fun k0 k1 => aligns1 (R := R) n f t (tw (l.take f)) (bs L) (marg P) c (by omega) hM k0 k1 hc1 (by omega) (marg P).length n 0 (by omega) (by omega)
  have hl2 := fun k0 k1 => aligns2 (R := R) n f t (tw (l.take f)) (marg P).length (bs L) (marg P) c (by omega) (by omega) k0 k1 c n (marg P).length (by omega) (by omega)
  have hl3 := fun k0 k1 => aligns3 (R := R) n f t (tw (l.take f)) (marg P).length L (bs (marg P ++ List.replicate c 94)) (by omega) k0 k1 L.length n 0 (by omega) (by omega)
  rw [show ((0 : Nat) : Int) = 0 from rfl] at hl1 hl3
  have hlast : ∀ i : Int, i = ((L.length + (marg P).length + c : Nat) : Int) → byteAt (bs (L ++ [10] ++ (marg P ++ List.replicate c 94))) i = 94 := by
    rintro i rfl
    rw [byteAt_nat (by simp only [List.length_append, List.length_cons, List.length_nil, List.length_replicate]; omega)]
    have : (L ++ [10] ++ (marg P ++ List.replicate c 94))[L.length + (marg P).length + c]? = some 94 := by
      rw [List.getElem?_append_right (by rw [List.length_append, hl10]; omega), List.getElem?_append_right (by rw [List.length_append, hl10]; omega), List.getElem?_replicate, if_pos (by rw [List.length_append, hl10]; omega)]
    rw [List.getElem?_eq_getElem (by simp only [List.length_append, List.length_cons, List.length_nil, List.length_replicate]; omega)] at this
    rw [Option.some.inj this]
    rfl
  have ht2 : ∀ w : Nat, w = (L ++ [10] ++ (marg P ++ List.replicate c 94)).length → List.drop ((L.length : Int) + 1).toNat (List.take w (L ++ [10] ++ (marg P ++ List.replicate c 94))) = marg P ++ List.replicate c 94 := by
    rintro w rfl
    rw [show ((L.length : Int) + 1).toNat = (L ++ [10]).length from by rw [List.length_append, hl10]; omega, List.take_length, List.drop_left]
  generalize hE : marg P ++ List.replicate c 94 = E at *
  simp (disch := (first | omega | (simp only [List.length_append, List.length_cons, List.length_nil, List.length_replicate, List.length_take, List.length_drop]; omega))) only [↓c_pos, ↓c_neg, dec_t, dec_f, Bool.and_true, Bool.true_and, Bool.and_false, Bool.false_and, Bool.not_true, Bool.not_false, cond_true, cond_false, inR_t, cutR_t, roomB_t, lenOK_t, w64, bs_size, List.length_append, List.length_cons, List.length_nil, bs_extract, bs_append, bs_push, bs_data, bs_empty, bs_lit, catS_bs, eqS_bs, ite_pos', ite_neg', decide_true, decide_false, if_true, if_false, h1, h2, h3, show ((0 : Int) != 0) = false from rfl, ht1, beq_self_eq_true]
  rw [hlast _ (by omega)]
  unfold p9_c12
  simp (disch := (first | omega | (simp only [List.length_append, List.length_cons, List.length_nil, List.length_replicate, List.length_take, List.length_drop]; omega))) only [↓c_pos, ↓c_neg, dec_t, dec_f, Bool.and_true, Bool.true_and, Bool.and_false, Bool.false_and, Bool.not_true, Bool.not_false, cond_true, cond_false, inR_t, cutR_t, roomB_t, lenOK_t, w64, bs_size, List.length_append, List.length_cons, List.length_nil, bs_extract, bs_append, bs_push, bs_data, bs_empty, bs_lit, catS_bs, eqS_bs, ite_pos', ite_neg', decide_true, decide_false, if_true, if_false, show ((94 : Int) != 94) = false from rfl, p9_l14, p9_l19, p9_l24]
  rw [ht2 _ (by first | omega | (simp only [List.length_append, hl10, Int.toNat_natCast]; done) | (simp only [List.length_append, hl10, Int.toNat_natCast]; omega)), hl1, hl2, hl3]
  by_cases hasc2 : ∃ x ∈ L.drop 0, 128 ≤ x.toNat
  · rw [if_pos hasc2, decide_eq_true (by omega)]
  · rw [if_neg hasc2]
    have hq := hasc (fun x hx q => hasc2 ⟨x, hx, q⟩)
    rw [hq, hPl]
    simp (disch := (first | omega | (simp only [List.length_append, List.length_cons, List.length_nil, List.length_replicate, List.length_take, List.length_drop]; omega))) only [↓c_pos, ↓c_neg, dec_t, dec_f, Bool.and_true, Bool.true_and, Bool.and_false, Bool.false_and, Bool.not_true, Bool.not_false, cond_true, cond_false, inR_t, cutR_t, roomB_t, lenOK_t, w64, bs_size, List.length_append, List.length_cons, List.length_nil, bs_extract, bs_append, bs_push, bs_data, bs_empty, bs_lit, catS_bs, eqS_bs, ite_pos', ite_neg', decide_true, decide_false, if_true, if_false, beq_self_eq_true]
    congr 1
    have : maxI 1 ((t : Int) - (f : Int)) = ((max 1 (t - f) : Nat) : Int) := by unfold maxI; split <;> omega
    rw [this, decide_eq_true (by omega)]
theorem fsr_ExcerptAligns (n : Nat) (a0 : ByteArray) (a1 : Int) (a2 : Int) {R : Type} (K : List SV → Option R) : (fs9 n).run ((#[.string a0, .int .i64 a1, .int .i64 a2] : Array Value).toList.map fun x => SV.p (.v x)) K = p9 n a0 a1 a2 (fun y => K [.p (.v (.bool y))]) := rfl
theorem law_ExcerptAligns (W : World) (a0 : ByteArray) (a1 : Int) (a2 : Int) (w0 : a0.size ≤ 140737488351232) (w1 : (Lit.int .i64 a1).wf = true) (w2 : (Lit.int .i64 a2).wf = true) : Calls Try.prog 9 #[.string a0, .int .i64 a1, .int .i64 a2] W fun e w' => e = .returned (.bool true) ∧ RowKit.Below W.heap.size W w' :=
  law_calls (ok9 4000) (by
    rw [fsr_ExcerptAligns, run_ExcerptAligns 4000 (by omega) a0 a1 a2 w0 w1 w2]; rfl) W
end Go.Proofs.Ytlplpkbhjddmeaa


namespace Go.Proofs.Ytlplpkbhjddmeaa.excerptAligns
open Go.ChangeShapes Go.WideShapes Go.ChangeAt Go.RowKit
open Go.ChangeMaps (open_string shut_string)
theorem own : ownKnob Try.prog.godebug = none := by kernel_rfl
set_option maxRecDepth 100000 in
theorem lifted (os : Os) (started : os.Started) (H : Type) (enc : TypeId × Value → H) :
    ReturnsInHanded {} Try.checked os 9 .any (Rows.excerptAlignsSpec.pre6 enc Try.prog Try.f9 Rows.excerptAlignsRow.domain false) (Rows.excerptAlignsSpec.post enc Try.prog Try.f9 false true false false) := by
  refine returnsInHanded_of_change_sized (C := Try.checked) own started (by kernel_rfl) Try.func9
    (ChangeSpec.witness6 (enc := enc) (C := Try.checked) false ⟨#[], #[.string ByteArray.empty, .int .i64 0, .int .i64 0], []⟩ 8 (by kernel_rfl) (by kernel_rfl) (by kernel_rfl) (by kernel_rfl)) ?_
  intro W base args ds gs before hval0 hW hcnd hsz0 _
  have hsz : (DataW.weightsEach Try.prog (Try.f9.params.toList ++ Rows.excerptAlignsSpec.plain.varTypes Try.prog) (ds ++ gs)).all (· ≤ reachBytes) = true := hsz0
  have hval : ∀ (j : Nat) t v, Try.f9.params[j]? = some t → args[j]? = some v → Value.okWide Try.prog W .any base t v := hval0
  have hW' := hW
  obtain ⟨p, q, hA0, hV, rfl, hfz, hnd⟩ := hW
  have hA : DataW.TrodAll enc Try.prog W 0 (fun _ => true) true Try.f9.params.toList args.toList ds p := hA0
  rw [Try.params9] at hA hval hsz
  obtain ⟨v0, vs0, d0, ds0, p0, q0, hargs, rfl, rfl, h0, r0⟩ := trodAll_cons hA
  obtain ⟨v1, vs1, d1, ds1, p1, q1, rfl, rfl, rfl, h1, r1⟩ := trodAll_cons r0
  obtain ⟨v2, vs2, d2, ds2, p2, q2, rfl, rfl, rfl, h2, r2⟩ := trodAll_cons r1
  obtain ⟨rfl, rfl, rfl⟩ := trodAll_nil r2
  obtain rfl : args = #[v0, v1, v2] := by cases args; simp_all
  obtain ⟨rfl, rfl⟩ := trodVars_none hV
  obtain ⟨a0, rfl, rfl, rfl, y0⟩ := open_string Try.underlying9 (hval 0 9 v0 rfl rfl) h0
  have w0 : a0.size ≤ 140737488351232 := by
    have z := sized_string hsz (j := 0) (t := 9) rfl rfl
    rw [Array.length_toList] at z
    exact z
  obtain ⟨a1, rfl, rfl, rfl, w1⟩ := open_int Try.underlying3 (hval 1 3 v1 rfl rfl) h1
  obtain ⟨a2, rfl, rfl, rfl, w2⟩ := open_int Try.underlying3 (hval 2 3 v2 rfl rfl) h2
  clear hA0 hval0 hsz0 hsz
  refine (law_ExcerptAligns W a0 a1 a2 w0 w1 w2).mono fun e W' ⟨he, bel⟩ => ?_
  subst he
  exact ⟨_, rfl, _, _, _, [], _, [], hW', trodAll_mk1 (shut_bool Try.underlying4 _), (trodAll_cons_mk (shut_string Try.underlying9 y0) (trodAll_cons_mk (shut_int Try.underlying3 w1) (trodAll_cons_mk (shut_int Try.underlying3 w2) trodAll_mk0))), rfl, bel.frame _, fun h => by cases h⟩
theorem over : Rows.excerptAlignsRow.holds Try.pinned (OpenSpec.ofChange Rows.excerptAlignsSpec) :=
  OpenClaim.holds_of_wide 9 Try.f9 rfl rfl rfl rfl rfl rfl rfl ⟨rfl, rfl, rfl, rfl, rfl⟩ rfl rfl rfl rfl rfl (by kernel_rfl) Try.func9 (by kernel_rfl)
    (of_decide_eq_true (by kernel_rfl)) (by unfold Func.isWrapper; first | (rw [if_pos (by decide +kernel)]; kernel_rfl) | (rw [if_neg (by decide +kernel)]; exact ⟨rfl, rfl⟩))
    (fun os started H enc _ => lifted os started H enc)
theorem proved : Rows.ExcerptAlignsSaid := over
end Go.Proofs.Ytlplpkbhjddmeaa.excerptAligns
namespace Go.Proofs.Ytlplpkbhjddmeaa
theorem excerptAligns_holds : Rows.ExcerptAlignsSaid := excerptAligns.proved
end Go.Proofs.Ytlplpkbhjddmeaa
