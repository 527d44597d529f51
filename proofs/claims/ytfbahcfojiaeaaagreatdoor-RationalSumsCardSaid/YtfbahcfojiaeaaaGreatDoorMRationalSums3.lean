/- Proved: the law RationalSums returns true at all its arguments (no further conditions): the row and what it stands on. -/
import Derived.Test.YtfbahcfojiaeaaaGreatDoorMRationalSums2
import Derived.Test.YtfbahcfojiaeaaaGreatDoorRows
import Derived.Test.YtfbahcfojiaeaaaGreatDoorCards
import Derived.Test.YtfbahcfojiaeaaaGreatDoorTie
import Derived.WalkKit
import Derived.ProofKit
import Derived.OpenShut
import Derived.ShutString
import Derived.ChangeOld
import Derived.Below
import Derived.SizedLaws
import Derived.LaidMore
import Derived.Lay
import Derived.SevenTiedAt
import Derived.Stop.Joined
import Derived.Deep.Strs
import Derived.Carry

set_option linter.unusedVariables false
set_option linter.unusedSimpArgs false
namespace Go.Proofs.YtfbahcfojiaeaaaGreatDoor
open Go Th Go.Proofs
variable {R : Type}
def sumR : Rat → List Rat → Option Rat
  | a, [] => some a
  | a, q :: r => if fits (a + q) then sumR (a + q) r else none
theorem sl_drop {l : List (List UInt8)} {i : Nat} (h : i < l.length) : l.drop i = l.getD i [] :: l.drop (i + 1) := by
  rw [List.drop_eq_getElem_cons h, List.getD_eq_getElem?_getD, List.getElem?_eq_getElem h]; rfl
theorem sum_valid (n : Nat) (hn : 10 ^ 400 ≤ n) (l : List (List UInt8)) (hl : l.length ≤ 8) (hs : ∀ s ∈ l, s.length ≤ 300) (x1 : List PV) (k0 : List PV → ByteArray → Int → Option R) (k1 : List PV → Option R) : ∀ (d m i : Nat), d + i = l.length → d < m →
    ((∀ s ∈ l.drop i, isQ s) → p21_l2L n m x1 (sl l) l.length i k0 k1 = k1 x1) ∧ ((¬ ∀ s ∈ l.drop i, isQ s) → p21_l2L n m x1 (sl l) l.length i k0 k1 = k0 x1 (bs []) 3)
  | 0, m + 1, i, hd, hm => by
    rw [List.drop_eq_nil_of_le (by omega)]
    refine ⟨fun _ => ?_, fun h => absurd (fun s h => by cases h) h⟩
    simp only [p21_l2L, p21_l2B]
    simp (disch := (first | omega | (simp only [List.length_append, List.length_cons, List.length_nil, List.length_replicate, List.length_take, List.length_drop]; omega))) only [↓c_pos, ↓c_neg, dec_t, dec_f, Bool.and_true, Bool.true_and, Bool.and_false, Bool.false_and, Bool.not_true, Bool.not_false, cond_true, cond_false, inR_t, cutR_t, roomB_t, lenOK_t, w64, bs_size, List.length_append, List.length_cons, List.length_nil, bs_extract, bs_append, bs_push, bs_data, bs_empty, bs_lit, catS_bs, eqS_bs, ite_pos', ite_neg', decide_true, decide_false, if_true, if_false]
  | d + 1, m + 1, i, hd, hm => by
    classical
    have hi : i < l.length := by omega
    have ih := sum_valid n hn l hl hs x1 k0 k1 d m (i + 1) (by omega) (by omega)
    have e1 : (i : Int) + 1 = ((i + 1 : Nat) : Int) := by omega
    have hg : ∀ K : ByteArray → Option R, getS ((sl l).getD i (PV.v (Value.bool false))) K = K (bs (l.getD i [])) := fun K => getS_sl hi
    have hlen : (l.getD i []).length ≤ 300 := hs _ (by rw [List.getD_eq_getElem?_getD, List.getElem?_eq_getElem hi]; exact List.getElem_mem hi)
    have v := fun k0 => ValidR_eq (R := R) n hn (l.getD i []) (by omega) k0
    rw [sl_drop hi]
    generalize l.getD i [] = s at *
    simp only [List.forall_mem_cons, p21_l2L, p21_l2B]
    by_cases hq : isQ s
    · simp only [decide_eq_true hq] at v
      refine ⟨fun h => ?_, fun h => ?_⟩
      · rw [← ih.1 h.2]
        simp (disch := (first | omega | (simp only [List.length_append, List.length_cons, List.length_nil, List.length_replicate, List.length_take, List.length_drop]; omega))) only [↓c_pos, ↓c_neg, dec_t, dec_f, Bool.and_true, Bool.true_and, Bool.and_false, Bool.false_and, Bool.not_true, Bool.not_false, cond_true, cond_false, inR_t, cutR_t, roomB_t, lenOK_t, w64, bs_size, List.length_append, List.length_cons, List.length_nil, bs_extract, bs_append, bs_push, bs_data, bs_empty, bs_lit, catS_bs, eqS_bs, ite_pos', ite_neg', decide_true, decide_false, if_true, if_false, e1, sl_len, toNatC, hg, v]
      · rw [← ih.2 (fun q => h ⟨hq, q⟩)]
        simp (disch := (first | omega | (simp only [List.length_append, List.length_cons, List.length_nil, List.length_replicate, List.length_take, List.length_drop]; omega))) only [↓c_pos, ↓c_neg, dec_t, dec_f, Bool.and_true, Bool.true_and, Bool.and_false, Bool.false_and, Bool.not_true, Bool.not_false, cond_true, cond_false, inR_t, cutR_t, roomB_t, lenOK_t, w64, bs_size, List.length_append, List.length_cons, List.length_nil, bs_extract, bs_append, bs_push, bs_data, bs_empty, bs_lit, catS_bs, eqS_bs, ite_pos', ite_neg', decide_true, decide_false, if_true, if_false, e1, sl_len, toNatC, hg, v]
    · simp only [decide_eq_false hq] at v
      refine ⟨fun h => absurd h.1 hq, fun _ => ?_⟩
      simp (disch := (first | omega | (simp only [List.length_append, List.length_cons, List.length_nil, List.length_replicate, List.length_take, List.length_drop]; omega))) only [↓c_pos, ↓c_neg, dec_t, dec_f, Bool.and_true, Bool.true_and, Bool.and_false, Bool.false_and, Bool.not_true, Bool.not_false, cond_true, cond_false, inR_t, cutR_t, roomB_t, lenOK_t, w64, bs_size, List.length_append, List.length_cons, List.length_nil, bs_extract, bs_append, bs_push, bs_data, bs_empty, bs_lit, catS_bs, eqS_bs, ite_pos', ite_neg', decide_true, decide_false, if_true, if_false, e1, sl_len, toNatC, hg, v]
theorem sum_add (n : Nat) (hn : 10 ^ 1000 ≤ n) (qs : List Rat) (hl : qs.length ≤ 8) (hf : ∀ q ∈ qs, fits q) (k0 : ByteArray → Int → ByteArray → Option R) (k1 : ByteArray → Option R) : ∀ (d m i : Nat) (a : Rat), d + i = qs.length → d < m → fits a →
    p21_l9L n m (bs (rtxt a)) (sl (qs.map rtxt)) qs.length i k0 k1 = match sumR a (qs.drop i) with
      | some q => k1 (bs (rtxt q))
      | none => k0 (bs []) 5 (bs [])
  | 0, m + 1, i, a, hd, hm, ha => by
    rw [List.drop_eq_nil_of_le (by omega)]
    simp only [p21_l9L, p21_l9B, sumR]
    simp (disch := (first | omega | (simp only [List.length_append, List.length_cons, List.length_nil, List.length_replicate, List.length_take, List.length_drop]; omega))) only [↓c_pos, ↓c_neg, dec_t, dec_f, Bool.and_true, Bool.true_and, Bool.and_false, Bool.false_and, Bool.not_true, Bool.not_false, cond_true, cond_false, inR_t, cutR_t, roomB_t, lenOK_t, w64, bs_size, List.length_append, List.length_cons, List.length_nil, bs_extract, bs_append, bs_push, bs_data, bs_empty, bs_lit, catS_bs, eqS_bs, ite_pos', ite_neg', decide_true, decide_false, if_true, if_false]
  | d + 1, m + 1, i, a, hd, hm, ha => by
    have hi : i < qs.length := by omega
    have hdr : qs.drop i = qs[i] :: qs.drop (i + 1) := List.drop_eq_getElem_cons hi
    have e1 : (i : Int) + 1 = ((i + 1 : Nat) : Int) := by omega
    have hgd : (qs.map rtxt).getD i [] = rtxt qs[i] := by rw [List.getD_eq_getElem?_getD, List.getElem?_map, List.getElem?_eq_getElem hi]; rfl
    have hg : ∀ K : ByteArray → Option R, getS ((sl (qs.map rtxt)).getD i (PV.v (Value.bool false))) K = K (bs (rtxt qs[i])) := fun K => by
      rw [getS_sl (by rw [List.length_map]; exact hi), hgd]
    have hq := hf _ (List.getElem_mem hi)
    have s := fun k0 => Add_ok (R := R) n hn a qs[i] ha hq k0
    rw [hdr]
    have e5 : ((5 : Int) != 0) = true := rfl
    have e0 : ((0 : Int) != 0) = false := rfl
    simp only [p21_l9L, p21_l9B, sumR]
    by_cases h : fits (a + qs[i])
    · have ih := sum_add n hn qs hl hf k0 k1 d m (i + 1) (a + qs[i]) (by omega) (by omega) h
      simp only [resK_fit h] at s
      rw [if_pos h, ← ih]
      simp (disch := (first | omega | (simp only [List.length_append, List.length_cons, List.length_nil, List.length_replicate, List.length_take, List.length_drop]; omega))) only [↓c_pos, ↓c_neg, dec_t, dec_f, Bool.and_true, Bool.true_and, Bool.and_false, Bool.false_and, Bool.not_true, Bool.not_false, cond_true, cond_false, inR_t, cutR_t, roomB_t, lenOK_t, w64, bs_size, List.length_append, List.length_cons, List.length_nil, bs_extract, bs_append, bs_push, bs_data, bs_empty, bs_lit, catS_bs, eqS_bs, ite_pos', ite_neg', decide_true, decide_false, if_true, if_false, e1, sl_len, toNatC, hg, s, e0, List.length_map]
    · have s' : ∀ k0 : ByteArray → Int → Option R, p27 n (bs (rtxt a)) (bs (rtxt qs[i])) k0 = k0 (bs []) 5 := fun k0 => by
        rw [s]; unfold resK; rw [if_neg h]
      rw [if_neg h]
      simp (disch := (first | omega | (simp only [List.length_append, List.length_cons, List.length_nil, List.length_replicate, List.length_take, List.length_drop]; omega))) only [↓c_pos, ↓c_neg, dec_t, dec_f, Bool.and_true, Bool.true_and, Bool.and_false, Bool.false_and, Bool.not_true, Bool.not_false, cond_true, cond_false, inR_t, cutR_t, roomB_t, lenOK_t, w64, bs_size, List.length_append, List.length_cons, List.length_nil, bs_extract, bs_append, bs_push, bs_data, bs_empty, bs_lit, catS_bs, eqS_bs, ite_pos', ite_neg', decide_true, decide_false, if_true, if_false, e1, sl_len, toNatC, hg, s', e5, List.length_map]
theorem sum_rvalid (n : Nat) (hn : 10 ^ 400 ≤ n) (l : List (List UInt8)) (hl : l.length ≤ 8) (hs : ∀ s ∈ l, s.length ≤ 300) (x2 : ByteArray) (x3 : Int) (k0 : List PV → Bool → ByteArray → Int → Option R) (k1 : List PV → ByteArray → Int → Option R) : ∀ (d m i : Nat), d + i = l.length → d < m →
    ((∀ s ∈ l.drop i, isQ s) → p5_l5L n m (sl l) x2 x3 i k0 k1 = k1 (sl l) x2 x3) ∧ ((¬ ∀ s ∈ l.drop i, isQ s) → x2 = bs [] → x3 = 3 → p5_l5L n m (sl l) x2 x3 i k0 k1 = k0 (sl l) true x2 x3)
  | 0, m + 1, i, hd, hm => by
    rw [List.drop_eq_nil_of_le (by omega)]
    refine ⟨fun _ => ?_, fun h => absurd (fun s h => by cases h) h⟩
    simp only [p5_l5L, p5_l5B]
    simp (disch := (first | omega | (simp only [List.length_append, List.length_cons, List.length_nil, List.length_replicate, List.length_take, List.length_drop]; omega))) only [↓c_pos, ↓c_neg, dec_t, dec_f, Bool.and_true, Bool.true_and, Bool.and_false, Bool.false_and, Bool.not_true, Bool.not_false, cond_true, cond_false, inR_t, cutR_t, roomB_t, lenOK_t, w64, bs_size, List.length_append, List.length_cons, List.length_nil, bs_extract, bs_append, bs_push, bs_data, bs_empty, bs_lit, catS_bs, eqS_bs, ite_pos', ite_neg', decide_true, decide_false, if_true, if_false, sl_len]
  | d + 1, m + 1, i, hd, hm => by
    have hN := big_n hn
    have hA := fun k => p11_run (R := R) n (by omega) k
    have hi : i < l.length := by omega
    have ih := sum_rvalid n hn l hl hs x2 x3 k0 k1 d m (i + 1) (by omega) (by omega)
    have e1 : (i : Int) + 1 = ((i + 1 : Nat) : Int) := by omega
    have hg : ∀ K : ByteArray → Option R, getS ((sl l).getD i (PV.v (Value.bool false))) K = K (bs (l.getD i [])) := fun K => getS_sl hi
    have hlen : (l.getD i []).length ≤ 300 := hs _ (by rw [List.getD_eq_getElem?_getD, List.getElem?_eq_getElem hi]; exact List.getElem_mem hi)
    rw [sl_drop hi]
    generalize l.getD i [] = s at *
    simp only [List.forall_mem_cons, p5_l5L, p5_l5B]
    by_cases hq : isQ s
    · have v : ∀ k0 : Bool → Option R, p22 n (bs s) k0 = k0 true := fun k0 => by
        obtain ⟨q, h1, rfl⟩ := hq
        unfold p22; rw [rread_ok n hn q h1]
      refine ⟨fun h => ?_, fun h h2 h3 => ?_⟩
      · rw [← ih.1 h.2]
        simp (disch := (first | omega | (simp only [List.length_append, List.length_cons, List.length_nil, List.length_replicate, List.length_take, List.length_drop]; omega))) only [↓c_pos, ↓c_neg, dec_t, dec_f, Bool.and_true, Bool.true_and, Bool.and_false, Bool.false_and, Bool.not_true, Bool.not_false, cond_true, cond_false, inR_t, cutR_t, roomB_t, lenOK_t, w64, bs_size, List.length_append, List.length_cons, List.length_nil, bs_extract, bs_append, bs_push, bs_data, bs_empty, bs_lit, catS_bs, eqS_bs, ite_pos', ite_neg', decide_true, decide_false, if_true, if_false, e1, sl_len, toNatC, hg, v]
      · rw [← ih.2 (fun q => h ⟨hq, q⟩) h2 h3]
        simp (disch := (first | omega | (simp only [List.length_append, List.length_cons, List.length_nil, List.length_replicate, List.length_take, List.length_drop]; omega))) only [↓c_pos, ↓c_neg, dec_t, dec_f, Bool.and_true, Bool.true_and, Bool.and_false, Bool.false_and, Bool.not_true, Bool.not_false, cond_true, cond_false, inR_t, cutR_t, roomB_t, lenOK_t, w64, bs_size, List.length_append, List.length_cons, List.length_nil, bs_extract, bs_append, bs_push, bs_data, bs_empty, bs_lit, catS_bs, eqS_bs, ite_pos', ite_neg', decide_true, decide_false, if_true, if_false, e1, sl_len, toNatC, hg, v]
    · have v : ∀ k0 : Bool → Option R, p22 n (bs s) k0 = k0 false := fun k0 => by
        obtain ⟨a, b, c, d, h⟩ := rread_bad (R := R) n hn s (by omega) hq
        unfold p22; rw [h]
      refine ⟨fun h => absurd h.1 hq, fun _ h2 h3 => ?_⟩
      subst h2 h3
      have e0 : eqS (bs []) (⟨#[]⟩ : ByteArray) = true := rfl
      have e0' : (([] : List UInt8) == []) = true := rfl
      have e3 : ((3 : Int) == 3) = true := rfl
      simp (disch := (first | omega | (simp only [List.length_append, List.length_cons, List.length_nil, List.length_replicate, List.length_take, List.length_drop]; omega))) only [↓c_pos, ↓c_neg, dec_t, dec_f, Bool.and_true, Bool.true_and, Bool.and_false, Bool.false_and, Bool.not_true, Bool.not_false, cond_true, cond_false, inR_t, cutR_t, roomB_t, lenOK_t, w64, bs_size, List.length_append, List.length_cons, List.length_nil, bs_extract, bs_append, bs_push, bs_data, bs_empty, bs_lit, catS_bs, eqS_bs, ite_pos', ite_neg', decide_true, decide_false, if_true, if_false, e1, sl_len, toNatC, hg, v, hA, e0, e0', e3]
theorem long_eq (n : Nat) (q : Rat) (k0 : Bool → Option R) : p26 n (sg q.num) (II q.num.natAbs) false (II q.den) k0 = k0 (!decide (fits q)) := by
  have hf := fits_ll (q := q)
  by_cases h1 : 400 < ll q.num.natAbs
  · have e1 : decide (((ll q.num.natAbs : Nat) : Int) > 400) = true := decide_eq_true (by omega)
    simp only [p26, p61, II_len, e1, condT]
    rw [decide_eq_false (fun q => by have := hf.1 q; omega)]; rfl
  · have e1 : decide (((ll q.num.natAbs : Nat) : Int) > 400) = false := decide_eq_false (by omega)
    by_cases h2 : 400 < ll q.den
    · have e2 : decide (((ll q.den : Nat) : Int) > 400) = true := decide_eq_true (by omega)
      simp only [p26, p61, II_len, e1, e2, condF]
      rw [decide_eq_false (fun q => by have := hf.1 q; omega)]; rfl
    · have e2 : decide (((ll q.den : Nat) : Int) > 400) = false := decide_eq_false (by omega)
      simp only [p26, p61, II_len, e1, e2, condF]
      rw [decide_eq_true (hf.2 ⟨by omega, by omega⟩)]; rfl
theorem sum_radd (n : Nat) (hn : 10 ^ 1000 ≤ n) (qs : List Rat) (hl : qs.length ≤ 8) (hf : ∀ q ∈ qs, fits q) (x2 : ByteArray) (x3 : Int) (k0 : Bool → ByteArray → Int → Bool → List PV → Bool → List PV → Option R) (k1 : ByteArray → Int → Bool → List PV → Bool → List PV → Option R) (K : Option R) (hk0 : ∀ a b c d e f, k0 true a b c d e f = K) : ∀ (d m i : Nat) (a : Rat), d + i = qs.length → d < m → fits a →
    (sumR a (qs.drop i) = none → x2 = bs [] → x3 = 5 → p5_l11L n m (sl (qs.map rtxt)) x2 x3 (sg a.num) (II a.num.natAbs) false (II a.den) i k0 k1 = K) ∧
    (∀ q, sumR a (qs.drop i) = some q → p5_l11L n m (sl (qs.map rtxt)) x2 x3 (sg a.num) (II a.num.natAbs) false (II a.den) i k0 k1 = k1 x2 x3 (sg q.num) (II q.num.natAbs) false (II q.den))
  | 0, m + 1, i, a, hd, hm, ha => by
    rw [List.drop_eq_nil_of_le (by omega)]
    refine ⟨fun h => (nomatch h), fun q h => ?_⟩
    cases h
    simp only [p5_l11L, p5_l11B]
    simp (disch := (first | omega | (simp only [List.length_append, List.length_cons, List.length_nil, List.length_replicate, List.length_take, List.length_drop]; omega))) only [↓c_pos, ↓c_neg, dec_t, dec_f, Bool.and_true, Bool.true_and, Bool.and_false, Bool.false_and, Bool.not_true, Bool.not_false, cond_true, cond_false, inR_t, cutR_t, roomB_t, lenOK_t, w64, bs_size, List.length_append, List.length_cons, List.length_nil, bs_extract, bs_append, bs_push, bs_data, bs_empty, bs_lit, catS_bs, eqS_bs, ite_pos', ite_neg', decide_true, decide_false, if_true, if_false, sl_len, List.length_map]
  | d + 1, m + 1, i, a, hd, hm, ha => by
    have hN := big_n (n400 hn)
    have hA := fun k => p11_run (R := R) n (by omega) k
    have hi : i < qs.length := by omega
    have hdr : qs.drop i = qs[i] :: qs.drop (i + 1) := List.drop_eq_getElem_cons hi
    have e1 : (i : Int) + 1 = ((i + 1 : Nat) : Int) := by omega
    have hgd : (qs.map rtxt).getD i [] = rtxt qs[i] := by rw [List.getD_eq_getElem?_getD, List.getElem?_map, List.getElem?_eq_getElem hi]; rfl
    have hg : ∀ K : ByteArray → Option R, getS ((sl (qs.map rtxt)).getD i (PV.v (Value.bool false))) K = K (bs (rtxt qs[i])) := fun K => by
      rw [getS_sl (by rw [List.length_map]; exact hi), hgd]
    have hq := hf _ (List.getElem_mem hi)
    have o : ∀ k0 : Bool → List PV → Bool → List PV → Option R, p25 n (bs (rtxt qs[i])) k0 = k0 (sg qs[i].num) (II qs[i].num.natAbs) false (II qs[i].den) := fun k0 => by
      unfold p25; rw [rread_ok n (n400 hn) qs[i] hq, notT, condF]
    have s := fun k0 => radd24_ok (R := R) n hn a qs[i] ha hq k0
    have hc1 : decide ((i : Int) < ((sl (qs.map rtxt)).length : Int)) = true := decide_eq_true (by rw [sl_len, List.length_map]; omega)
    have hc2 : inR i (sl (qs.map rtxt)).length = true := by rw [sl_len, List.length_map]; exact inR_t (by omega) (by omega)
    have w1 : IntKind.i64.wrap ((i : Int) + 1) = ((i + 1 : Nat) : Int) := by rw [w64 (by omega) (by omega)]; omega
    have lg := fun k0 => long_eq (R := R) n (a + qs[i]) k0
    have ih := fun (hh : fits (a + qs[i])) => sum_radd n hn qs hl hf x2 x3 k0 k1 K hk0 d m (i + 1) (a + qs[i]) (by omega) (by omega) hh
    rw [hdr, p5_l11L, p5_l11B, hc1, condT, hc2, condT, toNatC, hg, o, s, lg, sumR]
    by_cases h : fits (a + qs[i])
    · rw [if_pos h, decide_eq_true h, notT, condF, w1]
      exact ih h
    · rw [if_neg h, decide_eq_false h, notF, condT]
      refine ⟨fun _ q2 q3 => ?_, fun q q1 => (nomatch q1)⟩
      subst q2 q3
      have e0 : eqS (bs []) (⟨#[]⟩ : ByteArray) = true := rfl
      have e5 : ((5 : Int) == 5) = true := rfl
      rw [hA, condT, condT, condT, e0, condT, condT, condT, e5]
      exact hk0 _ _ _ _ _ _
theorem sumR_fits : ∀ (l : List Rat) (a q : Rat), fits a → sumR a l = some q → fits q
  | [], a, q, ha, h => by cases h; exact ha
  | x :: r, a, q, ha, h => by
    rw [sumR] at h
    split at h
    · rename_i hf
      exact sumR_fits r _ q hf h
    · cases h
theorem unmap (l : List (List UInt8)) (h : ∀ s ∈ l, isQ s) : ∃ qs : List Rat, l = qs.map rtxt ∧ ∀ q ∈ qs, fits q := by
  induction l with
  | nil => exact ⟨[], rfl, fun q h => by cases h⟩
  | cons s r ih =>
    obtain ⟨qs, h1, h2⟩ := ih fun x hx => h x (List.mem_cons_of_mem _ hx)
    obtain ⟨q, h3, h4⟩ := h s (List.mem_cons_self ..)
    refine ⟨q :: qs, by rw [h1, h4]; rfl, fun x hx => ?_⟩
    rcases List.mem_cons.1 hx with rfl | hx
    · exact h3
    · exact h2 x hx
theorem int0_eq (n : Nat) (hn : 200000 ≤ n) (k0 : Bool → List PV → Bool → List PV → Option R) : p23 n k0 = k0 (sg (0 : Rat).num) (II (0 : Rat).num.natAbs) false (II (0 : Rat).den) := by
  have z : (0 : Int).natAbs = 0 := rfl
  have o := fun k => of_eq (R := R) n 0 (by rw [z, ll_zero]; omega) hn k
  have i0 : Lib.itoa 0 = [48] := (itoa_pos 0).trans dec_zero
  rw [i0] at o
  have l1 : ll 1 ≤ 1 := by unfold ll; rw [toL_dig (by omega) (by omega)]; decide
  have nw := fun k => new_eq (R := R) n 0 ((1 : Nat) : Int) (by omega) (by rw [z, ll_zero]; omega) (by rw [Int.natAbs_natCast]; omega) hn (by rw [Int.natAbs_natCast]; omega) k
  rw [sg_nat, Int.natAbs_natCast] at nw
  have e : Rat.divInt 0 ((1 : Nat) : Int) = 0 := by rw [Rat.divInt_ofNat, Rat.zero_mkRat]
  rw [e] at nw
  have w1 : IntKind.i64.wrap (0 + 1) = 1 := w64 (by omega) (by omega)
  have c1 : cutR 0 1 ((⟨#[48, 49, 50, 51, 52, 53, 54, 55, 56, 57]⟩ : ByteArray)).size = true := rfl
  have x1 : ByteArray.extract (⟨#[48, 49, 50, 51, 52, 53, 54, 55, 56, 57]⟩ : ByteArray) (0 : Int).toNat (1 : Int).toNat = bs [48] := by
    rw [show (⟨#[48, 49, 50, 51, 52, 53, 54, 55, 56, 57]⟩ : ByteArray) = bs [48, 49, 50, 51, 52, 53, 54, 55, 56, 57] from rfl, bs_extract]; rfl
  simp only [p23, p58, p48, condF, condT, w1, c1, x1, o, ← II_one, nw]
theorem run_RationalSums (n : Nat) (hn : 10 ^ 1000 ≤ n) (l : List (List UInt8)) (k : Bool → Option R) : p5 n (sl l) k = k true := by
  have h4 := n400 hn
  have hN := big_n h4
  have hA := fun k => p11_run (R := R) n (by omega) k
  unfold p5
  rw [sl_len]
  by_cases h8 : 8 < l.length
  · rw [show decide ((l.length : Int) > 8) = true from decide_eq_true (by omega)]
    simp only [condT, hA]
  rw [show decide ((l.length : Int) > 8) = false from decide_eq_false (by omega), condF, condF, shorts_eq n l (by omega) (by omega), condF, condF]
  by_cases hsh : ∀ s ∈ l, s.length ≤ 300
  · rw [decide_eq_true hsh, notT, condF]
    have z : ((0 : Nat) : Int) = 0 := rfl
    unfold p5_c3 p21 p21_l2
    rw [sl_len]
    by_cases hq : ∀ s ∈ l, isQ s
    · obtain ⟨qs, rfl, hf⟩ := unmap l hq
      have hlq : qs.length ≤ 8 := by rw [List.length_map] at h8; omega
      have v := fun k0 k1 => (sum_valid (R := R) n h4 (qs.map rtxt) (by omega) hsh (sl (qs.map rtxt)) k0 k1 (qs.map rtxt).length n 0 (by omega) (by omega)).1 (by rw [List.drop_zero]; exact hq)
      have rv := fun x2 x3 k0 k1 => (sum_rvalid (R := R) n h4 (qs.map rtxt) (by omega) hsh x2 x3 k0 k1 (qs.map rtxt).length n 0 (by omega) (by omega)).1 (by rw [List.drop_zero]; exact hq)
      have ad := fun k0 k1 => sum_add (R := R) n hn qs hlq hf k0 k1 qs.length n 0 0 (by omega) (by omega) (by decide +kernel)
      rw [rtxt_zero, List.drop_zero] at ad
      rw [z] at v rv ad
      rw [v]
      simp only [p21_l9, sl_len, List.length_map]
      rw [show (⟨#[48]⟩ : ByteArray) = bs [48] from rfl, ad]
      cases hs : sumR 0 qs with
      | none =>
        simp only []
        unfold p5_l5
        rw [rv, int0_eq n hN]
        have ra := fun k1 => (sum_radd (R := R) n hn qs hlq hf (bs []) 5 (fun y15 y16 y17 y18 y19 y20 y21 => k y15) k1 (k true) (fun _ _ _ _ _ _ => rfl) qs.length n 0 0 (by omega) (by omega) (by decide +kernel)).1 (by rw [List.drop_zero]; exact hs) rfl rfl
        rw [z] at ra
        unfold p5_l11
        exact ra _
      | some q =>
        simp only []
        have hfq := sumR_fits qs 0 q (by decide +kernel) hs
        have hfl := fits_ll.1 hfq
        unfold p5_l5
        rw [rv, int0_eq n hN]
        have ra := fun k0 k1 (hk : ∀ a b c d e f, k0 true a b c d e f = k true) => (sum_radd (R := R) n hn qs hlq hf (bs (rtxt q)) 0 k0 k1 (k true) hk qs.length n 0 0 (by omega) (by omega) (by decide +kernel)).2 q (by rw [List.drop_zero]; exact hs)
        simp only [z] at ra
        have t1 := fun k => ratTxt_eq (R := R) n q (by omega) (by omega) hN k
        unfold p5_l11
        rw [ra _ _ (fun _ _ _ _ _ _ => rfl), hA]
        simp only [condT, t1, eqS_bs, eq_self, show ((0 : Int) == 0) = true from rfl]
    · have v := fun k0 k1 => (sum_valid (R := R) n h4 l (by omega) hsh (sl l) k0 k1 l.length n 0 (by omega) (by omega)).2 (by rw [List.drop_zero]; exact hq)
      have rv := fun k0 k1 => (sum_rvalid (R := R) n h4 l (by omega) hsh (bs []) 3 k0 k1 l.length n 0 (by omega) (by omega)).2 (by rw [List.drop_zero]; exact hq) rfl rfl
      rw [z] at v rv
      unfold p5_l5
      rw [v]
      exact rv _ _
  · rw [decide_eq_false hsh, notF, condT, hA]
theorem flat_sl : ∀ l : List (List UInt8), flat (sl l) = sl l
  | [] => rfl
  | s :: l => by
    have ih := flat_sl l
    unfold sl at *
    rw [List.map_cons]
    show [PV.v (.string (bs s))] ++ flat (l.map fun s => PV.v (.string (bs s))) = _
    rw [ih]; rfl
theorem rps_strs (F : Nat → Prop) (W : World) : ∀ l : List (List UInt8), RPs F W (sl l) (l.map fun s => Value.string (bs s))
  | [] => .nil
  | s :: l => .cons (.v _) (rps_strs F W l)
theorem law_RationalSums (W : World) (a : Option Addr) (len cap : Nat) (Sx : Nat → ByteArray) (hl : len ≤ cap) (hm : cap ≤ maxLen) (hc : len = 0 ∨ ∃ b off, a = some ⟨b, off, none⟩ ∧ b < W.heap.size ∧ ∀ j, j < len → W.cell? ⟨b, off + j, none⟩ = some (.string (Sx j)))
    (h : Lib.TabIs Tryz.prog W "internal/strconv.uint64pow10" .u64 Lib.pow10Tab) : Calls Tryz.prog 5 #[.slice a len cap] W fun e w' => e = .returned (.bool true) ∧ RowKit.Below W.heap.size W w' := by
  obtain ⟨l, hL⟩ : ∃ l : List (List UInt8), l = (List.range len).map fun i => (Sx i).data.toList := ⟨_, rfl⟩
  have hll : l.length = len := by rw [hL, List.length_map, List.length_range]
  refine law_calls_in (args := [.sh (sl l)]) (ok5 (10 ^ 1000)) W (fun b => b = 1 ∨ ∃ off, a = some ⟨b, off, none⟩ ∧ b < W.heap.size) ?_ ?_ ?_ ?_
  · rintro b (h1 | ⟨off, _, h2⟩)
    · exact gi_size h b h1
    · exact h2
  · exact ⟨Or.inl rfl, h⟩
  · refine RSs.cons (B := []) (.p (.sh (xs := l.map fun s => Value.string (bs s)) (sz := 1) (by rw [flat_sl]; exact rps_strs _ _ l) ?_ (by omega) ?_ (by unfold sl; rw [List.length_map, hll]) hl hm)) .nil
    · intro e he
      unfold sl at he
      rw [List.mem_map] at he
      obtain ⟨s, _, rfl⟩ := he
      exact ⟨rfl, rfl⟩
    · rcases hc with h0 | ⟨b, off, h1, h2, h3⟩
      · left
        have : l = [] := List.eq_nil_of_length_eq_zero (by omega)
        rw [this]; rfl
      · right
        refine ⟨b, off, h1, Or.inr ⟨off, h1, h2⟩, fun j x hj => ?_⟩
        rw [List.getElem?_map] at hj
        cases hlj : l[j]? with
        | none => rw [hlj] at hj; cases hj
        | some s =>
          rw [hlj] at hj
          cases hj
          have hjl : j < l.length := (List.getElem?_eq_some_iff.1 hlj).1
          rw [h3 j (by omega)]
          rw [hL, List.getElem?_map, List.getElem?_range (by omega)] at hlj
          cases hlj
          rfl
  · show p5 (10 ^ 1000) (sl l) _ = _
    rw [run_RationalSums (10 ^ 1000) (Nat.le_refl _) l]; rfl
end Go.Proofs.YtfbahcfojiaeaaaGreatDoor


namespace Go.Proofs.YtfbahcfojiaeaaaGreatDoor.rationalSums
open Go.ChangeShapes Go.WideShapes Go.ChangeAt Go.RowKit
open Go.ChangeMaps (open_string shut_string)
theorem own : ownKnob Tryz.prog.godebug = none := by kernel_rfl
theorem laidOut : laidOutB Tryz.prog = true := by kernel_rfl
set_option maxRecDepth 100000 in
theorem lifted (os : Os) (started : os.Started) (H : Type) (enc : TypeId × Value → H) :
    ReturnsInHanded {} Tryz.checked os 5 .any (fun w args => (Rows.rationalSumsSpec.pre enc Tryz.prog Tryz.f5 Rows.rationalSumsRow.domain false w args ∧ laidMetH Tryz.prog laidAll7 w) ∧ sizedMet enc Tryz.prog Tryz.f5 (OpenSpec.ofChange Rows.rationalSumsSpec) false w args)
      (Rows.rationalSumsSpec.post enc Tryz.prog Tryz.f5 false true false false) := by
  refine returnsInHanded_of_change_and (C := Tryz.checked) (X := fun w _ => laidMetH Tryz.prog laidAll7 w) (fun _ _ _ hh h => h.of_heap hh) own started (by kernel_rfl) Tryz.func5
    (ChangeSpec.witness_shaped (enc := enc) (C := Tryz.checked) (os := os) (X := fun w _ => laidMetH Tryz.prog laidAll7 w) false (World.laidAll Tryz.prog os laidAll7) #[.slice none 0 0] 8 (World.laidAll_os _ _ _)
      (World.shaped_of_ZipB (by kernel_rfl) (by kernel_rfl)) (by kernel_rfl) (by kernel_rfl) (by kernel_rfl)
      (by rw [MakeChecks.laidMetH_plain _ _ _ (by kernel_rfl)]; exact laidMet_laidAll _ (by kernel_rfl) (by kernel_rfl))) ?_
  intro W base args ds gs before hval0 hW hcnd hsz0 hL _
  have hval : ∀ (j : Nat) t v, Tryz.f5.params[j]? = some t → args[j]? = some v → Value.okWide Tryz.prog W .any base t v := hval0
  have hW' := hW
  obtain ⟨p, q, hA0, hV, rfl, hfz, hnd⟩ := hW
  have hA : DataW.TrodAll enc Tryz.prog W 0 (fun _ => true) true Tryz.f5.params.toList args.toList ds p := hA0
  rw [Tryz.params5] at hA hval
  obtain ⟨v0, vs0, d0, ds0, p0, q0, hargs, rfl, rfl, h0, r0⟩ := trodAll_cons hA
  obtain ⟨rfl, rfl, rfl⟩ := trodAll_nil r0
  obtain rfl : args = #[v0] := by cases args; simp_all
  obtain ⟨rfl, rfl⟩ := trodVars_none hV
  obtain ⟨sa0, sl0, sc0, rfl⟩ := okWide_slice Tryz.underlying42 (hval 0 42 v0 rfl rfl)
  have h0k := h0
  obtain ⟨fuel, hf⟩ := h0
  have hlt : ∀ x ∈ p0, x.block < W.heap.size := fun x hx => by simpa using hW'.lt x (by simpa using hx)
  have hcall : Calls Tryz.prog 5 #[.slice sa0 sl0 sc0] W fun e w' => e = .returned (.bool true) ∧ RowKit.Below W.heap.size W w' := by
    rcases Go.Deep.open_strs Tryz.underlying42 Tryz.underlying9 (by kernel_rfl) hf with ⟨hcs, hx⟩ | ⟨a, len', cap', m, Sx, hcs, _, hl, hm, hmm, hx, hcell⟩
    · simp [Value.cells] at hcs
      obtain ⟨rfl, rfl, rfl⟩ := hcs
      exact law_RationalSums W none 0 0 (fun _ => ByteArray.empty) (Nat.le_refl _) (Nat.zero_le _) (Or.inl rfl) (tab_laid hL)
    · simp [Value.cells] at hcs
      obtain ⟨rfl, rfl, rfl⟩ := hcs
      simp only [if_true] at hmm
      simp only [Prod.mk.injEq] at hx
      obtain ⟨rfl, rfl⟩ := hx
      obtain ⟨b, off, spot⟩ := a
      refine law_RationalSums W _ sl0 sc0 Sx hl hm ?_ (tab_laid hL)
      by_cases h00 : sl0 = 0
      · exact Or.inl h00
      · have hspot : spot = none := by simpa [Addr.add] using World.cell?_spot (hcell 0 (by omega)).1
        subst hspot
        refine Or.inr ⟨b, off, rfl, ?_, fun j hj => by rw [← add_plain]; exact (hcell j (by omega)).1⟩
        exact hlt (MemPlace.cell b (off + 0)) (MemPlace.mem_row.2 ⟨0, by omega, rfl⟩)
  clear hA0 hval0 hsz0
  refine hcall.mono fun e W' ⟨he, bel⟩ => ?_
  subst he
  exact ⟨_, rfl, _, _, _, [], _, [], hW', trodAll_mk1 (shut_bool Tryz.underlying4 _), (trodAll_cons_mk (Below.trod laidOut (by kernel_rfl) (of_decide_eq_true (by kernel_rfl)) h0k bel hlt) trodAll_mk0), rfl, bel.frame _, fun h => by cases h⟩
theorem over : Rows.RationalSumsSaid :=
  OpenClaim.holds_of_wide 5 Tryz.f5 rfl rfl rfl rfl rfl rfl rfl ⟨rfl, rfl, rfl, rfl, rfl⟩ rfl rfl rfl rfl rfl (by kernel_rfl) Tryz.func5 (by kernel_rfl)
    (of_decide_eq_true (by kernel_rfl)) (by unfold Func.isWrapper; first | (rw [if_pos (by decide +kernel)]; kernel_rfl) | (rw [if_neg (by decide +kernel)]; exact ⟨rfl, rfl⟩))
    (fun os started H enc _ => lifted os started H enc)
theorem proved : Rows.RationalSumsCardSaid :=
  Claim7.holds_tied_plain_at .later [] [.data, .data, .data, .data, .sentinel, .sentinel, .pinned] true (true, "e1703cb6245dd261b21fe25032f5445bf19e41f6bf4459650c8c4d0a33e9d8c0") true over (fun _ h => by cases h) (by kernel_rfl) (fun _ h => by cases h) rationalSums_row_tie rfl ⟨rfl, rfl⟩ (by kernel_rfl) rfl
    (fun f fn hf hfn => by
      obtain rfl : f = 5 := Option.some.inj ((show Tryz.prog.funcNamed "cellarer/cellarerlaw03.RationalSums" = some 5 by kernel_rfl).symm.trans hf) |>.symm
      obtain rfl : fn = Tryz.f5 := (Option.some.inj (Tryz.func5.symm.trans hfn)).symm
      exact ⟨by kernel_rfl, fun j t ht => by
        rw [Tryz.params5] at ht
        have hm : t ∈ [42] := by simpa using Array.mem_of_getElem? ht
        have hall : ([42].all fun u => !Tryz.prog.wantsStandIn u) = true := by kernel_rfl
        exact (show Tryz.prog.wantsStandIn t = false by simpa using List.all_eq_true.1 hall t hm)⟩)
    (by kernel_rfl)
end Go.Proofs.YtfbahcfojiaeaaaGreatDoor.rationalSums
namespace Go.Proofs.YtfbahcfojiaeaaaGreatDoor
theorem rationalSums_holds : Rows.RationalSumsCardSaid := rationalSums.proved
end Go.Proofs.YtfbahcfojiaeaaaGreatDoor
