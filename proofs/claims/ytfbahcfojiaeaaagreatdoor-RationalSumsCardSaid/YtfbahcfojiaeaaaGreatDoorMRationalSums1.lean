/- Proved: part 5 of the proof that the law RationalSums returns true at all its arguments (no further conditions). -/
import Derived.Test.YtfbahcfojiaeaaaGreatDoorMRationalSums0

set_option linter.unusedVariables false
set_option linter.unusedSimpArgs false
namespace Go.Proofs.YtfbahcfojiaeaaaGreatDoor
open Go Th Go.Proofs
variable {R : Type}
theorem take_drop_getD {l : List Nat} {i : Nat} (h : i < l.length) : l = l.take i ++ l.getD i 0 :: l.drop (i + 1) := by
  conv => lhs; rw [← List.take_append_drop i l]
  rw [drop_getD h]
theorem vb_set {l : List Nat} {i : Nat} (d : Nat) (h : i < l.length) : vb (l.set i d) + l.getD i 0 * 10 ^ (l.length - 1 - i) = vb l + d * 10 ^ (l.length - 1 - i) := by
  have e1 : vb l = vb (l.take i) * 10 ^ (l.length - i) + (l.getD i 0 * 10 ^ (l.length - 1 - i) + vb (l.drop (i + 1))) := by
    conv => lhs; rw [take_drop_getD h]
    rw [vb_append, vb_cons, List.length_cons, List.length_drop]
    congr 2
    · congr 1; omega
    · congr 2; omega
  have e2 : vb (l.set i d) = vb (l.take i) * 10 ^ (l.length - i) + (d * 10 ^ (l.length - 1 - i) + vb (l.drop (i + 1))) := by
    rw [List.set_eq_take_append_cons_drop, if_pos h, vb_append, vb_cons, List.length_cons, List.length_drop]
    congr 2
    · congr 1; omega
    · congr 2; omega
  omega
theorem vb_take_succ {l : List Nat} {i : Nat} (h : i < l.length) : vb (l.take (i + 1)) = 10 * vb (l.take i) + l.getD i 0 := by
  rw [take_succ_getD h, vb_snoc]
theorem tmod10 (a : Nat) : Int.tmod (a : Int) 10 = ((a % 10 : Nat) : Int) := tmodN a 10
theorem tdiv10 (a : Nat) : Int.tdiv (a : Int) 10 = ((a / 10 : Nat) : Int) := tdivN a 10
theorem carry_loop (n : Nat) (x1 : Bool) (x2 : List PV) (x3 : Bool) (x4 : List PV) (x5 : Bool) (i k : Int) : ∀ (m at_ x : Nat) (o : List Nat), at_ < m → (∀ d ∈ o, d < 10) → at_ < o.length → o.length < 2 ^ 40 → x < 100 → vb o + x * 10 ^ (o.length - at_) < 10 ^ o.length →
    ∃ o' : List Nat, (∀ k0 : Bool → List PV → Bool → List PV → Bool → List PV → Int → Int → Option R, p60_l12L n m x1 x2 x3 x4 x5 (nl .i64 o) i k at_ x k0 = k0 x1 x2 x3 x4 x5 (nl .i64 o') i k) ∧ (∀ d ∈ o', d < 10) ∧ o'.length = o.length ∧ vb o' = vb o + x * 10 ^ (o.length - at_)
  | m + 1, at_, x, o, hm, ho, hat, hl, hx, hv => by
    by_cases h0 : x = 0
    · subst h0
      refine ⟨o, fun k0 => ?_, ho, rfl, by simp⟩
      simp only [p60_l12L, p60_l12B]
      simp (disch := (first | omega | (simp only [List.length_append, List.length_cons, List.length_nil, List.length_replicate, List.length_take, List.length_drop]; omega))) only [↓c_pos, ↓c_neg, dec_t, dec_f, Bool.and_true, Bool.true_and, Bool.and_false, Bool.false_and, Bool.not_true, Bool.not_false, cond_true, cond_false, inR_t, cutR_t, roomB_t, lenOK_t, w64, bs_size, List.length_append, List.length_cons, List.length_nil, bs_extract, bs_append, bs_push, bs_data, bs_empty, bs_lit, catS_bs, eqS_bs, ite_pos', ite_neg', decide_true, decide_false, if_true, if_false, toNatC, getI_nl, nl_len, nl_set, nl_set0, nl_take, nl_drop, nl_rep, nl_app, hdSz_nl, drop0, wu32, wu64, wu8, List.length_set, List.length_replicate]
    · have hat0 : at_ ≠ 0 := by
        intro e
        subst e
        rw [Nat.sub_zero] at hv
        have : 1 * 10 ^ o.length ≤ x * 10 ^ o.length := Nat.mul_le_mul_right _ (by omega)
        omega
      obtain ⟨p, rfl⟩ : ∃ p, at_ = p + 1 := ⟨at_ - 1, by omega⟩
      have hd := getD_lt hT2 ho p
      have hs := vb_set ((x + o.getD p 0) % 10) (l := o) (i := p) (by omega)
      have hdm := Nat.div_add_mod (x + o.getD p 0) 10
      have e1 : o.length - (p + 1) = o.length - 1 - p := by omega
      have e2 : o.length - p = (o.length - 1 - p) + 1 := by omega
      have key : vb (o.set p ((x + o.getD p 0) % 10)) + (x + o.getD p 0) / 10 * 10 ^ (o.length - p) = vb o + x * 10 ^ (o.length - (p + 1)) := by
        rw [e1, e2, Nat.pow_succ]
        generalize 10 ^ (o.length - 1 - p) = P at *
        generalize o.getD p 0 = y at *
        generalize (x + y) / 10 = q at *
        generalize (x + y) % 10 = r at *
        have : (10 * q + r) * P = (x + y) * P := by rw [hdm]
        clear hv e1 e2
        grind
      obtain ⟨o', q1, q2, q3, q4⟩ := carry_loop n x1 x2 x3 x4 x5 i k m p ((x + o.getD p 0) / 10) (o.set p ((x + o.getD p 0) % 10)) (by omega) (set_lt ho (Nat.mod_lt _ (by omega)) _) (by rw [List.length_set]; omega) (by rw [List.length_set]; exact hl) (by omega) (by rw [List.length_set, key]; exact hv)
      rw [List.length_set] at q3 q4
      refine ⟨o', fun k0 => ?_, q2, q3, by rw [q4, key]⟩
      rw [← q1 k0]
      have w1 : ((p + 1 : Nat) : Int) - 1 = (p : Int) := by omega
      have w2 : (x : Int) + ((o.getD p 0 : Nat) : Int) = ((x + o.getD p 0 : Nat) : Int) := by omega
      have w3 : decide ((10 : Int) = 0) = false := rfl
      simp only [p60_l12L, p60_l12B]
      simp (disch := (first | omega | (simp only [List.length_append, List.length_cons, List.length_nil, List.length_replicate, List.length_take, List.length_drop]; omega))) only [↓c_pos, ↓c_neg, dec_t, dec_f, Bool.and_true, Bool.true_and, Bool.and_false, Bool.false_and, Bool.not_true, Bool.not_false, cond_true, cond_false, inR_t, cutR_t, roomB_t, lenOK_t, w64, bs_size, List.length_append, List.length_cons, List.length_nil, bs_extract, bs_append, bs_push, bs_data, bs_empty, bs_lit, catS_bs, eqS_bs, ite_pos', ite_neg', decide_true, decide_false, if_true, if_false, toNatC, getI_nl, nl_len, nl_set, nl_set0, nl_take, nl_drop, nl_rep, nl_app, hdSz_nl, drop0, wu32, wu64, wu8, List.length_set, List.length_replicate, w1, w2, w3, tmod10, tdiv10]
theorem mul_in (n : Nat) (x1 x3 x5 : Bool) (la lb : List Nat) (ha : ∀ d ∈ la, d < 10) (hb : ∀ d ∈ lb, d < 10) (hla : la.length + lb.length < 2 ^ 30) (hn : la.length + lb.length < n) (i : Nat) (hi : i < la.length) :
    ∀ (k m : Nat) (o : List Nat), k < m → k ≤ lb.length → (∀ d ∈ o, d < 10) → o.length = la.length + lb.length → vb o + la.getD i 0 * (vb (lb.take k) * 10 ^ (lb.length - k)) * 10 ^ (la.length - 1 - i) < 10 ^ o.length →
      ∃ o' : List Nat, (∀ k0 : Bool → List PV → Bool → List PV → Bool → List PV → Int → Option R, p60_l6L n m x1 (nl .i64 la) x3 (nl .i64 lb) x5 (nl .i64 o) i ((k : Int) - 1) k0 = k0 x1 (nl .i64 la) x3 (nl .i64 lb) x5 (nl .i64 o') i) ∧ (∀ d ∈ o', d < 10) ∧ o'.length = o.length ∧
        vb o' = vb o + la.getD i 0 * (vb (lb.take k) * 10 ^ (lb.length - k)) * 10 ^ (la.length - 1 - i)
  | 0, m + 1, o, hm, hk, ho, hol, hv => by
    refine ⟨o, fun k0 => ?_, ho, rfl, by rw [List.take_zero, vb_nil]; simp⟩
    simp only [p60_l6L, p60_l6B]
    simp (disch := (first | omega | (simp only [List.length_append, List.length_cons, List.length_nil, List.length_replicate, List.length_take, List.length_drop]; omega))) only [↓c_pos, ↓c_neg, dec_t, dec_f, Bool.and_true, Bool.true_and, Bool.and_false, Bool.false_and, Bool.not_true, Bool.not_false, cond_true, cond_false, inR_t, cutR_t, roomB_t, lenOK_t, w64, bs_size, List.length_append, List.length_cons, List.length_nil, bs_extract, bs_append, bs_push, bs_data, bs_empty, bs_lit, catS_bs, eqS_bs, ite_pos', ite_neg', decide_true, decide_false, if_true, if_false, toNatC, getI_nl, nl_len, nl_set, nl_set0, nl_take, nl_drop, nl_rep, nl_app, hdSz_nl, drop0, wu32, wu64, wu8, List.length_set, List.length_replicate]
  | k + 1, m + 1, o, hm, hk, ho, hol, hv => by
    have hx := getD_lt hT2 ha i
    have hy := getD_lt hT2 hb k
    have hz := getD_lt hT2 ho (i + k + 1)
    have hxy : la.getD i 0 * lb.getD k 0 ≤ 9 * 9 := Nat.mul_le_mul (by omega) (by omega)
    obtain ⟨v, hve⟩ : ∃ v, v = o.getD (i + k + 1) 0 + la.getD i 0 * lb.getD k 0 := ⟨_, rfl⟩
    have hs := vb_set (v % 10) (l := o) (i := i + k + 1) (by omega)
    have hdm := Nat.div_add_mod v 10
    rw [vb_take_succ (by omega : k < lb.length)] at hv ⊢
    have eW : o.length - 1 - (i + k + 1) = (lb.length - (k + 1)) + (la.length - 1 - i) := by omega
    have eW2 : o.length - (i + k + 1) = (lb.length - (k + 1)) + (la.length - 1 - i) + 1 := by omega
    have eW3 : lb.length - k = (lb.length - (k + 1)) + 1 := by omega
    rw [eW, Nat.pow_add] at hs
    have key : vb (o.set (i + k + 1) (v % 10)) + v / 10 * 10 ^ (o.length - (i + k + 1)) = vb o + la.getD i 0 * lb.getD k 0 * (10 ^ (lb.length - (k + 1)) * 10 ^ (la.length - 1 - i)) := by
      rw [eW2, Nat.pow_succ, Nat.pow_add]
      generalize 10 ^ (lb.length - (k + 1)) = P at *
      generalize 10 ^ (la.length - 1 - i) = Q at *
      generalize o.getD (i + k + 1) 0 = z at *
      generalize la.getD i 0 * lb.getD k 0 = xy at *
      have : (10 * (v / 10) + v % 10) * (P * Q) = (z + xy) * (P * Q) := by rw [hdm, hve]
      generalize v / 10 = q at *
      generalize v % 10 = r at *
      clear hv eW eW2 eW3
      grind
    have split : la.getD i 0 * ((10 * vb (lb.take k) + lb.getD k 0) * 10 ^ (lb.length - (k + 1))) * 10 ^ (la.length - 1 - i) = la.getD i 0 * (vb (lb.take k) * 10 ^ (lb.length - k)) * 10 ^ (la.length - 1 - i) + la.getD i 0 * lb.getD k 0 * (10 ^ (lb.length - (k + 1)) * 10 ^ (la.length - 1 - i)) := by
      rw [eW3, Nat.pow_succ]
      clear hv hs key
      grind
    rw [split] at hv ⊢
    obtain ⟨o1, q1, q2, q3, q4⟩ := carry_loop (R := R) n x1 (nl .i64 la) x3 (nl .i64 lb) x5 i k n (i + k + 1) (v / 10) (o.set (i + k + 1) (v % 10)) (by omega) (set_lt ho (Nat.mod_lt _ (by omega)) _) (by rw [List.length_set]; omega) (by rw [List.length_set]; omega) (by omega) (by rw [List.length_set, key]; omega)
    rw [List.length_set] at q3 q4
    rw [key] at q4
    obtain ⟨o', s1, s2, s3, s4⟩ := mul_in n x1 x3 x5 la lb ha hb hla hn i hi k m o1 (by omega) (by omega) q2 (by omega) (by rw [q4, q3]; omega)
    refine ⟨o', fun k0 => ?_, s2, by omega, by rw [s4, q4]; omega⟩
    rw [← s1 k0]
    have w0 : ((k + 1 : Nat) : Int) - 1 = (k : Int) := by omega
    have w1 : (i : Int) + (k : Int) + 1 = ((i + k + 1 : Nat) : Int) := by omega
    have w2 : ((la.getD i 0 : Nat) : Int) * ((lb.getD k 0 : Nat) : Int) = ((la.getD i 0 * lb.getD k 0 : Nat) : Int) := by rw [Int.natCast_mul]
    have w4 : decide ((10 : Int) = 0) = false := rfl
    clear hs key split s4 q4 hv
    generalize la.getD i 0 * lb.getD k 0 = xy at *
    have w3 : ((o.getD (i + k + 1) 0 : Nat) : Int) + (xy : Int) = (v : Int) := by omega
    simp only [p60_l6L, p60_l6B, p60_l12]
    simp (disch := (first | omega | (simp only [List.length_append, List.length_cons, List.length_nil, List.length_replicate, List.length_take, List.length_drop]; omega))) only [↓c_pos, ↓c_neg, dec_t, dec_f, Bool.and_true, Bool.true_and, Bool.and_false, Bool.false_and, Bool.not_true, Bool.not_false, cond_true, cond_false, inR_t, cutR_t, roomB_t, lenOK_t, w64, bs_size, List.length_append, List.length_cons, List.length_nil, bs_extract, bs_append, bs_push, bs_data, bs_empty, bs_lit, catS_bs, eqS_bs, ite_pos', ite_neg', decide_true, decide_false, if_true, if_false, toNatC, getI_nl, nl_len, nl_set, nl_set0, nl_take, nl_drop, nl_rep, nl_app, hdSz_nl, drop0, wu32, wu64, wu8, List.length_set, List.length_replicate, w0, w1, w2, w3, w4, tmod10, tdiv10, q1]
theorem mul_out (n : Nat) (x1 x3 x5 : Bool) (la lb : List Nat) (ha : ∀ d ∈ la, d < 10) (hb : ∀ d ∈ lb, d < 10) (hla : la.length + lb.length < 2 ^ 30) (hn : la.length + lb.length < n) :
    ∀ (i m : Nat) (o : List Nat), i < m → i ≤ la.length → (∀ d ∈ o, d < 10) → o.length = la.length + lb.length → vb o + vb (la.take i) * 10 ^ (la.length - i) * vb lb < 10 ^ o.length →
      ∃ o' : List Nat, (∀ k0 : Bool → List PV → Bool → List PV → Bool → List PV → Option R, p60_l3L n m x1 (nl .i64 la) x3 (nl .i64 lb) x5 (nl .i64 o) ((i : Int) - 1) k0 = k0 x1 (nl .i64 la) x3 (nl .i64 lb) x5 (nl .i64 o')) ∧ (∀ d ∈ o', d < 10) ∧ o'.length = o.length ∧
        vb o' = vb o + vb (la.take i) * 10 ^ (la.length - i) * vb lb
  | 0, m + 1, o, hm, hi, ho, hol, hv => by
    refine ⟨o, fun k0 => ?_, ho, rfl, by rw [List.take_zero, vb_nil]; simp⟩
    simp only [p60_l3L, p60_l3B]
    simp (disch := (first | omega | (simp only [List.length_append, List.length_cons, List.length_nil, List.length_replicate, List.length_take, List.length_drop]; omega))) only [↓c_pos, ↓c_neg, dec_t, dec_f, Bool.and_true, Bool.true_and, Bool.and_false, Bool.false_and, Bool.not_true, Bool.not_false, cond_true, cond_false, inR_t, cutR_t, roomB_t, lenOK_t, w64, bs_size, List.length_append, List.length_cons, List.length_nil, bs_extract, bs_append, bs_push, bs_data, bs_empty, bs_lit, catS_bs, eqS_bs, ite_pos', ite_neg', decide_true, decide_false, if_true, if_false, toNatC, getI_nl, nl_len, nl_set, nl_set0, nl_take, nl_drop, nl_rep, nl_app, hdSz_nl, drop0, wu32, wu64, wu8, List.length_set, List.length_replicate]
  | i + 1, m + 1, o, hm, hi, ho, hol, hv => by
    rw [vb_take_succ (by omega : i < la.length)] at hv ⊢
    have eW3 : la.length - i = (la.length - (i + 1)) + 1 := by omega
    have eW4 : la.length - 1 - i = la.length - (i + 1) := by omega
    have split : (10 * vb (la.take i) + la.getD i 0) * 10 ^ (la.length - (i + 1)) * vb lb = vb (la.take i) * 10 ^ (la.length - i) * vb lb + la.getD i 0 * (vb lb * 10 ^ (lb.length - lb.length)) * 10 ^ (la.length - 1 - i) := by
      rw [eW3, eW4, Nat.pow_succ, Nat.sub_self, Nat.pow_zero]
      clear hv
      grind
    rw [split] at hv ⊢
    obtain ⟨o1, q1, q2, q3, q4⟩ := mul_in (R := R) n x1 x3 x5 la lb ha hb hla hn i (by omega) lb.length n o (by omega) (Nat.le_refl _) ho hol (by rw [List.take_length]; omega)
    rw [List.take_length] at q4
    obtain ⟨o', s1, s2, s3, s4⟩ := mul_out n x1 x3 x5 la lb ha hb hla hn i m o1 (by omega) (by omega) q2 (by omega) (by rw [q4, q3]; omega)
    refine ⟨o', fun k0 => ?_, s2, by omega, by rw [s4, q4]; omega⟩
    rw [← s1 k0]
    have w0 : ((i + 1 : Nat) : Int) - 1 = (i : Int) := by omega
    clear split s4 q4 hv
    simp only [p60_l3L, p60_l3B, p60_l6]
    simp (disch := (first | omega | (simp only [List.length_append, List.length_cons, List.length_nil, List.length_replicate, List.length_take, List.length_drop]; omega))) only [↓c_pos, ↓c_neg, dec_t, dec_f, Bool.and_true, Bool.true_and, Bool.and_false, Bool.false_and, Bool.not_true, Bool.not_false, cond_true, cond_false, inR_t, cutR_t, roomB_t, lenOK_t, w64, bs_size, List.length_append, List.length_cons, List.length_nil, bs_extract, bs_append, bs_push, bs_data, bs_empty, bs_lit, catS_bs, eqS_bs, ite_pos', ite_neg', decide_true, decide_false, if_true, if_false, toNatC, getI_nl, nl_len, nl_set, nl_set0, nl_take, nl_drop, nl_rep, nl_app, hdSz_nl, drop0, wu32, wu64, wu8, List.length_set, List.length_replicate, w0, q1]
theorem rmul_eq (n : Nat) (x y : Int) (hx : ll x.natAbs ≤ 50000) (hy : ll y.natAbs ≤ 50000) (hn : 200000 ≤ n) (k0 : Bool → List PV → Option R) :
    p60 n (sg x) (II x.natAbs) (sg y) (II y.natAbs) k0 = k0 (sg (x * y)) (II (x * y).natAbs) := by
  obtain ⟨L, hL⟩ : ∃ L, ll x.natAbs + ll y.natAbs = L := ⟨_, rfl⟩
  have hlt : x.natAbs * y.natAbs < 10 ^ L := by rw [← hL, Nat.pow_add]; exact Nat.mul_lt_mul_of_lt_of_lt (ll_le.1 (Nat.le_refl _)) (ll_le.1 (Nat.le_refl _))
  have hz : vb (List.replicate L 0) = 0 := by unfold vb; rw [List.reverse_replicate, val_zeros]
  obtain ⟨o', q1, q2, q3, q4⟩ := mul_out (R := R) n (sg x) (sg y) false (DL x.natAbs) (DL y.natAbs) (DL_lt _) (DL_lt _) (by rw [DL_length, DL_length]; omega) (by rw [DL_length, DL_length]; omega) (ll x.natAbs) n (List.replicate L 0) (by omega) (by rw [DL_length]; omega) (rep_lt hT2 _) (by rw [List.length_replicate, DL_length, DL_length]; omega)
    (by
      rw [List.take_of_length_le (by rw [DL_length]; omega), vb_DL, vb_DL, DL_length, Nat.sub_self, hz, List.length_replicate]
      simpa using hlt)
  rw [List.take_of_length_le (by rw [DL_length]; omega), vb_DL, vb_DL, DL_length, Nat.sub_self, hz, Nat.pow_zero, Nat.mul_one, Nat.zero_add] at q4
  rw [List.length_replicate] at q3
  have hm := fun k0 => make0_eq (R := R) n (!(sg x == sg y)) o' q2 (by omega) (by omega) k0
  rw [q4] at hm
  have e3 : (!(sg x == sg y) && !(x.natAbs * y.natAbs == 0)) = sg (x * y) := by
    rw [Bool.eq_iff_iff]
    simp only [sg, Bool.and_eq_true, decide_eq_true_eq, Bool.not_eq_true', beq_eq_false_iff_ne, ne_eq, Nat.mul_eq_zero, decide_eq_decide]
    constructor
    · rintro ⟨h1, h2⟩
      by_cases hx0 : x < 0
      · exact Int.mul_neg_of_neg_of_pos hx0 (by omega)
      · exact Int.mul_neg_of_pos_of_neg (by omega) (by omega)
    · intro h
      refine ⟨fun h1 => ?_, fun h2 => ?_⟩
      · by_cases hx0 : x < 0
        · have := Int.mul_pos_of_neg_of_neg hx0 (h1.1 hx0); omega
        · have := Int.mul_nonneg (by omega : 0 ≤ x) (by omega : 0 ≤ y); omega
      · rcases h2 with h2 | h2
        · rw [show x = 0 from by omega] at h; simp at h
        · rw [show y = 0 from by omega] at h; simp at h
  rw [e3] at hm
  have w1 : (ll x.natAbs : Int) + (ll y.natAbs : Int) = (L : Int) := by omega
  have hrep : List.replicate L (PV.v (.int .i64 0)) = nl .i64 (List.replicate L 0) := nl_rep .i64 L
  unfold p60 p60_l3
  rw [Int.natAbs_mul]
  rw [II_len, II_len]
  unfold II at *
  simp (disch := (first | omega | (simp only [List.length_append, List.length_cons, List.length_nil, List.length_replicate, List.length_take, List.length_drop]; omega))) only [↓c_pos, ↓c_neg, dec_t, dec_f, Bool.and_true, Bool.true_and, Bool.and_false, Bool.false_and, Bool.not_true, Bool.not_false, cond_true, cond_false, inR_t, cutR_t, roomB_t, lenOK_t, w64, bs_size, List.length_append, List.length_cons, List.length_nil, bs_extract, bs_append, bs_push, bs_data, bs_empty, bs_lit, catS_bs, eqS_bs, ite_pos', ite_neg', decide_true, decide_false, if_true, if_false, toNatC, getI_nl, nl_len, nl_set, nl_set0, nl_take, nl_drop, nl_rep, nl_app, hdSz_nl, drop0, wu32, wu64, wu8, List.length_set, List.length_replicate, w1, hrep, q1, hm]
end Go.Proofs.YtfbahcfojiaeaaaGreatDoor


set_option linter.unusedVariables false
set_option maxRecDepth 100000
namespace Go.Proofs.YtfbahcfojiaeaaaGreatDoor
open Go Th Go.Proofs
def ann80 : Ann := { loops := [(12, [(8, .id), (9, .id), (10, .id), (11, .id), (12, .id), (13, .id)], [(4, .id), (5, .id), (8, .id), (9, .id), (12, .id)]), (16, [(8, .id), (9, .id), (10, .id), (11, .id), (12, .id), (13, .id), (15, .id), (16, .id)], [(4, .id), (5, .id), (8, .id), (9, .id), (10, .id), (11, .id), (12, .id), (13, .id), (15, .id)]), (22, [(8, .id), (9, .id), (10, .id), (11, .id), (12, .id), (13, .id), (15, .id), (17, .id), (18, .id), (151, .id), (152, .id)], [(4, .id), (5, .id), (8, .id), (9, .id), (10, .id), (11, .id), (12, .id), (13, .id), (15, .id), (17, .id), (18, .id)]), (38, [(8, .id), (9, .id), (10, .id), (11, .id), (12, .id), (13, .id), (15, .id), (21, .id), (22, .id), (207, .id), (208, .id)], [(4, .id), (5, .id), (8, .id), (9, .id), (10, .id), (11, .id), (12, .id), (13, .id), (15, .id), (21, .id), (22, .id)])], cuts := [(3, [(0, .id), (1, .id)], [(4, .id), (5, .id)]), (6, [(0, .id), (1, .id)], [(4, .id), (5, .id)]), (7, [(0, .id), (1, .id), (8, .id)], [(4, .id), (5, .id)]), (8, [(8, .id), (9, .id), (10, .id)], [(4, .id), (5, .id)]), (9, [(8, .id), (9, .id), (10, .id)], [(4, .id), (5, .id)]), (10, [(8, .id), (9, .id), (10, .id), (11, .id)], [(4, .id), (5, .id)]), (11, [(8, .id), (9, .id), (10, .id), (11, .id), (12, .id)], [(4, .id), (5, .id)]), (13, [(8, .id), (9, .id), (10, .id), (11, .id), (12, .id), (13, .id)], [(4, .id), (5, .id), (8, .id), (9, .id), (10, .id), (11, .id), (12, .id), (13, .id)]), (17, [(8, .id), (9, .id), (10, .id), (11, .id), (12, .id), (13, .id), (15, .id), (16, .id)], [(4, .id), (5, .id), (8, .id), (9, .id), (10, .id), (11, .id), (12, .id), (13, .id), (15, .id), (16, .id)]), (31, [(8, .id), (9, .id), (10, .id), (11, .id), (12, .id), (13, .id), (15, .id), (17, .id), (18, .id), (19, .id), (20, .id), (151, .id), (152, .id)], [(4, .id), (5, .id), (8, .id), (9, .id), (10, .id), (11, .id), (12, .id), (13, .id), (15, .id), (17, .id), (18, .id), (151, .id), (152, .id)]), (45, [(8, .id), (9, .id), (10, .id), (11, .id), (12, .id), (13, .id), (15, .id), (21, .id)], [(4, .id), (5, .id), (8, .id), (9, .id), (10, .id), (11, .id), (12, .id), (13, .id)])], frz := [], rm := [.sh, .id] }
noncomputable abbrev env80 (n : Nat) : Env := fun i => bif Nat.beq i 94 then some (fs94 n) else (fun i => bif Nat.beq i 78 then some (fs78 n) else (fun i => bif Nat.beq i 73 then some (fs73 n) else (fun i => bif Nat.beq i 70 then some (fs70 n) else (fun _ => none) i) i) i) i
theorem envok80 (n : Nat) : EnvOK Tryz.prog GI (env80 n) := EnvOK.cons (EnvOK.cons (EnvOK.cons (EnvOK.cons (EnvOK.nil) (ok70 n)) (ok73 n)) (ok78 n)) (ok94 n)
noncomputable def p80_c17 {R : Type} (n : Nat) (x1 x2 x3 : List PV) (x4 : Int) (x5 : List PV) (x6 x7 x8 : Int) (k0 : List PV → List PV → List PV → Int → List PV → Int → Int → Int → Option R) (k1 : List PV → List PV → List PV → Int → List PV → Int → Int → Int → Option R) : Option R :=
  bif (inR (IntKind.i64.wrap (x4 - 1)) ((x3).length)) then (getI .u32 ((x3).getD ((IntKind.i64.wrap (x4 - 1) : Int).toNat) (.v (.bool false))) fun e9 => let v10 := IntKind.u64.wrap (x8 + (IntKind.u64.wrap (e9))); bif (decide (v10 ≥ 1000000000)) then (k0 x1 x2 x3 x4 x5 x6 (IntKind.u64.wrap (x7 - 1)) v10) else (k1 x1 x2 x3 x4 x5 x6 (IntKind.u64.wrap (x7 - 1)) v10)) else none
noncomputable def p80_l16B {R : Type} (n : Nat) (l0 : List PV → List PV → List PV → Int → List PV → Int → Int → Int → Option R) (x1 x2 x3 : List PV) (x4 : Int) (x5 : List PV) (x6 x7 x8 : Int) (k0 : List PV → List PV → List PV → Int → List PV → Int → Int → Option R) : Option R :=
  bif (decide (x7 ≥ 1000000000)) then (bif true then (bif true then (bif true then (bif true then (bif true then (bif true then (bif true then (bif true then (bif true then (bif true then (bif true then (bif true then (bif true then (bif true then (bif true then (bif true then (bif true then (bif true then (bif true then (bif true then (bif true then (p80_c17 n x1 x2 x3 x4 x5 x6 x7 x8 (fun y9 y10 y11 y12 y13 y14 y15 y16 => k0 y9 y10 y11 y12 y13 y14 y15) (fun y17 y18 y19 y20 y21 y22 y23 y24 => l0 y17 y18 y19 y20 y21 y22 y23 y24)) else none) else none) else none) else none) else none) else none) else none) else none) else none) else none) else none) else none) else none) else none) else none) else none) else none) else none) else none) else none) else none) else (bif false then none else (bif false then none else (bif false then none else (bif false then none else (bif (inR (IntKind.i64.wrap (x4 - 2)) ((x3).length)) then (getI .u32 ((x3).getD ((IntKind.i64.wrap (x4 - 2) : Int).toNat) (.v (.bool false))) fun e25 => bif false then none else (bif false then none else (bif false then none else (let v26 := IntKind.u64.wrap (x7 * (IntKind.u64.wrap (e25))); bif false then none else (bif false then none else (bif false then none else (bif false then none else (bif false then none else (bif false then none else (bif false then none else (let v27 := IntKind.i64.wrap ((IntKind.i64.wrap (x6 + x4)) - 2); bif false then none else (bif (inR v27 ((x2).length)) then (bif false then none else (getI .u32 ((x2).getD ((v27 : Int).toNat) (.v (.bool false))) fun e28 => bif false then none else (bif false then none else (let v29 := IntKind.u64.wrap ((IntKind.u64.wrap (x8 * 1000000000)) + (IntKind.u64.wrap (e28))); bif false then none else (bif (bif false then true else (decide (v26 > v29))) then (p80_c17 n x1 x2 x3 x4 x5 x6 x7 x8 (fun y30 y31 y32 y33 y34 y35 y36 y37 => k0 y30 y31 y32 y33 y34 y35 y36) (fun y38 y39 y40 y41 y42 y43 y44 y45 => l0 y38 y39 y40 y41 y42 y43 y44 y45)) else (k0 x1 x2 x3 x4 x5 x6 x7)))))) else none)))))))))))) else none)))))
noncomputable def p80_l16L {R : Type} (n : Nat) : Nat → List PV → List PV → List PV → Int → List PV → Int → Int → Int → (List PV → List PV → List PV → Int → List PV → Int → Int → Option R) → Option R
  | 0, _, _, _, _, _, _, _, _, _ => none
  | m + 1, x1, x2, x3, x4, x5, x6, x7, x8, k0 => p80_l16B n (fun x1 x2 x3 x4 x5 x6 x7 x8 => p80_l16L n m x1 x2 x3 x4 x5 x6 x7 x8 k0) x1 x2 x3 x4 x5 x6 x7 x8 k0
noncomputable def p80_l16 {R : Type} (n : Nat) (x1 x2 x3 : List PV) (x4 : Int) (x5 : List PV) (x6 x7 x8 : Int) (k0 : List PV → List PV → List PV → Int → List PV → Int → Int → Option R) : Option R := p80_l16L n n x1 x2 x3 x4 x5 x6 x7 x8 k0
noncomputable def p80_c31 {R : Type} (n : Nat) (x1 x2 x3 : List PV) (x4 : Int) (x5 : List PV) (x6 x7 x8 x9 x10 x11 x12 x13 : Int) (k0 : List PV → List PV → List PV → Int → List PV → Int → Int → Int → Int → Int → Int → Option R) : Option R :=
  bif (inR (IntKind.i64.wrap (x6 + x10)) ((x2).length)) then (getI .u32 ((x2).getD ((IntKind.i64.wrap (x6 + x10) : Int).toNat) (.v (.bool false))) fun e14 => k0 x1 ((x2).set ((IntKind.i64.wrap (x6 + x10) : Int).toNat) (.v (.int .u32 (IntKind.u32.wrap (x11))))) x3 x4 x5 x6 x7 x8 x9 x12 x13) else none
noncomputable def p80_l22B {R : Type} (n : Nat) (l0 : List PV → List PV → List PV → Int → List PV → Int → Int → Int → Int → Int → Int → Option R) (x1 x2 x3 : List PV) (x4 : Int) (x5 : List PV) (x6 x7 x8 x9 x10 x11 : Int) (k0 : List PV → List PV → List PV → Int → List PV → Int → Int → Int → Int → Option R) : Option R :=
  bif (decide (x11 < x10)) then (bif (inR x11 ((x3).length)) then (getI .u32 ((x3).getD ((x11 : Int).toNat) (.v (.bool false))) fun e12 => let v13 := IntKind.u64.wrap (x7 * (IntKind.u64.wrap (e12))); bif (inR (IntKind.i64.wrap (x6 + x11)) ((x2).length)) then (getI .u32 ((x2).getD ((IntKind.i64.wrap (x6 + x11) : Int).toNat) (.v (.bool false))) fun e14 => bif decide (1000000000 = 0) then none else (let v15 := Int.tmod (IntKind.u64.wrap (x8 + v13)) 1000000000; let v16 := IntKind.i64.wrap ((IntKind.i64.wrap (e14)) - (IntKind.i64.wrap (v15))); bif decide (1000000000 = 0) then none else (let v17 := IntKind.u64.wrap (Int.tdiv (IntKind.u64.wrap (x8 + v13)) 1000000000); bif (decide (IntKind.i64.wrap (v16 - x9) < 0)) then (let v18 := IntKind.i64.wrap ((IntKind.i64.wrap (v16 - x9)) + 1000000000); p80_c31 n x1 x2 x3 x4 x5 x6 x7 v17 1 x11 v18 x10 x11 (fun y19 y20 y21 y22 y23 y24 y25 y26 y27 y28 y29 => l0 y19 y20 y21 y22 y23 y24 y25 y26 y27 y28 (IntKind.i64.wrap (y29 + 1)))) else (p80_c31 n x1 x2 x3 x4 x5 x6 x7 v17 0 x11 (IntKind.i64.wrap (v16 - x9)) x10 x11 (fun y30 y31 y32 y33 y34 y35 y36 y37 y38 y39 y40 => l0 y30 y31 y32 y33 y34 y35 y36 y37 y38 y39 (IntKind.i64.wrap (y40 + 1))))))) else none) else none) else (k0 x1 x2 x3 x4 x5 x6 x7 x8 x9)
noncomputable def p80_l22L {R : Type} (n : Nat) : Nat → List PV → List PV → List PV → Int → List PV → Int → Int → Int → Int → Int → Int → (List PV → List PV → List PV → Int → List PV → Int → Int → Int → Int → Option R) → Option R
  | 0, _, _, _, _, _, _, _, _, _, _, _, _ => none
  | m + 1, x1, x2, x3, x4, x5, x6, x7, x8, x9, x10, x11, k0 => p80_l22B n (fun x1 x2 x3 x4 x5 x6 x7 x8 x9 x10 x11 => p80_l22L n m x1 x2 x3 x4 x5 x6 x7 x8 x9 x10 x11 k0) x1 x2 x3 x4 x5 x6 x7 x8 x9 x10 x11 k0
noncomputable def p80_l22 {R : Type} (n : Nat) (x1 x2 x3 : List PV) (x4 : Int) (x5 : List PV) (x6 x7 x8 x9 x10 x11 : Int) (k0 : List PV → List PV → List PV → Int → List PV → Int → Int → Int → Int → Option R) : Option R := p80_l22L n n x1 x2 x3 x4 x5 x6 x7 x8 x9 x10 x11 k0
noncomputable def p80_l38B {R : Type} (n : Nat) (l0 : List PV → List PV → List PV → Int → List PV → Int → Int → Int → Int → Int → Int → Option R) (x1 x2 x3 : List PV) (x4 : Int) (x5 : List PV) (x6 x7 x8 x9 x10 x11 : Int) (k0 : List PV → List PV → List PV → Int → List PV → Int → Int → Int → Int → Option R) : Option R :=
  bif (decide (x11 < x10)) then (bif (inR (IntKind.i64.wrap (x6 + x11)) ((x2).length)) then (getI .u32 ((x2).getD ((IntKind.i64.wrap (x6 + x11) : Int).toNat) (.v (.bool false))) fun e12 => bif (inR x11 ((x3).length)) then (getI .u32 ((x3).getD ((x11 : Int).toNat) (.v (.bool false))) fun e13 => let v14 := IntKind.u32.wrap (x9 + (IntKind.u32.wrap (e12 + e13))); bif decide (1000000000 = 0) then none else (bif (inR (IntKind.i64.wrap (x6 + x11)) ((x2).length)) then (getI .u32 ((x2).getD ((IntKind.i64.wrap (x6 + x11) : Int).toNat) (.v (.bool false))) fun e15 => bif decide (1000000000 = 0) then none else (let v16 := IntKind.u32.wrap (Int.tdiv v14 1000000000); l0 x1 ((x2).set ((IntKind.i64.wrap (x6 + x11) : Int).toNat) (.v (.int .u32 (Int.tmod v14 1000000000)))) x3 x4 x5 x6 x7 x8 v16 x10 (IntKind.i64.wrap (x11 + 1)))) else none)) else none) else none) else (k0 x1 x2 x3 x4 x5 x6 x7 x8 x9)
noncomputable def p80_l38L {R : Type} (n : Nat) : Nat → List PV → List PV → List PV → Int → List PV → Int → Int → Int → Int → Int → Int → (List PV → List PV → List PV → Int → List PV → Int → Int → Int → Int → Option R) → Option R
  | 0, _, _, _, _, _, _, _, _, _, _, _, _ => none
  | m + 1, x1, x2, x3, x4, x5, x6, x7, x8, x9, x10, x11, k0 => p80_l38B n (fun x1 x2 x3 x4 x5 x6 x7 x8 x9 x10 x11 => p80_l38L n m x1 x2 x3 x4 x5 x6 x7 x8 x9 x10 x11 k0) x1 x2 x3 x4 x5 x6 x7 x8 x9 x10 x11 k0
noncomputable def p80_l38 {R : Type} (n : Nat) (x1 x2 x3 : List PV) (x4 : Int) (x5 : List PV) (x6 x7 x8 x9 x10 x11 : Int) (k0 : List PV → List PV → List PV → Int → List PV → Int → Int → Int → Int → Option R) : Option R := p80_l38L n n x1 x2 x3 x4 x5 x6 x7 x8 x9 x10 x11 k0
noncomputable def p80_c45 {R : Type} (n : Nat) (x1 x2 x3 : List PV) (x4 : Int) (x5 : List PV) (x6 x7 x8 : Int) (k0 : List PV → List PV → List PV → Int → List PV → Int → Option R) : Option R :=
  bif (inR (IntKind.i64.wrap (x6 + x4)) ((x2).length)) then (getI .u32 ((x2).getD ((IntKind.i64.wrap (x6 + x4) : Int).toNat) (.v (.bool false))) fun e9 => bif (inR x6 ((x5).length)) then (getI .u32 ((x5).getD ((x6 : Int).toNat) (.v (.bool false))) fun e10 => k0 x1 ((x2).set ((IntKind.i64.wrap (x6 + x4) : Int).toNat) (.v (.int .u32 (IntKind.u32.wrap (x8))))) x3 x4 ((x5).set ((x6 : Int).toNat) (.v (.int .u32 (IntKind.u32.wrap (x7))))) x6) else none) else none
noncomputable def p80_c13 {R : Type} (n : Nat) (x1 x2 x3 : List PV) (x4 : Int) (x5 : List PV) (x6 : Int) (k0 : List PV → List PV → List PV → Int → List PV → Int → Option R) : Option R :=
  k0 x1 x2 x3 x4 x5 (IntKind.i64.wrap (x6 - 1))
noncomputable def p80_l12B {R : Type} (n : Nat) (l0 : List PV → List PV → List PV → Int → List PV → Int → Option R) (x1 x2 x3 : List PV) (x4 : Int) (x5 : List PV) (x6 : Int) (k0 : List PV → List PV → List PV → Option R) : Option R :=
  bif (decide (x6 ≥ 0)) then (bif (inR (IntKind.i64.wrap (x6 + x4)) ((x2).length)) then (getI .u32 ((x2).getD ((IntKind.i64.wrap (x6 + x4) : Int).toNat) (.v (.bool false))) fun e7 => let v8 := IntKind.u64.wrap ((IntKind.u64.wrap (e7)) * 1000000000); let v9 := IntKind.i64.wrap ((IntKind.i64.wrap (x6 + x4)) - 1); bif (inR v9 ((x2).length)) then (getI .u32 ((x2).getD ((v9 : Int).toNat) (.v (.bool false))) fun e10 => let v11 := IntKind.u64.wrap (v8 + (IntKind.u64.wrap (e10))); bif (inR (IntKind.i64.wrap (x4 - 1)) ((x3).length)) then (getI .u32 ((x3).getD ((IntKind.i64.wrap (x4 - 1) : Int).toNat) (.v (.bool false))) fun e12 => bif decide (IntKind.u64.wrap (e12) = 0) then none else (let v13 := IntKind.u64.wrap (Int.tdiv v11 (IntKind.u64.wrap (e12))); bif (inR (IntKind.i64.wrap (x4 - 1)) ((x3).length)) then (getI .u32 ((x3).getD ((IntKind.i64.wrap (x4 - 1) : Int).toNat) (.v (.bool false))) fun e14 => bif decide (IntKind.u64.wrap (e14) = 0) then none else (let v15 := Int.tmod v11 (IntKind.u64.wrap (e14)); p80_l16 n x1 x2 x3 x4 x5 x6 v13 v15 (fun y16 y17 y18 y19 y20 y21 y22 => p80_l22 n y16 y17 y18 y19 y20 y21 y22 0 0 y19 0 (fun y23 y24 y25 y26 y27 y28 y29 y30 y31 => bif (inR (IntKind.i64.wrap (y28 + y26)) ((y24).length)) then (getI .u32 ((y24).getD ((IntKind.i64.wrap (y28 + y26) : Int).toNat) (.v (.bool false))) fun e32 => let v33 := IntKind.i64.wrap ((IntKind.i64.wrap (e32)) - (IntKind.i64.wrap (y30))); bif (decide (IntKind.i64.wrap (v33 - y31) < 0)) then (p80_l38 n y23 y24 y25 y26 y27 y28 (IntKind.u64.wrap (y29 - 1)) (IntKind.i64.wrap (v33 - y31)) 0 y26 0 (fun y34 y35 y36 y37 y38 y39 y40 y41 y42 => let v43 := IntKind.i64.wrap (y41 + (IntKind.i64.wrap (y42))); p80_c45 n y34 y35 y36 y37 y38 y39 y40 v43 (fun y44 y45 y46 y47 y48 y49 => p80_c13 n y44 y45 y46 y47 y48 y49 (fun y50 y51 y52 y53 y54 y55 => l0 y50 y51 y52 y53 y54 y55)))) else (p80_c45 n y23 y24 y25 y26 y27 y28 y29 (IntKind.i64.wrap (v33 - y31)) (fun y56 y57 y58 y59 y60 y61 => p80_c13 n y56 y57 y58 y59 y60 y61 (fun y62 y63 y64 y65 y66 y67 => l0 y62 y63 y64 y65 y66 y67)))) else none)))) else none)) else none) else none) else none) else (k0 x1 x2 x5)
noncomputable def p80_l12L {R : Type} (n : Nat) : Nat → List PV → List PV → List PV → Int → List PV → Int → (List PV → List PV → List PV → Option R) → Option R
  | 0, _, _, _, _, _, _, _ => none
  | m + 1, x1, x2, x3, x4, x5, x6, k0 => p80_l12B n (fun x1 x2 x3 x4 x5 x6 => p80_l12L n m x1 x2 x3 x4 x5 x6 k0) x1 x2 x3 x4 x5 x6 k0
noncomputable def p80_l12 {R : Type} (n : Nat) (x1 x2 x3 : List PV) (x4 : Int) (x5 : List PV) (x6 : Int) (k0 : List PV → List PV → List PV → Option R) : Option R := p80_l12L n n x1 x2 x3 x4 x5 x6 k0
noncomputable def p80_c11 {R : Type} (n : Nat) (x1 x2 x3 : List PV) (x4 : Int) (x5 : List PV) (k0 : List PV → List PV → Option R) : Option R :=
  let v6 := IntKind.i64.wrap (((x2).length : Int) - x4); p80_l12 n x1 x2 x3 x4 x5 (IntKind.i64.wrap (v6 - 1)) (fun y7 y8 y9 => p78 n y8 (fun y10 => bif (inR 0 ((y7).length)) then (getI .u32 ((y7).getD ((0 : Int).toNat) (.v (.bool false))) fun e11 => p94 n y10 e11 (fun y12 y13 => p78 n y9 (fun y14 => k0 y14 y12))) else none))
noncomputable def p80_c10 {R : Type} (n : Nat) (x1 x2 x3 : List PV) (x4 : Int) (k0 : List PV → List PV → Option R) : Option R :=
  let v5 := IntKind.i64.wrap (((x2).length : Int) - x4); bif (decide ((0 : Int) ≤ v5) && decide ((v5 : Int) ≤ v5) && lenOK (v5 : Int).toNat 4) then (p80_c11 n x1 x2 x3 x4 (List.replicate (v5 : Int).toNat (.v (.int .u32 0) : PV)) (fun y6 y7 => k0 y6 y7)) else none
noncomputable def p80_c9 {R : Type} (n : Nat) (x1 x2 x3 : List PV) (k0 : List PV → List PV → Option R) : Option R :=
  p80_c10 n x1 x2 x3 ((x3).length : Int) (fun y4 y5 => k0 y4 y5)
noncomputable def p80_c8 {R : Type} (n : Nat) (x1 x2 x3 : List PV) (k0 : List PV → List PV → Option R) : Option R :=
  bif (hdSz 1 x2 && lenOK (0 + (x2).length) 4) then (bif (lenOK (([] ++ x2).length + 1) 4) then (p80_c9 n x1 (([] ++ x2) ++ ([.v (.int .u32 0)] : List PV)) x3 (fun y4 y5 => k0 y4 y5)) else none) else none
noncomputable def p80_c7 {R : Type} (n : Nat) (x1 x2 x3 : List PV) (k0 : List PV → List PV → Option R) : Option R :=
  p70 n x1 x3 (fun y4 => p70 n x2 x3 (fun y5 => p80_c8 n x3 y4 y5 (fun y6 y7 => k0 y6 y7)))
noncomputable def p80_c6 {R : Type} (n : Nat) (x1 x2 : List PV) (k0 : List PV → List PV → Option R) : Option R :=
  let v3 := IntKind.i64.wrap (((x2).length : Int) - 1); bif (inR v3 ((x2).length)) then (getI .u32 ((x2).getD ((v3 : Int).toNat) (.v (.bool false))) fun e4 => bif decide (IntKind.u32.wrap (e4 + 1) = 0) then none else (let v5 := IntKind.u32.wrap (Int.tdiv 1000000000 (IntKind.u32.wrap (e4 + 1))); p80_c7 n x1 x2 ([.v (.int .u32 v5)] : List PV) (fun y6 y7 => k0 y6 y7))) else none
noncomputable def p80_c3 {R : Type} (n : Nat) (x1 x2 : List PV) (k0 : List PV → List PV → Option R) : Option R :=
  bif (((x2).length : Int) == 1) then (bif (inR 0 ((x2).length)) then (getI .u32 ((x2).getD ((0 : Int).toNat) (.v (.bool false))) fun e3 => p94 n x1 e3 (fun y4 y5 => p78 n ([.v (.int .u32 y5)] : List PV) (fun y6 => k0 y4 y6))) else none) else (p80_c6 n x1 x2 (fun y7 y8 => k0 y7 y8))
noncomputable def p80 {R : Type} (n : Nat) (x1 x2 : List PV) (k0 : List PV → List PV → Option R) : Option R :=
  p73 n x1 x2 (fun y3 => bif (decide (y3 < 0)) then (k0 [] x1) else (p80_c3 n x1 x2 (fun y4 y5 => k0 y4 y5)))
noncomputable abbrev E80 {R : Type} (n : Nat) (c : Code) : Fr → Kc R → Option R := evC Tryz.prog (env80 n) ann80 n (262, []) c
noncomputable def c80_c3 : Code := subC (bodyOf Tryz.f80) [1, 1]
abbrev t80_c3 : Sl (List SV) := (.c (sP sSh) (.c (sP sSh) .n))
noncomputable abbrev f80_c3 {R : Type} (n : Nat) (K : Kc R) : t80_c3.T (Option R) := fun x1 x2 => p80_c3 n x1 x2 (fun y1 y2 => K .ret (lk (outA ann80.cuts 3) [.p (.sh y1), .p (.sh y2)]))
noncomputable abbrev o80_c3 {R : Type} (n : Nat) (vs : List SV) (K : Kc R) : Option R := oget (t80_c3.ap vs (f80_c3 n K)) (cutE ann80 3 (E80 n c80_c3) vs K)
noncomputable def c80_c6 : Code := subC (bodyOf Tryz.f80) [1, 1, 1]
abbrev t80_c6 : Sl (List SV) := (.c (sP sSh) (.c (sP sSh) .n))
noncomputable abbrev f80_c6 {R : Type} (n : Nat) (K : Kc R) : t80_c6.T (Option R) := fun x1 x2 => p80_c6 n x1 x2 (fun y1 y2 => K .ret (lk (outA ann80.cuts 6) [.p (.sh y1), .p (.sh y2)]))
noncomputable abbrev o80_c6 {R : Type} (n : Nat) (vs : List SV) (K : Kc R) : Option R := oget (t80_c6.ap vs (f80_c6 n K)) (cutE ann80 6 (E80 n c80_c6) vs K)
noncomputable def c80_c7 : Code := subC (bodyOf Tryz.f80) [1, 1, 1, 1]
abbrev t80_c7 : Sl (List SV) := (.c (sP sSh) (.c (sP sSh) (.c (sOwn 98) .n)))
noncomputable abbrev f80_c7 {R : Type} (n : Nat) (K : Kc R) : t80_c7.T (Option R) := fun x1 x2 x3 => p80_c7 n x1 x2 x3 (fun y1 y2 => K .ret (lk (outA ann80.cuts 7) [.p (.sh y1), .p (.sh y2)]))
noncomputable abbrev o80_c7 {R : Type} (n : Nat) (vs : List SV) (K : Kc R) : Option R := oget (t80_c7.ap vs (f80_c7 n K)) (cutE ann80 7 (E80 n c80_c7) vs K)
noncomputable def c80_c8 : Code := subC (bodyOf Tryz.f80) [1, 1, 1, 1, 1]
abbrev t80_c8 : Sl (List SV) := (.c (sP sSh) (.c (sP sSh) (.c (sP sSh) .n)))
noncomputable abbrev f80_c8 {R : Type} (n : Nat) (K : Kc R) : t80_c8.T (Option R) := fun x1 x2 x3 => p80_c8 n x1 x2 x3 (fun y1 y2 => K .ret (lk (outA ann80.cuts 8) [.p (.sh y1), .p (.sh y2)]))
noncomputable abbrev o80_c8 {R : Type} (n : Nat) (vs : List SV) (K : Kc R) : Option R := oget (t80_c8.ap vs (f80_c8 n K)) (cutE ann80 8 (E80 n c80_c8) vs K)
noncomputable def c80_c9 : Code := subC (bodyOf Tryz.f80) [1, 1, 1, 1, 1, 1]
abbrev t80_c9 : Sl (List SV) := (.c (sP sSh) (.c (sOwn 98) (.c (sP sSh) .n)))
noncomputable abbrev f80_c9 {R : Type} (n : Nat) (K : Kc R) : t80_c9.T (Option R) := fun x1 x2 x3 => p80_c9 n x1 x2 x3 (fun y1 y2 => K .ret (lk (outA ann80.cuts 9) [.p (.sh y1), .p (.sh y2)]))
noncomputable abbrev o80_c9 {R : Type} (n : Nat) (vs : List SV) (K : Kc R) : Option R := oget (t80_c9.ap vs (f80_c9 n K)) (cutE ann80 9 (E80 n c80_c9) vs K)
noncomputable def c80_c10 : Code := subC (bodyOf Tryz.f80) [1, 1, 1, 1, 1, 1, 1]
abbrev t80_c10 : Sl (List SV) := (.c (sP sSh) (.c (sOwn 98) (.c (sP sSh) (.c (sP (sInt .i64)) .n))))
noncomputable abbrev f80_c10 {R : Type} (n : Nat) (K : Kc R) : t80_c10.T (Option R) := fun x1 x2 x3 x4 => p80_c10 n x1 x2 x3 x4 (fun y1 y2 => K .ret (lk (outA ann80.cuts 10) [.p (.sh y1), .p (.sh y2)]))
noncomputable abbrev o80_c10 {R : Type} (n : Nat) (vs : List SV) (K : Kc R) : Option R := oget (t80_c10.ap vs (f80_c10 n K)) (cutE ann80 10 (E80 n c80_c10) vs K)
noncomputable def c80_c11 : Code := subC (bodyOf Tryz.f80) [1, 1, 1, 1, 1, 1, 1, 1]
abbrev t80_c11 : Sl (List SV) := (.c (sP sSh) (.c (sOwn 98) (.c (sP sSh) (.c (sP (sInt .i64)) (.c (sOwn 98) .n)))))
noncomputable abbrev f80_c11 {R : Type} (n : Nat) (K : Kc R) : t80_c11.T (Option R) := fun x1 x2 x3 x4 x5 => p80_c11 n x1 x2 x3 x4 x5 (fun y1 y2 => K .ret (lk (outA ann80.cuts 11) [.p (.sh y1), .p (.sh y2)]))
noncomputable abbrev o80_c11 {R : Type} (n : Nat) (vs : List SV) (K : Kc R) : Option R := oget (t80_c11.ap vs (f80_c11 n K)) (cutE ann80 11 (E80 n c80_c11) vs K)
noncomputable def c80_c13 : Code := subC (bodyOf Tryz.f80) [1, 1, 1, 1, 1, 1, 1, 1, 0, 1, 0, 0, 1, 1]
abbrev t80_c13 : Sl (List SV) := (.c (sP sSh) (.c (sOwn 98) (.c (sP sSh) (.c (sP (sInt .i64)) (.c (sOwn 98) (.c (sP (sInt .i64)) .n))))))
noncomputable abbrev f80_c13 {R : Type} (n : Nat) (K : Kc R) : t80_c13.T (Option R) := fun x1 x2 x3 x4 x5 x6 => p80_c13 n x1 x2 x3 x4 x5 x6 (fun y1 y2 y3 y4 y5 y6 => K .normal (lk (outA ann80.cuts 13) [.dead, .dead, .p (.sh y1), .own 98 y2, .p (.sh y3), .p (.v (.int .i64 y4)), .own 98 y5, .p (.v (.int .i64 y6))]))
noncomputable abbrev o80_c13 {R : Type} (n : Nat) (vs : List SV) (K : Kc R) : Option R := oget (t80_c13.ap vs (f80_c13 n K)) (cutE ann80 13 (E80 n c80_c13) vs K)
noncomputable def c80_c17 : Code := subC (bodyOf Tryz.f80) [1, 1, 1, 1, 1, 1, 1, 1, 0, 1, 0, 0, 1, 0, 0, 1, 1, 0, 0, 0, 1]
abbrev t80_c17 : Sl (List SV) := (.c (sP sSh) (.c (sOwn 98) (.c (sP sSh) (.c (sP (sInt .i64)) (.c (sOwn 98) (.c (sP (sInt .i64)) (.c (sP (sInt .u64)) (.c (sP (sInt .u64)) .n))))))))
noncomputable abbrev f80_c17 {R : Type} (n : Nat) (K : Kc R) : t80_c17.T (Option R) := fun x1 x2 x3 x4 x5 x6 x7 x8 => p80_c17 n x1 x2 x3 x4 x5 x6 x7 x8 (fun y1 y2 y3 y4 y5 y6 y7 y8 => K (.exit 2) (lk (outA ann80.cuts 17) [.dead, .dead, .p (.sh y1), .own 98 y2, .p (.sh y3), .p (.v (.int .i64 y4)), .own 98 y5, .p (.v (.int .i64 y6)), .p (.v (.int .u64 y7)), .p (.v (.int .u64 y8))])) (fun y1 y2 y3 y4 y5 y6 y7 y8 => K .normal (lk (outA ann80.cuts 17) [.dead, .dead, .p (.sh y1), .own 98 y2, .p (.sh y3), .p (.v (.int .i64 y4)), .own 98 y5, .p (.v (.int .i64 y6)), .p (.v (.int .u64 y7)), .p (.v (.int .u64 y8))]))
noncomputable abbrev o80_c17 {R : Type} (n : Nat) (vs : List SV) (K : Kc R) : Option R := oget (t80_c17.ap vs (f80_c17 n K)) (cutE ann80 17 (E80 n c80_c17) vs K)
noncomputable def c80_c31 : Code := subC (bodyOf Tryz.f80) [1, 1, 1, 1, 1, 1, 1, 1, 0, 1, 0, 0, 1, 0, 0, 1, 1, 1, 1, 0, 1, 0, 0, 1, 1, 0, 0, 1, 1, 1, 1, 1, 1]
abbrev t80_c31 : Sl (List SV) := (.c (sP sSh) (.c (sOwn 98) (.c (sP sSh) (.c (sP (sInt .i64)) (.c (sOwn 98) (.c (sP (sInt .i64)) (.c (sP (sInt .u64)) (.c (sP (sInt .u64)) (.c (sP (sInt .i64)) (.c (sP (sInt .i64)) (.c (sP (sInt .i64)) (.c (sP (sInt .i64)) (.c (sP (sInt .i64)) .n)))))))))))))
noncomputable abbrev f80_c31 {R : Type} (n : Nat) (K : Kc R) : t80_c31.T (Option R) := fun x1 x2 x3 x4 x5 x6 x7 x8 x9 x10 x11 x12 x13 => p80_c31 n x1 x2 x3 x4 x5 x6 x7 x8 x9 x10 x11 x12 x13 (fun y1 y2 y3 y4 y5 y6 y7 y8 y9 y10 y11 => K .normal (lk (outA ann80.cuts 31) [.dead, .dead, .p (.sh y1), .own 98 y2, .p (.sh y3), .p (.v (.int .i64 y4)), .own 98 y5, .p (.v (.int .i64 y6)), .p (.v (.int .u64 y7)), .p (.v (.int .u64 y8)), .p (.v (.int .i64 y9)), .p (.v (.int .i64 y10)), .p (.v (.int .i64 y11))]))
noncomputable abbrev o80_c31 {R : Type} (n : Nat) (vs : List SV) (K : Kc R) : Option R := oget (t80_c31.ap vs (f80_c31 n K)) (cutE ann80 31 (E80 n c80_c31) vs K)
noncomputable def c80_c45 : Code := subC (bodyOf Tryz.f80) [1, 1, 1, 1, 1, 1, 1, 1, 0, 1, 0, 0, 1, 0, 0, 1, 1, 1, 1, 1, 1, 1]
abbrev t80_c45 : Sl (List SV) := (.c (sP sSh) (.c (sOwn 98) (.c (sP sSh) (.c (sP (sInt .i64)) (.c (sOwn 98) (.c (sP (sInt .i64)) (.c (sP (sInt .u64)) (.c (sP (sInt .i64)) .n))))))))
noncomputable abbrev f80_c45 {R : Type} (n : Nat) (K : Kc R) : t80_c45.T (Option R) := fun x1 x2 x3 x4 x5 x6 x7 x8 => p80_c45 n x1 x2 x3 x4 x5 x6 x7 x8 (fun y1 y2 y3 y4 y5 y6 => K .normal (lk (outA ann80.cuts 45) [.dead, .dead, .p (.sh y1), .own 98 y2, .p (.sh y3), .p (.v (.int .i64 y4)), .own 98 y5, .p (.v (.int .i64 y6))]))
noncomputable abbrev o80_c45 {R : Type} (n : Nat) (vs : List SV) (K : Kc R) : Option R := oget (t80_c45.ap vs (f80_c45 n K)) (cutE ann80 45 (E80 n c80_c45) vs K)
noncomputable def c80_l12 : Code := subC (bodyOf Tryz.f80) [1, 1, 1, 1, 1, 1, 1, 1, 0, 1, 0, 0]
abbrev t80_l12 : Sl (List SV) := (.c (sP sSh) (.c (sOwn 98) (.c (sP sSh) (.c (sP (sInt .i64)) (.c (sOwn 98) (.c (sP (sInt .i64)) .n))))))
noncomputable abbrev f80_l12 {R : Type} (n m : Nat) (K : Kc R) : t80_l12.T (Option R) := fun x1 x2 x3 x4 x5 x6 => p80_l12L n m x1 x2 x3 x4 x5 x6 (fun y1 y2 y3 => K (.exit 0) (lk (outA ann80.loops 12) [.dead, .dead, .p (.sh y1), .own 98 y2, .own 98 y3]))
noncomputable abbrev o80_l12 {R : Type} (n : Nat) (vs : List SV) (K : Kc R) : Option R := oget (t80_l12.ap vs (f80_l12 n n K)) (loopE ann80 12 (E80 n c80_l12) n vs K)
noncomputable def c80_l16 : Code := subC (bodyOf Tryz.f80) [1, 1, 1, 1, 1, 1, 1, 1, 0, 1, 0, 0, 1, 0, 0, 1, 1, 0, 0, 0]
abbrev t80_l16 : Sl (List SV) := (.c (sP sSh) (.c (sOwn 98) (.c (sP sSh) (.c (sP (sInt .i64)) (.c (sOwn 98) (.c (sP (sInt .i64)) (.c (sP (sInt .u64)) (.c (sP (sInt .u64)) .n))))))))
noncomputable abbrev f80_l16 {R : Type} (n m : Nat) (K : Kc R) : t80_l16.T (Option R) := fun x1 x2 x3 x4 x5 x6 x7 x8 => p80_l16L n m x1 x2 x3 x4 x5 x6 x7 x8 (fun y1 y2 y3 y4 y5 y6 y7 => K (.exit 2) (lk (outA ann80.loops 16) [.dead, .dead, .p (.sh y1), .own 98 y2, .p (.sh y3), .p (.v (.int .i64 y4)), .own 98 y5, .p (.v (.int .i64 y6)), .p (.v (.int .u64 y7))]))
noncomputable abbrev o80_l16 {R : Type} (n : Nat) (vs : List SV) (K : Kc R) : Option R := oget (t80_l16.ap vs (f80_l16 n n K)) (loopE ann80 16 (E80 n c80_l16) n vs K)
noncomputable def c80_l22 : Code := subC (bodyOf Tryz.f80) [1, 1, 1, 1, 1, 1, 1, 1, 0, 1, 0, 0, 1, 0, 0, 1, 1, 1, 1, 0, 1, 0, 0]
abbrev t80_l22 : Sl (List SV) := (.c (sP sSh) (.c (sOwn 98) (.c (sP sSh) (.c (sP (sInt .i64)) (.c (sOwn 98) (.c (sP (sInt .i64)) (.c (sP (sInt .u64)) (.c (sP (sInt .u64)) (.c (sP (sInt .i64)) (.c (sP (sInt .i64)) (.c (sP (sInt .i64)) .n)))))))))))
noncomputable abbrev f80_l22 {R : Type} (n m : Nat) (K : Kc R) : t80_l22.T (Option R) := fun x1 x2 x3 x4 x5 x6 x7 x8 x9 x10 x11 => p80_l22L n m x1 x2 x3 x4 x5 x6 x7 x8 x9 x10 x11 (fun y1 y2 y3 y4 y5 y6 y7 y8 y9 => K (.exit 4) (lk (outA ann80.loops 22) [.dead, .dead, .p (.sh y1), .own 98 y2, .p (.sh y3), .p (.v (.int .i64 y4)), .own 98 y5, .p (.v (.int .i64 y6)), .p (.v (.int .u64 y7)), .p (.v (.int .u64 y8)), .p (.v (.int .i64 y9))]))
noncomputable abbrev o80_l22 {R : Type} (n : Nat) (vs : List SV) (K : Kc R) : Option R := oget (t80_l22.ap vs (f80_l22 n n K)) (loopE ann80 22 (E80 n c80_l22) n vs K)
noncomputable def c80_l38 : Code := subC (bodyOf Tryz.f80) [1, 1, 1, 1, 1, 1, 1, 1, 0, 1, 0, 0, 1, 0, 0, 1, 1, 1, 1, 1, 1, 0, 1, 0, 1, 1, 0, 1, 0, 0]
abbrev t80_l38 : Sl (List SV) := (.c (sP sSh) (.c (sOwn 98) (.c (sP sSh) (.c (sP (sInt .i64)) (.c (sOwn 98) (.c (sP (sInt .i64)) (.c (sP (sInt .u64)) (.c (sP (sInt .i64)) (.c (sP (sInt .u32)) (.c (sP (sInt .i64)) (.c (sP (sInt .i64)) .n)))))))))))
noncomputable abbrev f80_l38 {R : Type} (n m : Nat) (K : Kc R) : t80_l38.T (Option R) := fun x1 x2 x3 x4 x5 x6 x7 x8 x9 x10 x11 => p80_l38L n m x1 x2 x3 x4 x5 x6 x7 x8 x9 x10 x11 (fun y1 y2 y3 y4 y5 y6 y7 y8 y9 => K (.exit 6) (lk (outA ann80.loops 38) [.dead, .dead, .p (.sh y1), .own 98 y2, .p (.sh y3), .p (.v (.int .i64 y4)), .own 98 y5, .p (.v (.int .i64 y6)), .p (.v (.int .u64 y7)), .p (.v (.int .i64 y8)), .p (.v (.int .u32 y9))]))
noncomputable abbrev o80_l38 {R : Type} (n : Nat) (vs : List SV) (K : Kc R) : Option R := oget (t80_l38.ap vs (f80_l38 n n K)) (loopE ann80 38 (E80 n c80_l38) n vs K)
noncomputable abbrev lo80 {R : Type} (n : Nat) : Orc R := fun i vs K => dcnd (Nat.beq i 38) (o80_l38 n vs K) (dcnd (Nat.beq i 22) (o80_l22 n vs K) (dcnd (Nat.beq i 16) (o80_l16 n vs K) (dcnd (Nat.beq i 12) (o80_l12 n vs K) (none))))
noncomputable abbrev cu80 {R : Type} (n : Nat) : Orc R := fun i vs K => dcnd (Nat.beq i 45) (o80_c45 n vs K) (dcnd (Nat.beq i 31) (o80_c31 n vs K) (dcnd (Nat.beq i 17) (o80_c17 n vs K) (dcnd (Nat.beq i 13) (o80_c13 n vs K) (dcnd (Nat.beq i 11) (o80_c11 n vs K) (dcnd (Nat.beq i 10) (o80_c10 n vs K) (dcnd (Nat.beq i 9) (o80_c9 n vs K) (dcnd (Nat.beq i 8) (o80_c8 n vs K) (dcnd (Nat.beq i 7) (o80_c7 n vs K) (dcnd (Nat.beq i 6) (o80_c6 n vs K) (dcnd (Nat.beq i 3) (o80_c3 n vs K) (none)))))))))))
section
variable {R : Type}
noncomputable abbrev V80 (n : Nat) (c : Code) : Fr → Kc R → Option R := evOi Tryz.prog (env80 n) ann80 (262, []) (lo80 n) (cu80 n) c
abbrev K80 (R : Type) (n : Nat) := PartOK (R := R) Tryz.prog (env80 n) ann80 n (262, []) (lo80 n) (cu80 n)
theorem pa80_c17 (n : Nat) : allP (K80 R n) (partsOf ann80 c80_c17) := by
  rw [show partsOf ann80 c80_c17 = [] from by kernel_rfl]; exact trivial
theorem q80_c17 (n : Nat) : K80 R n (true, 17, c80_c17) := part_cut (pa80_c17 n) t80_c17 (f80_c17 n) (fun K x1 x2 x3 x4 x5 x6 x7 x8 => by show cutE _ _ _ _ _ = _; kernel_rfl) fun _ _ => rfl
theorem pa80_l16 (n : Nat) : allP (K80 R n) (partsOf ann80 c80_l16) := by
  rw [show partsOf ann80 c80_l16 = [(true, 17, c80_c17)] from by kernel_rfl]; exact ⟨q80_c17 n, trivial⟩
theorem sp80_l16 (n m : Nat) (x1 x2 x3 : List PV) (x4 : Int) (x5 : List PV) (x6 x7 x8 : Int) (K : Kc R) : loopE ann80 16 (V80 n c80_l16) (m + 1) [.p (.sh x1), .own 98 x2, .p (.sh x3), .p (.v (.int .i64 x4)), .own 98 x5, .p (.v (.int .i64 x6)), .p (.v (.int .u64 x7)), .p (.v (.int .u64 x8))] K = p80_l16B n (fun x1 x2 x3 x4 x5 x6 x7 x8 => loopE ann80 16 (V80 n c80_l16) m [.p (.sh x1), .own 98 x2, .p (.sh x3), .p (.v (.int .i64 x4)), .own 98 x5, .p (.v (.int .i64 x6)), .p (.v (.int .u64 x7)), .p (.v (.int .u64 x8))] K) x1 x2 x3 x4 x5 x6 x7 x8 (fun y1 y2 y3 y4 y5 y6 y7 => K (.exit 2) (lk (outA ann80.loops 16) [.dead, .dead, .p (.sh y1), .own 98 y2, .p (.sh y3), .p (.v (.int .i64 y4)), .own 98 y5, .p (.v (.int .i64 y6)), .p (.v (.int .u64 y7))])) := by kernel_rfl
theorem ep80_l16 (n : Nat) (K : Kc R) : ∀ (m : Nat) (x1 x2 x3 : List PV) (x4 : Int) (x5 : List PV) (x6 x7 x8 : Int), loopE ann80 16 (V80 n c80_l16) m [.p (.sh x1), .own 98 x2, .p (.sh x3), .p (.v (.int .i64 x4)), .own 98 x5, .p (.v (.int .i64 x6)), .p (.v (.int .u64 x7)), .p (.v (.int .u64 x8))] K = f80_l16 n m K x1 x2 x3 x4 x5 x6 x7 x8
  | 0, _, _, _, _, _, _, _, _ => rfl
  | m + 1, x1, x2, x3, x4, x5, x6, x7, x8 => (sp80_l16 n m x1 x2 x3 x4 x5 x6 x7 x8 K).trans (congrArg (fun l0 => p80_l16B n l0 x1 x2 x3 x4 x5 x6 x7 x8 (fun y1 y2 y3 y4 y5 y6 y7 => K (.exit 2) (lk (outA ann80.loops 16) [.dead, .dead, .p (.sh y1), .own 98 y2, .p (.sh y3), .p (.v (.int .i64 y4)), .own 98 y5, .p (.v (.int .i64 y6)), .p (.v (.int .u64 y7))]))) (funext fun z0 => funext fun z1 => funext fun z2 => funext fun z3 => funext fun z4 => funext fun z5 => funext fun z6 => funext fun z7 => ep80_l16 n K m z0 z1 z2 z3 z4 z5 z6 z7))
theorem q80_l16 (n : Nat) : K80 R n (false, 16, c80_l16) := part_loop (pa80_l16 n) t80_l16 (f80_l16 n n) (fun K x1 x2 x3 x4 x5 x6 x7 x8 => ep80_l16 n K n x1 x2 x3 x4 x5 x6 x7 x8) fun _ _ => rfl
theorem pa80_c31 (n : Nat) : allP (K80 R n) (partsOf ann80 c80_c31) := by
  rw [show partsOf ann80 c80_c31 = [] from by kernel_rfl]; exact trivial
theorem q80_c31 (n : Nat) : K80 R n (true, 31, c80_c31) := part_cut (pa80_c31 n) t80_c31 (f80_c31 n) (fun K x1 x2 x3 x4 x5 x6 x7 x8 x9 x10 x11 x12 x13 => by show cutE _ _ _ _ _ = _; kernel_rfl) fun _ _ => rfl
theorem pa80_l22 (n : Nat) : allP (K80 R n) (partsOf ann80 c80_l22) := by
  rw [show partsOf ann80 c80_l22 = [(true, 31, c80_c31)] from by kernel_rfl]; exact ⟨q80_c31 n, trivial⟩
theorem sp80_l22 (n m : Nat) (x1 x2 x3 : List PV) (x4 : Int) (x5 : List PV) (x6 x7 x8 x9 x10 x11 : Int) (K : Kc R) : loopE ann80 22 (V80 n c80_l22) (m + 1) [.p (.sh x1), .own 98 x2, .p (.sh x3), .p (.v (.int .i64 x4)), .own 98 x5, .p (.v (.int .i64 x6)), .p (.v (.int .u64 x7)), .p (.v (.int .u64 x8)), .p (.v (.int .i64 x9)), .p (.v (.int .i64 x10)), .p (.v (.int .i64 x11))] K = p80_l22B n (fun x1 x2 x3 x4 x5 x6 x7 x8 x9 x10 x11 => loopE ann80 22 (V80 n c80_l22) m [.p (.sh x1), .own 98 x2, .p (.sh x3), .p (.v (.int .i64 x4)), .own 98 x5, .p (.v (.int .i64 x6)), .p (.v (.int .u64 x7)), .p (.v (.int .u64 x8)), .p (.v (.int .i64 x9)), .p (.v (.int .i64 x10)), .p (.v (.int .i64 x11))] K) x1 x2 x3 x4 x5 x6 x7 x8 x9 x10 x11 (fun y1 y2 y3 y4 y5 y6 y7 y8 y9 => K (.exit 4) (lk (outA ann80.loops 22) [.dead, .dead, .p (.sh y1), .own 98 y2, .p (.sh y3), .p (.v (.int .i64 y4)), .own 98 y5, .p (.v (.int .i64 y6)), .p (.v (.int .u64 y7)), .p (.v (.int .u64 y8)), .p (.v (.int .i64 y9))])) := by kernel_rfl
theorem ep80_l22 (n : Nat) (K : Kc R) : ∀ (m : Nat) (x1 x2 x3 : List PV) (x4 : Int) (x5 : List PV) (x6 x7 x8 x9 x10 x11 : Int), loopE ann80 22 (V80 n c80_l22) m [.p (.sh x1), .own 98 x2, .p (.sh x3), .p (.v (.int .i64 x4)), .own 98 x5, .p (.v (.int .i64 x6)), .p (.v (.int .u64 x7)), .p (.v (.int .u64 x8)), .p (.v (.int .i64 x9)), .p (.v (.int .i64 x10)), .p (.v (.int .i64 x11))] K = f80_l22 n m K x1 x2 x3 x4 x5 x6 x7 x8 x9 x10 x11
  | 0, _, _, _, _, _, _, _, _, _, _, _ => rfl
  | m + 1, x1, x2, x3, x4, x5, x6, x7, x8, x9, x10, x11 => (sp80_l22 n m x1 x2 x3 x4 x5 x6 x7 x8 x9 x10 x11 K).trans (congrArg (fun l0 => p80_l22B n l0 x1 x2 x3 x4 x5 x6 x7 x8 x9 x10 x11 (fun y1 y2 y3 y4 y5 y6 y7 y8 y9 => K (.exit 4) (lk (outA ann80.loops 22) [.dead, .dead, .p (.sh y1), .own 98 y2, .p (.sh y3), .p (.v (.int .i64 y4)), .own 98 y5, .p (.v (.int .i64 y6)), .p (.v (.int .u64 y7)), .p (.v (.int .u64 y8)), .p (.v (.int .i64 y9))]))) (funext fun z0 => funext fun z1 => funext fun z2 => funext fun z3 => funext fun z4 => funext fun z5 => funext fun z6 => funext fun z7 => funext fun z8 => funext fun z9 => funext fun z10 => ep80_l22 n K m z0 z1 z2 z3 z4 z5 z6 z7 z8 z9 z10))
theorem q80_l22 (n : Nat) : K80 R n (false, 22, c80_l22) := part_loop (pa80_l22 n) t80_l22 (f80_l22 n n) (fun K x1 x2 x3 x4 x5 x6 x7 x8 x9 x10 x11 => ep80_l22 n K n x1 x2 x3 x4 x5 x6 x7 x8 x9 x10 x11) fun _ _ => rfl
theorem pa80_l38 (n : Nat) : allP (K80 R n) (partsOf ann80 c80_l38) := by
  rw [show partsOf ann80 c80_l38 = [] from by kernel_rfl]; exact trivial
theorem sp80_l38 (n m : Nat) (x1 x2 x3 : List PV) (x4 : Int) (x5 : List PV) (x6 x7 x8 x9 x10 x11 : Int) (K : Kc R) : loopE ann80 38 (V80 n c80_l38) (m + 1) [.p (.sh x1), .own 98 x2, .p (.sh x3), .p (.v (.int .i64 x4)), .own 98 x5, .p (.v (.int .i64 x6)), .p (.v (.int .u64 x7)), .p (.v (.int .i64 x8)), .p (.v (.int .u32 x9)), .p (.v (.int .i64 x10)), .p (.v (.int .i64 x11))] K = p80_l38B n (fun x1 x2 x3 x4 x5 x6 x7 x8 x9 x10 x11 => loopE ann80 38 (V80 n c80_l38) m [.p (.sh x1), .own 98 x2, .p (.sh x3), .p (.v (.int .i64 x4)), .own 98 x5, .p (.v (.int .i64 x6)), .p (.v (.int .u64 x7)), .p (.v (.int .i64 x8)), .p (.v (.int .u32 x9)), .p (.v (.int .i64 x10)), .p (.v (.int .i64 x11))] K) x1 x2 x3 x4 x5 x6 x7 x8 x9 x10 x11 (fun y1 y2 y3 y4 y5 y6 y7 y8 y9 => K (.exit 6) (lk (outA ann80.loops 38) [.dead, .dead, .p (.sh y1), .own 98 y2, .p (.sh y3), .p (.v (.int .i64 y4)), .own 98 y5, .p (.v (.int .i64 y6)), .p (.v (.int .u64 y7)), .p (.v (.int .i64 y8)), .p (.v (.int .u32 y9))])) := by kernel_rfl
theorem ep80_l38 (n : Nat) (K : Kc R) : ∀ (m : Nat) (x1 x2 x3 : List PV) (x4 : Int) (x5 : List PV) (x6 x7 x8 x9 x10 x11 : Int), loopE ann80 38 (V80 n c80_l38) m [.p (.sh x1), .own 98 x2, .p (.sh x3), .p (.v (.int .i64 x4)), .own 98 x5, .p (.v (.int .i64 x6)), .p (.v (.int .u64 x7)), .p (.v (.int .i64 x8)), .p (.v (.int .u32 x9)), .p (.v (.int .i64 x10)), .p (.v (.int .i64 x11))] K = f80_l38 n m K x1 x2 x3 x4 x5 x6 x7 x8 x9 x10 x11
  | 0, _, _, _, _, _, _, _, _, _, _, _ => rfl
  | m + 1, x1, x2, x3, x4, x5, x6, x7, x8, x9, x10, x11 => (sp80_l38 n m x1 x2 x3 x4 x5 x6 x7 x8 x9 x10 x11 K).trans (congrArg (fun l0 => p80_l38B n l0 x1 x2 x3 x4 x5 x6 x7 x8 x9 x10 x11 (fun y1 y2 y3 y4 y5 y6 y7 y8 y9 => K (.exit 6) (lk (outA ann80.loops 38) [.dead, .dead, .p (.sh y1), .own 98 y2, .p (.sh y3), .p (.v (.int .i64 y4)), .own 98 y5, .p (.v (.int .i64 y6)), .p (.v (.int .u64 y7)), .p (.v (.int .i64 y8)), .p (.v (.int .u32 y9))]))) (funext fun z0 => funext fun z1 => funext fun z2 => funext fun z3 => funext fun z4 => funext fun z5 => funext fun z6 => funext fun z7 => funext fun z8 => funext fun z9 => funext fun z10 => ep80_l38 n K m z0 z1 z2 z3 z4 z5 z6 z7 z8 z9 z10))
theorem q80_l38 (n : Nat) : K80 R n (false, 38, c80_l38) := part_loop (pa80_l38 n) t80_l38 (f80_l38 n n) (fun K x1 x2 x3 x4 x5 x6 x7 x8 x9 x10 x11 => ep80_l38 n K n x1 x2 x3 x4 x5 x6 x7 x8 x9 x10 x11) fun _ _ => rfl
theorem pa80_c45 (n : Nat) : allP (K80 R n) (partsOf ann80 c80_c45) := by
  rw [show partsOf ann80 c80_c45 = [] from by kernel_rfl]; exact trivial
theorem q80_c45 (n : Nat) : K80 R n (true, 45, c80_c45) := part_cut (pa80_c45 n) t80_c45 (f80_c45 n) (fun K x1 x2 x3 x4 x5 x6 x7 x8 => by show cutE _ _ _ _ _ = _; kernel_rfl) fun _ _ => rfl
theorem pa80_c13 (n : Nat) : allP (K80 R n) (partsOf ann80 c80_c13) := by
  rw [show partsOf ann80 c80_c13 = [] from by kernel_rfl]; exact trivial
theorem q80_c13 (n : Nat) : K80 R n (true, 13, c80_c13) := part_cut (pa80_c13 n) t80_c13 (f80_c13 n) (fun K x1 x2 x3 x4 x5 x6 => by show cutE _ _ _ _ _ = _; kernel_rfl) fun _ _ => rfl
theorem pa80_l12 (n : Nat) : allP (K80 R n) (partsOf ann80 c80_l12) := by
  rw [show partsOf ann80 c80_l12 = [(false, 16, c80_l16), (false, 22, c80_l22), (false, 38, c80_l38), (true, 45, c80_c45), (true, 13, c80_c13)] from by kernel_rfl]; exact ⟨q80_l16 n, q80_l22 n, q80_l38 n, q80_c45 n, q80_c13 n, trivial⟩
theorem sp80_l12 (n m : Nat) (x1 x2 x3 : List PV) (x4 : Int) (x5 : List PV) (x6 : Int) (K : Kc R) : loopE ann80 12 (V80 n c80_l12) (m + 1) [.p (.sh x1), .own 98 x2, .p (.sh x3), .p (.v (.int .i64 x4)), .own 98 x5, .p (.v (.int .i64 x6))] K = p80_l12B n (fun x1 x2 x3 x4 x5 x6 => loopE ann80 12 (V80 n c80_l12) m [.p (.sh x1), .own 98 x2, .p (.sh x3), .p (.v (.int .i64 x4)), .own 98 x5, .p (.v (.int .i64 x6))] K) x1 x2 x3 x4 x5 x6 (fun y1 y2 y3 => K (.exit 0) (lk (outA ann80.loops 12) [.dead, .dead, .p (.sh y1), .own 98 y2, .own 98 y3])) := by kernel_rfl
theorem ep80_l12 (n : Nat) (K : Kc R) : ∀ (m : Nat) (x1 x2 x3 : List PV) (x4 : Int) (x5 : List PV) (x6 : Int), loopE ann80 12 (V80 n c80_l12) m [.p (.sh x1), .own 98 x2, .p (.sh x3), .p (.v (.int .i64 x4)), .own 98 x5, .p (.v (.int .i64 x6))] K = f80_l12 n m K x1 x2 x3 x4 x5 x6
  | 0, _, _, _, _, _, _ => rfl
  | m + 1, x1, x2, x3, x4, x5, x6 => (sp80_l12 n m x1 x2 x3 x4 x5 x6 K).trans (congrArg (fun l0 => p80_l12B n l0 x1 x2 x3 x4 x5 x6 (fun y1 y2 y3 => K (.exit 0) (lk (outA ann80.loops 12) [.dead, .dead, .p (.sh y1), .own 98 y2, .own 98 y3]))) (funext fun z0 => funext fun z1 => funext fun z2 => funext fun z3 => funext fun z4 => funext fun z5 => ep80_l12 n K m z0 z1 z2 z3 z4 z5))
theorem q80_l12 (n : Nat) : K80 R n (false, 12, c80_l12) := part_loop (pa80_l12 n) t80_l12 (f80_l12 n n) (fun K x1 x2 x3 x4 x5 x6 => ep80_l12 n K n x1 x2 x3 x4 x5 x6) fun _ _ => rfl
theorem pa80_c11 (n : Nat) : allP (K80 R n) (partsOf ann80 c80_c11) := by
  rw [show partsOf ann80 c80_c11 = [(false, 12, c80_l12)] from by kernel_rfl]; exact ⟨q80_l12 n, trivial⟩
theorem q80_c11 (n : Nat) : K80 R n (true, 11, c80_c11) := part_cut (pa80_c11 n) t80_c11 (f80_c11 n) (fun K x1 x2 x3 x4 x5 => by show cutE _ _ _ _ _ = _; kernel_rfl) fun _ _ => rfl
theorem pa80_c10 (n : Nat) : allP (K80 R n) (partsOf ann80 c80_c10) := by
  rw [show partsOf ann80 c80_c10 = [(true, 11, c80_c11)] from by kernel_rfl]; exact ⟨q80_c11 n, trivial⟩
theorem q80_c10 (n : Nat) : K80 R n (true, 10, c80_c10) := part_cut (pa80_c10 n) t80_c10 (f80_c10 n) (fun K x1 x2 x3 x4 => by show cutE _ _ _ _ _ = _; kernel_rfl) fun _ _ => rfl
theorem pa80_c9 (n : Nat) : allP (K80 R n) (partsOf ann80 c80_c9) := by
  rw [show partsOf ann80 c80_c9 = [(true, 10, c80_c10)] from by kernel_rfl]; exact ⟨q80_c10 n, trivial⟩
theorem q80_c9 (n : Nat) : K80 R n (true, 9, c80_c9) := part_cut (pa80_c9 n) t80_c9 (f80_c9 n) (fun K x1 x2 x3 => by show cutE _ _ _ _ _ = _; kernel_rfl) fun _ _ => rfl
theorem pa80_c8 (n : Nat) : allP (K80 R n) (partsOf ann80 c80_c8) := by
  rw [show partsOf ann80 c80_c8 = [(true, 9, c80_c9)] from by kernel_rfl]; exact ⟨q80_c9 n, trivial⟩
theorem q80_c8 (n : Nat) : K80 R n (true, 8, c80_c8) := part_cut (pa80_c8 n) t80_c8 (f80_c8 n) (fun K x1 x2 x3 => by show cutE _ _ _ _ _ = _; kernel_rfl) fun _ _ => rfl
theorem pa80_c7 (n : Nat) : allP (K80 R n) (partsOf ann80 c80_c7) := by
  rw [show partsOf ann80 c80_c7 = [(true, 8, c80_c8)] from by kernel_rfl]; exact ⟨q80_c8 n, trivial⟩
theorem q80_c7 (n : Nat) : K80 R n (true, 7, c80_c7) := part_cut (pa80_c7 n) t80_c7 (f80_c7 n) (fun K x1 x2 x3 => by show cutE _ _ _ _ _ = _; kernel_rfl) fun _ _ => rfl
theorem pa80_c6 (n : Nat) : allP (K80 R n) (partsOf ann80 c80_c6) := by
  rw [show partsOf ann80 c80_c6 = [(true, 7, c80_c7)] from by kernel_rfl]; exact ⟨q80_c7 n, trivial⟩
theorem q80_c6 (n : Nat) : K80 R n (true, 6, c80_c6) := part_cut (pa80_c6 n) t80_c6 (f80_c6 n) (fun K x1 x2 => by show cutE _ _ _ _ _ = _; kernel_rfl) fun _ _ => rfl
theorem pa80_c3 (n : Nat) : allP (K80 R n) (partsOf ann80 c80_c3) := by
  rw [show partsOf ann80 c80_c3 = [(true, 6, c80_c6)] from by kernel_rfl]; exact ⟨q80_c6 n, trivial⟩
theorem q80_c3 (n : Nat) : K80 R n (true, 3, c80_c3) := part_cut (pa80_c3 n) t80_c3 (f80_c3 n) (fun K x1 x2 => by show cutE _ _ _ _ _ = _; kernel_rfl) fun _ _ => rfl
theorem pa80 (n : Nat) : allP (K80 R n) (partsOf ann80 (bodyOf Tryz.f80)) := by
  rw [show partsOf ann80 (bodyOf Tryz.f80) = [(true, 3, c80_c3)] from by kernel_rfl]; exact ⟨q80_c3 n, trivial⟩
end
abbrev t80 : Sl (List SV) := (.c (sP sSh) (.c (sP sSh) .n))
noncomputable abbrev f80 (n : Nat) {R : Type} (K : List SV → Option R) : t80.T (Option R) := fun x1 x2 => p80 n x1 x2 (fun y1 y2 => K [.p (.sh y1), .p (.sh y2)])
theorem ep80 {R : Type} (n : Nat) (K : List SV → Option R) (x1 x2 : List PV) : evFn Tryz.prog (env80 n) ann80 n Tryz.f80 [.p (.sh x1), .p (.sh x2)] K = f80 n K x1 x2 := by
  rw [evFn_evOi (c := bodyOf Tryz.f80) (by kernel_rfl) (pa80 n)]; kernel_rfl
noncomputable abbrev fs80 (n : Nat) : FS := { om := [false, false], run := fun args K => oget (t80.ap args (f80 n K)) none }
theorem ok80 (n : Nat) : FSound Tryz.prog GI 80 (fs80 n) :=
  FSound.good (envok80 n) (ann := ann80) (n := n) Tryz.func80
    (.cons (envok80 n) t80 (f80 n) (fun K x1 x2 => ep80 n K x1 x2) .nil)
    (by kernel_rfl) (by kernel_rfl) (by kernel_rfl)
end Go.Proofs.YtfbahcfojiaeaaaGreatDoor


set_option linter.unusedVariables false
set_option linter.unusedSimpArgs false
namespace Go.Proofs.YtfbahcfojiaeaaaGreatDoor
open Go Th Go.Proofs
variable {R : Type}
theorem div_sub (n : Nat) (xs q : List PV) (lv : List Nat) (hv : ∀ d ∈ lv, d < 1000000000) (g i : Nat) (hg : g < 1000000000) (hi : i < 2 ^ 40) (hlv : lv.length < 2 ^ 40) :
    ∀ (d m j : Nat) (o : List Nat) (c s : Nat), d + j = lv.length → d < m → i + lv.length ≤ o.length → o.length < 2 ^ 41 → (∀ x ∈ o, x < 1000000000) → c < 1000000000 → s ≤ 1 →
      ∃ (o' : List Nat) (c' s' : Nat), (∀ k0 : List PV → List PV → List PV → Int → List PV → Int → Int → Int → Int → Option R, p80_l22L n m xs (nl .u32 o) (nl .u32 lv) lv.length q i g c s lv.length j k0 = k0 xs (nl .u32 o') (nl .u32 lv) lv.length q i g c' s') ∧
        o'.length = o.length ∧ (∀ x ∈ o', x < 1000000000) ∧ c' < 1000000000 ∧ s' ≤ 1 ∧ o'.drop (i + lv.length) = o.drop (i + lv.length) ∧
        val 1000000000 o' + 1000000000 ^ (i + j) * (c + s) + g * (1000000000 ^ (i + j) * val 1000000000 (lv.drop j)) = val 1000000000 o + 1000000000 ^ (i + lv.length) * (c' + s')
  | 0, m + 1, j, o, c, s, hd, hm, ho, ho2, hlt, hc, hs => by
    have hk : j = lv.length := by omega
    subst hk
    refine ⟨o, c, s, fun k0 => ?_, rfl, hlt, hc, hs, rfl, ?_⟩
    · simp only [p80_l22L, p80_l22B]
      simp (disch := (first | omega | (simp only [List.length_append, List.length_cons, List.length_nil, List.length_replicate, List.length_take, List.length_drop]; omega))) only [↓c_pos, ↓c_neg, dec_t, dec_f, Bool.and_true, Bool.true_and, Bool.and_false, Bool.false_and, Bool.not_true, Bool.not_false, cond_true, cond_false, inR_t, cutR_t, roomB_t, lenOK_t, w64, bs_size, List.length_append, List.length_cons, List.length_nil, bs_extract, bs_append, bs_push, bs_data, bs_empty, bs_lit, catS_bs, eqS_bs, ite_pos', ite_neg', decide_true, decide_false, if_true, if_false, toNatC, getI_nl, nl_len, nl_set, nl_set0, nl_take, nl_drop, nl_rep, nl_app, hdSz_nl, drop0, wu32, wu64, wu8, List.length_set, List.length_replicate]
    · rw [List.drop_length]; simp [val]
  | d + 1, m + 1, j, o, c, s, hd, hm, ho, ho2, hlt, hc, hs => by
    have hx := getD_lt hB2 hv j
    have hz := getD_lt hB2 hlt (i + j)
    have hxy : g * lv.getD j 0 ≤ 999999999 * 999999999 := Nat.mul_le_mul (by omega) (by omega)
    obtain ⟨t, ht⟩ : ∃ t, t = c + g * lv.getD j 0 := ⟨_, rfl⟩
    have ht2 : t / 1000000000 < 1000000000 := by omega
    have htm : t % 1000000000 < 1000000000 := Nat.mod_lt _ (by omega)
    obtain ⟨b, hb⟩ : ∃ b : Nat, b = if o.getD (i + j) 0 < t % 1000000000 + s then 1 else 0 := ⟨_, rfl⟩
    obtain ⟨r, hr⟩ : ∃ r : Nat, r + (t % 1000000000 + s) = o.getD (i + j) 0 + 1000000000 * b := ⟨o.getD (i + j) 0 + 1000000000 * b - (t % 1000000000 + s), by split at hb <;> omega⟩
    have hr2 : r < 1000000000 := by split at hb <;> omega
    have hb1 : b ≤ 1 := by split at hb <;> omega
    obtain ⟨o', c', s', h1, h2, h3, h4, h5, h6, h7⟩ := div_sub n xs q lv hv g i hg hi hlv d m (j + 1) (o.set (i + j) r) (t / 1000000000) b (by omega) (by omega) (by rw [List.length_set]; exact ho) (by rw [List.length_set]; exact ho2) (set_lt hlt hr2 _) ht2 hb1
    refine ⟨o', c', s', fun k0 => ?_, by rw [h2, List.length_set], h3, h4, h5, by rw [h6, List.drop_set_of_lt (by omega)], ?_⟩
    · rw [← h1 k0]
      have e1 : (i : Int) + (j : Int) = ((i + j : Nat) : Int) := by omega
      have e2 : (j : Int) + 1 = ((j + 1 : Nat) : Int) := by omega
      have e4 : (g : Int) * ((lv.getD j 0 : Nat) : Int) = ((g * lv.getD j 0 : Nat) : Int) := by rw [Int.natCast_mul]
      generalize g * lv.getD j 0 = xy at *
      have e3 : (c : Int) + (xy : Int) = (t : Int) := by omega
      have e5 : ((o.getD (i + j) 0 : Nat) : Int) - ((t % 1000000000 : Nat) : Int) - (s : Int) = (r : Int) - 1000000000 * (b : Int) := by omega
      generalize hzz : o.getD (i + j) 0 = z at *
      have hm1 : t < 2 ^ 62 := by omega
      generalize hq : t / 1000000000 = tq at *
      generalize hq2 : t % 1000000000 = tr at *
      simp only [p80_l22L, p80_l22B, p80_c31]
      by_cases hbb : z < tr + s
      · rw [if_pos hbb] at hb
        subst hb
        have e6 : (r : Int) - 1000000000 * ((1 : Nat) : Int) + 1000000000 = (r : Int) := by omega
        simp (disch := (first | omega | (simp only [List.length_append, List.length_cons, List.length_nil, List.length_replicate, List.length_take, List.length_drop]; omega))) only [↓c_pos, ↓c_neg, dec_t, dec_f, Bool.and_true, Bool.true_and, Bool.and_false, Bool.false_and, Bool.not_true, Bool.not_false, cond_true, cond_false, inR_t, cutR_t, roomB_t, lenOK_t, w64, bs_size, List.length_append, List.length_cons, List.length_nil, bs_extract, bs_append, bs_push, bs_data, bs_empty, bs_lit, catS_bs, eqS_bs, ite_pos', ite_neg', decide_true, decide_false, if_true, if_false, toNatC, getI_nl, nl_len, nl_set, nl_set0, nl_take, nl_drop, nl_rep, nl_app, hdSz_nl, drop0, wu32, wu64, wu8, List.length_set, List.length_replicate, e1, e2, e4, e3, tdivB, tmodB, hq, hq2, hzz, e5, e6]
        rfl
      · rw [if_neg hbb] at hb
        subst hb
        have e6 : (r : Int) - 1000000000 * ((0 : Nat) : Int) = (r : Int) := by omega
        simp (disch := (first | omega | (simp only [List.length_append, List.length_cons, List.length_nil, List.length_replicate, List.length_take, List.length_drop]; omega))) only [↓c_pos, ↓c_neg, dec_t, dec_f, Bool.and_true, Bool.true_and, Bool.and_false, Bool.false_and, Bool.not_true, Bool.not_false, cond_true, cond_false, inR_t, cutR_t, roomB_t, lenOK_t, w64, bs_size, List.length_append, List.length_cons, List.length_nil, bs_extract, bs_append, bs_push, bs_data, bs_empty, bs_lit, catS_bs, eqS_bs, ite_pos', ite_neg', decide_true, decide_false, if_true, if_false, toNatC, getI_nl, nl_len, nl_set, nl_set0, nl_take, nl_drop, nl_rep, nl_app, hdSz_nl, drop0, wu32, wu64, wu8, List.length_set, List.length_replicate, e1, e2, e4, e3, tdivB, tmodB, hq, hq2, hzz, e5, e6]
        rfl
    · rw [drop_val_succ (by omega : j < lv.length)]
      have hvs := val_set 1000000000 r (l := o) (i := i + j) (by omega)
      have hmd := Nat.mod_add_div t 1000000000
      rw [show i + (j + 1) = (i + j) + 1 from by omega, Nat.pow_succ] at h7
      generalize 1000000000 ^ (i + j) = P at *
      generalize val 1000000000 (List.drop (j + 1) lv) = V at *
      generalize val 1000000000 (o.set (i + j) r) = W at *
      generalize val 1000000000 o = U at *
      generalize 1000000000 ^ (i + lv.length) = Q at *
      generalize t % 1000000000 = tr at *
      generalize t / 1000000000 = tq at *
      generalize lv.getD j 0 = y at *
      generalize o.getD (i + j) 0 = z at *
      clear h1 h3 h4 h5 hlt hv hb
      have h8 : P * r + P * (tr + s) = P * z + P * (1000000000 * b) := by rw [← Nat.mul_add, ← Nat.mul_add, hr]
      have h9 : P * tr + P * (1000000000 * tq) = P * c + P * (g * y) := by rw [← Nat.mul_add, ← Nat.mul_add, hmd, ht]
      grind
theorem div_back (n : Nat) (xs q : List PV) (lv : List Nat) (hv : ∀ d ∈ lv, d < 1000000000) (g i : Nat) (y : Int) (hi : i < 2 ^ 40) (hlv : lv.length < 2 ^ 40) :
    ∀ (d m j : Nat) (o : List Nat) (c : Nat), d + j = lv.length → d < m → i + lv.length ≤ o.length → o.length < 2 ^ 41 → (∀ x ∈ o, x < 1000000000) → c ≤ 1 →
      ∃ (o' : List Nat) (c' : Nat), (∀ k0 : List PV → List PV → List PV → Int → List PV → Int → Int → Int → Int → Option R, p80_l38L n m xs (nl .u32 o) (nl .u32 lv) lv.length q i g y c lv.length j k0 = k0 xs (nl .u32 o') (nl .u32 lv) lv.length q i g y c') ∧
        o'.length = o.length ∧ (∀ x ∈ o', x < 1000000000) ∧ c' ≤ 1 ∧ o'.drop (i + lv.length) = o.drop (i + lv.length) ∧
        val 1000000000 o' + 1000000000 ^ (i + lv.length) * c' = val 1000000000 o + 1000000000 ^ (i + j) * c + 1000000000 ^ (i + j) * val 1000000000 (lv.drop j)
  | 0, m + 1, j, o, c, hd, hm, ho, ho2, hlt, hc => by
    have hk : j = lv.length := by omega
    subst hk
    refine ⟨o, c, fun k0 => ?_, rfl, hlt, hc, rfl, ?_⟩
    · simp only [p80_l38L, p80_l38B]
      simp (disch := (first | omega | (simp only [List.length_append, List.length_cons, List.length_nil, List.length_replicate, List.length_take, List.length_drop]; omega))) only [↓c_pos, ↓c_neg, dec_t, dec_f, Bool.and_true, Bool.true_and, Bool.and_false, Bool.false_and, Bool.not_true, Bool.not_false, cond_true, cond_false, inR_t, cutR_t, roomB_t, lenOK_t, w64, bs_size, List.length_append, List.length_cons, List.length_nil, bs_extract, bs_append, bs_push, bs_data, bs_empty, bs_lit, catS_bs, eqS_bs, ite_pos', ite_neg', decide_true, decide_false, if_true, if_false, toNatC, getI_nl, nl_len, nl_set, nl_set0, nl_take, nl_drop, nl_rep, nl_app, hdSz_nl, drop0, wu32, wu64, wu8, List.length_set, List.length_replicate]
    · rw [List.drop_length]; simp [val]
  | d + 1, m + 1, j, o, c, hd, hm, ho, ho2, hlt, hc => by
    have hx := getD_lt hB2 hv j
    have hz := getD_lt hB2 hlt (i + j)
    obtain ⟨t, ht⟩ : ∃ t, t = c + (o.getD (i + j) 0 + lv.getD j 0) := ⟨_, rfl⟩
    have ht2 : t / 1000000000 ≤ 1 := by omega
    have htm : t % 1000000000 < 1000000000 := Nat.mod_lt _ (by omega)
    obtain ⟨o', c', h1, h2, h3, h4, h5, h6⟩ := div_back n xs q lv hv g i y hi hlv d m (j + 1) (o.set (i + j) (t % 1000000000)) (t / 1000000000) (by omega) (by omega) (by rw [List.length_set]; exact ho) (by rw [List.length_set]; exact ho2) (set_lt hlt htm _) ht2
    refine ⟨o', c', fun k0 => ?_, by rw [h2, List.length_set], h3, h4, by rw [h5, List.drop_set_of_lt (by omega)], ?_⟩
    · rw [← h1 k0]
      have e1 : (i : Int) + (j : Int) = ((i + j : Nat) : Int) := by omega
      have e2 : (j : Int) + 1 = ((j + 1 : Nat) : Int) := by omega
      have e3 : (c : Int) + (((o.getD (i + j) 0 : Nat) : Int) + ((lv.getD j 0 : Nat) : Int)) = (t : Int) := by omega
      simp only [p80_l38L, p80_l38B]
      simp (disch := (first | omega | (simp only [List.length_append, List.length_cons, List.length_nil, List.length_replicate, List.length_take, List.length_drop]; omega))) only [↓c_pos, ↓c_neg, dec_t, dec_f, Bool.and_true, Bool.true_and, Bool.and_false, Bool.false_and, Bool.not_true, Bool.not_false, cond_true, cond_false, inR_t, cutR_t, roomB_t, lenOK_t, w64, bs_size, List.length_append, List.length_cons, List.length_nil, bs_extract, bs_append, bs_push, bs_data, bs_empty, bs_lit, catS_bs, eqS_bs, ite_pos', ite_neg', decide_true, decide_false, if_true, if_false, toNatC, getI_nl, nl_len, nl_set, nl_set0, nl_take, nl_drop, nl_rep, nl_app, hdSz_nl, drop0, wu32, wu64, wu8, List.length_set, List.length_replicate, e1, e2, e3, tdivB, tmodB]
    · rw [h6, drop_val_succ (by omega : j < lv.length)]
      have hvs := val_set 1000000000 (t % 1000000000) (l := o) (i := i + j) (by omega)
      have hmd := Nat.mod_add_div t 1000000000
      rw [show i + (j + 1) = (i + j) + 1 from by omega, Nat.pow_succ]
      generalize 1000000000 ^ (i + j) = P at *
      generalize val 1000000000 (List.drop (j + 1) lv) = V at *
      generalize val 1000000000 (o.set (i + j) (t % 1000000000)) = W at *
      generalize val 1000000000 o = U at *
      generalize 1000000000 ^ (i + lv.length) = Q at *
      generalize t % 1000000000 = tr at *
      generalize t / 1000000000 = tq at *
      generalize lv.getD j 0 = y at *
      generalize o.getD (i + j) 0 = z at *
      clear h1 h3 h4 h5 hlt hv
      have h9 : P * tr + P * (1000000000 * tq) = P * c + (P * z + P * y) := by rw [← Nat.mul_add, ← Nat.mul_add, ← Nat.mul_add, hmd, ht]
      grind
theorem div_guess (n : Nat) (xs q : List PV) (lu lv : List Nat) (hu : ∀ d ∈ lu, d < 1000000000) (hv : ∀ d ∈ lv, d < 1000000000) (i : Nat) (hi : i < 2 ^ 40) (hlv : lv.length < 2 ^ 40) (h2 : 2 ≤ lv.length) (hul : i + lv.length < lu.length) (hul2 : lu.length < 2 ^ 41)
    (v1 v2 u3 U2 : Nat) (hv1 : lv.getD (lv.length - 1) 0 = v1) (hv2 : lv.getD (lv.length - 2) 0 = v2) (hu3 : lu.getD (i + lv.length - 2) 0 = u3) (hU2 : U2 < v1 * 1000000000 + 1000000000) :
    ∀ (m g r : Nat), g < 2 ^ 31 → r < 1000000000 → 1000000000 ≤ r + m * v1 → g * v1 + r = U2 → (∀ x, x < 1000000000 → x * (v1 * 1000000000 + v2) ≤ U2 * 1000000000 + u3 → x ≤ g) →
      ∃ g' : Nat, (∀ k0 : List PV → List PV → List PV → Int → List PV → Int → Int → Option R, p80_l16L n m xs (nl .u32 lu) (nl .u32 lv) lv.length q i g r k0 = k0 xs (nl .u32 lu) (nl .u32 lv) lv.length q i g') ∧
        g' < 1000000000 ∧ g' * (v1 * 1000000000 + v2) ≤ U2 * 1000000000 + u3 ∧ (∀ x, x < 1000000000 → x * (v1 * 1000000000 + v2) ≤ U2 * 1000000000 + u3 → x ≤ g')
  | 0, g, r, hg, hr, hm, hinv, hmax => by omega
  | m + 1, g, r, hg, hr, hm, hinv, hmax => by
    have hb1 : v1 < 1000000000 := by rw [← hv1]; exact getD_lt hB2 hv _
    have hb2 : v2 < 1000000000 := by rw [← hv2]; exact getD_lt hB2 hv _
    have hb3 : u3 < 1000000000 := by rw [← hu3]; exact getD_lt hB2 hu _
    have e1 : (lv.length : Int) - 1 = ((lv.length - 1 : Nat) : Int) := by omega
    have e2 : (lv.length : Int) - 2 = ((lv.length - 2 : Nat) : Int) := by omega
    have e3 : (i : Int) + (lv.length : Int) = ((i + lv.length : Nat) : Int) := by omega
    have e4 : ((i + lv.length : Nat) : Int) - 2 = ((i + lv.length - 2 : Nat) : Int) := by omega
    have e5 : (g : Int) * (v2 : Int) = ((g * v2 : Nat) : Int) := by rw [Int.natCast_mul]
    have e6 : (r : Int) * 1000000000 = ((r * 1000000000 : Nat) : Int) := by omega
    have e7 : ((r * 1000000000 : Nat) : Int) + (u3 : Int) = ((r * 1000000000 + u3 : Nat) : Int) := by omega
    have e8 : (r : Int) + (v1 : Int) = ((r + v1 : Nat) : Int) := by omega
    have hgv : g * v2 ≤ 2 ^ 31 * 1000000000 := Nat.mul_le_mul (by omega) (by omega)
    have hkey : g * (v1 * 1000000000 + v2) + r * 1000000000 = U2 * 1000000000 + g * v2 := by rw [← hinv]; grind
    by_cases hc : 1000000000 ≤ g ∨ r * 1000000000 + u3 < g * v2
    · have hg1 : 1 ≤ g := by
        rcases Nat.eq_zero_or_pos g with h0 | h0
        · subst h0; simp at hc
        · exact h0
      obtain ⟨p, rfl⟩ : ∃ p, g = p + 1 := ⟨g - 1, by omega⟩
      have e9 : ((p + 1 : Nat) : Int) - 1 = (p : Int) := by omega
      have hinv' : p * v1 + (r + v1) = U2 := by rw [← hinv, Nat.succ_mul]; omega
      have hkey' : p * (v1 * 1000000000 + v2) + (r + v1) * 1000000000 = U2 * 1000000000 + p * v2 := by rw [← hinv']; grind
      have hmax' : ∀ x, x < 1000000000 → x * (v1 * 1000000000 + v2) ≤ U2 * 1000000000 + u3 → x ≤ p := by
        intro x hx hxu
        have := hmax x hx hxu
        by_cases hxp : x = p + 1
        · subst hxp; exfalso; omega
        · omega
      by_cases hr2 : 1000000000 ≤ r + v1
      · have hpb : p < 1000000000 := by
          apply Nat.lt_of_not_le
          intro hp
          have : 1000000000 * v1 ≤ p * v1 := Nat.mul_le_mul_right _ hp
          omega
        have hpv : p * v2 ≤ 1000000000 * 1000000000 := Nat.mul_le_mul (by omega) (by omega)
        refine ⟨p, fun k0 => ?_, hpb, by omega, hmax'⟩
        simp only [p80_l16L, p80_l16B, p80_c17]
        by_cases h1 : 1000000000 ≤ p + 1
        · simp (disch := (first | omega | (simp only [List.length_append, List.length_cons, List.length_nil, List.length_replicate, List.length_take, List.length_drop]; omega))) only [↓c_pos, ↓c_neg, dec_t, dec_f, Bool.and_true, Bool.true_and, Bool.and_false, Bool.false_and, Bool.not_true, Bool.not_false, cond_true, cond_false, inR_t, cutR_t, roomB_t, lenOK_t, w64, bs_size, List.length_append, List.length_cons, List.length_nil, bs_extract, bs_append, bs_push, bs_data, bs_empty, bs_lit, catS_bs, eqS_bs, ite_pos', ite_neg', decide_true, decide_false, if_true, if_false, toNatC, getI_nl, nl_len, nl_set, nl_set0, nl_take, nl_drop, nl_rep, nl_app, hdSz_nl, drop0, wu32, wu64, wu8, List.length_set, List.length_replicate, e1, e2, e3, e4, hv1, hv2, hu3, e5, e6, e7, e8, e9]
        · simp (disch := (first | omega | (simp only [List.length_append, List.length_cons, List.length_nil, List.length_replicate, List.length_take, List.length_drop]; omega))) only [↓c_pos, ↓c_neg, dec_t, dec_f, Bool.and_true, Bool.true_and, Bool.and_false, Bool.false_and, Bool.not_true, Bool.not_false, cond_true, cond_false, inR_t, cutR_t, roomB_t, lenOK_t, w64, bs_size, List.length_append, List.length_cons, List.length_nil, bs_extract, bs_append, bs_push, bs_data, bs_empty, bs_lit, catS_bs, eqS_bs, ite_pos', ite_neg', decide_true, decide_false, if_true, if_false, toNatC, getI_nl, nl_len, nl_set, nl_set0, nl_take, nl_drop, nl_rep, nl_app, hdSz_nl, drop0, wu32, wu64, wu8, List.length_set, List.length_replicate, e1, e2, e3, e4, hv1, hv2, hu3, e5, e6, e7, e8, e9]
      · obtain ⟨g', h1, h3, h4, h5⟩ := div_guess n xs q lu lv hu hv i hi hlv h2 hul hul2 v1 v2 u3 U2 hv1 hv2 hu3 hU2 m p (r + v1) (by omega) (by omega) (by rw [Nat.succ_mul] at hm; omega) hinv' hmax'
        refine ⟨g', fun k0 => ?_, h3, h4, h5⟩
        rw [← h1 k0]
        simp only [p80_l16L, p80_l16B, p80_c17]
        by_cases h1 : 1000000000 ≤ p + 1
        · simp (disch := (first | omega | (simp only [List.length_append, List.length_cons, List.length_nil, List.length_replicate, List.length_take, List.length_drop]; omega))) only [↓c_pos, ↓c_neg, dec_t, dec_f, Bool.and_true, Bool.true_and, Bool.and_false, Bool.false_and, Bool.not_true, Bool.not_false, cond_true, cond_false, inR_t, cutR_t, roomB_t, lenOK_t, w64, bs_size, List.length_append, List.length_cons, List.length_nil, bs_extract, bs_append, bs_push, bs_data, bs_empty, bs_lit, catS_bs, eqS_bs, ite_pos', ite_neg', decide_true, decide_false, if_true, if_false, toNatC, getI_nl, nl_len, nl_set, nl_set0, nl_take, nl_drop, nl_rep, nl_app, hdSz_nl, drop0, wu32, wu64, wu8, List.length_set, List.length_replicate, e1, e2, e3, e4, hv1, hv2, hu3, e5, e6, e7, e8, e9]
        · simp (disch := (first | omega | (simp only [List.length_append, List.length_cons, List.length_nil, List.length_replicate, List.length_take, List.length_drop]; omega))) only [↓c_pos, ↓c_neg, dec_t, dec_f, Bool.and_true, Bool.true_and, Bool.and_false, Bool.false_and, Bool.not_true, Bool.not_false, cond_true, cond_false, inR_t, cutR_t, roomB_t, lenOK_t, w64, bs_size, List.length_append, List.length_cons, List.length_nil, bs_extract, bs_append, bs_push, bs_data, bs_empty, bs_lit, catS_bs, eqS_bs, ite_pos', ite_neg', decide_true, decide_false, if_true, if_false, toNatC, getI_nl, nl_len, nl_set, nl_set0, nl_take, nl_drop, nl_rep, nl_app, hdSz_nl, drop0, wu32, wu64, wu8, List.length_set, List.length_replicate, e1, e2, e3, e4, hv1, hv2, hu3, e5, e6, e7, e8, e9]
    · have hc1 : g < 1000000000 := by omega
      have hc2 : g * v2 ≤ r * 1000000000 + u3 := by omega
      refine ⟨g, fun k0 => ?_, hc1, by omega, hmax⟩
      simp only [p80_l16L, p80_l16B]
      simp (disch := (first | omega | (simp only [List.length_append, List.length_cons, List.length_nil, List.length_replicate, List.length_take, List.length_drop]; omega))) only [↓c_pos, ↓c_neg, dec_t, dec_f, Bool.and_true, Bool.true_and, Bool.and_false, Bool.false_and, Bool.not_true, Bool.not_false, cond_true, cond_false, inR_t, cutR_t, roomB_t, lenOK_t, w64, bs_size, List.length_append, List.length_cons, List.length_nil, bs_extract, bs_append, bs_push, bs_data, bs_empty, bs_lit, catS_bs, eqS_bs, ite_pos', ite_neg', decide_true, decide_false, if_true, if_false, toNatC, getI_nl, nl_len, nl_set, nl_set0, nl_take, nl_drop, nl_rep, nl_app, hdSz_nl, drop0, wu32, wu64, wu8, List.length_set, List.length_replicate, e1, e2, e3, e4, hv1, hv2, hu3, e5, e6, e7, e8]
end Go.Proofs.YtfbahcfojiaeaaaGreatDoor


set_option linter.unusedVariables false
namespace Go.Proofs.YtfbahcfojiaeaaaGreatDoor
theorem knuth {B D U P Vl Wl V W g : Nat} (hV : V = D * P + Vl) (hW : W = U * P + Wl) (hVl : Vl < P) (hWl : Wl < P) (hD : B ≤ D) (hg : g < B) (hgU : g * D ≤ U)
    (hmax : ∀ x, x < B → x * D ≤ U → x ≤ g) (hWV : W < B * V) : W / V ≤ g ∧ g * V < W + V := by
  have hP : 0 < P := by omega
  have hD0 : 0 < D := by omega
  have hDP : 0 < D * P := Nat.mul_pos hD0 hP
  have hV0 : 0 < V := by omega
  constructor
  · apply hmax
    · exact Nat.div_lt_of_lt_mul (by rw [Nat.mul_comm]; exact hWV)
    · have h1 : W / V * V ≤ W := Nat.div_mul_le_self W V
      generalize W / V = Q at *
      apply Nat.le_of_not_lt
      intro h
      have h2 : (U + 1) * P ≤ Q * D * P := Nat.mul_le_mul_right _ h
      rw [hV, Nat.mul_add, ← Nat.mul_assoc] at h1
      rw [Nat.succ_mul] at h2
      have h3 : 0 ≤ Q * Vl := Nat.zero_le _
      omega
  · have h1 : g * D * P ≤ U * P := Nat.mul_le_mul_right _ hgU
    have h2 : g * Vl ≤ B * P := Nat.mul_le_mul (by omega) (by omega)
    have h3 : B * P ≤ D * P := Nat.mul_le_mul_right _ hD
    have h4 : g * Vl < B * P ∨ g * Vl = 0 := by
      rcases Nat.eq_zero_or_pos Vl with h0 | h0
      · right; rw [h0, Nat.mul_zero]
      · left; exact Nat.mul_lt_mul_of_lt_of_lt hg hVl
    rw [hV, Nat.mul_add, ← Nat.mul_assoc, hW]
    rcases h4 with h4 | h4 <;> omega
theorem val_drop_step (b : Nat) (l : List Nat) (i : Nat) : val b (l.drop i) = l.getD i 0 + b * val b (l.drop (i + 1)) := by
  by_cases h : i < l.length
  · rw [List.drop_eq_getElem_cons h, val, List.getD_eq_getElem?_getD, List.getElem?_eq_getElem h]; rfl
  · rw [List.drop_eq_nil_of_le (by omega), List.drop_eq_nil_of_le (by omega), getD_out (by omega)]; simp [val]
theorem val_drop_zero {b : Nat} (hb : 2 ≤ b) (l : List Nat) (k : Nat) (h : val b l < b ^ k) : val b (l.drop k) = 0 := by
  by_cases hk : k ≤ l.length
  · have h1 := val_drop b l k hk
    rcases Nat.eq_zero_or_pos (val b (l.drop k)) with h0 | h0
    · exact h0
    · have : b ^ k * 1 ≤ b ^ k * val b (l.drop k) := Nat.mul_le_mul_left _ h0
      omega
  · rw [List.drop_eq_nil_of_le (by omega)]; rfl
theorem leading {B : Nat} (hB : 2 ≤ B) (o lv : List Nat) (ho : ∀ d ∈ o, d < B) (hv : ∀ d ∈ lv, d < B) (i : Nat) (h2 : 2 ≤ lv.length) (hi : i + lv.length < o.length) (hW : val B (o.drop i) < B * val B lv) :
    ∃ Vl Wl, val B lv = (lv.getD (lv.length - 1) 0 * B + lv.getD (lv.length - 2) 0) * B ^ (lv.length - 2) + Vl ∧ Vl < B ^ (lv.length - 2) ∧
      val B (o.drop i) = ((o.getD (i + lv.length) 0 * B + o.getD (i + lv.length - 1) 0) * B + o.getD (i + lv.length - 2) 0) * B ^ (lv.length - 2) + Wl ∧ Wl < B ^ (lv.length - 2) ∧
      o.getD (i + lv.length) 0 * B + o.getD (i + lv.length - 1) 0 < lv.getD (lv.length - 1) 0 * B + B := by
  have hVlt := val_lt hB lv hv
  have hWlt : val B (o.drop i) < B ^ (lv.length + 1) := by
    rw [Nat.pow_succ, Nat.mul_comm _ B]
    exact Nat.lt_of_lt_of_le hW (Nat.mul_le_mul_left _ (Nat.le_of_lt hVlt))
  have hz := val_drop_zero hB _ _ hWlt
  rw [List.drop_drop] at hz
  have hoi : ∀ d ∈ o.drop i, d < B := fun d hd => ho d (List.mem_of_mem_drop hd)
  have a1 := val_drop B lv (lv.length - 2) (by omega)
  have a2 := val_drop_step B lv (lv.length - 2)
  have a3 := val_drop_step B lv (lv.length - 1)
  rw [show lv.length - 2 + 1 = lv.length - 1 from by omega] at a2
  rw [show lv.length - 1 + 1 = lv.length from by omega, List.drop_length, show val B [] = 0 from rfl, Nat.mul_zero, Nat.add_zero] at a3
  rw [a3] at a2; rw [a2] at a1
  have b1 := val_drop B (o.drop i) (lv.length - 2) (by rw [List.length_drop]; omega)
  rw [List.drop_drop] at b1
  have b2 := val_drop_step B o (i + (lv.length - 2))
  have b3 := val_drop_step B o (i + lv.length - 1)
  have b4 := val_drop_step B o (i + lv.length)
  rw [show i + (lv.length - 2) + 1 = i + lv.length - 1 from by omega] at b2
  rw [show i + lv.length - 1 + 1 = i + lv.length from by omega] at b3
  rw [show i + lv.length + 1 = i + (lv.length + 1) from by omega, hz, Nat.mul_zero, Nat.add_zero] at b4
  rw [show i + (lv.length - 2) = i + lv.length - 2 from by omega] at b2 b1
  rw [b4] at b3; rw [b3] at b2; rw [b2] at b1
  have c1 := val_take_lt hB hv (i := lv.length - 2) (by omega)
  have c2 := val_take_lt hB hoi (i := lv.length - 2) (by rw [List.length_drop]; omega)
  have hP : 0 < B ^ (lv.length - 2) := Nat.pow_pos (by omega)
  have hv2 : lv.getD (lv.length - 2) 0 < B := getD_lt hB hv _
  generalize B ^ (lv.length - 2) = P at *
  generalize val B (List.take (lv.length - 2) lv) = Vl at *
  generalize val B (List.take (lv.length - 2) (o.drop i)) = Wl at *
  generalize val B lv = V at *
  generalize val B (o.drop i) = W at *
  generalize lv.getD (lv.length - 1) 0 = v1 at *
  generalize lv.getD (lv.length - 2) 0 = v2 at *
  generalize o.getD (i + lv.length) 0 = z at *
  generalize o.getD (i + lv.length - 1) 0 = z1 at *
  generalize o.getD (i + lv.length - 2) 0 = z2 at *
  clear a2 a3 b2 b3 b4 hz hVlt hWlt
  refine ⟨Vl, Wl, by rw [a1]; grind, c1, by rw [b1]; grind, c2, ?_⟩
  apply Nat.lt_of_not_le
  intro h
  have d1 : (v1 * B + B) * (B * P) ≤ (z * B + z1) * (B * P) := Nat.mul_le_mul_right _ h
  have d2 : V < (v1 + 1) * (B * P) := by
    have : v2 * P + P ≤ B * P := by rw [← Nat.succ_mul]; exact Nat.mul_le_mul_right _ hv2
    rw [a1]; grind
  have d3 : B * V < B * ((v1 + 1) * (B * P)) := Nat.mul_lt_mul_of_pos_left d2 (by omega)
  grind
theorem borrow {Bi P V W g t1 z cs vo vo1 lo : Nat} (r2 : vo1 = t1 + P * z) (r3 : vo = lo + Bi * W) (r4 : lo < Bi) (r5 : t1 < P) (q7 : vo1 + g * (Bi * V) = vo + P * cs) :
    (cs ≤ z → g * V ≤ W) ∧ (z < cs → W < g * V) := by
  have e : g * (Bi * V) = Bi * (g * V) := by grind
  rw [e] at q7
  constructor
  · intro h
    have h1 : P * cs ≤ P * z := Nat.mul_le_mul_left _ h
    have h2 : Bi * (g * V) < Bi * (W + 1) := by rw [Nat.mul_succ]; omega
    exact Nat.le_of_lt_succ (Nat.lt_of_mul_lt_mul_left h2)
  · intro h
    have h1 : P * (z + 1) ≤ P * cs := Nat.mul_le_mul_left _ h
    rw [Nat.mul_succ] at h1
    have h2 : Bi * W < Bi * (g * V) := by omega
    exact Nat.lt_of_mul_lt_mul_left h2
end Go.Proofs.YtfbahcfojiaeaaaGreatDoor


set_option linter.unusedVariables false
set_option linter.unusedSimpArgs false
namespace Go.Proofs.YtfbahcfojiaeaaaGreatDoor
open Go Th Go.Proofs
variable {R : Type}
theorem back {B Bi BL P V W p r t2 z cs c2 vo vo1 vo2 lo : Nat} (hBi : 0 < Bi) (hP : P = Bi * BL) (r7 : vo2 = t2 + P * z) (r8 : t2 < P) (r3 : vo = lo + Bi * W) (r4 : lo < Bi) (hm1 : W = p * V + r) (hm2 : r < BL)
    (q7 : vo1 + (p + 1) * (Bi * V) = vo + P * cs) (d6 : vo2 + P * c2 = vo1 + Bi * V) : z + c2 = cs ∧ t2 + Bi * (p * V) = vo := by
  have e1 : (p + 1) * (Bi * V) = Bi * (p * V) + Bi * V := by grind
  rw [e1] at q7
  have e2 : Bi * W = Bi * (p * V) + Bi * r := by rw [hm1, Nat.mul_add]
  have e3 : Bi * r + Bi ≤ P := by rw [hP, ← Nat.mul_succ]; exact Nat.mul_le_mul_left _ hm2
  have e4 : t2 + P * z + P * c2 = lo + Bi * r + P * cs := by omega
  rw [Nat.add_assoc, ← Nat.mul_add] at e4
  have h0 : 0 < P := by omega
  have h1 : z + c2 = cs := by
    have a1 : (t2 + P * (z + c2)) / P = z + c2 := by rw [Nat.add_mul_div_left _ _ h0, Nat.div_eq_of_lt r8, Nat.zero_add]
    have a2 : (lo + Bi * r + P * cs) / P = cs := by rw [Nat.add_mul_div_left _ _ h0, Nat.div_eq_of_lt (by omega), Nat.zero_add]
    rw [← a1, e4, a2]
  refine ⟨h1, ?_⟩
  rw [h1] at e4
  omega
set_option maxHeartbeats 4000000 in
set_option maxHeartbeats 4000000 in
theorem div_step (n m : Nat) (xs : List PV) (o lv lq : List Nat) (ho : ∀ d ∈ o, d < 1000000000) (hv : ∀ d ∈ lv, d < 1000000000) (hq : ∀ d ∈ lq, d < 1000000000) (i : Nat) (h2 : 2 ≤ lv.length) (hil : i + lv.length < o.length) (hiq : i < lq.length) (hol : o.length < 2 ^ 40)
    (hn : lv.length + 2 < n) (hv1 : 500000000 ≤ lv.getD (lv.length - 1) 0) (hW : val 1000000000 (o.drop i) < 1000000000 * val 1000000000 lv) :
    ∃ o' : List Nat, (∀ k0 : List PV → List PV → List PV → Option R, p80_l12L n (m + 1) xs (nl .u32 o) (nl .u32 lv) lv.length (nl .u32 lq) i k0 = p80_l12L n m xs (nl .u32 o') (nl .u32 lv) lv.length (nl .u32 (lq.set i (val 1000000000 (o.drop i) / val 1000000000 lv))) ((i : Int) - 1) k0) ∧
      o'.length = o.length ∧ (∀ d ∈ o', d < 1000000000) ∧ val 1000000000 o' + 1000000000 ^ i * (val 1000000000 (o.drop i) / val 1000000000 lv * val 1000000000 lv) = val 1000000000 o := by
  obtain ⟨Vl, Wl, f1, f2, f3, f4, f5⟩ := leading hB2 o lv ho hv i h2 hil hW
  have hb1 := getD_lt hB2 hv (lv.length - 1)
  have hb2 := getD_lt hB2 hv (lv.length - 2)
  have hbz := getD_lt hB2 ho (i + lv.length)
  have hbz1 := getD_lt hB2 ho (i + lv.length - 1)
  have hbz2 := getD_lt hB2 ho (i + lv.length - 2)
  obtain ⟨U2, hU2⟩ : ∃ U2, U2 = o.getD (i + lv.length) 0 * 1000000000 + o.getD (i + lv.length - 1) 0 := ⟨_, rfl⟩
  rw [← hU2] at f3 f5
  obtain ⟨v1, hv1e⟩ : ∃ v1, lv.getD (lv.length - 1) 0 = v1 := ⟨_, rfl⟩
  obtain ⟨v2, hv2e⟩ : ∃ v2, lv.getD (lv.length - 2) 0 = v2 := ⟨_, rfl⟩
  obtain ⟨u3, hu3e⟩ : ∃ u3, o.getD (i + lv.length - 2) 0 = u3 := ⟨_, rfl⟩
  obtain ⟨z, hze⟩ : ∃ z, o.getD (i + lv.length) 0 = z := ⟨_, rfl⟩
  obtain ⟨z1, hz1e⟩ : ∃ z1, o.getD (i + lv.length - 1) 0 = z1 := ⟨_, rfl⟩
  rw [hv1e, hv2e] at f1
  rw [hu3e] at f3
  rw [hv1e] at f5 hb1 hv1
  rw [hv2e] at hb2; rw [hze] at hbz hU2; rw [hz1e] at hbz1 hU2; rw [hu3e] at hbz2
  have hdm := Nat.div_add_mod' U2 v1
  have hmod : U2 % v1 < v1 := Nat.mod_lt _ (by omega)
  have hdv0 : U2 < v1 * 2147483648 := Nat.lt_of_lt_of_le f5 (by rw [show v1 * 2147483648 = v1 * 1000000000 + v1 * 1147483648 from by rw [← Nat.mul_add]]; exact Nat.add_le_add_left (by clear f1 f2 f3 f4 f5 hdm hmod hU2; omega) _)
  have hdv : U2 / v1 < 2147483648 := Nat.div_lt_of_lt_mul hdv0
  obtain ⟨g, hg1, hg2, hg3, hg4⟩ := div_guess (R := R) n xs (nl .u32 lq) o lv ho hv i (by omega) (by omega) h2 hil (by omega) v1 v2 u3 U2 hv1e hv2e hu3e f5 n (U2 / v1) (U2 % v1) hdv (by omega)
    (by have : 3 * v1 ≤ n * v1 := Nat.mul_le_mul_right _ (by omega)
        omega) hdm
    (by intro x hx hxu
        rw [Nat.le_div_iff_mul_le (by omega)]
        apply Nat.le_of_not_lt
        intro h
        have h3 : (U2 + 1) * 1000000000 ≤ x * v1 * 1000000000 := Nat.mul_le_mul_right _ h
        rw [Nat.mul_add, ← Nat.mul_assoc] at hxu
        have : 0 ≤ x * v2 := Nat.zero_le _
        omega)
  obtain ⟨k1, k2⟩ := knuth (B := 1000000000) f1 f3 f2 f4 (by omega) hg2 hg3 hg4 hW
  obtain ⟨o1, c1, s1, q1, q2, q3, q4, q5, q6, q7⟩ := div_sub (R := R) n xs (nl .u32 lq) lv hv g i hg2 (by omega) (by omega) lv.length n 0 o 0 0 (by omega) (by omega) (by omega) (by omega) ho (by omega) (by omega)
  have hz' : o1.getD (i + lv.length) 0 = z := by
    rw [← hze]
    have h := congrArg (fun l => l.getD 0 0) q6
    simpa [List.getD_eq_getElem?_getD] using h
  have r1 := val_drop 1000000000 o (i + lv.length) (by omega)
  have r2 := val_drop 1000000000 o1 (i + lv.length) (by omega)
  have r3 := val_drop 1000000000 o i (by omega)
  have r4 := val_take_lt hB2 ho (i := i) (by omega)
  have r5 := val_take_lt hB2 q3 (i := i + lv.length) (by omega)
  rw [q6] at r2
  have r6 : val 1000000000 (o.drop (i + lv.length)) = z := by
    have hWlt : val 1000000000 (o.drop i) < 1000000000 ^ (lv.length + 1) := by
      rw [Nat.pow_succ, Nat.mul_comm _ 1000000000]
      exact Nat.lt_of_lt_of_le hW (Nat.mul_le_mul_left _ (Nat.le_of_lt (val_lt hB2 lv hv)))
    have hz := val_drop_zero hB2 _ _ hWlt
    rw [List.drop_drop] at hz
    rw [val_drop_step, show i + lv.length + 1 = i + (lv.length + 1) from by omega, hz, hze, Nat.mul_zero, Nat.add_zero]
  rw [r6] at r1 r2
  simp only [Nat.add_zero, Nat.mul_zero, List.drop_zero] at q7
  obtain ⟨b1, b2⟩ := borrow r2 r3 r4 r5 q7
  have hV0 : 0 < val 1000000000 lv := by
    rcases Nat.eq_zero_or_pos (val 1000000000 lv) with h0 | h0
    · rw [h0] at hW; omega
    · exact h0
  by_cases hcs : c1 + s1 ≤ z
  · have hQ : val 1000000000 (o.drop i) / val 1000000000 lv = g := Nat.le_antisymm k1 ((Nat.le_div_iff_mul_le hV0).2 (b1 hcs))
    rw [hQ]
    have hgu : g < 4294967296 := by omega
    have w1 : (i : Int) + (lv.length : Int) = ((i + lv.length : Nat) : Int) := by omega
    have w2 : ((i + lv.length : Nat) : Int) - 1 = ((i + lv.length - 1 : Nat) : Int) := by omega
    have w3 : (lv.length : Int) - 1 = ((lv.length - 1 : Nat) : Int) := by omega
    have w4 : (z : Int) * 1000000000 + (z1 : Int) = (U2 : Int) := by omega
    have w5 : (z : Int) - (c1 : Int) - (s1 : Int) = ((z - (c1 + s1) : Nat) : Int) := by omega
    refine ⟨o1.set (i + lv.length) (z - (c1 + s1)), fun k0 => ?_, by rw [List.length_set, q2], set_lt q3 (by omega) _, ?_⟩
    · clear f1 f2 f3 f4 f5 hg3 hg4 q7 r1 r2 r3 r4 r5 r6 b1 b2 hQ hW k1 k2 hdm q6 q3 hq ho hv
      have q1' : ∀ k0 : List PV → List PV → List PV → Int → List PV → Int → Int → Int → Int → Option R, p80_l22L n n xs (nl .u32 o) (nl .u32 lv) lv.length (nl .u32 lq) i g 0 0 lv.length 0 k0 = k0 xs (nl .u32 o1) (nl .u32 lv) lv.length (nl .u32 lq) i g c1 s1 := q1
      have t1 : Int.tdiv (U2 : Int) (v1 : Int) = ((U2 / v1 : Nat) : Int) := tdivN _ _
      have t2 : Int.tmod (U2 : Int) (v1 : Int) = ((U2 % v1 : Nat) : Int) := tmodN _ _
      generalize U2 / v1 = g0 at *
      generalize U2 % v1 = r0 at *
      clear q1
      simp only [p80_l12L, p80_l12B, p80_l16, p80_l22, p80_c45, p80_c13]
      simp (disch := (first | omega | (simp only [List.length_append, List.length_cons, List.length_nil, List.length_replicate, List.length_take, List.length_drop]; omega))) only [↓c_pos, ↓c_neg, dec_t, dec_f, Bool.and_true, Bool.true_and, Bool.and_false, Bool.false_and, Bool.not_true, Bool.not_false, cond_true, cond_false, inR_t, cutR_t, roomB_t, lenOK_t, w64, bs_size, List.length_append, List.length_cons, List.length_nil, bs_extract, bs_append, bs_push, bs_data, bs_empty, bs_lit, catS_bs, eqS_bs, ite_pos', ite_neg', decide_true, decide_false, if_true, if_false, toNatC, getI_nl, nl_len, nl_set, nl_set0, nl_take, nl_drop, nl_rep, nl_app, hdSz_nl, drop0, wu32, wu64, wu8, List.length_set, List.length_replicate, w1, w2, w3, hze, hz1e, hv1e, w4, t1, t2, hg1, q1', hz', w5, q2]
    · have hs := val_set 1000000000 (z - (c1 + s1)) (l := o1) (i := i + lv.length) (by omega)
      rw [hz'] at hs
      have e2 : 1000000000 ^ (i + lv.length) * z = 1000000000 ^ (i + lv.length) * (z - (c1 + s1)) + 1000000000 ^ (i + lv.length) * (c1 + s1) := by rw [← Nat.mul_add]; congr 1; omega
      have e3 : g * (1000000000 ^ i * val 1000000000 lv) = 1000000000 ^ i * (g * val 1000000000 lv) := by grind
      rw [e3] at q7
      generalize 1000000000 ^ (i + lv.length) * z = A1 at *
      omega
  · have hQ : val 1000000000 (o.drop i) / val 1000000000 lv + 1 = g := by
      have h1 := b2 (Nat.lt_of_not_le hcs)
      have h3 : val 1000000000 (o.drop i) / val 1000000000 lv < g := (Nat.div_lt_iff_lt_mul hV0).2 h1
      obtain ⟨p, rfl⟩ : ∃ p, g = p + 1 := ⟨g - 1, (Nat.succ_pred_eq_of_pos (Nat.lt_of_le_of_lt (Nat.zero_le _) h3)).symm⟩
      have h4 : p ≤ val 1000000000 (o.drop i) / val 1000000000 lv := (Nat.le_div_iff_mul_le hV0).2 (by rw [Nat.succ_mul] at k2; omega)
      omega
    obtain ⟨p, rfl⟩ : ∃ p, g = p + 1 := ⟨val 1000000000 (o.drop i) / val 1000000000 lv, hQ.symm⟩
    have hQ' : val 1000000000 (o.drop i) / val 1000000000 lv = p := by omega
    rw [hQ']
    obtain ⟨o2, c2, d1, d2, d3, d4, d5, d6⟩ := div_back (R := R) n xs (nl .u32 lq) lv hv p i ((z : Int) - (c1 : Int) - (s1 : Int)) (by omega) (by omega) lv.length n 0 o1 0 (by omega) (by omega) (by omega) (by omega) q3 (by omega)
    simp only [Nat.add_zero, Nat.mul_zero, List.drop_zero] at d6
    have hz2 : o2.getD (i + lv.length) 0 = z := by
      rw [← hz']
      have h := congrArg (fun l => l.getD 0 0) d5
      simpa [List.getD_eq_getElem?_getD] using h
    have r7 := val_drop 1000000000 o2 (i + lv.length) (by omega)
    have r8 := val_take_lt hB2 d3 (i := i + lv.length) (by omega)
    rw [d5, q6, r6] at r7
    have hm1 : val 1000000000 (o.drop i) = p * val 1000000000 lv + val 1000000000 (o.drop i) % val 1000000000 lv := by
      rw [← hQ', Nat.div_add_mod']
    have hm2 : val 1000000000 (o.drop i) % val 1000000000 lv < 1000000000 ^ lv.length := Nat.lt_trans (Nat.mod_lt _ hV0) (val_lt hB2 lv hv)
    obtain ⟨top, low⟩ := back (B := 1000000000) (Nat.pow_pos (by omega) : 0 < 1000000000 ^ i) (by rw [Nat.pow_add]) r7 r8 r3 r4 hm1 hm2 q7 d6
    have hs := val_set 1000000000 0 (l := o2) (i := i + lv.length) (by omega)
    rw [hz2, Nat.mul_zero, Nat.add_zero] at hs
    refine ⟨o2.set (i + lv.length) 0, fun k0 => ?_, by rw [List.length_set, d2, q2], set_lt d3 (by omega) _, ?_⟩
    · have w1 : (i : Int) + (lv.length : Int) = ((i + lv.length : Nat) : Int) := by omega
      have w2 : ((i + lv.length : Nat) : Int) - 1 = ((i + lv.length - 1 : Nat) : Int) := by omega
      have w3 : (lv.length : Int) - 1 = ((lv.length - 1 : Nat) : Int) := by omega
      have w4 : (z : Int) * 1000000000 + (z1 : Int) = (U2 : Int) := by omega
      have w5 : ((p + 1 : Nat) : Int) - 1 = (p : Int) := by omega
      have w6 : (z : Int) - (c1 : Int) - (s1 : Int) + (c2 : Int) = ((0 : Nat) : Int) := by omega
      have hgu : p + 1 < 4294967296 := by omega
      clear f1 f2 f3 f4 f5 hg3 hg4 q7 r1 r2 r3 r4 r5 r6 b1 b2 hQ hQ' hW k1 k2 hdm q6 q3 hq ho hv r7 r8 hm1 hm2 low hs d3 d5 d6
      have q1' : ∀ k0 : List PV → List PV → List PV → Int → List PV → Int → Int → Int → Int → Option R, p80_l22L n n xs (nl .u32 o) (nl .u32 lv) lv.length (nl .u32 lq) i ((p + 1 : Nat) : Int) 0 0 lv.length 0 k0 = k0 xs (nl .u32 o1) (nl .u32 lv) lv.length (nl .u32 lq) i ((p + 1 : Nat) : Int) c1 s1 := q1
      have d1' : ∀ k0 : List PV → List PV → List PV → Int → List PV → Int → Int → Int → Int → Option R, p80_l38L n n xs (nl .u32 o1) (nl .u32 lv) lv.length (nl .u32 lq) i p ((z : Int) - (c1 : Int) - (s1 : Int)) 0 lv.length 0 k0 = k0 xs (nl .u32 o2) (nl .u32 lv) lv.length (nl .u32 lq) i p ((z : Int) - (c1 : Int) - (s1 : Int)) c2 := d1
      have t1 : Int.tdiv (U2 : Int) (v1 : Int) = ((U2 / v1 : Nat) : Int) := tdivN _ _
      have t2 : Int.tmod (U2 : Int) (v1 : Int) = ((U2 % v1 : Nat) : Int) := tmodN _ _
      generalize U2 / v1 = g0 at *
      generalize U2 % v1 = r0 at *
      clear q1 d1
      simp only [p80_l12L, p80_l12B, p80_l16, p80_l22, p80_l38, p80_c45, p80_c13]
      simp (disch := (first | omega | (simp only [List.length_append, List.length_cons, List.length_nil, List.length_replicate, List.length_take, List.length_drop]; omega))) only [↓c_pos, ↓c_neg, dec_t, dec_f, Bool.and_true, Bool.true_and, Bool.and_false, Bool.false_and, Bool.not_true, Bool.not_false, cond_true, cond_false, inR_t, cutR_t, roomB_t, lenOK_t, w64, bs_size, List.length_append, List.length_cons, List.length_nil, bs_extract, bs_append, bs_push, bs_data, bs_empty, bs_lit, catS_bs, eqS_bs, ite_pos', ite_neg', decide_true, decide_false, if_true, if_false, toNatC, getI_nl, nl_len, nl_set, nl_set0, nl_take, nl_drop, nl_rep, nl_app, hdSz_nl, drop0, wu32, wu64, wu8, List.length_set, List.length_replicate, w1, w2, w3, hze, hz1e, hv1e, w4, t1, t2, hg1, q1', hz', w5, d1', w6, q2, d2]
    · generalize 1000000000 ^ (i + lv.length) * z = A1 at *
      generalize 1000000000 ^ i * (p * val 1000000000 lv) = A2 at *
      omega
end Go.Proofs.YtfbahcfojiaeaaaGreatDoor


set_option linter.unusedVariables false
set_option maxRecDepth 100000
namespace Go.Proofs.YtfbahcfojiaeaaaGreatDoor
open Go Th Go.Proofs
def ann79 : Ann := { loops := [(1, [(0, .id), (1, .id)], [(0, .id), (4, .id)])], cuts := [], frz := [], rm := [.id] }
noncomputable abbrev env79 (n : Nat) : Env := fun i => bif Nat.beq i 80 then some (fs80 n) else (fun _ => none) i
theorem envok79 (n : Nat) : EnvOK Tryz.prog GI (env79 n) := EnvOK.cons (EnvOK.nil) (ok80 n)
noncomputable def p79_l1B {R : Type} (n : Nat) (l0 : List PV → List PV → Option R) (x1 x2 : List PV) (k0 : List PV → Option R) : Option R :=
  bif (decide (((x2).length : Int) > 0)) then (p80 n x1 x2 (fun y3 y4 => l0 x2 y4)) else (k0 x1)
noncomputable def p79_l1L {R : Type} (n : Nat) : Nat → List PV → List PV → (List PV → Option R) → Option R
  | 0, _, _, _ => none
  | m + 1, x1, x2, k0 => p79_l1B n (fun x1 x2 => p79_l1L n m x1 x2 k0) x1 x2 k0
noncomputable def p79_l1 {R : Type} (n : Nat) (x1 x2 : List PV) (k0 : List PV → Option R) : Option R := p79_l1L n n x1 x2 k0
noncomputable def p79 {R : Type} (n : Nat) (x1 x2 : List PV) (k0 : List PV → Option R) : Option R :=
  p79_l1 n x1 x2 (fun y3 => k0 y3)
noncomputable abbrev E79 {R : Type} (n : Nat) (c : Code) : Fr → Kc R → Option R := evC Tryz.prog (env79 n) ann79 n (19, []) c
noncomputable def c79_l1 : Code := subC (bodyOf Tryz.f79) [1, 0, 0, 0]
abbrev t79_l1 : Sl (List SV) := (.c (sP sSh) (.c (sP sSh) .n))
noncomputable abbrev f79_l1 {R : Type} (n m : Nat) (K : Kc R) : t79_l1.T (Option R) := fun x1 x2 => p79_l1L n m x1 x2 (fun y1 => K (.exit 0) (lk (outA ann79.loops 1) [.p (.sh y1), .dead]))
noncomputable abbrev o79_l1 {R : Type} (n : Nat) (vs : List SV) (K : Kc R) : Option R := oget (t79_l1.ap vs (f79_l1 n n K)) (loopE ann79 1 (E79 n c79_l1) n vs K)
noncomputable abbrev lo79 {R : Type} (n : Nat) : Orc R := fun i vs K => dcnd (Nat.beq i 1) (o79_l1 n vs K) (none)
noncomputable abbrev cu79 {R : Type} (n : Nat) : Orc R := fun i vs K => none
section
variable {R : Type}
noncomputable abbrev V79 (n : Nat) (c : Code) : Fr → Kc R → Option R := evOi Tryz.prog (env79 n) ann79 (19, []) (lo79 n) (cu79 n) c
abbrev K79 (R : Type) (n : Nat) := PartOK (R := R) Tryz.prog (env79 n) ann79 n (19, []) (lo79 n) (cu79 n)
theorem pa79_l1 (n : Nat) : allP (K79 R n) (partsOf ann79 c79_l1) := by
  rw [show partsOf ann79 c79_l1 = [] from by kernel_rfl]; exact trivial
theorem sp79_l1 (n m : Nat) (x1 x2 : List PV) (K : Kc R) : loopE ann79 1 (V79 n c79_l1) (m + 1) [.p (.sh x1), .p (.sh x2)] K = p79_l1B n (fun x1 x2 => loopE ann79 1 (V79 n c79_l1) m [.p (.sh x1), .p (.sh x2)] K) x1 x2 (fun y1 => K (.exit 0) (lk (outA ann79.loops 1) [.p (.sh y1), .dead])) := by kernel_rfl
theorem ep79_l1 (n : Nat) (K : Kc R) : ∀ (m : Nat) (x1 x2 : List PV), loopE ann79 1 (V79 n c79_l1) m [.p (.sh x1), .p (.sh x2)] K = f79_l1 n m K x1 x2
  | 0, _, _ => rfl
  | m + 1, x1, x2 => (sp79_l1 n m x1 x2 K).trans (congrArg (fun l0 => p79_l1B n l0 x1 x2 (fun y1 => K (.exit 0) (lk (outA ann79.loops 1) [.p (.sh y1), .dead]))) (funext fun z0 => funext fun z1 => ep79_l1 n K m z0 z1))
theorem q79_l1 (n : Nat) : K79 R n (false, 1, c79_l1) := part_loop (pa79_l1 n) t79_l1 (f79_l1 n n) (fun K x1 x2 => ep79_l1 n K n x1 x2) fun _ _ => rfl
theorem pa79 (n : Nat) : allP (K79 R n) (partsOf ann79 (bodyOf Tryz.f79)) := by
  rw [show partsOf ann79 (bodyOf Tryz.f79) = [(false, 1, c79_l1)] from by kernel_rfl]; exact ⟨q79_l1 n, trivial⟩
end
abbrev t79 : Sl (List SV) := (.c (sP sSh) (.c (sP sSh) .n))
noncomputable abbrev f79 (n : Nat) {R : Type} (K : List SV → Option R) : t79.T (Option R) := fun x1 x2 => p79 n x1 x2 (fun y1 => K [.p (.sh y1)])
theorem ep79 {R : Type} (n : Nat) (K : List SV → Option R) (x1 x2 : List PV) : evFn Tryz.prog (env79 n) ann79 n Tryz.f79 [.p (.sh x1), .p (.sh x2)] K = f79 n K x1 x2 := by
  rw [evFn_evOi (c := bodyOf Tryz.f79) (by kernel_rfl) (pa79 n)]; kernel_rfl
noncomputable abbrev fs79 (n : Nat) : FS := { om := [false, false], run := fun args K => oget (t79.ap args (f79 n K)) none }
theorem ok79 (n : Nat) : FSound Tryz.prog GI 79 (fs79 n) :=
  FSound.good (envok79 n) (ann := ann79) (n := n) Tryz.func79
    (.cons (envok79 n) t79 (f79 n) (fun K x1 x2 => ep79 n K x1 x2) .nil)
    (by kernel_rfl) (by kernel_rfl) (by kernel_rfl)
end Go.Proofs.YtfbahcfojiaeaaaGreatDoor


set_option linter.unusedVariables false
set_option linter.unusedSimpArgs false
namespace Go.Proofs.YtfbahcfojiaeaaaGreatDoor
open Go Th Go.Proofs
variable {R : Type}
theorem div_loop (n : Nat) (xs : List PV) (lv : List Nat) (hv : ∀ d ∈ lv, d < 1000000000) (h2 : 2 ≤ lv.length) (hn : lv.length + 2 < n) (hv1 : 500000000 ≤ lv.getD (lv.length - 1) 0) (U : Nat) :
    ∀ (d m : Nat) (o lq : List Nat), (∀ x ∈ o, x < 1000000000) → (∀ x ∈ lq, x < 1000000000) → lq.length + lv.length = o.length → d ≤ lq.length → d < m → o.length < 2 ^ 40 → val 1000000000 (o.drop d) < val 1000000000 lv →
      val 1000000000 o + 1000000000 ^ d * (val 1000000000 lv * val 1000000000 (lq.drop d)) = U →
      ∃ o' lq' : List Nat, (∀ k0 : List PV → List PV → List PV → Option R, p80_l12L n m xs (nl .u32 o) (nl .u32 lv) lv.length (nl .u32 lq) ((d : Int) - 1) k0 = k0 xs (nl .u32 o') (nl .u32 lq')) ∧ o'.length = o.length ∧ lq'.length = lq.length ∧
        (∀ x ∈ o', x < 1000000000) ∧ (∀ x ∈ lq', x < 1000000000) ∧ val 1000000000 o' < val 1000000000 lv ∧ val 1000000000 o' + val 1000000000 lv * val 1000000000 lq' = U
  | 0, m + 1, o, lq, ho, hq, hl, hd, hm, h40, hlt, hU => by
    rw [List.drop_zero] at hlt hU
    rw [Nat.pow_zero, Nat.one_mul] at hU
    refine ⟨o, lq, fun k0 => ?_, rfl, rfl, ho, hq, hlt, hU⟩
    simp only [p80_l12L, p80_l12B]
    simp (disch := (first | omega | (simp only [List.length_append, List.length_cons, List.length_nil, List.length_replicate, List.length_take, List.length_drop]; omega))) only [↓c_pos, ↓c_neg, dec_t, dec_f, Bool.and_true, Bool.true_and, Bool.and_false, Bool.false_and, Bool.not_true, Bool.not_false, cond_true, cond_false, inR_t, cutR_t, roomB_t, lenOK_t, w64, bs_size, List.length_append, List.length_cons, List.length_nil, bs_extract, bs_append, bs_push, bs_data, bs_empty, bs_lit, catS_bs, eqS_bs, ite_pos', ite_neg', decide_true, decide_false, if_true, if_false, toNatC, getI_nl, nl_len, nl_set, nl_set0, nl_take, nl_drop, nl_rep, nl_app, hdSz_nl, drop0, wu32, wu64, wu8, List.length_set, List.length_replicate]
  | d + 1, m + 1, o, lq, ho, hq, hl, hd, hm, h40, hlt, hU => by
    have hod := getD_lt hB2 ho d
    have hW : val 1000000000 (o.drop d) < 1000000000 * val 1000000000 lv := by
      rw [val_drop_step]
      have : 1000000000 * val 1000000000 (o.drop (d + 1)) + 1000000000 ≤ 1000000000 * val 1000000000 lv := by rw [← Nat.mul_succ]; exact Nat.mul_le_mul_left _ hlt
      omega
    obtain ⟨o', s1, s2, s3, s4⟩ := div_step (R := R) n m xs o lv lq ho hv hq d h2 (by omega) (by omega) h40 hn hv1 hW
    have hV0 : 0 < val 1000000000 lv := by omega
    have hpB : val 1000000000 (o.drop d) / val 1000000000 lv < 1000000000 := Nat.div_lt_of_lt_mul (by rw [Nat.mul_comm]; exact hW)
    obtain ⟨p, hp⟩ : ∃ p, val 1000000000 (o.drop d) / val 1000000000 lv = p := ⟨_, rfl⟩
    have r1 := val_drop 1000000000 o d (by omega)
    have r2 := val_drop 1000000000 o' d (by omega)
    have r3 := val_take_lt hB2 ho (i := d) (by omega)
    have r4 := val_take_lt hB2 s3 (i := d) (by omega)
    have hdm := Nat.div_add_mod' (val 1000000000 (o.drop d)) (val 1000000000 lv)
    have hmod : val 1000000000 (o.drop d) % val 1000000000 lv < val 1000000000 lv := Nat.mod_lt _ hV0
    rw [hp] at s1 s4 hpB hdm
    have hrest : val 1000000000 (o'.drop d) = val 1000000000 (o.drop d) % val 1000000000 lv := by
      have h0 : 0 < 1000000000 ^ d := Nat.pow_pos (by omega)
      generalize 1000000000 ^ d = P at *
      rw [r1, r2, ← hdm, Nat.mul_add] at s4
      have e : val 1000000000 (List.take d o') + P * val 1000000000 (List.drop d o') = val 1000000000 (List.take d o) + P * (val 1000000000 (o.drop d) % val 1000000000 lv) := by
        omega
      have a1 : (val 1000000000 (List.take d o') + P * val 1000000000 (List.drop d o')) / P = val 1000000000 (List.drop d o') := by rw [Nat.add_mul_div_left _ _ h0, Nat.div_eq_of_lt r4, Nat.zero_add]
      have a2 : (val 1000000000 (List.take d o) + P * (val 1000000000 (o.drop d) % val 1000000000 lv)) / P = val 1000000000 (o.drop d) % val 1000000000 lv := by rw [Nat.add_mul_div_left _ _ h0, Nat.div_eq_of_lt r3, Nat.zero_add]
      rw [← a1, e, a2]
    have hqv : val 1000000000 ((lq.set d p).drop d) = p + 1000000000 * val 1000000000 (lq.drop (d + 1)) := by
      rw [val_drop_step, List.drop_set_of_lt (by omega), List.getD_eq_getElem?_getD, List.getElem?_set_self (by omega)]; rfl
    obtain ⟨o2, lq2, t1, t2, t3, t4, t5, t6, t7⟩ := div_loop n xs lv hv h2 hn hv1 U d m o' (lq.set d p) s3 (set_lt hq hpB _) (by rw [List.length_set, s2]; exact hl) (by rw [List.length_set]; omega) (by omega) (by omega) (by rw [hrest]; exact hmod)
      (by
        rw [hqv, ← hU, ← s4, Nat.pow_succ]
        generalize 1000000000 ^ d = P
        generalize val 1000000000 (lq.drop (d + 1)) = Q
        generalize val 1000000000 lv = V
        grind)
    refine ⟨o2, lq2, fun k0 => ?_, by rw [t2, s2], by rw [t3, List.length_set], t4, t5, t6, t7⟩
    rw [← t1 k0, ← s1 k0, show ((d + 1 : Nat) : Int) - 1 = (d : Int) from by omega]
theorem norm_top (B t : Nat) (hB : B = 1000000000) (ht : 1 ≤ t) (htB : t < B) : 500000000 ≤ B / (t + 1) * t ∧ B / (t + 1) * (t + 1) ≤ B ∧ 1 ≤ B / (t + 1) := by
  have h1 : B / (t + 1) * (t + 1) ≤ B := Nat.div_mul_le_self _ _
  have h2 : 1 ≤ B / (t + 1) := (Nat.le_div_iff_mul_le (by omega)).2 (by omega)
  have h3 := Nat.div_add_mod' B (t + 1)
  have h4 : B % (t + 1) < t + 1 := Nat.mod_lt _ (by omega)
  refine ⟨?_, h1, h2⟩
  generalize B / (t + 1) = q at *
  generalize B % (t + 1) = r at *
  rw [Nat.mul_succ] at h3
  by_cases c1 : q = 1
  · subst c1; omega
  by_cases c2 : t = 1
  · subst c2; omega
  obtain ⟨s, rfl⟩ : ∃ s, t = s + 2 := ⟨t - 2, by omega⟩
  have h5 : 2 * (s + 1) ≤ q * (s + 1) := Nat.mul_le_mul_right _ (by omega)
  have h6 : q * (s + 2) = q * (s + 1) + q := by grind
  omega
theorem toL_one {b : Nat} (hb : 2 ≤ b) {x : Nat} (h0 : x ≠ 0) (hx : x < b) : toL b x = [x] := by
  rw [toL_pos hb h0, Nat.mod_eq_of_lt hx, Nat.div_eq_of_lt hx, toL_zero]
theorem toL_top {b : Nat} (hb : 2 ≤ b) {x : Nat} (h0 : x ≠ 0) : 1 ≤ (toL b x).length ∧ (toL b x).getD ((toL b x).length - 1) 0 * b ^ ((toL b x).length - 1) ≤ x ∧ x < ((toL b x).getD ((toL b x).length - 1) 0 + 1) * b ^ ((toL b x).length - 1) ∧ 1 ≤ (toL b x).getD ((toL b x).length - 1) 0 := by
  have hl : 1 ≤ (toL b x).length := by
    rcases Nat.eq_zero_or_pos (toL b x).length with h | h
    · exact absurd ((toL_eq_nil hb).1 (List.eq_nil_of_length_eq_zero h)) h0
    · exact h
  have h1 := val_drop b (toL b x) ((toL b x).length - 1) (by omega)
  rw [val_drop_step, show (toL b x).length - 1 + 1 = (toL b x).length from by omega, List.drop_length, show val b [] = 0 from rfl, Nat.mul_zero, Nat.add_zero, val_toL hb] at h1
  have h2 := val_take_lt hb (toL_lt hb x) (i := (toL b x).length - 1) (by omega)
  have h3 := toL_last hb x
  rw [List.getLast?_eq_getElem?] at h3
  have h4 : 1 ≤ (toL b x).getD ((toL b x).length - 1) 0 := by
    apply Nat.one_le_iff_ne_zero.2
    intro h
    rw [List.getD_eq_getElem?_getD, List.getElem?_eq_getElem (by omega)] at h
    rw [List.getElem?_eq_getElem (by omega)] at h3
    exact h3 (congrArg some h)
  refine ⟨hl, ?_, ?_, h4⟩
  · rw [Nat.mul_comm]; omega
  · rw [Nat.succ_mul, Nat.mul_comm]; omega
theorem toL_len_lt {b : Nat} (hb : 2 ≤ b) {x k : Nat} (h : k < (toL b x).length) : b ^ k ≤ x := by
  apply Nat.le_of_not_lt
  intro q
  have := (toL_len hb x k).2 q
  omega
set_option maxHeartbeats 2000000 in
theorem div_eq (n a b : Nat) (hb : 0 < b) (hla : (toL 1000000000 a).length < 2 ^ 20) (hlb : (toL 1000000000 b).length < 2 ^ 20) (hn : (toL 1000000000 a).length + (toL 1000000000 b).length + 10 < n) (k0 : List PV → List PV → Option R) :
    p80 n (NN a) (NN b) k0 = k0 (NN (a / b)) (NN (a % b)) := by
  have hc := fun k0 => cmp_eq (R := R) n a b (by omega) (by omega) (by omega) k0
  unfold p80
  simp only [hc]
  by_cases hab : a < b
  · have e : cmpN a b = -1 := by unfold cmpN; rw [if_pos hab]
    have e0 : NN 0 = [] := by unfold NN; rw [toL_zero]; rfl
    rw [Nat.div_eq_of_lt hab, Nat.mod_eq_of_lt hab, e0]
    simp (disch := (first | omega | (simp only [List.length_append, List.length_cons, List.length_nil, List.length_replicate, List.length_take, List.length_drop]; omega))) only [↓c_pos, ↓c_neg, dec_t, dec_f, Bool.and_true, Bool.true_and, Bool.and_false, Bool.false_and, Bool.not_true, Bool.not_false, cond_true, cond_false, inR_t, cutR_t, roomB_t, lenOK_t, w64, bs_size, List.length_append, List.length_cons, List.length_nil, bs_extract, bs_append, bs_push, bs_data, bs_empty, bs_lit, catS_bs, eqS_bs, ite_pos', ite_neg', decide_true, decide_false, if_true, if_false, toNatC, getI_nl, nl_len, nl_set, nl_set0, nl_take, nl_drop, nl_rep, nl_app, hdSz_nl, drop0, wu32, wu64, wu8, List.length_set, List.length_replicate, e]
  have e : 0 ≤ cmpN a b := by unfold cmpN; rw [if_neg hab]; split <;> omega
  obtain ⟨tl, t0, t1, t2⟩ := toL_top hB2 (x := b) (by omega)
  have hbt := getD_lt hB2 (toL_lt hB2 b) ((toL 1000000000 b).length - 1)
  have hN : NN b = nl .u32 (toL 1000000000 b) := rfl
  by_cases h1 : (toL 1000000000 b).length = 1
  · have hb1 : b < 1000000000 := by
      have := (toL_len hB2 b 1).1 (by omega)
      rwa [Nat.pow_one] at this
    have hone := toL_one hB2 (x := b) (by omega) hb1
    have hs := fun k0 => short_eq (R := R) n a b hb (by omega) (by omega) (by omega) k0
    have hmod : a % b < b := Nat.mod_lt _ hb
    have ht := fun k0 => trim_eq (R := R) n [a % b] (by simp; omega) (by simp; omega) (by simp) k0
    rw [show val 1000000000 [a % b] = a % b from by simp [val]] at ht
    have hN1 : NN b = nl .u32 [b] := by rw [hN, hone]
    have e1 : ([b].getD 0 0) = b := rfl
    simp only [p80_c3]
    rw [hN1]
    have hcond : ((([b] : List Nat).length : Int) == 1) = true := rfl
    have hg : ∀ (K : Int → Option R), getI .u32 ((nl .u32 [b]).getD (0 : Int).toNat (PV.v (Value.bool false))) K = K (b : Int) := fun K => getI_nl (l := [b]) (i := 0) (by simp)
    simp (disch := (first | omega | (simp only [List.length_append, List.length_cons, List.length_nil, List.length_replicate, List.length_take, List.length_drop]; omega))) only [↓c_pos, ↓c_neg, dec_t, dec_f, Bool.and_true, Bool.true_and, Bool.and_false, Bool.false_and, Bool.not_true, Bool.not_false, cond_true, cond_false, inR_t, cutR_t, roomB_t, lenOK_t, w64, bs_size, List.length_append, List.length_cons, List.length_nil, bs_extract, bs_append, bs_push, bs_data, bs_empty, bs_lit, catS_bs, eqS_bs, ite_pos', ite_neg', decide_true, decide_false, if_true, if_false, toNatC, getI_nl, nl_len, nl_set, nl_set0, nl_take, nl_drop, nl_rep, nl_app, hdSz_nl, drop0, wu32, wu64, wu8, List.length_set, List.length_replicate, hcond, hg, hs, nl_one, ht]
    rfl
  obtain ⟨L, hL⟩ : ∃ L, (toL 1000000000 b).length = L := ⟨_, rfl⟩
  obtain ⟨t, htop⟩ : ∃ t, (toL 1000000000 b).getD ((toL 1000000000 b).length - 1) 0 = t := ⟨_, rfl⟩
  rw [htop] at t0 t1 t2 hbt
  rw [hL] at htop t0 t1 hlb hn tl h1
  obtain ⟨n1, n2, n3⟩ := norm_top 1000000000 t rfl t2 hbt
  obtain ⟨f, hf⟩ : ∃ f, f = 1000000000 / (t + 1) := ⟨_, rfl⟩
  rw [← hf] at n1 n2 n3
  have hfB : f < 1000000000 := by
    have : f * 2 ≤ f * (t + 1) := Nat.mul_le_mul_left _ (by omega)
    omega
  have hNf : [PV.v (.int .u32 (f : Int))] = NN f := by unfold NN; rw [toL_one hB2 (by omega) hfB, nl_one]
  have hfl : (toL 1000000000 f).length = 1 := by rw [toL_one hB2 (by omega) hfB]; rfl
  have hPL : 1000000000 ^ L = 1000000000 ^ (L - 1) * 1000000000 := by rw [← Nat.pow_succ]; congr 1; omega
  have hvlt : b * f < 1000000000 ^ L := by
    have a1 : b * f < (t + 1) * 1000000000 ^ (L - 1) * f := Nat.mul_lt_mul_of_pos_right t1 (by omega)
    have a2 : (t + 1) * 1000000000 ^ (L - 1) * f ≤ 1000000000 ^ (L - 1) * 1000000000 := by
      have : (t + 1) * 1000000000 ^ (L - 1) * f = 1000000000 ^ (L - 1) * (f * (t + 1)) := by grind
      rw [this]; exact Nat.mul_le_mul_left _ n2
    omega
  have hvge : 500000000 * 1000000000 ^ (L - 1) ≤ b * f := by
    have a1 : t * 1000000000 ^ (L - 1) * f ≤ b * f := Nat.mul_le_mul_right _ t0
    have a2 : t * 1000000000 ^ (L - 1) * f = f * t * 1000000000 ^ (L - 1) := by grind
    have a3 : 500000000 * 1000000000 ^ (L - 1) ≤ f * t * 1000000000 ^ (L - 1) := Nat.mul_le_mul_right _ n1
    omega
  have hP0 : 0 < 1000000000 ^ (L - 1) := Nat.pow_pos (by omega)
  have hvl : (toL 1000000000 (b * f)).length = L := by
    have a1 := (toL_len hB2 (b * f) L).2 hvlt
    have a2 : ¬ (toL 1000000000 (b * f)).length ≤ L - 1 := fun h => by
      have := (toL_len hB2 (b * f) (L - 1)).1 h
      omega
    omega
  obtain ⟨_, _, v2, _⟩ := toL_top hB2 (x := b * f) (by omega)
  rw [hvl] at v2
  have hvtop : 500000000 ≤ (toL 1000000000 (b * f)).getD (L - 1) 0 := by
    apply Nat.le_of_not_lt
    intro h
    have : ((toL 1000000000 (b * f)).getD (L - 1) 0 + 1) * 1000000000 ^ (L - 1) ≤ 500000000 * 1000000000 ^ (L - 1) := Nat.mul_le_mul_right _ h
    omega
  have hle : b * f ≤ a * f := Nat.mul_le_mul_right _ (by omega)
  obtain ⟨A, hA⟩ : ∃ A, (toL 1000000000 (a * f)).length = A := ⟨_, rfl⟩
  have hA1 : L ≤ A := by
    rw [← hvl, ← hA]
    exact (toL_len hB2 (b * f) _).2 (Nat.lt_of_le_of_lt hle ((toL_len hB2 (a * f) _).1 (Nat.le_refl _)))
  have hA2 : A ≤ (toL 1000000000 a).length + 1 := by
    rw [← hA]
    apply (toL_len hB2 (a * f) _).2
    rw [Nat.pow_succ]
    exact Nat.mul_lt_mul_of_lt_of_lt ((toL_len hB2 a _).1 (Nat.le_refl _)) hfB
  obtain ⟨o, ho⟩ : ∃ o, o = toL 1000000000 (a * f) ++ [0] := ⟨_, rfl⟩
  have hol : o.length = A + 1 := by rw [ho, List.length_append, hA]; rfl
  have hod : ∀ x ∈ o, x < 1000000000 := by
    intro x hx
    rw [ho] at hx
    rcases List.mem_append.1 hx with h | h
    · exact toL_lt hB2 _ x h
    · simp at h; omega
  have hov : val 1000000000 o = a * f := by rw [ho, val_snoc_zero, val_toL hB2]
  have hdrop : val 1000000000 (o.drop (A + 1 - L)) < val 1000000000 (toL 1000000000 (b * f)) := by
    rw [val_toL hB2]
    have a1 := val_drop 1000000000 o (A + 1 - L) (by omega)
    have a2 : a * f < 1000000000 ^ A := by rw [← hA]; exact (toL_len hB2 _ _).1 (Nat.le_refl _)
    have a3 : 1000000000 ^ A = 1000000000 ^ (A + 1 - L) * 1000000000 ^ (L - 1) := by rw [← Nat.pow_add]; congr 1; omega
    rw [hov] at a1
    have a4 : 1000000000 ^ (A + 1 - L) * val 1000000000 (o.drop (A + 1 - L)) < 1000000000 ^ (A + 1 - L) * 1000000000 ^ (L - 1) := by omega
    have a5 := Nat.lt_of_mul_lt_mul_left a4
    omega
  obtain ⟨o', lq', q1, q2, q3, q4, q5, q6, q7⟩ := div_loop (R := R) n (NN f) (toL 1000000000 (b * f)) (toL_lt hB2 _) (by omega) (by omega) (by rw [hvl]; exact hvtop) (a * f) (A + 1 - L) n o (List.replicate (A + 1 - L) 0) hod (rep_lt hB2 _) (by rw [List.length_replicate]; omega) (by rw [List.length_replicate]; omega) (by omega) (by omega) hdrop
    (by rw [List.drop_replicate, Nat.sub_self, hov]; simp [val])
  rw [val_toL hB2] at q6 q7
  have hbf : 0 < b * f := Nat.mul_pos hb (by omega)
  have hq : val 1000000000 lq' = a / b := by
    have : a * f / (b * f) = val 1000000000 lq' := by rw [← q7, Nat.add_mul_div_left _ _ hbf, Nat.div_eq_of_lt q6, Nat.zero_add]
    rw [← this, Nat.mul_div_mul_right _ _ (by omega)]
  have hr : val 1000000000 o' = a % b * f := by
    have : a * f % (b * f) = val 1000000000 o' := by rw [← q7, Nat.add_mul_mod_self_left, Nat.mod_eq_of_lt q6]
    rw [← this, Nat.mul_mod_mul_right]
  have m1 := fun k0 => times_eq (R := R) n a f (by omega) (by omega) (by omega) k0
  have m2 := fun k0 => times_eq (R := R) n b f (by omega) (by omega) (by omega) k0
  have m3 := fun k0 => trim_eq (R := R) n o' q4 (by omega) (by omega) k0
  have m4 := fun k0 => trim_eq (R := R) n lq' q5 (by rw [q3, List.length_replicate]; omega) (by rw [q3, List.length_replicate]; omega) k0
  have hrl : (toL 1000000000 (a % b * f)).length ≤ L := by
    apply (toL_len hB2 _ _).2
    rw [← hr]
    exact Nat.lt_trans q6 hvlt
  have m5 := fun k0 => short_eq (R := R) n (a % b * f) f (by omega) (by omega) (by omega) (by omega) k0
  rw [hr] at m3
  rw [hq] at m4
  rw [Nat.mul_div_cancel _ (by omega)] at m5
  have w1 : ((L : Int) == 1) = false := by simp; omega
  have w2 : (L : Int) - 1 = ((L - 1 : Nat) : Int) := by omega
  have w3 : (t : Int) + 1 = ((t + 1 : Nat) : Int) := by omega
  have w4 : Int.tdiv 1000000000 ((t + 1 : Nat) : Int) = (f : Int) := by rw [hf]; exact tdivN 1000000000 (t + 1)
  have w5 : ((0 + A + (0 + 1) : Nat) : Int) - (L : Int) = ((A + 1 - L : Nat) : Int) := by omega
  have w6 : nl .u32 (toL 1000000000 (a * f)) ++ ([.v (.int .u32 0)] : List PV) = nl .u32 o := by
    rw [ho, ← nl_app]; rfl
  have hNa : NN (a * f) = nl .u32 (toL 1000000000 (a * f)) := rfl
  have hNb : NN (b * f) = nl .u32 (toL 1000000000 (b * f)) := rfl
  have w7 : ((A + 1 : Nat) : Int) - (L : Int) = ((A + 1 - L : Nat) : Int) := by omega
  rw [hvl] at q1
  have hg : ∀ (K : Int → Option R), getI .u32 ((NN f).getD (0 : Int).toNat (PV.v (Value.bool false))) K = K (f : Int) := fun K => by rw [← hNf]; rfl
  have hNl : (NN f).length = 1 := by rw [← hNf]; rfl
  simp only [p80_c3, p80_c6, p80_c7, p80_c8, p80_c9, p80_c10, p80_c11, p80_l12]
  rw [hN]
  clear hdrop hvge hvlt n1 n2 hPL q6 q7 t0 t1 v2 hle hr hq hbf hP0 hov
  simp (disch := (first | omega | (simp only [List.length_append, List.length_cons, List.length_nil, List.length_replicate, List.length_take, List.length_drop]; omega))) only [↓c_pos, ↓c_neg, dec_t, dec_f, Bool.and_true, Bool.true_and, Bool.and_false, Bool.false_and, Bool.not_true, Bool.not_false, cond_true, cond_false, inR_t, cutR_t, roomB_t, lenOK_t, w64, bs_size, List.length_append, List.length_cons, List.length_nil, bs_extract, bs_append, bs_push, bs_data, bs_empty, bs_lit, catS_bs, eqS_bs, ite_pos', ite_neg', decide_true, decide_false, if_true, if_false, toNatC, getI_nl, nl_len, nl_set, nl_set0, nl_take, nl_drop, nl_rep, nl_app, hdSz_nl, drop0, wu32, wu64, wu8, List.length_set, List.length_replicate, w1, hL, htop, w2, w3, w4, hNf, m1]
  rw [← hN]
  simp (disch := (first | omega | (simp only [List.length_append, List.length_cons, List.length_nil, List.length_replicate, List.length_take, List.length_drop]; omega))) only [↓c_pos, ↓c_neg, dec_t, dec_f, Bool.and_true, Bool.true_and, Bool.and_false, Bool.false_and, Bool.not_true, Bool.not_false, cond_true, cond_false, inR_t, cutR_t, roomB_t, lenOK_t, w64, bs_size, List.length_append, List.length_cons, List.length_nil, bs_extract, bs_append, bs_push, bs_data, bs_empty, bs_lit, catS_bs, eqS_bs, ite_pos', ite_neg', decide_true, decide_false, if_true, if_false, toNatC, getI_nl, nl_len, nl_set, nl_set0, nl_take, nl_drop, nl_rep, nl_app, hdSz_nl, drop0, wu32, wu64, wu8, List.length_set, List.length_replicate, m2, hNa, hNb, hA, hvl, w5, List.nil_append, w6, hol, w7, q1, m3, hNl, hg, m5, m4]
theorem gcd_loop (n : Nat) (k0 : List PV → Option R) : ∀ (m a b : Nat), b < m → (toL 1000000000 a).length < 2 ^ 19 → (toL 1000000000 b).length < 2 ^ 19 → (toL 1000000000 a).length + (toL 1000000000 b).length + 10 < n → (toL 1000000000 b).length + (toL 1000000000 b).length + 10 < n →
    p79_l1L n m (NN a) (NN b) k0 = k0 (NN (Nat.gcd b a))
  | m + 1, a, b, hm, ha, hb, hn, hn2 => by
    simp only [p79_l1L, p79_l1B]
    have hN : (NN b).length = (toL 1000000000 b).length := by unfold NN; rw [nl_len]
    by_cases h0 : b = 0
    · subst h0
      rw [toL_zero] at hN
      have hN' : (NN 0).length = 0 := hN
      simp (disch := (first | omega | (simp only [List.length_append, List.length_cons, List.length_nil, List.length_replicate, List.length_take, List.length_drop]; omega))) only [↓c_pos, ↓c_neg, dec_t, dec_f, Bool.and_true, Bool.true_and, Bool.and_false, Bool.false_and, Bool.not_true, Bool.not_false, cond_true, cond_false, inR_t, cutR_t, roomB_t, lenOK_t, w64, bs_size, List.length_append, List.length_cons, List.length_nil, bs_extract, bs_append, bs_push, bs_data, bs_empty, bs_lit, catS_bs, eqS_bs, ite_pos', ite_neg', decide_true, decide_false, if_true, if_false, toNatC, getI_nl, nl_len, nl_set, nl_set0, nl_take, nl_drop, nl_rep, nl_app, hdSz_nl, drop0, wu32, wu64, wu8, List.length_set, List.length_replicate, hN', Nat.gcd_zero_left]
    · have hl : 1 ≤ (toL 1000000000 b).length := (toL_top hB2 h0).1
      have hd := fun k0 => div_eq (R := R) n a b (by omega) (by omega) (by omega) (by omega) k0
      have hlt : a % b < b := Nat.mod_lt _ (by omega)
      have hlr : (toL 1000000000 (a % b)).length ≤ (toL 1000000000 b).length := (toL_len hB2 _ _).2 (Nat.lt_trans hlt ((toL_len hB2 _ _).1 (Nat.le_refl _)))
      have ih := gcd_loop n k0 m b (a % b) (by omega) hb (by omega) (by omega) (by omega)
      simp (disch := (first | omega | (simp only [List.length_append, List.length_cons, List.length_nil, List.length_replicate, List.length_take, List.length_drop]; omega))) only [↓c_pos, ↓c_neg, dec_t, dec_f, Bool.and_true, Bool.true_and, Bool.and_false, Bool.false_and, Bool.not_true, Bool.not_false, cond_true, cond_false, inR_t, cutR_t, roomB_t, lenOK_t, w64, bs_size, List.length_append, List.length_cons, List.length_nil, bs_extract, bs_append, bs_push, bs_data, bs_empty, bs_lit, catS_bs, eqS_bs, ite_pos', ite_neg', decide_true, decide_false, if_true, if_false, toNatC, getI_nl, nl_len, nl_set, nl_set0, nl_take, nl_drop, nl_rep, nl_app, hdSz_nl, drop0, wu32, wu64, wu8, List.length_set, List.length_replicate, hN, hd]
      rw [ih, ← Nat.gcd_rec]
theorem gcd_eq (n a b : Nat) (hbn : b < n) (ha : (toL 1000000000 a).length < 2 ^ 19) (hb : (toL 1000000000 b).length < 2 ^ 19) (hn : (toL 1000000000 a).length + (toL 1000000000 b).length + 10 < n) (hn2 : (toL 1000000000 b).length + (toL 1000000000 b).length + 10 < n) (k0 : List PV → Option R) :
    p79 n (NN a) (NN b) k0 = k0 (NN (Nat.gcd b a)) := by
  unfold p79 p79_l1
  exact gcd_loop n _ n a b hbn ha hb hn hn2
end Go.Proofs.YtfbahcfojiaeaaaGreatDoor


set_option linter.unusedVariables false
set_option maxRecDepth 100000
namespace Go.Proofs.YtfbahcfojiaeaaaGreatDoor
open Go Th Go.Proofs
def ann45 : Ann := { loops := [(2, [(0, .id), (3, .own 98)], [(2, .id), (3, .id)])], cuts := [], frz := [], rm := [.id] }
noncomputable abbrev env45 (n : Nat) : Env := fun i => bif Nat.beq i 78 then some (fs78 n) else (fun i => bif Nat.beq i 77 then some (fs77 n) else (fun _ => none) i) i
theorem envok45 (n : Nat) : EnvOK Tryz.prog GI (env45 n) := EnvOK.cons (EnvOK.cons (EnvOK.nil) (ok77 n)) (ok78 n)
noncomputable def p45_l2B {R : Type} (n : Nat) (l0 : ByteArray → List PV → Option R) (x1 : ByteArray) (x2 : List PV) (k0 : List PV → Option R) : Option R :=
  bif (decide (((x1).size : Int) > 0)) then (let v3 := IntKind.i64.wrap (((x1).size : Int) - 9); bif (cutR (maxI 0 v3) ((x1).size : Int) (x1).size) then (atoiK (ByteArray.extract x1 (maxI 0 v3 : Int).toNat (((x1).size : Int) : Int).toNat) fun v4 => bif (lenOK ((x2).length + 1) 4) then (bif (cutR 0 (maxI 0 v3) (x1).size) then (l0 (ByteArray.extract x1 (0 : Int).toNat (maxI 0 v3 : Int).toNat) (x2 ++ ([.v (.int .u32 (IntKind.u32.wrap (v4)))] : List PV))) else none) else none) else none) else (k0 x2)
noncomputable def p45_l2L {R : Type} (n : Nat) : Nat → ByteArray → List PV → (List PV → Option R) → Option R
  | 0, _, _, _ => none
  | m + 1, x1, x2, k0 => p45_l2B n (fun x1 x2 => p45_l2L n m x1 x2 k0) x1 x2 k0
noncomputable def p45_l2 {R : Type} (n : Nat) (x1 : ByteArray) (x2 : List PV) (k0 : List PV → Option R) : Option R := p45_l2L n n x1 x2 k0
noncomputable def p45 {R : Type} (n : Nat) (x1 : ByteArray) (k0 : List PV → Option R) : Option R :=
  p45_l2 n x1 [] (fun y2 => p78 n y2 (fun y3 => k0 y3))
noncomputable abbrev E45 {R : Type} (n : Nat) (c : Code) : Fr → Kc R → Option R := evC Tryz.prog (env45 n) ann45 n (31, []) c
noncomputable def c45_l2 : Code := subC (bodyOf Tryz.f45) [1, 1, 0, 0, 0]
abbrev t45_l2 : Sl (List SV) := (.c (sP sStr) (.c (sOwn 98) .n))
noncomputable abbrev f45_l2 {R : Type} (n m : Nat) (K : Kc R) : t45_l2.T (Option R) := fun x1 x2 => p45_l2L n m x1 x2 (fun y1 => K (.exit 0) (lk (outA ann45.loops 2) [.dead, .own 98 y1]))
noncomputable abbrev o45_l2 {R : Type} (n : Nat) (vs : List SV) (K : Kc R) : Option R := oget (t45_l2.ap vs (f45_l2 n n K)) (loopE ann45 2 (E45 n c45_l2) n vs K)
noncomputable abbrev lo45 {R : Type} (n : Nat) : Orc R := fun i vs K => dcnd (Nat.beq i 2) (o45_l2 n vs K) (none)
noncomputable abbrev cu45 {R : Type} (n : Nat) : Orc R := fun i vs K => none
section
variable {R : Type}
noncomputable abbrev V45 (n : Nat) (c : Code) : Fr → Kc R → Option R := evOi Tryz.prog (env45 n) ann45 (31, []) (lo45 n) (cu45 n) c
abbrev K45 (R : Type) (n : Nat) := PartOK (R := R) Tryz.prog (env45 n) ann45 n (31, []) (lo45 n) (cu45 n)
theorem pa45_l2 (n : Nat) : allP (K45 R n) (partsOf ann45 c45_l2) := by
  rw [show partsOf ann45 c45_l2 = [] from by kernel_rfl]; exact trivial
theorem sp45_l2 (n m : Nat) (x1 : ByteArray) (x2 : List PV) (K : Kc R) : loopE ann45 2 (V45 n c45_l2) (m + 1) [.p (.v (.string x1)), .own 98 x2] K = p45_l2B n (fun x1 x2 => loopE ann45 2 (V45 n c45_l2) m [.p (.v (.string x1)), .own 98 x2] K) x1 x2 (fun y1 => K (.exit 0) (lk (outA ann45.loops 2) [.dead, .own 98 y1])) := by kernel_rfl
theorem ep45_l2 (n : Nat) (K : Kc R) : ∀ (m : Nat) (x1 : ByteArray) (x2 : List PV), loopE ann45 2 (V45 n c45_l2) m [.p (.v (.string x1)), .own 98 x2] K = f45_l2 n m K x1 x2
  | 0, _, _ => rfl
  | m + 1, x1, x2 => (sp45_l2 n m x1 x2 K).trans (congrArg (fun l0 => p45_l2B n l0 x1 x2 (fun y1 => K (.exit 0) (lk (outA ann45.loops 2) [.dead, .own 98 y1]))) (funext fun z0 => funext fun z1 => ep45_l2 n K m z0 z1))
theorem q45_l2 (n : Nat) : K45 R n (false, 2, c45_l2) := part_loop (pa45_l2 n) t45_l2 (f45_l2 n n) (fun K x1 x2 => ep45_l2 n K n x1 x2) fun _ _ => rfl
theorem pa45 (n : Nat) : allP (K45 R n) (partsOf ann45 (bodyOf Tryz.f45)) := by
  rw [show partsOf ann45 (bodyOf Tryz.f45) = [(false, 2, c45_l2)] from by kernel_rfl]; exact ⟨q45_l2 n, trivial⟩
end
abbrev t45 : Sl (List SV) := (.c (sP sStr) .n)
noncomputable abbrev f45 (n : Nat) {R : Type} (K : List SV → Option R) : t45.T (Option R) := fun x1 => p45 n x1 (fun y1 => K [.p (.sh y1)])
theorem ep45 {R : Type} (n : Nat) (K : List SV → Option R) (x1 : ByteArray) : evFn Tryz.prog (env45 n) ann45 n Tryz.f45 [.p (.v (.string x1))] K = f45 n K x1 := by
  rw [evFn_evOi (c := bodyOf Tryz.f45) (by kernel_rfl) (pa45 n)]; kernel_rfl
noncomputable abbrev fs45 (n : Nat) : FS := { om := [false], run := fun args K => oget (t45.ap args (f45 n K)) none }
theorem ok45 (n : Nat) : FSound Tryz.prog GI 45 (fs45 n) :=
  FSound.good (envok45 n) (ann := ann45) (n := n) Tryz.func45
    (.cons (envok45 n) t45 (f45 n) (fun K x1 => ep45 n K x1) .nil)
    (by kernel_rfl) (by kernel_rfl) (by kernel_rfl)
end Go.Proofs.YtfbahcfojiaeaaaGreatDoor


set_option linter.unusedVariables false
set_option maxRecDepth 100000
namespace Go.Proofs.YtfbahcfojiaeaaaGreatDoor
open Go Th Go.Proofs
def ann81 : Ann := { loops := [(5, [(0, .id), (3, .id), (4, .id)], [(2, .id), (3, .id)])], cuts := [(6, [(0, .id), (3, .id), (4, .id)], [(0, .id), (2, .id), (3, .id), (4, .id)])], frz := [], rm := [.id] }
noncomputable abbrev env81 (n : Nat) : Env := fun i => bif Nat.beq i 98 then some (fs98 n) else (fun i => bif Nat.beq i 97 then some (fs97 n) else (fun i => bif Nat.beq i 96 then some (fs96 n) else (fun i => bif Nat.beq i 95 then some (fs95 n) else (fun _ => none) i) i) i) i
theorem envok81 (n : Nat) : EnvOK Tryz.prog GI (env81 n) := EnvOK.cons (EnvOK.cons (EnvOK.cons (EnvOK.cons (EnvOK.nil) (ok95 n)) (ok96 n)) (ok97 n)) (ok98 n)
noncomputable def p81_c6 {R : Type} (n : Nat) (x1 : List PV) (x2 : ByteArray) (x3 : Int) (k0 : List PV → ByteArray → Int → Option R) : Option R :=
  k0 x1 x2 (IntKind.i64.wrap (x3 - 1))
noncomputable def p81_l5v1B {R : Type} (n : Nat) (l0 : List PV → ByteArray → Int → Option R) (x1 : List PV) (x2 : ByteArray) (x3 : Int) (k0 : ByteArray → Option R) : Option R :=
  bif (decide (x3 ≥ 0)) then (bif (inR x3 ((x1).length)) then (getI .u32 ((x1).getD ((x3 : Int).toNat) (.v (.bool false))) fun e4 => bif (i64R (IntKind.i64.wrap (e4))) then (let v5 := IntKind.i64.wrap (((x1).length : Int) - 1); bif (decide (x3 < v5)) then (let v6 := IntKind.i64.wrap (9 - ((itoaB (IntKind.i64.wrap (e4))).size : Int)); bif (decide ((0 : Int) ≤ v6) && decide ((v6 : Int) ≤ 9223372036854775807) && roomB (((⟨#[48]⟩ : ByteArray)).size * (v6 : Int).toNat)) then (catS (repB (⟨#[48]⟩ : ByteArray) v6) (itoaB (IntKind.i64.wrap (e4))) fun s7 => bif (roomB ((x2).size + (s7).size)) then (p81_c6 n x1 (x2 ++ s7) x3 (fun y8 y9 y10 => l0 y8 y9 y10)) else none) else none) else (bif (roomB ((x2).size + (itoaB (IntKind.i64.wrap (e4))).size)) then (p81_c6 n x1 (x2 ++ (itoaB (IntKind.i64.wrap (e4)))) x3 (fun y11 y12 y13 => l0 y11 y12 y13)) else none)) else none) else none) else (k0 x2)
noncomputable def p81_l5v1L {R : Type} (n : Nat) : Nat → List PV → ByteArray → Int → (ByteArray → Option R) → Option R
  | 0, _, _, _, _ => none
  | m + 1, x1, x2, x3, k0 => p81_l5v1B n (fun x1 x2 x3 => p81_l5v1L n m x1 x2 x3 k0) x1 x2 x3 k0
noncomputable def p81_l5B {R : Type} (n : Nat) (l0 : List PV → Int → Option R) (l1 : List PV → ByteArray → Int → Option R) (x1 : List PV) (x2 : Int) (k0 : ByteArray → Option R) (k1 : Option R) : Option R :=
  bif (decide (x2 ≥ 0)) then (bif (inR x2 ((x1).length)) then (getI .u32 ((x1).getD ((x2 : Int).toNat) (.v (.bool false))) fun e3 => bif (i64R (IntKind.i64.wrap (e3))) then (let v4 := IntKind.i64.wrap (((x1).length : Int) - 1); bif (decide (x2 < v4)) then (let v5 := IntKind.i64.wrap (9 - ((itoaB (IntKind.i64.wrap (e3))).size : Int)); bif (decide ((0 : Int) ≤ v5) && decide ((v5 : Int) ≤ 9223372036854775807) && roomB (((⟨#[48]⟩ : ByteArray)).size * (v5 : Int).toNat)) then (catS (repB (⟨#[48]⟩ : ByteArray) v5) (itoaB (IntKind.i64.wrap (e3))) fun s6 => bif (roomB ((ByteArray.empty).size + (s6).size)) then (p81_c6 n x1 (ByteArray.empty ++ s6) x2 (fun y7 y8 y9 => l1 y7 y8 y9)) else none) else none) else (bif (roomB ((ByteArray.empty).size + (itoaB (IntKind.i64.wrap (e3))).size)) then (p81_c6 n x1 (ByteArray.empty ++ (itoaB (IntKind.i64.wrap (e3)))) x2 (fun y10 y11 y12 => l1 y10 y11 y12)) else none)) else none) else none) else (k1)
noncomputable def p81_l5L {R : Type} (n : Nat) : Nat → List PV → Int → (ByteArray → Option R) → (Option R) → Option R
  | 0, _, _, _, _ => none
  | m + 1, x1, x2, k0, k1 => p81_l5B n (fun x1 x2 => p81_l5L n m x1 x2 k0 k1) (fun x1 x2 x3 => p81_l5v1L n m x1 x2 x3 k0) x1 x2 k0 k1
noncomputable def p81_l5 {R : Type} (n : Nat) (x1 : List PV) (x2 : Int) (k0 : ByteArray → Option R) (k1 : Option R) : Option R := p81_l5L n n x1 x2 k0 k1
noncomputable def p81 {R : Type} (n : Nat) (x1 : List PV) (k0 : ByteArray → Option R) : Option R :=
  bif (((x1).length : Int) == 0) then (k0 ⟨#[48]⟩) else (let v2 := IntKind.i64.wrap (((x1).length : Int) - 1); p81_l5 n x1 v2 (fun y3 => k0 y3) (k0 ByteArray.empty))
noncomputable abbrev E81 {R : Type} (n : Nat) (c : Code) : Fr → Kc R → Option R := evC Tryz.prog (env81 n) ann81 n (36, []) c
noncomputable def c81_c6 : Code := subC (bodyOf Tryz.f81) [1, 1, 1, 0, 1, 0, 0, 1, 1]
abbrev t81_c6 : Sl (List SV) := (.c (sP sSh) (.c (sOb 114 5) (.c (sP (sInt .i64)) .n)))
noncomputable abbrev f81_c6 {R : Type} (n : Nat) (K : Kc R) : t81_c6.T (Option R) := fun x1 x2 x3 => p81_c6 n x1 x2 x3 (fun y1 y2 y3 => K .normal (lk (outA ann81.cuts 6) [.p (.sh y1), .dead, .ob 114 5 y2, .p (.v (.int .i64 y3))]))
noncomputable abbrev o81_c6 {R : Type} (n : Nat) (vs : List SV) (K : Kc R) : Option R := oget (t81_c6.ap vs (f81_c6 n K)) (cutE ann81 6 (E81 n c81_c6) vs K)
noncomputable def c81_l5 : Code := subC (bodyOf Tryz.f81) [1, 1, 1, 0, 1, 0, 0]
abbrev t81_l5a : Sl (List SV) := (.c (sP sSh) (.c (sOb 114 5) (.c (sP (sInt .i64)) .n)))
noncomputable abbrev f81_l5a {R : Type} (n m : Nat) (K : Kc R) : t81_l5a.T (Option R) := fun x1 x2 x3 => p81_l5v1L n m x1 x2 x3 (fun y1 => K (.exit 0) (lk (outA ann81.loops 5) [.dead, .ob 114 5 y1]))
abbrev t81_l5b : Sl (List SV) := (.c (sP sSh) (.c (sBx 114 (.c (sP sNilPtr) (.c sNl .n))) (.c (sP (sInt .i64)) .n)))
noncomputable abbrev f81_l5b {R : Type} (n m : Nat) (K : Kc R) : t81_l5b.T (Option R) := fun x1 x2 => p81_l5L n m x1 x2 (fun y1 => K (.exit 0) (lk (outA ann81.loops 5) [.dead, .ob 114 5 y1])) (K (.exit 0) (lk (outA ann81.loops 5) [.dead, .bx 114 [.p (.v (.pointer none)), .nl]]))
noncomputable abbrev o81_l5 {R : Type} (n : Nat) (vs : List SV) (K : Kc R) : Option R := oget (t81_l5a.ap vs (f81_l5a n n K)) (oget (t81_l5b.ap vs (f81_l5b n n K)) (loopE ann81 5 (E81 n c81_l5) n vs K))
noncomputable abbrev lo81 {R : Type} (n : Nat) : Orc R := fun i vs K => dcnd (Nat.beq i 5) (o81_l5 n vs K) (none)
noncomputable abbrev cu81 {R : Type} (n : Nat) : Orc R := fun i vs K => dcnd (Nat.beq i 6) (o81_c6 n vs K) (none)
section
variable {R : Type}
noncomputable abbrev V81 (n : Nat) (c : Code) : Fr → Kc R → Option R := evOi Tryz.prog (env81 n) ann81 (36, []) (lo81 n) (cu81 n) c
abbrev K81 (R : Type) (n : Nat) := PartOK (R := R) Tryz.prog (env81 n) ann81 n (36, []) (lo81 n) (cu81 n)
theorem pa81_c6 (n : Nat) : allP (K81 R n) (partsOf ann81 c81_c6) := by
  rw [show partsOf ann81 c81_c6 = [] from by kernel_rfl]; exact trivial
theorem q81_c6 (n : Nat) : K81 R n (true, 6, c81_c6) := part_cut (pa81_c6 n) t81_c6 (f81_c6 n) (fun K x1 x2 x3 => by show cutE _ _ _ _ _ = _; kernel_rfl) fun _ _ => rfl
theorem pa81_l5 (n : Nat) : allP (K81 R n) (partsOf ann81 c81_l5) := by
  rw [show partsOf ann81 c81_l5 = [(true, 6, c81_c6)] from by kernel_rfl]; exact ⟨q81_c6 n, trivial⟩
theorem sp81_l5v1 (n m : Nat) (x1 : List PV) (x2 : ByteArray) (x3 : Int) (K : Kc R) : loopE ann81 5 (V81 n c81_l5) (m + 1) [.p (.sh x1), .ob 114 5 x2, .p (.v (.int .i64 x3))] K = p81_l5v1B n (fun x1 x2 x3 => loopE ann81 5 (V81 n c81_l5) m [.p (.sh x1), .ob 114 5 x2, .p (.v (.int .i64 x3))] K) x1 x2 x3 (fun y1 => K (.exit 0) (lk (outA ann81.loops 5) [.dead, .ob 114 5 y1])) := by kernel_rfl
theorem ep81_l5v1 (n : Nat) (K : Kc R) : ∀ (m : Nat) (x1 : List PV) (x2 : ByteArray) (x3 : Int), loopE ann81 5 (V81 n c81_l5) m [.p (.sh x1), .ob 114 5 x2, .p (.v (.int .i64 x3))] K = f81_l5a n m K x1 x2 x3
  | 0, _, _, _ => rfl
  | m + 1, x1, x2, x3 => (sp81_l5v1 n m x1 x2 x3 K).trans (congrArg (fun l0 => p81_l5v1B n l0 x1 x2 x3 (fun y1 => K (.exit 0) (lk (outA ann81.loops 5) [.dead, .ob 114 5 y1]))) (funext fun z0 => funext fun z1 => funext fun z2 => ep81_l5v1 n K m z0 z1 z2))
theorem sp81_l5 (n m : Nat) (x1 : List PV) (x2 : Int) (K : Kc R) : loopE ann81 5 (V81 n c81_l5) (m + 1) [.p (.sh x1), .bx 114 [.p (.v (.pointer none)), .nl], .p (.v (.int .i64 x2))] K = p81_l5B n (fun x1 x2 => loopE ann81 5 (V81 n c81_l5) m [.p (.sh x1), .bx 114 [.p (.v (.pointer none)), .nl], .p (.v (.int .i64 x2))] K) (fun x1 x2 x3 => loopE ann81 5 (V81 n c81_l5) m [.p (.sh x1), .ob 114 5 x2, .p (.v (.int .i64 x3))] K) x1 x2 (fun y1 => K (.exit 0) (lk (outA ann81.loops 5) [.dead, .ob 114 5 y1])) (K (.exit 0) (lk (outA ann81.loops 5) [.dead, .bx 114 [.p (.v (.pointer none)), .nl]])) := by kernel_rfl
theorem ep81_l5 (n : Nat) (K : Kc R) : ∀ (m : Nat) (x1 : List PV) (x2 : Int), loopE ann81 5 (V81 n c81_l5) m [.p (.sh x1), .bx 114 [.p (.v (.pointer none)), .nl], .p (.v (.int .i64 x2))] K = f81_l5b n m K x1 x2
  | 0, _, _ => rfl
  | m + 1, x1, x2 => (sp81_l5 n m x1 x2 K).trans (cg2 (fun l0 l1 => p81_l5B n l0 l1 x1 x2 (fun y1 => K (.exit 0) (lk (outA ann81.loops 5) [.dead, .ob 114 5 y1])) (K (.exit 0) (lk (outA ann81.loops 5) [.dead, .bx 114 [.p (.v (.pointer none)), .nl]]))) (funext fun z0 => funext fun z1 => ep81_l5 n K m z0 z1) (funext fun z0 => funext fun z1 => funext fun z2 => ep81_l5v1 n K m z0 z1 z2))
theorem q81_l5 (n : Nat) : K81 R n (false, 5, c81_l5) := part_loop (pa81_l5 n) t81_l5a (f81_l5a n n) (fun K x1 x2 x3 => ep81_l5v1 n K n x1 x2 x3) (part_loop (pa81_l5 n) t81_l5b (f81_l5b n n) (fun K x1 x2 => ep81_l5 n K n x1 x2) fun _ _ => rfl)
theorem pa81 (n : Nat) : allP (K81 R n) (partsOf ann81 (bodyOf Tryz.f81)) := by
  rw [show partsOf ann81 (bodyOf Tryz.f81) = [(false, 5, c81_l5)] from by kernel_rfl]; exact ⟨q81_l5 n, trivial⟩
end
abbrev t81 : Sl (List SV) := (.c (sP sSh) .n)
noncomputable abbrev f81 (n : Nat) {R : Type} (K : List SV → Option R) : t81.T (Option R) := fun x1 => p81 n x1 (fun y1 => K [.p (.v (.string y1))])
theorem ep81 {R : Type} (n : Nat) (K : List SV → Option R) (x1 : List PV) : evFn Tryz.prog (env81 n) ann81 n Tryz.f81 [.p (.sh x1)] K = f81 n K x1 := by
  rw [evFn_evOi (c := bodyOf Tryz.f81) (by kernel_rfl) (pa81 n)]; kernel_rfl
noncomputable abbrev fs81 (n : Nat) : FS := { om := [false], run := fun args K => oget (t81.ap args (f81 n K)) none }
theorem ok81 (n : Nat) : FSound Tryz.prog GI 81 (fs81 n) :=
  FSound.good (envok81 n) (ann := ann81) (n := n) Tryz.func81
    (.cons (envok81 n) t81 (f81 n) (fun K x1 => ep81 n K x1) .nil)
    (by kernel_rfl) (by kernel_rfl) (by kernel_rfl)
end Go.Proofs.YtfbahcfojiaeaaaGreatDoor


set_option linter.unusedVariables false
set_option maxRecDepth 100000
namespace Go.Proofs.YtfbahcfojiaeaaaGreatDoor
open Go Th Go.Proofs
def ann46 : Ann := { loops := [], cuts := [(5, [(1, .id), (4, .id), (24, .id)], [(1, .id), (2, .id), (3, .id)]), (7, [(1, .id)], [(2, .id), (3, .id)]), (10, [(1, .id), (5, .id), (6, .id)], [(2, .id), (3, .id)]), (12, [(5, .id), (6, .id)], [(2, .id), (3, .id)]), (14, [(5, .id)], [(2, .id), (3, .id)])], frz := [], rm := [.id, .id] }
noncomputable abbrev env46 (n : Nat) : Env := fun i => bif Nat.beq i 81 then some (fs81 n) else (fun i => bif Nat.beq i 80 then some (fs80 n) else (fun i => bif Nat.beq i 79 then some (fs79 n) else (fun _ => none) i) i) i
theorem envok46 (n : Nat) : EnvOK Tryz.prog GI (env46 n) := EnvOK.cons (EnvOK.cons (EnvOK.cons (EnvOK.nil) (ok79 n)) (ok80 n)) (ok81 n)
noncomputable def p46_c5 {R : Type} (n : Nat) (x1 : Bool) (x2 x3 x4 : List PV) (x5 : Bool) (k0 : Bool → List PV → List PV → Option R) : Option R :=
  bif x5 then (p80 n x2 x4 (fun y6 y7 => p80 n x3 x4 (fun y8 y9 => k0 x1 y6 y8))) else (k0 x1 x2 x3)
noncomputable def p46_c14 {R : Type} (n : Nat) (x1 : ByteArray) (k0 : ByteArray → Int → Option R) : Option R :=
  k0 x1 0
noncomputable def p46_c12 {R : Type} (n : Nat) (x1 x2 : ByteArray) (k0 : ByteArray → Int → Option R) : Option R :=
  bif (!eqS x2 (⟨#[49]⟩ : ByteArray)) then (catS (⟨#[47]⟩ : ByteArray) x2 fun s3 => catS x1 s3 fun s4 => p46_c14 n s4 (fun y5 y6 => k0 y5 y6)) else (p46_c14 n x1 (fun y7 y8 => k0 y7 y8))
noncomputable def p46_c10 {R : Type} (n : Nat) (x1 : Bool) (x2 x3 : List PV) (x4 x5 : ByteArray) (k0 : ByteArray → Int → Option R) : Option R :=
  bif x1 then (catS (⟨#[45]⟩ : ByteArray) x4 fun s6 => p46_c12 n s6 x5 (fun y7 y8 => k0 y7 y8)) else (p46_c12 n x4 x5 (fun y9 y10 => k0 y9 y10))
noncomputable def p46_c7 {R : Type} (n : Nat) (x1 : Bool) (x2 x3 : List PV) (k0 : ByteArray → Int → Option R) : Option R :=
  p81 n x2 (fun y4 => p81 n x3 (fun y5 => bif (decide (((y4).size : Int) > 400)) then (bif true then (bif true then (bif true then (bif true then (k0 ⟨#[]⟩ 5) else none) else none) else none) else none) else (bif false then none else (bif false then none else (bif (bif false then true else (decide (((y5).size : Int) > 400))) then (k0 ⟨#[]⟩ 5) else (p46_c10 n x1 x2 x3 y4 y5 (fun y6 y7 => k0 y6 y7)))))))
noncomputable def p46 {R : Type} (n : Nat) (x1 : Bool) (x2 x3 : List PV) (k0 : ByteArray → Int → Option R) : Option R :=
  bif (((x2).length : Int) == 0) then (k0 ⟨#[48]⟩ 0) else (p79 n x2 x3 (fun y4 => bif (decide (((y4).length : Int) > 1)) then (bif true then (bif true then (bif true then (bif true then (p46_c5 n x1 x2 x3 y4 true (fun y5 y6 y7 => p46_c7 n y5 y6 y7 (fun y8 y9 => k0 y8 y9))) else none) else none) else none) else none) else (bif false then none else (bif (inR 0 ((y4).length)) then (getI .u32 ((y4).getD ((0 : Int).toNat) (.v (.bool false))) fun e10 => bif false then none else (bif false then none else (p46_c5 n x1 x2 x3 y4 (bif false then true else (decide (e10 > 1))) (fun y11 y12 y13 => p46_c7 n y11 y12 y13 (fun y14 y15 => k0 y14 y15))))) else none))))
noncomputable abbrev E46 {R : Type} (n : Nat) (c : Code) : Fr → Kc R → Option R := evC Tryz.prog (env46 n) ann46 n (66, []) c
noncomputable def c46_c5 : Code := subC (bodyOf Tryz.f46) [1, 1, 0, 1, 1]
abbrev t46_c5 : Sl (List SV) := (.c (sBx 65 (.c (sP sBool) (.c (sP sSh) (.c (sP sSh) .n)))) (.c (sP sSh) (.c (sP sBool) .n)))
noncomputable abbrev f46_c5 {R : Type} (n : Nat) (K : Kc R) : t46_c5.T (Option R) := fun x1 x2 x3 x4 x5 => p46_c5 n x1 x2 x3 x4 x5 (fun y1 y2 y3 => K .normal (lk (outA ann46.cuts 5) [.bx 65 [.p (.v (.bool y1)), .p (.sh y2), .p (.sh y3)], .dead, .dead]))
noncomputable abbrev o46_c5 {R : Type} (n : Nat) (vs : List SV) (K : Kc R) : Option R := oget (t46_c5.ap vs (f46_c5 n K)) (cutE ann46 5 (E46 n c46_c5) vs K)
noncomputable def c46_c7 : Code := subC (bodyOf Tryz.f46) [1, 1, 1]
abbrev t46_c7 : Sl (List SV) := (.c (sBx 65 (.c (sP sBool) (.c (sP sSh) (.c (sP sSh) .n)))) .n)
noncomputable abbrev f46_c7 {R : Type} (n : Nat) (K : Kc R) : t46_c7.T (Option R) := fun x1 x2 x3 => p46_c7 n x1 x2 x3 (fun y1 y2 => K .ret (lk (outA ann46.cuts 7) [.p (.v (.string y1)), .p (.v (.int .i64 y2))]))
noncomputable abbrev o46_c7 {R : Type} (n : Nat) (vs : List SV) (K : Kc R) : Option R := oget (t46_c7.ap vs (f46_c7 n K)) (cutE ann46 7 (E46 n c46_c7) vs K)
noncomputable def c46_c10 : Code := subC (bodyOf Tryz.f46) [1, 1, 1, 1, 1]
abbrev t46_c10 : Sl (List SV) := (.c (sBx 65 (.c (sP sBool) (.c (sP sSh) (.c (sP sSh) .n)))) (.c (sP sStr) (.c (sP sStr) .n)))
noncomputable abbrev f46_c10 {R : Type} (n : Nat) (K : Kc R) : t46_c10.T (Option R) := fun x1 x2 x3 x4 x5 => p46_c10 n x1 x2 x3 x4 x5 (fun y1 y2 => K .ret (lk (outA ann46.cuts 10) [.p (.v (.string y1)), .p (.v (.int .i64 y2))]))
noncomputable abbrev o46_c10 {R : Type} (n : Nat) (vs : List SV) (K : Kc R) : Option R := oget (t46_c10.ap vs (f46_c10 n K)) (cutE ann46 10 (E46 n c46_c10) vs K)
noncomputable def c46_c12 : Code := subC (bodyOf Tryz.f46) [1, 1, 1, 1, 1, 1]
abbrev t46_c12 : Sl (List SV) := (.c (sP sStr) (.c (sP sStr) .n))
noncomputable abbrev f46_c12 {R : Type} (n : Nat) (K : Kc R) : t46_c12.T (Option R) := fun x1 x2 => p46_c12 n x1 x2 (fun y1 y2 => K .ret (lk (outA ann46.cuts 12) [.p (.v (.string y1)), .p (.v (.int .i64 y2))]))
noncomputable abbrev o46_c12 {R : Type} (n : Nat) (vs : List SV) (K : Kc R) : Option R := oget (t46_c12.ap vs (f46_c12 n K)) (cutE ann46 12 (E46 n c46_c12) vs K)
noncomputable def c46_c14 : Code := subC (bodyOf Tryz.f46) [1, 1, 1, 1, 1, 1, 1]
abbrev t46_c14 : Sl (List SV) := (.c (sP sStr) .n)
noncomputable abbrev f46_c14 {R : Type} (n : Nat) (K : Kc R) : t46_c14.T (Option R) := fun x1 => p46_c14 n x1 (fun y1 y2 => K .ret (lk (outA ann46.cuts 14) [.p (.v (.string y1)), .p (.v (.int .i64 y2))]))
noncomputable abbrev o46_c14 {R : Type} (n : Nat) (vs : List SV) (K : Kc R) : Option R := oget (t46_c14.ap vs (f46_c14 n K)) (cutE ann46 14 (E46 n c46_c14) vs K)
noncomputable abbrev lo46 {R : Type} (n : Nat) : Orc R := fun i vs K => none
noncomputable abbrev cu46 {R : Type} (n : Nat) : Orc R := fun i vs K => dcnd (Nat.beq i 14) (o46_c14 n vs K) (dcnd (Nat.beq i 12) (o46_c12 n vs K) (dcnd (Nat.beq i 10) (o46_c10 n vs K) (dcnd (Nat.beq i 7) (o46_c7 n vs K) (dcnd (Nat.beq i 5) (o46_c5 n vs K) (none)))))
section
variable {R : Type}
abbrev K46 (R : Type) (n : Nat) := PartOK (R := R) Tryz.prog (env46 n) ann46 n (66, []) (lo46 n) (cu46 n)
theorem pa46_c5 (n : Nat) : allP (K46 R n) (partsOf ann46 c46_c5) := by
  rw [show partsOf ann46 c46_c5 = [] from by kernel_rfl]; exact trivial
theorem q46_c5 (n : Nat) : K46 R n (true, 5, c46_c5) := part_cut (pa46_c5 n) t46_c5 (f46_c5 n) (fun K x1 x2 x3 x4 x5 => by show cutE _ _ _ _ _ = _; kernel_rfl) fun _ _ => rfl
theorem pa46_c14 (n : Nat) : allP (K46 R n) (partsOf ann46 c46_c14) := by
  rw [show partsOf ann46 c46_c14 = [] from by kernel_rfl]; exact trivial
theorem q46_c14 (n : Nat) : K46 R n (true, 14, c46_c14) := part_cut (pa46_c14 n) t46_c14 (f46_c14 n) (fun K x1 => by show cutE _ _ _ _ _ = _; kernel_rfl) fun _ _ => rfl
theorem pa46_c12 (n : Nat) : allP (K46 R n) (partsOf ann46 c46_c12) := by
  rw [show partsOf ann46 c46_c12 = [(true, 14, c46_c14)] from by kernel_rfl]; exact ⟨q46_c14 n, trivial⟩
theorem q46_c12 (n : Nat) : K46 R n (true, 12, c46_c12) := part_cut (pa46_c12 n) t46_c12 (f46_c12 n) (fun K x1 x2 => by show cutE _ _ _ _ _ = _; kernel_rfl) fun _ _ => rfl
theorem pa46_c10 (n : Nat) : allP (K46 R n) (partsOf ann46 c46_c10) := by
  rw [show partsOf ann46 c46_c10 = [(true, 12, c46_c12)] from by kernel_rfl]; exact ⟨q46_c12 n, trivial⟩
theorem q46_c10 (n : Nat) : K46 R n (true, 10, c46_c10) := part_cut (pa46_c10 n) t46_c10 (f46_c10 n) (fun K x1 x2 x3 x4 x5 => by show cutE _ _ _ _ _ = _; kernel_rfl) fun _ _ => rfl
theorem pa46_c7 (n : Nat) : allP (K46 R n) (partsOf ann46 c46_c7) := by
  rw [show partsOf ann46 c46_c7 = [(true, 10, c46_c10)] from by kernel_rfl]; exact ⟨q46_c10 n, trivial⟩
theorem q46_c7 (n : Nat) : K46 R n (true, 7, c46_c7) := part_cut (pa46_c7 n) t46_c7 (f46_c7 n) (fun K x1 x2 x3 => by show cutE _ _ _ _ _ = _; kernel_rfl) fun _ _ => rfl
theorem pa46 (n : Nat) : allP (K46 R n) (partsOf ann46 (bodyOf Tryz.f46)) := by
  rw [show partsOf ann46 (bodyOf Tryz.f46) = [(true, 5, c46_c5), (true, 7, c46_c7)] from by kernel_rfl]; exact ⟨q46_c5 n, q46_c7 n, trivial⟩
end
abbrev t46 : Sl (List SV) := (.c (sP (sAgg (.c sBool (.c sSh (.c sSh .n))))) .n)
noncomputable abbrev f46 (n : Nat) {R : Type} (K : List SV → Option R) : t46.T (Option R) := fun x1 x2 x3 => p46 n x1 x2 x3 (fun y1 y2 => K [.p (.v (.string y1)), .p (.v (.int .i64 y2))])
theorem ep46 {R : Type} (n : Nat) (K : List SV → Option R) (x1 : Bool) (x2 x3 : List PV) : evFn Tryz.prog (env46 n) ann46 n Tryz.f46 [.p (.agg [.v (.bool x1), .sh x2, .sh x3])] K = f46 n K x1 x2 x3 := by
  rw [evFn_evOi (c := bodyOf Tryz.f46) (by kernel_rfl) (pa46 n)]; kernel_rfl
noncomputable abbrev fs46 (n : Nat) : FS := { om := [false], run := fun args K => oget (t46.ap args (f46 n K)) none }
theorem ok46 (n : Nat) : FSound Tryz.prog GI 46 (fs46 n) :=
  FSound.good (envok46 n) (ann := ann46) (n := n) Tryz.func46
    (.cons (envok46 n) t46 (f46 n) (fun K x1 x2 x3 => ep46 n K x1 x2 x3) .nil)
    (by kernel_rfl) (by kernel_rfl) (by kernel_rfl)
end Go.Proofs.YtfbahcfojiaeaaaGreatDoor


set_option linter.unusedVariables false
set_option linter.unusedSimpArgs false
namespace Go.Proofs.YtfbahcfojiaeaaaGreatDoor
open Go Th Go.Proofs
variable {R : Type}
theorem maxI_sub (l k : Nat) : maxI 0 ((l : Int) - (k : Int)) = ((l - k : Nat) : Int) := by
  unfold maxI; split <;> omega
theorem atoiK_dig {s : List UInt8} (h : ∀ c ∈ s, isD c = true) (h0 : s ≠ []) (hl : s.length ≤ 18) (K : Int → Option R) : atoiK (bs s) K = K (ofD s : Int) := by
  unfold atoiK
  rw [bs_data, atoi_dig s h h0 hl, bs_size, decide_eq_true (by omega)]; rfl
theorem parse_loop (n : Nat) : ∀ (m : Nat) (s : List UInt8) (o : List Nat), (∀ c ∈ s, isD c = true) → (∀ d ∈ o, d < 1000000000) → s.length < m → s.length + o.length < 2 ^ 30 →
    ∃ o' : List Nat, (∀ k0 : List PV → Option R, p45_l2L n m (bs s) (nl .u32 o) k0 = k0 (nl .u32 o')) ∧ (∀ d ∈ o', d < 1000000000) ∧ o'.length ≤ o.length + s.length ∧ val 1000000000 o' = val 1000000000 o + 1000000000 ^ o.length * ofD s
  | m + 1, s, o, hs, ho, hm, hl => by
    by_cases h0 : s = []
    · subst h0
      refine ⟨o, fun k0 => ?_, ho, by omega, by rw [show ofD [] = 0 from rfl]; simp⟩
      simp only [p45_l2L, p45_l2B]
      simp (disch := (first | omega | (simp only [List.length_append, List.length_cons, List.length_nil, List.length_replicate, List.length_take, List.length_drop]; omega))) only [↓c_pos, ↓c_neg, dec_t, dec_f, Bool.and_true, Bool.true_and, Bool.and_false, Bool.false_and, Bool.not_true, Bool.not_false, cond_true, cond_false, inR_t, cutR_t, roomB_t, lenOK_t, w64, bs_size, List.length_append, List.length_cons, List.length_nil, bs_extract, bs_append, bs_push, bs_data, bs_empty, bs_lit, catS_bs, eqS_bs, ite_pos', ite_neg', decide_true, decide_false, if_true, if_false, toNatC, getI_nl, nl_len, nl_set, nl_set0, nl_take, nl_drop, nl_rep, nl_app, hdSz_nl, drop0, wu32, wu64, wu8, List.length_set, List.length_replicate]
    · have hpos : 0 < s.length := List.length_pos_iff.2 h0
      obtain ⟨k, hk⟩ : ∃ k, k = s.length - 9 := ⟨_, rfl⟩
      have h1 : ∀ c ∈ s.take k, isD c = true := fun c h => hs c (List.mem_of_mem_take h)
      have h2 : ∀ c ∈ s.drop k, isD c = true := fun c h => hs c (List.mem_of_mem_drop h)
      have h3 : (s.drop k).length ≤ 9 := by rw [List.length_drop]; omega
      have h4 : s.drop k ≠ [] := by intro e; have := congrArg List.length e; rw [List.length_drop, List.length_nil] at this; omega
      have h5 : ofD (s.drop k) < 1000000000 := Nat.lt_of_lt_of_le (ofD_lt h2) (Nat.pow_le_pow_right (n := 10) (by omega) h3)
      have h6 : ofD s = ofD (s.take k) * 1000000000 + ofD (s.drop k) := by
        conv => lhs; rw [← List.take_append_drop k s]
        rw [ofD_append]
        by_cases hk0 : k = 0
        · subst hk0
          rw [List.take_zero, show ofD [] = 0 from rfl, Nat.zero_mul, Nat.zero_mul]
        · rw [List.length_drop, show s.length - k = 9 from by omega]
      obtain ⟨o', q1, q2, q3, q4⟩ := parse_loop n m (s.take k) (o ++ [ofD (s.drop k)]) h1 (by
        intro d hd
        rcases List.mem_append.1 hd with h | h
        · exact ho d h
        · rw [List.mem_singleton.1 h]; exact h5) (by rw [List.length_take]; omega) (by rw [List.length_take, List.length_append, List.length_singleton]; omega)
      refine ⟨o', fun k0 => ?_, q2, by rw [List.length_append, List.length_singleton, List.length_take] at q3; omega, ?_⟩
      · rw [← q1 k0]
        have w1 : maxI 0 ((s.length : Int) - 9) = (k : Int) := by rw [hk]; exact maxI_sub s.length 9
        have w2 : List.drop k (List.take s.length s) = s.drop k := by rw [List.take_length]
        have w3 := fun K => atoiK_dig (R := R) h2 h4 (by omega) K
        have w4 : List.drop 0 (List.take k s) = s.take k := rfl
        simp only [p45_l2L, p45_l2B]
        simp (disch := (first | omega | (simp only [List.length_append, List.length_cons, List.length_nil, List.length_replicate, List.length_take, List.length_drop]; omega))) only [↓c_pos, ↓c_neg, dec_t, dec_f, Bool.and_true, Bool.true_and, Bool.and_false, Bool.false_and, Bool.not_true, Bool.not_false, cond_true, cond_false, inR_t, cutR_t, roomB_t, lenOK_t, w64, bs_size, List.length_append, List.length_cons, List.length_nil, bs_extract, bs_append, bs_push, bs_data, bs_empty, bs_lit, catS_bs, eqS_bs, ite_pos', ite_neg', decide_true, decide_false, if_true, if_false, toNatC, getI_nl, nl_len, nl_set, nl_set0, nl_take, nl_drop, nl_rep, nl_app, hdSz_nl, drop0, wu32, wu64, wu8, List.length_set, List.length_replicate, w1, w2, w3, nl_one]
      · rw [q4, val_snoc, h6, List.length_append, List.length_singleton, Nat.pow_succ]
        grind
theorem parse_eq (n : Nat) (s : List UInt8) (hs : ∀ c ∈ s, isD c = true) (hl : s.length < 2 ^ 20) (hn : s.length < n) (k0 : List PV → Option R) : p45 n (bs s) k0 = k0 (NN (ofD s)) := by
  obtain ⟨o', q1, q2, q3, q4⟩ := parse_loop (R := R) n n s [] hs (by intro d h; cases h) hn (by simp; omega)
  rw [List.length_nil] at q3
  have ht := trim_eq (R := R) n o' q2 (by omega) (by omega) k0
  rw [q4, show val 1000000000 [] = 0 from rfl, List.length_nil, Nat.pow_zero, Nat.one_mul, Nat.zero_add] at ht
  unfold p45 p45_l2
  rw [show ([] : List PV) = nl .u32 [] from rfl, q1, ht]
theorem itoa_nat (d : Nat) (h : d < 1000000000) : itoaB (d : Int) = bs (dec d) := by
  unfold itoaB Lib.itoa
  rw [if_neg (by omega), Int.toNat_natCast]; rfl
theorem i64R_nat (d : Nat) (h : d < 1000000000) : i64R (d : Int) = true := by
  unfold i64R; simp; omega
theorem repL_one (k : Nat) : Lib.repeatL [48] k = List.replicate k 48 := by
  induction k with
  | zero => rfl
  | succ k ih => rw [Lib.repeatL, ih]; rfl
theorem dec9 {d : Nat} (h : d < 1000000000) : (dec d).length ≤ 9 := (dec_len d 9 (by omega)).2 h
theorem text_loop (n : Nat) (l : List Nat) (hl : ∀ d ∈ l, d < 1000000000) (h30 : l.length < 2 ^ 30) (k0 : ByteArray → Option R) : ∀ (i m : Nat), i < l.length → i < m → val 1000000000 (l.drop i) ≠ 0 → (dec (val 1000000000 (l.drop i))).length ≤ 9 * (l.length - i) →
    p81_l5v1L n m (nl .u32 l) (bs (dec (val 1000000000 (l.drop i)))) ((i : Int) - 1) k0 = k0 (bs (dec (val 1000000000 l)))
  | 0, m + 1, hi, hm, h0, hb => by
    rw [List.drop_zero] at *
    simp only [p81_l5v1L, p81_l5v1B]
    simp (disch := (first | omega | (simp only [List.length_append, List.length_cons, List.length_nil, List.length_replicate, List.length_take, List.length_drop]; omega))) only [↓c_pos, ↓c_neg, dec_t, dec_f, Bool.and_true, Bool.true_and, Bool.and_false, Bool.false_and, Bool.not_true, Bool.not_false, cond_true, cond_false, inR_t, cutR_t, roomB_t, lenOK_t, w64, bs_size, List.length_append, List.length_cons, List.length_nil, bs_extract, bs_append, bs_push, bs_data, bs_empty, bs_lit, catS_bs, eqS_bs, ite_pos', ite_neg', decide_true, decide_false, if_true, if_false, toNatC, getI_nl, nl_len, nl_set, nl_set0, nl_take, nl_drop, nl_rep, nl_app, hdSz_nl, drop0, wu32, wu64, wu8, List.length_set, List.length_replicate]
  | i + 1, m + 1, hi, hm, h0, hb => by
    have hd := getD_lt hB2 hl i
    have hv := val_drop_step 1000000000 l i
    have hstep := dec_step 9 (val 1000000000 (l.drop (i + 1))) (l.getD i 0) h0 hd
    have e : val 1000000000 (l.drop (i + 1)) * 10 ^ 9 + l.getD i 0 = val 1000000000 (l.drop i) := by rw [hv]; omega
    rw [e] at hstep
    have h9 := dec9 hd
    have hp := pad_eq 8 (l.getD i 0) hd
    have hlp : (pad 9 (l.getD i 0)).length = 9 := by rw [← hp, List.length_append, List.length_replicate]; omega
    have hlen : (dec (val 1000000000 (l.drop i))).length ≤ 9 * (l.length - i) := by rw [hstep, List.length_append, hlp]; omega
    have ih := text_loop n l hl h30 k0 i m (by omega) (by omega) (by rw [hv]; omega) hlen
    rw [hstep, ← hp] at ih
    have w1 : ((i + 1 : Nat) : Int) - 1 = (i : Int) := by omega
    have w2 := itoa_nat _ hd
    have w3 := i64R_nat _ hd
    have w4 : ((9 : Int) - ((dec (l.getD i 0)).length : Int)) = ((8 + 1 - (dec (l.getD i 0)).length : Nat) : Int) := by omega
    have w5 : repB (bs [48]) ((8 + 1 - (dec (l.getD i 0)).length : Nat) : Int) = bs (List.replicate (8 + 1 - (dec (l.getD i 0)).length) 48) := by
      rw [repB_bs, Int.toNat_natCast, repL_one]
    have w6 : (⟨#[48]⟩ : ByteArray).size = 1 := rfl
    simp only [p81_l5v1L, p81_l5v1B, p81_c6]
    simp (disch := (first | omega | (simp only [List.length_append, List.length_cons, List.length_nil, List.length_replicate, List.length_take, List.length_drop]; omega))) only [↓c_pos, ↓c_neg, dec_t, dec_f, Bool.and_true, Bool.true_and, Bool.and_false, Bool.false_and, Bool.not_true, Bool.not_false, cond_true, cond_false, inR_t, cutR_t, roomB_t, lenOK_t, w64, bs_size, List.length_append, List.length_cons, List.length_nil, bs_extract, bs_append, bs_push, bs_data, bs_empty, bs_lit, catS_bs, eqS_bs, ite_pos', ite_neg', decide_true, decide_false, if_true, if_false, toNatC, getI_nl, nl_len, nl_set, nl_set0, nl_take, nl_drop, nl_rep, nl_app, hdSz_nl, drop0, wu32, wu64, wu8, List.length_set, List.length_replicate, w1, w2, w3, w4, w5, w6, ih]
theorem text_eq (n a : Nat) (hl : (toL 1000000000 a).length < 2 ^ 30) (hn : (toL 1000000000 a).length < n) (k0 : ByteArray → Option R) : p81 n (NN a) k0 = k0 (bs (dec a)) := by
  unfold p81 NN
  by_cases h0 : a = 0
  · subst h0
    rw [toL_zero, dec_zero]
    rfl
  obtain ⟨t1, t2, t3, t4⟩ := toL_top hB2 h0
  have hlt := toL_lt hB2 a
  have hval := val_toL hB2 a
  generalize toL 1000000000 a = l at *
  obtain ⟨m, rfl⟩ : ∃ m, n = m + 1 := ⟨n - 1, by omega⟩
  have hd := getD_lt hB2 hlt (l.length - 1)
  have hv := val_drop_step 1000000000 l (l.length - 1)
  rw [show l.length - 1 + 1 = l.length from by omega, List.drop_length, show val 1000000000 [] = 0 from rfl, Nat.mul_zero, Nat.add_zero] at hv
  have h9 := dec9 hd
  have ih := text_loop (m + 1) l hlt hl k0 (l.length - 1) m (by omega) (by omega) (by omega) (by rw [hv]; omega)
  rw [hv, hval] at ih
  have w0 : ((l.length : Int) == 0) = false := by simp; intro e; rw [e] at t1; simp at t1
  have w1 : ((l.length : Int) - 1) = ((l.length - 1 : Nat) : Int) := by omega
  have w2 := itoa_nat _ hd
  have w3 := i64R_nat _ hd
  simp only [p81_l5, p81_l5L, p81_l5B, p81_c6]
  simp (disch := (first | omega | (simp only [List.length_append, List.length_cons, List.length_nil, List.length_replicate, List.length_take, List.length_drop]; omega))) only [↓c_pos, ↓c_neg, dec_t, dec_f, Bool.and_true, Bool.true_and, Bool.and_false, Bool.false_and, Bool.not_true, Bool.not_false, cond_true, cond_false, inR_t, cutR_t, roomB_t, lenOK_t, w64, bs_size, List.length_append, List.length_cons, List.length_nil, bs_extract, bs_append, bs_push, bs_data, bs_empty, bs_lit, catS_bs, eqS_bs, ite_pos', ite_neg', decide_true, decide_false, if_true, if_false, toNatC, getI_nl, nl_len, nl_set, nl_set0, nl_take, nl_drop, nl_rep, nl_app, hdSz_nl, drop0, wu32, wu64, wu8, List.length_set, List.length_replicate, w0, w1, w2, w3, List.nil_append, ih]
def ratL (a b : Nat) : Prop := a ≠ 0 ∧ (10 ^ 400 ≤ a / Nat.gcd a b ∨ 10 ^ 400 ≤ b / Nat.gcd a b)
instance (a b : Nat) : Decidable (ratL a b) := by unfold ratL; infer_instance
end Go.Proofs.YtfbahcfojiaeaaaGreatDoor


set_option linter.unusedVariables false
set_option maxRecDepth 100000
namespace Go.Proofs.YtfbahcfojiaeaaaGreatDoor
open Go Th Go.Proofs
def ann105 : Ann := { loops := [], cuts := [], frz := [], rm := [.id] }
noncomputable abbrev env105 (n : Nat) : Env := fun _ => none
theorem envok105 (n : Nat) : EnvOK Tryz.prog GI (env105 n) := EnvOK.nil
noncomputable def p105 {R : Type} (n : Nat) (x1 x2 : ByteArray) (k0 : Bool → Option R) : Option R :=
  bif (decide (((x1).size : Int) ≥ ((x2).size : Int))) then (bif true then (bif true then (bif true then (bif (cutR 0 ((x2).size : Int) (x1).size) then (bif true then (bif true then (k0 (bif true then eqS (ByteArray.extract x1 (0 : Int).toNat (((x2).size : Int) : Int).toNat) x2 else false)) else none) else none) else none) else none) else none) else none) else (bif false then none else (bif false then none else (bif false then none else (bif false then none else (bif false then none else (bif false then none else (k0 false)))))))
noncomputable abbrev lo105 {R : Type} (n : Nat) : Orc R := fun i vs K => none
noncomputable abbrev cu105 {R : Type} (n : Nat) : Orc R := fun i vs K => none
section
variable {R : Type}
abbrev K105 (R : Type) (n : Nat) := PartOK (R := R) Tryz.prog (env105 n) ann105 n (18, []) (lo105 n) (cu105 n)
theorem pa105 (n : Nat) : allP (K105 R n) (partsOf ann105 (bodyOf Tryz.f105)) := by
  rw [show partsOf ann105 (bodyOf Tryz.f105) = [] from by kernel_rfl]; exact trivial
end
abbrev t105 : Sl (List SV) := (.c (sP sStr) (.c (sP sStr) .n))
noncomputable abbrev f105 (n : Nat) {R : Type} (K : List SV → Option R) : t105.T (Option R) := fun x1 x2 => p105 n x1 x2 (fun y1 => K [.p (.v (.bool y1))])
theorem ep105 {R : Type} (n : Nat) (K : List SV → Option R) (x1 x2 : ByteArray) : evFn Tryz.prog (env105 n) ann105 n Tryz.f105 [.p (.v (.string x1)), .p (.v (.string x2))] K = f105 n K x1 x2 := by
  rw [evFn_evOi (c := bodyOf Tryz.f105) (by kernel_rfl) (pa105 n)]; kernel_rfl
noncomputable abbrev fs105 (n : Nat) : FS := { om := [false, false], run := fun args K => oget (t105.ap args (f105 n K)) none }
theorem ok105 (n : Nat) : FSound Tryz.prog GI 105 (fs105 n) :=
  FSound.good (envok105 n) (ann := ann105) (n := n) Tryz.func105
    (.cons (envok105 n) t105 (f105 n) (fun K x1 x2 => ep105 n K x1 x2) .nil)
    (by kernel_rfl) (by kernel_rfl) (by kernel_rfl)
end Go.Proofs.YtfbahcfojiaeaaaGreatDoor


set_option linter.unusedVariables false
set_option maxRecDepth 100000
namespace Go.Proofs.YtfbahcfojiaeaaaGreatDoor
open Go Th Go.Proofs
def ann90 : Ann := { loops := [], cuts := [], frz := [], rm := [.id, .id] }
noncomputable abbrev env90 (n : Nat) : Env := fun i => bif Nat.beq i 105 then some (fs105 n) else (fun _ => none) i
theorem envok90 (n : Nat) : EnvOK Tryz.prog GI (env90 n) := EnvOK.cons (EnvOK.nil) (ok105 n)
noncomputable def p90 {R : Type} (n : Nat) (x1 x2 : ByteArray) (k0 : ByteArray → Bool → Option R) : Option R :=
  p105 n x1 x2 (fun y3 => bif (!y3) then (k0 x1 false) else (bif (cutR ((x2).size : Int) ((x1).size : Int) (x1).size) then (k0 (ByteArray.extract x1 (((x2).size : Int) : Int).toNat (((x1).size : Int) : Int).toNat) true) else none))
noncomputable abbrev lo90 {R : Type} (n : Nat) : Orc R := fun i vs K => none
noncomputable abbrev cu90 {R : Type} (n : Nat) : Orc R := fun i vs K => none
section
variable {R : Type}
abbrev K90 (R : Type) (n : Nat) := PartOK (R := R) Tryz.prog (env90 n) ann90 n (15, []) (lo90 n) (cu90 n)
theorem pa90 (n : Nat) : allP (K90 R n) (partsOf ann90 (bodyOf Tryz.f90)) := by
  rw [show partsOf ann90 (bodyOf Tryz.f90) = [] from by kernel_rfl]; exact trivial
end
abbrev t90 : Sl (List SV) := (.c (sP sStr) (.c (sP sStr) .n))
noncomputable abbrev f90 (n : Nat) {R : Type} (K : List SV → Option R) : t90.T (Option R) := fun x1 x2 => p90 n x1 x2 (fun y1 y2 => K [.p (.v (.string y1)), .p (.v (.bool y2))])
theorem ep90 {R : Type} (n : Nat) (K : List SV → Option R) (x1 x2 : ByteArray) : evFn Tryz.prog (env90 n) ann90 n Tryz.f90 [.p (.v (.string x1)), .p (.v (.string x2))] K = f90 n K x1 x2 := by
  rw [evFn_evOi (c := bodyOf Tryz.f90) (by kernel_rfl) (pa90 n)]; kernel_rfl
noncomputable abbrev fs90 (n : Nat) : FS := { om := [false, false], run := fun args K => oget (t90.ap args (f90 n K)) none }
theorem ok90 (n : Nat) : FSound Tryz.prog GI 90 (fs90 n) :=
  FSound.good (envok90 n) (ann := ann90) (n := n) Tryz.func90
    (.cons (envok90 n) t90 (f90 n) (fun K x1 x2 => ep90 n K x1 x2) .nil)
    (by kernel_rfl) (by kernel_rfl) (by kernel_rfl)
end Go.Proofs.YtfbahcfojiaeaaaGreatDoor


set_option linter.unusedVariables false
set_option maxRecDepth 100000
namespace Go.Proofs.YtfbahcfojiaeaaaGreatDoor
open Go Th Go.Proofs
def ann75 : Ann := { loops := [], cuts := [], frz := [], rm := [.id, .id] }
noncomputable abbrev env75 (n : Nat) : Env := fun i => bif Nat.beq i 90 then some (fs90 n) else (fun _ => none) i
theorem envok75 (n : Nat) : EnvOK Tryz.prog GI (env75 n) := EnvOK.cons (EnvOK.nil) (ok90 n)
noncomputable def p75 {R : Type} (n : Nat) (x1 x2 : ByteArray) (k0 : ByteArray → Bool → Option R) : Option R :=
  p90 n x1 x2 (fun y3 y4 => k0 y3 y4)
noncomputable abbrev lo75 {R : Type} (n : Nat) : Orc R := fun i vs K => none
noncomputable abbrev cu75 {R : Type} (n : Nat) : Orc R := fun i vs K => none
section
variable {R : Type}
abbrev K75 (R : Type) (n : Nat) := PartOK (R := R) Tryz.prog (env75 n) ann75 n (11, []) (lo75 n) (cu75 n)
theorem pa75 (n : Nat) : allP (K75 R n) (partsOf ann75 (bodyOf Tryz.f75)) := by
  rw [show partsOf ann75 (bodyOf Tryz.f75) = [] from by kernel_rfl]; exact trivial
end
abbrev t75 : Sl (List SV) := (.c (sP sStr) (.c (sP sStr) .n))
noncomputable abbrev f75 (n : Nat) {R : Type} (K : List SV → Option R) : t75.T (Option R) := fun x1 x2 => p75 n x1 x2 (fun y1 y2 => K [.p (.v (.string y1)), .p (.v (.bool y2))])
theorem ep75 {R : Type} (n : Nat) (K : List SV → Option R) (x1 x2 : ByteArray) : evFn Tryz.prog (env75 n) ann75 n Tryz.f75 [.p (.v (.string x1)), .p (.v (.string x2))] K = f75 n K x1 x2 := by
  rw [evFn_evOi (c := bodyOf Tryz.f75) (by kernel_rfl) (pa75 n)]; kernel_rfl
noncomputable abbrev fs75 (n : Nat) : FS := { om := [false, false], run := fun args K => oget (t75.ap args (f75 n K)) none }
theorem ok75 (n : Nat) : FSound Tryz.prog GI 75 (fs75 n) :=
  FSound.good (envok75 n) (ann := ann75) (n := n) Tryz.func75
    (.cons (envok75 n) t75 (f75 n) (fun K x1 x2 => ep75 n K x1 x2) .nil)
    (by kernel_rfl) (by kernel_rfl) (by kernel_rfl)
end Go.Proofs.YtfbahcfojiaeaaaGreatDoor


set_option linter.unusedVariables false
set_option maxRecDepth 100000
namespace Go.Proofs.YtfbahcfojiaeaaaGreatDoor
open Go Th Go.Proofs
def ann76 : Ann := { loops := [], cuts := [], frz := [], rm := [.id] }
noncomputable abbrev env76 (n : Nat) : Env := fun i => bif Nat.beq i 91 then some (fs91 n) else (fun _ => none) i
theorem envok76 (n : Nat) : EnvOK Tryz.prog GI (env76 n) := EnvOK.cons (EnvOK.nil) (ok91 n)
noncomputable def p76 {R : Type} (n : Nat) (x1 : ByteArray) (k0 : Bool → Option R) : Option R :=
  bif (eqS x1 (⟨#[]⟩ : ByteArray)) then (bif true then (bif true then (bif true then (bif true then (bif true then (bif true then (bif true then (bif true then (bif true then (bif true then (k0 false) else none) else none) else none) else none) else none) else none) else none) else none) else none) else none) else (bif false then none else (bif false then none else (bif (bif false then true else (decide (((x1).size : Int) > 400))) then (bif true then (bif true then (bif true then (bif true then (bif true then (bif true then (k0 false) else none) else none) else none) else none) else none) else none) else (bif false then none else (bif (inR 0 (x1).size) then (bif false then none else (bif false then none else (bif (byteAt x1 0 == 48) then (bif true then (bif true then (bif false then none else (bif (bif false then true else (bif true then (decide (((x1).size : Int) > 1)) else false)) then (k0 false) else (bif (trimOK x1 (⟨#[48, 49, 50, 51, 52, 53, 54, 55, 56, 57]⟩ : ByteArray)) then (k0 (eqS (trimB x1 (⟨#[48, 49, 50, 51, 52, 53, 54, 55, 56, 57]⟩ : ByteArray)) (⟨#[]⟩ : ByteArray))) else none))) else none) else none) else (bif false then none else (bif false then none else (bif false then none else (bif false then none else (bif false then none else (bif (trimOK x1 (⟨#[48, 49, 50, 51, 52, 53, 54, 55, 56, 57]⟩ : ByteArray)) then (k0 (eqS (trimB x1 (⟨#[48, 49, 50, 51, 52, 53, 54, 55, 56, 57]⟩ : ByteArray)) (⟨#[]⟩ : ByteArray))) else none))))))))) else none)))))
noncomputable abbrev lo76 {R : Type} (n : Nat) : Orc R := fun i vs K => none
noncomputable abbrev cu76 {R : Type} (n : Nat) : Orc R := fun i vs K => none
section
variable {R : Type}
abbrev K76 (R : Type) (n : Nat) := PartOK (R := R) Tryz.prog (env76 n) ann76 n (23, []) (lo76 n) (cu76 n)
theorem pa76 (n : Nat) : allP (K76 R n) (partsOf ann76 (bodyOf Tryz.f76)) := by
  rw [show partsOf ann76 (bodyOf Tryz.f76) = [] from by kernel_rfl]; exact trivial
end
abbrev t76 : Sl (List SV) := (.c (sP sStr) .n)
noncomputable abbrev f76 (n : Nat) {R : Type} (K : List SV → Option R) : t76.T (Option R) := fun x1 => p76 n x1 (fun y1 => K [.p (.v (.bool y1))])
theorem ep76 {R : Type} (n : Nat) (K : List SV → Option R) (x1 : ByteArray) : evFn Tryz.prog (env76 n) ann76 n Tryz.f76 [.p (.v (.string x1))] K = f76 n K x1 := by
  rw [evFn_evOi (c := bodyOf Tryz.f76) (by kernel_rfl) (pa76 n)]; kernel_rfl
noncomputable abbrev fs76 (n : Nat) : FS := { om := [false], run := fun args K => oget (t76.ap args (f76 n K)) none }
theorem ok76 (n : Nat) : FSound Tryz.prog GI 76 (fs76 n) :=
  FSound.good (envok76 n) (ann := ann76) (n := n) Tryz.func76
    (.cons (envok76 n) t76 (f76 n) (fun K x1 => ep76 n K x1) .nil)
    (by kernel_rfl) (by kernel_rfl) (by kernel_rfl)
end Go.Proofs.YtfbahcfojiaeaaaGreatDoor


set_option linter.unusedVariables false
set_option maxRecDepth 100000
namespace Go.Proofs.YtfbahcfojiaeaaaGreatDoor
open Go Th Go.Proofs
def ann44 : Ann := { loops := [], cuts := [], frz := [], rm := [.id, .id, .id] }
noncomputable abbrev env44 (n : Nat) : Env := fun i => bif Nat.beq i 76 then some (fs76 n) else (fun i => bif Nat.beq i 75 then some (fs75 n) else (fun _ => none) i) i
theorem envok44 (n : Nat) : EnvOK Tryz.prog GI (env44 n) := EnvOK.cons (EnvOK.cons (EnvOK.nil) (ok75 n)) (ok76 n)
noncomputable def p44 {R : Type} (n : Nat) (x1 : ByteArray) (k0 : Bool → ByteArray → Bool → Option R) : Option R :=
  p75 n x1 ⟨#[45]⟩ (fun y2 y3 => p76 n y2 (fun y4 => bif y4 then (bif true then (bif y3 then (bif true then (bif true then (bif true then (k0 y3 y2 (bif true then (!(bif true then eqS y2 (⟨#[48]⟩ : ByteArray) else false)) else false)) else none) else none) else none) else (bif false then none else (bif true then (bif false then none else (bif true then (k0 y3 y2 true) else none)) else none))) else none) else (bif false then none else (bif false then none else (bif false then none else (bif false then none else (k0 y3 y2 false)))))))
noncomputable abbrev lo44 {R : Type} (n : Nat) : Orc R := fun i vs K => none
noncomputable abbrev cu44 {R : Type} (n : Nat) : Orc R := fun i vs K => none
section
variable {R : Type}
abbrev K44 (R : Type) (n : Nat) := PartOK (R := R) Tryz.prog (env44 n) ann44 n (24, []) (lo44 n) (cu44 n)
theorem pa44 (n : Nat) : allP (K44 R n) (partsOf ann44 (bodyOf Tryz.f44)) := by
  rw [show partsOf ann44 (bodyOf Tryz.f44) = [] from by kernel_rfl]; exact trivial
end
abbrev t44 : Sl (List SV) := (.c (sP sStr) .n)
noncomputable abbrev f44 (n : Nat) {R : Type} (K : List SV → Option R) : t44.T (Option R) := fun x1 => p44 n x1 (fun y1 y2 y3 => K [.p (.v (.bool y1)), .p (.v (.string y2)), .p (.v (.bool y3))])
theorem ep44 {R : Type} (n : Nat) (K : List SV → Option R) (x1 : ByteArray) : evFn Tryz.prog (env44 n) ann44 n Tryz.f44 [.p (.v (.string x1))] K = f44 n K x1 := by
  rw [evFn_evOi (c := bodyOf Tryz.f44) (by kernel_rfl) (pa44 n)]; kernel_rfl
noncomputable abbrev fs44 (n : Nat) : FS := { om := [false], run := fun args K => oget (t44.ap args (f44 n K)) none }
theorem ok44 (n : Nat) : FSound Tryz.prog GI 44 (fs44 n) :=
  FSound.good (envok44 n) (ann := ann44) (n := n) Tryz.func44
    (.cons (envok44 n) t44 (f44 n) (fun K x1 => ep44 n K x1) .nil)
    (by kernel_rfl) (by kernel_rfl) (by kernel_rfl)
end Go.Proofs.YtfbahcfojiaeaaaGreatDoor


set_option linter.unusedVariables false
set_option maxRecDepth 100000
namespace Go.Proofs.YtfbahcfojiaeaaaGreatDoor
open Go Th Go.Proofs
def ann12 : Ann := { loops := [], cuts := [(5, [(6, .id), (7, .id), (9, .id), (10, .id)], [(4, .id), (5, .id)])], frz := [], rm := [.id, .id] }
noncomputable abbrev env12 (n : Nat) : Env := fun i => bif Nat.beq i 46 then some (fs46 n) else (fun i => bif Nat.beq i 45 then some (fs45 n) else (fun i => bif Nat.beq i 44 then some (fs44 n) else (fun _ => none) i) i) i
theorem envok12 (n : Nat) : EnvOK Tryz.prog GI (env12 n) := EnvOK.cons (EnvOK.cons (EnvOK.cons (EnvOK.nil) (ok44 n)) (ok45 n)) (ok46 n)
noncomputable def p12_c5 {R : Type} (n : Nat) (x1 : Bool) (x2 : ByteArray) (x3 : Bool) (x4 : ByteArray) (k0 : ByteArray → Int → Option R) : Option R :=
  bif (eqS x4 (⟨#[48]⟩ : ByteArray)) then (k0 ⟨#[]⟩ 24) else (p45 n x2 (fun y5 => p45 n x4 (fun y6 => p46 n (!(x1 == x3)) y5 y6 (fun y7 y8 => k0 y7 y8))))
noncomputable def p12 {R : Type} (n : Nat) (x1 x2 : ByteArray) (k0 : ByteArray → Int → Option R) : Option R :=
  p44 n x1 (fun y3 y4 y5 => p44 n x2 (fun y6 y7 y8 => bif (!y5) then (bif true then (bif true then (bif true then (k0 ⟨#[]⟩ 3) else none) else none) else none) else (bif false then none else (bif (bif false then true else (!y8)) then (k0 ⟨#[]⟩ 3) else (p12_c5 n y3 y4 y6 y7 (fun y9 y10 => k0 y9 y10))))))
noncomputable abbrev E12 {R : Type} (n : Nat) (c : Code) : Fr → Kc R → Option R := evC Tryz.prog (env12 n) ann12 n (43, []) c
noncomputable def c12_c5 : Code := subC (bodyOf Tryz.f12) [1, 1, 1, 1]
abbrev t12_c5 : Sl (List SV) := (.c (sP sBool) (.c (sP sStr) (.c (sP sBool) (.c (sP sStr) .n))))
noncomputable abbrev f12_c5 {R : Type} (n : Nat) (K : Kc R) : t12_c5.T (Option R) := fun x1 x2 x3 x4 => p12_c5 n x1 x2 x3 x4 (fun y1 y2 => K .ret (lk (outA ann12.cuts 5) [.p (.v (.string y1)), .p (.v (.int .i64 y2))]))
noncomputable abbrev o12_c5 {R : Type} (n : Nat) (vs : List SV) (K : Kc R) : Option R := oget (t12_c5.ap vs (f12_c5 n K)) (cutE ann12 5 (E12 n c12_c5) vs K)
noncomputable abbrev lo12 {R : Type} (n : Nat) : Orc R := fun i vs K => none
noncomputable abbrev cu12 {R : Type} (n : Nat) : Orc R := fun i vs K => dcnd (Nat.beq i 5) (o12_c5 n vs K) (none)
section
variable {R : Type}
abbrev K12 (R : Type) (n : Nat) := PartOK (R := R) Tryz.prog (env12 n) ann12 n (43, []) (lo12 n) (cu12 n)
theorem pa12_c5 (n : Nat) : allP (K12 R n) (partsOf ann12 c12_c5) := by
  rw [show partsOf ann12 c12_c5 = [] from by kernel_rfl]; exact trivial
theorem q12_c5 (n : Nat) : K12 R n (true, 5, c12_c5) := part_cut (pa12_c5 n) t12_c5 (f12_c5 n) (fun K x1 x2 x3 x4 => by show cutE _ _ _ _ _ = _; kernel_rfl) fun _ _ => rfl
theorem pa12 (n : Nat) : allP (K12 R n) (partsOf ann12 (bodyOf Tryz.f12)) := by
  rw [show partsOf ann12 (bodyOf Tryz.f12) = [(true, 5, c12_c5)] from by kernel_rfl]; exact ⟨q12_c5 n, trivial⟩
end
abbrev t12 : Sl (List SV) := (.c (sP sStr) (.c (sP sStr) .n))
noncomputable abbrev f12 (n : Nat) {R : Type} (K : List SV → Option R) : t12.T (Option R) := fun x1 x2 => p12 n x1 x2 (fun y1 y2 => K [.p (.v (.string y1)), .p (.v (.int .i64 y2))])
theorem ep12 {R : Type} (n : Nat) (K : List SV → Option R) (x1 x2 : ByteArray) : evFn Tryz.prog (env12 n) ann12 n Tryz.f12 [.p (.v (.string x1)), .p (.v (.string x2))] K = f12 n K x1 x2 := by
  rw [evFn_evOi (c := bodyOf Tryz.f12) (by kernel_rfl) (pa12 n)]; kernel_rfl
noncomputable abbrev fs12 (n : Nat) : FS := { om := [false, false], run := fun args K => oget (t12.ap args (f12 n K)) none }
theorem ok12 (n : Nat) : FSound Tryz.prog GI 12 (fs12 n) :=
  FSound.good (envok12 n) (ann := ann12) (n := n) Tryz.func12
    (.cons (envok12 n) t12 (f12 n) (fun K x1 x2 => ep12 n K x1 x2) .nil)
    (by kernel_rfl) (by kernel_rfl) (by kernel_rfl)
end Go.Proofs.YtfbahcfojiaeaaaGreatDoor


set_option linter.unusedVariables false
set_option linter.unusedSimpArgs false
namespace Go.Proofs.YtfbahcfojiaeaaaGreatDoor
open Go Th Go.Proofs
variable {R : Type}
def zs (neg : Bool) (a : Nat) : Int := if neg then -(a : Int) else a
theorem zs_natAbs (neg : Bool) (a : Nat) : (zs neg a).natAbs = a := by cases neg <;> simp [zs]
theorem zs_self (z : Int) : zs (decide (z < 0)) z.natAbs = z := by
  unfold zs; split <;> rename_i h <;> simp at h <;> omega
theorem zs_zero (neg : Bool) : zs neg 0 = 0 := by cases neg <;> rfl
theorem itoa_zs (neg : Bool) {a : Nat} (h : a ≠ 0) : Lib.itoa (zs neg a) = (if neg then [45] else []) ++ dec a := by
  unfold Lib.itoa
  cases neg
  · rw [if_neg (by simp [zs])]; simp [zs]
  · rw [if_pos (by simp [zs]; omega)]; simp [zs]
theorem itoa_pos (a : Nat) : Lib.itoa (a : Int) = dec a := by unfold Lib.itoa; rw [if_neg (by omega), Int.toNat_natCast]
theorem mk_num (neg : Bool) (a b : Nat) (hb : b ≠ 0) : (mkRat (zs neg a) b).num = zs neg (a / Nat.gcd b a) := by
  rw [Rat.num_mkRat, if_neg hb, zs_natAbs]
  cases neg
  · simp [zs]
  · simp only [zs, if_true]
    rw [Int.neg_ediv_of_dvd (Int.natCast_dvd_natCast.2 (Nat.gcd_dvd_right b a))]
    rfl
theorem mk_den (neg : Bool) (a b : Nat) (hb : b ≠ 0) : (mkRat (zs neg a) b).den = b / Nat.gcd b a := by
  rw [Rat.den_mkRat, if_neg hb, zs_natAbs]
def rtxt (q : Rat) : List UInt8 := Lib.itoa q.num ++ if q.den = 1 then [] else 47 :: dec q.den
def fits (q : Rat) : Prop := q.num.natAbs < 10 ^ 400 ∧ q.den < 10 ^ 400
instance (q : Rat) : Decidable (fits q) := by unfold fits; infer_instance
theorem rtxt_zero : rtxt 0 = [48] := by
  unfold rtxt
  rw [show (0 : Rat).num = ((0 : Nat) : Int) from rfl, itoa_pos, dec_zero]; rfl
theorem NN_zero : NN 0 = [] := by unfold NN; rw [toL_zero]; rfl
theorem NN_len (a : Nat) : (NN a).length = (toL 1000000000 a).length := by unfold NN; rw [nl_len]
theorem NN_small {a : Nat} (h0 : a ≠ 0) (h : a < 1000000000) : NN a = [PV.v (.int .u32 (a : Int))] := by unfold NN; rw [toL_one hB2 h0 h, nl_one]
theorem NN_one : NN 1 = [PV.v (.int .u32 1)] := NN_small (by omega) (by omega)
theorem lenB {a k : Nat} (h : a < 1000000000 ^ k) : (toL 1000000000 a).length ≤ k := (toL_len hB2 a k).2 h
theorem lenB_mono {a b k : Nat} (h : (toL 1000000000 b).length ≤ k) (hab : a ≤ b) : (toL 1000000000 a).length ≤ k := (toL_len hB2 a k).2 (Nat.lt_of_le_of_lt hab ((toL_len hB2 b k).1 h))
theorem reduce_eq (n : Nat) (neg t : Bool) (a b g : Nat) (hg : g ≠ 0) (ht : t = false → g = 1) (ha : (toL 1000000000 a).length < 2 ^ 18) (hb : (toL 1000000000 b).length < 2 ^ 18) (hgl : (toL 1000000000 g).length < 2 ^ 18) (hn : 2 ^ 20 < n) (k0 : Bool → List PV → List PV → Option R) :
    p46_c5 n neg (NN a) (NN b) (NN g) t k0 = k0 neg (NN (a / g)) (NN (b / g)) := by
  unfold p46_c5
  cases t
  · rw [ht rfl, Nat.div_one, Nat.div_one]; rfl
  · have d1 := fun k0 => div_eq (R := R) n a g (by omega) (by omega) (by omega) (by omega) k0
    have d2 := fun k0 => div_eq (R := R) n b g (by omega) (by omega) (by omega) (by omega) k0
    simp only [cond_true, d1, d2]
theorem ratText_eq (n : Nat) (neg : Bool) (a b : Nat) (hb0 : b ≠ 0) (ha : (toL 1000000000 a).length < 2 ^ 18) (hb : (toL 1000000000 b).length < 2 ^ 18) (hn : 2 ^ 20 < n) (hbn : b < n) (k0 : ByteArray → Int → Option R) :
    p46 n neg (NN a) (NN b) k0 = if fits (mkRat (zs neg a) b) then k0 (bs (rtxt (mkRat (zs neg a) b))) 0 else k0 (bs []) 5 := by
  unfold p46
  by_cases h0 : a = 0
  · subst h0
    rw [zs_zero, Rat.zero_mkRat]
    rw [if_pos (by decide +kernel), NN_zero, rtxt_zero]
    rfl
  have hg := fun k0 => gcd_eq (R := R) n a b hbn (by omega) (by omega) (by omega) (by omega) k0
  have hg0 : Nat.gcd b a ≠ 0 := fun e => h0 (Nat.gcd_eq_zero_iff.1 e).2
  have hgl : (toL 1000000000 (Nat.gcd b a)).length ≤ (toL 1000000000 a).length := lenB_mono (Nat.le_refl _) (Nat.le_of_dvd (by omega) (Nat.gcd_dvd_right b a))
  obtain ⟨g, hge⟩ : ∃ g, Nat.gcd b a = g := ⟨_, rfl⟩
  have hal : ¬ (toL 1000000000 a).length = 0 := fun e => h0 ((toL_eq_nil hB2).1 (List.eq_nil_of_length_eq_zero e))
  have hda : g ∣ a := by rw [← hge]; exact Nat.gcd_dvd_right b a
  have hdb : g ∣ b := by rw [← hge]; exact Nat.gcd_dvd_left b a
  have hag : a / g ≠ 0 := by
    have := Nat.div_mul_cancel hda
    intro e; rw [e] at this; omega
  have hbg : b / g ≠ 0 := by
    have := Nat.div_mul_cancel hdb
    intro e; rw [e] at this; omega
  have hla : (toL 1000000000 (a / g)).length < 2 ^ 18 := Nat.lt_of_le_of_lt (lenB_mono (Nat.le_refl _) (Nat.div_le_self a g)) ha
  have hlb : (toL 1000000000 (b / g)).length < 2 ^ 18 := Nat.lt_of_le_of_lt (lenB_mono (Nat.le_refl _) (Nat.div_le_self b g)) hb
  have e0 : (((toL 1000000000 a).length : Int) == 0) = false := by rw [beqInt0]; simpa using hal
  have key : ∀ t : Bool, (t = false → g = 1) → p46_c5 n neg (NN a) (NN b) (NN g) t (fun (y5 : Bool) (y6 : List PV) (y7 : List PV) => p46_c7 n y5 y6 y7 (fun (y8 : ByteArray) (y9 : Int) => k0 y8 y9)) = if fits (mkRat (zs neg a) b) then k0 (bs (rtxt (mkRat (zs neg a) b))) 0 else k0 (bs []) 5 := by
    intro t ht
    rw [reduce_eq n neg t a b g (by omega) ht ha hb (by rw [← hge]; omega) hn]
    unfold p46_c7
    have t1 := fun k0 => text_eq (R := R) n (a / g) (by omega) (by omega) k0
    have t2 := fun k0 => text_eq (R := R) n (b / g) (by omega) (by omega) k0
    simp only [t1, t2]
    have hf : fits (mkRat (zs neg a) b) ↔ ((dec (a / g)).length ≤ 400 ∧ (dec (b / g)).length ≤ 400) := by
      unfold fits
      rw [mk_num neg a b hb0, mk_den neg a b hb0, zs_natAbs, hge, dec_len _ _ (by omega), dec_len _ _ (by omega)]
    have hr : rtxt (mkRat (zs neg a) b) = (if neg then [45] else []) ++ dec (a / g) ++ if b / g = 1 then [] else 47 :: dec (b / g) := by
      unfold rtxt
      rw [mk_num neg a b hb0, mk_den neg a b hb0, hge, itoa_zs neg hag]
    by_cases c1 : 400 < (dec (a / g)).length
    · rw [if_neg (by rw [hf]; omega)]
      simp (disch := (first | omega | (simp only [List.length_append, List.length_cons, List.length_nil, List.length_replicate, List.length_take, List.length_drop]; omega))) only [↓c_pos, ↓c_neg, dec_t, dec_f, Bool.and_true, Bool.true_and, Bool.and_false, Bool.false_and, Bool.not_true, Bool.not_false, cond_true, cond_false, inR_t, cutR_t, roomB_t, lenOK_t, w64, bs_size, List.length_append, List.length_cons, List.length_nil, bs_extract, bs_append, bs_push, bs_data, bs_empty, bs_lit, catS_bs, eqS_bs, ite_pos', ite_neg', decide_true, decide_false, if_true, if_false, toNatC, getI_nl, nl_len, nl_set, nl_set0, nl_take, nl_drop, nl_rep, nl_app, hdSz_nl, drop0, wu32, wu64, wu8, List.length_set, List.length_replicate]
    by_cases c2 : 400 < (dec (b / g)).length
    · rw [if_neg (by rw [hf]; omega)]
      simp (disch := (first | omega | (simp only [List.length_append, List.length_cons, List.length_nil, List.length_replicate, List.length_take, List.length_drop]; omega))) only [↓c_pos, ↓c_neg, dec_t, dec_f, Bool.and_true, Bool.true_and, Bool.and_false, Bool.false_and, Bool.not_true, Bool.not_false, cond_true, cond_false, inR_t, cutR_t, roomB_t, lenOK_t, w64, bs_size, List.length_append, List.length_cons, List.length_nil, bs_extract, bs_append, bs_push, bs_data, bs_empty, bs_lit, catS_bs, eqS_bs, ite_pos', ite_neg', decide_true, decide_false, if_true, if_false, toNatC, getI_nl, nl_len, nl_set, nl_set0, nl_take, nl_drop, nl_rep, nl_app, hdSz_nl, drop0, wu32, wu64, wu8, List.length_set, List.length_replicate]
    rw [if_pos (by rw [hf]; omega), hr]
    have e1 : (dec (b / g) == [49]) = decide (b / g = 1) := by
      rw [Bool.eq_iff_iff, beq_iff_eq, decide_eq_true_iff]
      constructor
      · intro e; exact dec_inj (e.trans (dec_small (by omega : 1 < 10)).symm)
      · intro e; rw [e, dec_small (by omega)]; rfl
    simp only [p46_c10, p46_c12, p46_c14]
    cases neg
    · by_cases c3 : b / g = 1
      · have e2 : (dec (b / g) == [49]) = true := by rw [e1]; simpa using c3
        rw [if_pos c3]
        simp (disch := (first | omega | (simp only [List.length_append, List.length_cons, List.length_nil, List.length_replicate, List.length_take, List.length_drop]; omega))) only [↓c_pos, ↓c_neg, dec_t, dec_f, Bool.and_true, Bool.true_and, Bool.and_false, Bool.false_and, Bool.not_true, Bool.not_false, cond_true, cond_false, inR_t, cutR_t, roomB_t, lenOK_t, w64, bs_size, List.length_append, List.length_cons, List.length_nil, bs_extract, bs_append, bs_push, bs_data, bs_empty, bs_lit, catS_bs, eqS_bs, ite_pos', ite_neg', decide_true, decide_false, if_true, if_false, toNatC, getI_nl, nl_len, nl_set, nl_set0, nl_take, nl_drop, nl_rep, nl_app, hdSz_nl, drop0, wu32, wu64, wu8, List.length_set, List.length_replicate, e2]
        simp
      · have e2 : (dec (b / g) == [49]) = false := by rw [e1]; simpa using c3
        rw [if_neg c3]
        simp (disch := (first | omega | (simp only [List.length_append, List.length_cons, List.length_nil, List.length_replicate, List.length_take, List.length_drop]; omega))) only [↓c_pos, ↓c_neg, dec_t, dec_f, Bool.and_true, Bool.true_and, Bool.and_false, Bool.false_and, Bool.not_true, Bool.not_false, cond_true, cond_false, inR_t, cutR_t, roomB_t, lenOK_t, w64, bs_size, List.length_append, List.length_cons, List.length_nil, bs_extract, bs_append, bs_push, bs_data, bs_empty, bs_lit, catS_bs, eqS_bs, ite_pos', ite_neg', decide_true, decide_false, if_true, if_false, toNatC, getI_nl, nl_len, nl_set, nl_set0, nl_take, nl_drop, nl_rep, nl_app, hdSz_nl, drop0, wu32, wu64, wu8, List.length_set, List.length_replicate, e2]
        simp
    · by_cases c3 : b / g = 1
      · have e2 : (dec (b / g) == [49]) = true := by rw [e1]; simpa using c3
        rw [if_pos c3]
        simp (disch := (first | omega | (simp only [List.length_append, List.length_cons, List.length_nil, List.length_replicate, List.length_take, List.length_drop]; omega))) only [↓c_pos, ↓c_neg, dec_t, dec_f, Bool.and_true, Bool.true_and, Bool.and_false, Bool.false_and, Bool.not_true, Bool.not_false, cond_true, cond_false, inR_t, cutR_t, roomB_t, lenOK_t, w64, bs_size, List.length_append, List.length_cons, List.length_nil, bs_extract, bs_append, bs_push, bs_data, bs_empty, bs_lit, catS_bs, eqS_bs, ite_pos', ite_neg', decide_true, decide_false, if_true, if_false, toNatC, getI_nl, nl_len, nl_set, nl_set0, nl_take, nl_drop, nl_rep, nl_app, hdSz_nl, drop0, wu32, wu64, wu8, List.length_set, List.length_replicate, e2]
        simp
      · have e2 : (dec (b / g) == [49]) = false := by rw [e1]; simpa using c3
        rw [if_neg c3]
        simp (disch := (first | omega | (simp only [List.length_append, List.length_cons, List.length_nil, List.length_replicate, List.length_take, List.length_drop]; omega))) only [↓c_pos, ↓c_neg, dec_t, dec_f, Bool.and_true, Bool.true_and, Bool.and_false, Bool.false_and, Bool.not_true, Bool.not_false, cond_true, cond_false, inR_t, cutR_t, roomB_t, lenOK_t, w64, bs_size, List.length_append, List.length_cons, List.length_nil, bs_extract, bs_append, bs_push, bs_data, bs_empty, bs_lit, catS_bs, eqS_bs, ite_pos', ite_neg', decide_true, decide_false, if_true, if_false, toNatC, getI_nl, nl_len, nl_set, nl_set0, nl_take, nl_drop, nl_rep, nl_app, hdSz_nl, drop0, wu32, wu64, wu8, List.length_set, List.length_replicate, e2]
        simp
  simp only [hg, hge, NN_len]
  by_cases c : 1 < (toL 1000000000 g).length
  · have : 1000000000 ^ 1 ≤ g := toL_len_lt hB2 c
    simp (disch := (first | omega | (simp only [List.length_append, List.length_cons, List.length_nil, List.length_replicate, List.length_take, List.length_drop]; omega))) only [↓c_pos, ↓c_neg, dec_t, dec_f, Bool.and_true, Bool.true_and, Bool.and_false, Bool.false_and, Bool.not_true, Bool.not_false, cond_true, cond_false, inR_t, cutR_t, roomB_t, lenOK_t, w64, bs_size, List.length_append, List.length_cons, List.length_nil, bs_extract, bs_append, bs_push, bs_data, bs_empty, bs_lit, catS_bs, eqS_bs, ite_pos', ite_neg', decide_true, decide_false, if_true, if_false, toNatC, getI_nl, nl_len, nl_set, nl_set0, nl_take, nl_drop, nl_rep, nl_app, hdSz_nl, drop0, wu32, wu64, wu8, List.length_set, List.length_replicate, e0, key true (fun h => by cases h)]
  · have hg1 : g < 1000000000 := by
      have := (toL_len hB2 g 1).1 (by omega)
      rwa [Nat.pow_one] at this
    have hgl1 : (toL 1000000000 g).length = 1 := by rw [toL_one hB2 (by omega) hg1]; rfl
    have hgi : ∀ (K : Int → Option R), getI .u32 ((NN g).getD (0 : Int).toNat (PV.v (Value.bool false))) K = K (g : Int) := fun K => by rw [NN_small (by omega) hg1]; rfl
    have e3 : decide ((g : Int) > 1) = false → g = 1 := by intro h; simp at h; omega
    simp (disch := (first | omega | (simp only [List.length_append, List.length_cons, List.length_nil, List.length_replicate, List.length_take, List.length_drop]; omega))) only [↓c_pos, ↓c_neg, dec_t, dec_f, Bool.and_true, Bool.true_and, Bool.and_false, Bool.false_and, Bool.not_true, Bool.not_false, cond_true, cond_false, inR_t, cutR_t, roomB_t, lenOK_t, w64, bs_size, List.length_append, List.length_cons, List.length_nil, bs_extract, bs_append, bs_push, bs_data, bs_empty, bs_lit, catS_bs, eqS_bs, ite_pos', ite_neg', decide_true, decide_false, if_true, if_false, toNatC, getI_nl, nl_len, nl_set, nl_set0, nl_take, nl_drop, nl_rep, nl_app, hdSz_nl, drop0, wu32, wu64, wu8, List.length_set, List.length_replicate, e0, hgi, hgl1]
    exact key _ e3
def digs (s : List UInt8) : Bool := !s.isEmpty && decide (s.length ≤ 400) && !(s.head? == some 48 && decide (1 < s.length)) && s.all isD
theorem contains_dig (c : UInt8) : ([48, 49, 50, 51, 52, 53, 54, 55, 56, 57] : List UInt8).contains c = isD c := by
  rw [Bool.eq_iff_iff, isD_iff]
  simp only [List.contains_eq_mem, List.mem_cons, List.not_mem_nil, or_false, decide_eq_true_eq, ← UInt8.toNat_inj]
  have e : ∀ k : Nat, k < 256 → (UInt8.ofNat k).toNat = k := fun k h => by rw [UInt8.toNat_ofNat']; omega
  show (c.toNat = 48 ∨ c.toNat = 49 ∨ c.toNat = 50 ∨ c.toNat = 51 ∨ c.toNat = 52 ∨ c.toNat = 53 ∨ c.toNat = 54 ∨ c.toNat = 55 ∨ c.toNat = 56 ∨ c.toNat = 57) ↔ _
  omega
theorem mem_take_drop {α : Type} (p : α → Bool) (l : List α) {x : α} (h : x ∈ l) : p x = true ∨ x ∈ l.dropWhile p := by
  induction l with
  | nil => cases h
  | cons a r ih =>
    rw [List.dropWhile_cons]
    by_cases ha : p a = true
    · rw [if_pos ha]
      rcases List.mem_cons.1 h with rfl | h
      · exact Or.inl ha
      · exact ih h
    · rw [if_neg ha]; exact Or.inr h
theorem dropWhile_nil {α : Type} (p : α → Bool) (l : List α) : l.dropWhile p = [] ↔ ∀ x ∈ l, p x = true := by
  constructor
  · intro h x hx
    rcases mem_take_drop p l hx with h1 | h1
    · exact h1
    · rw [h] at h1; cases h1
  · intro h
    induction l with
    | nil => rfl
    | cons a r ih => rw [List.dropWhile_cons, if_pos (h a (List.mem_cons_self ..)), ih fun x hx => h x (List.mem_cons_of_mem _ hx)]
theorem trim_dig (s : List UInt8) : ((Lib.trimS s [48, 49, 50, 51, 52, 53, 54, 55, 56, 57]) == []) = s.all isD := by
  have hp : (([48, 49, 50, 51, 52, 53, 54, 55, 56, 57] : List UInt8).contains ·) = isD := funext contains_dig
  unfold Lib.trimS Lib.trimLeftS Lib.trimRightS
  rw [hp, Bool.eq_iff_iff, beq_iff_eq, dropWhile_nil, List.all_eq_true]
  constructor
  · intro h c hc
    rcases mem_take_drop isD s.reverse (List.mem_reverse.2 hc) with h1 | h1
    · exact h1
    · exact h c (List.mem_reverse.2 h1)
  · intro h c hc
    have : c ∈ s.reverse := (List.dropWhile_sublist _).subset (List.mem_reverse.1 hc)
    exact h c (List.mem_reverse.1 this)
theorem trimB_bs (s : List UInt8) : eqS (trimB (bs s) (bs [48, 49, 50, 51, 52, 53, 54, 55, 56, 57])) (bs []) = s.all isD := by
  rw [← trim_dig]; rfl
theorem trimOK_bs (s : List UInt8) (h : s.length ≤ 400) : trimOK (bs s) (bs [48, 49, 50, 51, 52, 53, 54, 55, 56, 57]) = true := by
  unfold trimOK
  rw [bs_size, decide_eq_true (by omega)]; rfl
theorem byteAt0 (c : UInt8) (r : List UInt8) : byteAt (bs (c :: r)) 0 = (c.toNat : Int) := rfl
theorem beqB (c d : UInt8) : (((c.toNat : Nat) : Int) == ((d.toNat : Nat) : Int)) = (c == d) := u8_eq
theorem digits_eq (n : Nat) (s : List UInt8) (hs : s.length < 2 ^ 40) (k0 : Bool → Option R) : p76 n (bs s) k0 = k0 (digs s) := by
  unfold p76
  cases s with
  | nil => rfl
  | cons c r =>
    have e0 : eqS (bs (c :: r)) (⟨#[]⟩ : ByteArray) = false := rfl
    rw [List.length_cons] at hs
    by_cases h4 : 400 < r.length + 1
    · have e1 : digs (c :: r) = false := by
        unfold digs
        rw [List.length_cons, decide_eq_false (by omega)]; simp
      have e0' : ((c :: r) == ([] : List UInt8)) = false := rfl
      simp (disch := (first | omega | (simp only [List.length_append, List.length_cons, List.length_nil, List.length_replicate, List.length_take, List.length_drop]; omega))) only [↓c_pos, ↓c_neg, dec_t, dec_f, Bool.and_true, Bool.true_and, Bool.and_false, Bool.false_and, Bool.not_true, Bool.not_false, cond_true, cond_false, inR_t, cutR_t, roomB_t, lenOK_t, w64, bs_size, List.length_append, List.length_cons, List.length_nil, bs_extract, bs_append, bs_push, bs_data, bs_empty, bs_lit, catS_bs, eqS_bs, ite_pos', ite_neg', decide_true, decide_false, if_true, if_false, toNatC, getI_nl, nl_len, nl_set, nl_set0, nl_take, nl_drop, nl_rep, nl_app, hdSz_nl, drop0, wu32, wu64, wu8, List.length_set, List.length_replicate, e0, e1, List.length_cons, e0']
    have e0' : ((c :: r) == ([] : List UInt8)) = false := rfl
    have t1 := trimOK_bs (c :: r) (by rw [List.length_cons]; omega)
    have t2 := trimB_bs (c :: r)
    by_cases hc : c = 48
    · subst hc
      have e2 : (byteAt (bs (48 :: r)) 0 == 48) = true := rfl
      by_cases h5 : 1 < r.length + 1
      · have e1 : digs (48 :: r) = false := by
          unfold digs
          rw [List.length_cons, decide_eq_true h5]; simp
        simp (disch := (first | omega | (simp only [List.length_append, List.length_cons, List.length_nil, List.length_replicate, List.length_take, List.length_drop]; omega))) only [↓c_pos, ↓c_neg, dec_t, dec_f, Bool.and_true, Bool.true_and, Bool.and_false, Bool.false_and, Bool.not_true, Bool.not_false, cond_true, cond_false, inR_t, cutR_t, roomB_t, lenOK_t, w64, bs_size, List.length_append, List.length_cons, List.length_nil, bs_extract, bs_append, bs_push, bs_data, bs_empty, bs_lit, catS_bs, eqS_bs, ite_pos', ite_neg', decide_true, decide_false, if_true, if_false, toNatC, getI_nl, nl_len, nl_set, nl_set0, nl_take, nl_drop, nl_rep, nl_app, hdSz_nl, drop0, wu32, wu64, wu8, List.length_set, List.length_replicate, e0, e1, e2, List.length_cons, e0']
      · have e1 : digs (48 :: r) = (48 :: r).all isD := by
          unfold digs
          rw [List.length_cons, decide_eq_false h5, decide_eq_true (by omega)]; simp
        simp (disch := (first | omega | (simp only [List.length_append, List.length_cons, List.length_nil, List.length_replicate, List.length_take, List.length_drop]; omega))) only [↓c_pos, ↓c_neg, dec_t, dec_f, Bool.and_true, Bool.true_and, Bool.and_false, Bool.false_and, Bool.not_true, Bool.not_false, cond_true, cond_false, inR_t, cutR_t, roomB_t, lenOK_t, w64, bs_size, List.length_append, List.length_cons, List.length_nil, bs_extract, bs_append, bs_push, bs_data, bs_empty, bs_lit, catS_bs, eqS_bs, ite_pos', ite_neg', decide_true, decide_false, if_true, if_false, toNatC, getI_nl, nl_len, nl_set, nl_set0, nl_take, nl_drop, nl_rep, nl_app, hdSz_nl, drop0, wu32, wu64, wu8, List.length_set, List.length_replicate, e0, e1, e2, List.length_cons, e0', t1, t2]
    · have e2 : (byteAt (bs (c :: r)) 0 == 48) = false := by
        rw [byteAt0]
        have := beqB c 48
        rw [show ((48 : UInt8).toNat : Int) = 48 from rfl] at this
        rw [this]; simpa using hc
      have e1 : digs (c :: r) = (c :: r).all isD := by
        unfold digs
        rw [List.length_cons, decide_eq_true (by omega : r.length + 1 ≤ 400)]
        simp [hc]
      simp (disch := (first | omega | (simp only [List.length_append, List.length_cons, List.length_nil, List.length_replicate, List.length_take, List.length_drop]; omega))) only [↓c_pos, ↓c_neg, dec_t, dec_f, Bool.and_true, Bool.true_and, Bool.and_false, Bool.false_and, Bool.not_true, Bool.not_false, cond_true, cond_false, inR_t, cutR_t, roomB_t, lenOK_t, w64, bs_size, List.length_append, List.length_cons, List.length_nil, bs_extract, bs_append, bs_push, bs_data, bs_empty, bs_lit, catS_bs, eqS_bs, ite_pos', ite_neg', decide_true, decide_false, if_true, if_false, toNatC, getI_nl, nl_len, nl_set, nl_set0, nl_take, nl_drop, nl_rep, nl_app, hdSz_nl, drop0, wu32, wu64, wu8, List.length_set, List.length_replicate, e0, e1, e2, List.length_cons, e0', t1, t2]
def cutN (s : List UInt8) : Bool × List UInt8 := match s with
  | 45 :: r => (true, r)
  | s => (false, s)
theorem cutN_len (s : List UInt8) : (cutN s).2.length ≤ s.length := by
  unfold cutN; split <;> simp
theorem cutN_cons (c : UInt8) (r : List UInt8) : cutN (c :: r) = if c = 45 then (true, r) else (false, c :: r) := by
  unfold cutN
  by_cases h : c = 45
  · subst h; rfl
  · rw [if_neg h]
    split
    · rename_i e; injection e with e1 _; exact absurd e1 h
    · rfl
theorem cutPrefix_eq (n : Nat) (s : List UInt8) (hs : s.length < 2 ^ 40) (k0 : ByteArray → Bool → Option R) : p75 n (bs s) ⟨#[45]⟩ k0 = k0 (bs (cutN s).2) (cutN s).1 := by
  unfold p75 p90 p105
  cases s with
  | nil => rfl
  | cons c r =>
    rw [List.length_cons] at hs
    have hz : ((⟨#[45]⟩ : ByteArray)).size = 1 := rfl
    have e1 : List.take (0 + 1) (c :: r) = [c] := rfl
    have e3 : List.drop (0 + 1) (c :: List.take r.length r) = r := by rw [List.take_length]; rfl
    have e2 : ([c] == [45]) = decide (c = 45) := by
      rw [Bool.eq_iff_iff]; simp
    rw [cutN_cons]
    by_cases hc : c = 45
    · rw [if_pos hc]
      simp (disch := (first | omega | (simp only [List.length_append, List.length_cons, List.length_nil, List.length_replicate, List.length_take, List.length_drop]; omega))) only [↓c_pos, ↓c_neg, dec_t, dec_f, Bool.and_true, Bool.true_and, Bool.and_false, Bool.false_and, Bool.not_true, Bool.not_false, cond_true, cond_false, inR_t, cutR_t, roomB_t, lenOK_t, w64, bs_size, List.length_append, List.length_cons, List.length_nil, bs_extract, bs_append, bs_push, bs_data, bs_empty, bs_lit, catS_bs, eqS_bs, ite_pos', ite_neg', decide_true, decide_false, if_true, if_false, toNatC, getI_nl, nl_len, nl_set, nl_set0, nl_take, nl_drop, nl_rep, nl_app, hdSz_nl, drop0, wu32, wu64, wu8, List.length_set, List.length_replicate, hz, List.length_cons, e1, e2, List.length_nil, List.take_succ_cons, e3]
    · rw [if_neg hc]
      simp (disch := (first | omega | (simp only [List.length_append, List.length_cons, List.length_nil, List.length_replicate, List.length_take, List.length_drop]; omega))) only [↓c_pos, ↓c_neg, dec_t, dec_f, Bool.and_true, Bool.true_and, Bool.and_false, Bool.false_and, Bool.not_true, Bool.not_false, cond_true, cond_false, inR_t, cutR_t, roomB_t, lenOK_t, w64, bs_size, List.length_append, List.length_cons, List.length_nil, bs_extract, bs_append, bs_push, bs_data, bs_empty, bs_lit, catS_bs, eqS_bs, ite_pos', ite_neg', decide_true, decide_false, if_true, if_false, toNatC, getI_nl, nl_len, nl_set, nl_set0, nl_take, nl_drop, nl_rep, nl_app, hdSz_nl, drop0, wu32, wu64, wu8, List.length_set, List.length_replicate, hz, List.length_cons, e1, e2, List.length_nil, List.take_succ_cons, e3]
def intB (s : List UInt8) : Bool := digs (cutN s).2 && !((cutN s).1 && (cutN s).2 == [48])
theorem integer_eq (n : Nat) (s : List UInt8) (hs : s.length < 2 ^ 40) (k0 : Bool → ByteArray → Bool → Option R) : p44 n (bs s) k0 = k0 (cutN s).1 (bs (cutN s).2) (intB s) := by
  have hl := cutN_len s
  have h1 := fun k0 => cutPrefix_eq (R := R) n s hs k0
  have h2 := fun k0 => digits_eq (R := R) n (cutN s).2 (by omega) k0
  unfold p44
  simp only [h1, h2, intB]
  generalize (cutN s).1 = neg
  generalize (cutN s).2 = r
  cases digs r
  · rfl
  · cases neg
    · rfl
    · rfl
theorem digs_dec {a : Nat} (h : a < 10 ^ 400) : digs (dec a) = true := by
  have h1 := (dec_len a 400 (by omega)).2 h
  have h2 := dec_ne a
  have h3 := dec_head a
  unfold digs
  rw [decide_eq_true h1]
  have e1 : (dec a).isEmpty = false := by simpa using h2
  have e2 : (dec a).all isD = true := List.all_eq_true.2 (dec_isD a)
  have e3 : ((dec a).head? == some 48 && decide (1 < (dec a).length)) = false := by
    rcases h3 with h3 | h3
    · have : ((dec a).head? == some 48) = false := by simpa using h3
      rw [this]; rfl
    · rw [h3]; simp
  rw [e1, e2, e3]; rfl
theorem digs_out {s : List UInt8} (h : digs s = true) : ofD s < 10 ^ 400 ∧ s = dec (ofD s) := by
  unfold digs at h
  simp only [Bool.and_eq_true, Bool.not_eq_true', List.isEmpty_eq_false_iff, decide_eq_true_eq] at h
  obtain ⟨⟨⟨h1, h2⟩, h3⟩, h4⟩ := h
  have h4' : ∀ c ∈ s, isD c = true := List.all_eq_true.1 h4
  have e : dec (ofD s) = s := dec_ofD h4' h1 (by
    by_cases h5 : s.head? = some 48
    · right
      rw [h5] at h3
      simp at h3
      have := List.length_pos_iff.2 h1
      omega
    · exact Or.inl h5)
  refine ⟨(dec_len (ofD s) 400 (by omega)).1 ?_, e.symm⟩
  rw [e]; exact h2
theorem cutN_dec (a : Nat) : cutN (dec a) = (false, dec a) := by
  have h := dec_isD a
  cases hd : dec a with
  | nil => rfl
  | cons c r =>
    rw [cutN_cons, if_neg]
    intro e
    rw [hd] at h
    have := h c (List.mem_cons_self ..)
    rw [e] at this
    exact absurd this (by decide)
theorem cutN_itoa (z : Int) : cutN (Lib.itoa z) = (decide (z < 0), dec z.natAbs) := by
  unfold Lib.itoa
  by_cases h : z < 0
  · rw [if_pos h, decide_eq_true h]; rfl
  · rw [if_neg h, decide_eq_false h]
    have : z.toNat = z.natAbs := by omega
    rw [this]; exact cutN_dec _
theorem intB_itoa {z : Int} (h : z.natAbs < 10 ^ 400) : intB (Lib.itoa z) = true := by
  unfold intB
  rw [cutN_itoa]
  simp only [digs_dec h, Bool.true_and]
  by_cases hz : z < 0
  · have : (dec z.natAbs == [48]) = false := by
      simp only [beq_eq_false_iff_ne, ne_eq]
      intro e
      have := dec_inj (e.trans dec_zero.symm)
      omega
    rw [this]; simp
  · simp [hz]
theorem cutN_in (s : List UInt8) : s = (if (cutN s).1 then [45] else []) ++ (cutN s).2 := by
  cases s with
  | nil => rfl
  | cons c r =>
    rw [cutN_cons]
    by_cases h : c = 45
    · rw [if_pos h, h]; rfl
    · rw [if_neg h]; rfl
theorem intB_out {s : List UInt8} (h : intB s = true) : ∃ z : Int, z.natAbs < 10 ^ 400 ∧ s = Lib.itoa z := by
  unfold intB at h
  simp only [Bool.and_eq_true, Bool.not_eq_true'] at h
  obtain ⟨h1, h2⟩ := h
  obtain ⟨h3, h4⟩ := digs_out h1
  have h5 := cutN_in s
  refine ⟨zs (cutN s).1 (ofD (cutN s).2), by rw [zs_natAbs]; exact h3, ?_⟩
  by_cases h0 : ofD (cutN s).2 = 0
  · rw [h0] at h4
    have e : (cutN s).1 = false := by
      rw [h4, dec_zero] at h2
      simpa using h2
    rw [h0, e]
    rw [e, h4] at h5
    rw [h5]
    exact (itoa_pos 0).symm
  · rw [itoa_zs _ h0, ← h4]; exact h5
theorem divInt_mk (z w : Int) : Rat.divInt z w = mkRat (zs (!(decide (z < 0) == decide (w < 0))) z.natAbs) w.natAbs := by
  by_cases hw : w < 0
  · obtain ⟨b, rfl⟩ : ∃ b : Nat, w = -(b : Int) := ⟨w.natAbs, by omega⟩
    rw [Rat.divInt_neg', Rat.divInt_ofNat, Int.natAbs_neg, Int.natAbs_natCast]
    congr 1
    rw [decide_eq_true hw]
    by_cases hz : z < 0
    · simp [hz, zs]; omega
    · simp [hz, zs]; omega
  · obtain ⟨b, rfl⟩ : ∃ b : Nat, w = (b : Int) := ⟨w.natAbs, by omega⟩
    rw [Rat.divInt_ofNat, Int.natAbs_natCast]
    congr 1
    rw [decide_eq_false hw]
    by_cases hz : z < 0
    · simp [hz, zs]; omega
    · simp [hz, zs]; omega
theorem lim_len {a : Nat} (h : a < 10 ^ 400) : (toL 1000000000 a).length ≤ 45 :=
  lenB (Nat.lt_of_lt_of_le h (by decide +kernel))
theorem dec_lim {a : Nat} (h : a < 10 ^ 400) : (dec a).length ≤ 400 := (dec_len a 400 (by omega)).2 h
end Go.Proofs.YtfbahcfojiaeaaaGreatDoor


set_option linter.unusedVariables false
set_option linter.unusedSimpArgs false
namespace Go.Proofs.YtfbahcfojiaeaaaGreatDoor
open Go Th Go.Proofs
variable {R : Type}
theorem ll_step {r d k : Nat} (h : ll r ≤ k) (hd : d < 10) : ll (10 * r + d) ≤ k + 1 := by
  rw [ll_le] at *
  rw [Nat.pow_succ]; omega
theorem dec_ll {a k : Nat} (h : ll a ≤ k) : (dec a).length ≤ k + 1 := by
  rw [dec_len _ _ (by omega), Nat.pow_succ]
  have := ll_le.1 h
  omega
theorem cmp_ge {a b : Nat} (h : b ≤ a) : 0 ≤ cmpN a b := by unfold cmpN; rw [if_neg (by omega)]; split <;> omega
theorem cmp_lt {a b : Nat} (h : a < b) : cmpN a b = -1 := by unfold cmpN; rw [if_pos h]
theorem rdiv_in (n b : Nat) (hb : 0 < b) (hbl : ll b ≤ 50000) (hn : 200000 ≤ n) (x1 : Bool) (x2 : List PV) (x3 x5 x6 : Bool) (x9 : List PV) (x10 : Int) (k0 : Bool → List PV → Bool → List PV → Bool → Bool → Bool → List PV → List PV → Int → Int → Option R) :
    ∀ (m r c : Nat), r / b < m → ll r ≤ 50002 → c + r / b < 2 ^ 40 → p53_l10L n m x1 x2 x3 (II b) x5 x6 false (II r) x9 x10 c k0 = k0 x1 x2 x3 (II b) x5 x6 false (II (r % b)) x9 x10 ((c + r / b : Nat) : Int)
  | m + 1, r, c, hm, hr, hc => by
    have h1 := fun k0 => rcmp_eq (R := R) n r b (by omega) (by omega) (by omega) k0
    simp only [p53_l10L, p53_l10B, h1]
    by_cases h : b ≤ r
    · have hge := cmp_ge h
      obtain ⟨l, q1, q2, q3, q4⟩ := rplus_eq (R := R) n r b (-1) (Or.inr rfl) (by omega) (by omega) (by omega) (by omega)
      have e2 : vb l = r - b := by omega
      have hm0 := fun k0 => make0_eq (R := R) n false l q2 (by omega) (by omega) k0
      rw [e2] at hm0
      have d1 := Nat.div_eq_sub_div hb h
      have d2 := Nat.mod_eq_sub_mod h
      have ih := rdiv_in n b hb hbl hn x1 x2 x3 x5 x6 x9 x10 k0 m (r - b) (c + 1) (by omega) (Nat.le_trans (ll_mono (Nat.sub_le _ _)) hr) (by omega)
      have e3 : (c : Int) + 1 = ((c + 1 : Nat) : Int) := by omega
      have e4 : c + 1 + (r - b) / b = c + r / b := by omega
      rw [e4, ← d2] at ih
      have hc1 : c + 1 < 2 ^ 40 := by
        rw [d1] at hc
        clear d1 d2 e4 ih hm
        generalize (r - b) / b = p at *
        omega
      clear d1 d2 e4 hc hm q3
      simp (disch := (first | omega | (simp only [List.length_append, List.length_cons, List.length_nil, List.length_replicate, List.length_take, List.length_drop]; omega))) only [↓c_pos, ↓c_neg, dec_t, dec_f, Bool.and_true, Bool.true_and, Bool.and_false, Bool.false_and, Bool.not_true, Bool.not_false, cond_true, cond_false, inR_t, cutR_t, roomB_t, lenOK_t, w64, bs_size, List.length_append, List.length_cons, List.length_nil, bs_extract, bs_append, bs_push, bs_data, bs_empty, bs_lit, catS_bs, eqS_bs, ite_pos', ite_neg', decide_true, decide_false, if_true, if_false, toNatC, getI_nl, nl_len, nl_set, nl_set0, nl_take, nl_drop, nl_rep, nl_app, hdSz_nl, drop0, wu32, wu64, wu8, List.length_set, List.length_replicate, q1, hm0, e3, ih]
    · rw [Nat.div_eq_of_lt (by omega), Nat.mod_eq_of_lt (by omega), cmp_lt (by omega)]
      rfl
theorem rdiv_loop (n b : Nat) (hb : 0 < b) (hbl : ll b ≤ 50000) (hn : 200000 ≤ n) (x1 x3 x5 x6 : Bool) (la : List Nat) (hla : ∀ d ∈ la, d < 10) (hl : la.length ≤ 50000) :
    ∀ (d m i r : Nat) (lq : List Nat), d + i = la.length → d < m → r < b → lq.length = i → (∀ x ∈ lq, x < 10) → vb (la.take i) = vb lq * b + r →
      ∃ lq' : List Nat, (∀ k0 : Bool → List PV → Bool → List PV → Bool → Bool → Bool → List PV → List PV → Option R, p53_l4L n m x1 (nl .i64 la) x3 (II b) x5 x6 false (II r) (nl .i64 lq) i k0 = k0 x1 (nl .i64 la) x3 (II b) x5 x6 false (II (vb la % b)) (nl .i64 lq')) ∧ (∀ x ∈ lq', x < 10) ∧ lq'.length = la.length ∧ vb lq' = vb la / b
  | 0, m + 1, i, r, lq, hd, hm, hr, hq, hqd, hv => by
    rw [List.take_of_length_le (by omega)] at hv
    have e1 : vb la % b = r := by rw [hv, Nat.mul_comm, Nat.mul_add_mod, Nat.mod_eq_of_lt hr]
    have e2 : vb la / b = vb lq := by rw [hv, Nat.mul_comm, Nat.mul_add_div hb, Nat.div_eq_of_lt hr, Nat.add_zero]
    refine ⟨lq, fun k0 => ?_, hqd, by omega, e2.symm⟩
    rw [e1]
    simp only [p53_l4L, p53_l4B]
    simp (disch := (first | omega | (simp only [List.length_append, List.length_cons, List.length_nil, List.length_replicate, List.length_take, List.length_drop]; omega))) only [↓c_pos, ↓c_neg, dec_t, dec_f, Bool.and_true, Bool.true_and, Bool.and_false, Bool.false_and, Bool.not_true, Bool.not_false, cond_true, cond_false, inR_t, cutR_t, roomB_t, lenOK_t, w64, bs_size, List.length_append, List.length_cons, List.length_nil, bs_extract, bs_append, bs_push, bs_data, bs_empty, bs_lit, catS_bs, eqS_bs, ite_pos', ite_neg', decide_true, decide_false, if_true, if_false, toNatC, getI_nl, nl_len, nl_set, nl_set0, nl_take, nl_drop, nl_rep, nl_app, hdSz_nl, drop0, wu32, wu64, wu8, List.length_set, List.length_replicate]
  | d + 1, m + 1, i, r, lq, hd, hm, hr, hq, hqd, hv => by
    have hai := getD_lt hT2 hla i
    have hrl : ll r ≤ 50000 := Nat.le_trans (ll_mono (Nat.le_of_lt hr)) hbl
    obtain ⟨s, hs⟩ : ∃ s, s = 10 * r + la.getD i 0 := ⟨_, rfl⟩
    have hsq : s / b < 10 := Nat.div_lt_of_lt_mul (by rw [Nat.mul_comm]; omega)
    have hsm : s % b < b := Nat.mod_lt _ hb
    have hsl : ll s ≤ 50002 := by
      rw [hs]; exact Nat.le_trans (ll_step hrl hai) (by omega)
    have hdm := Nat.div_add_mod s b
    have hmk := fun k0 => make0_eq (R := R) n false (DL r ++ [la.getD i 0]) (by
      intro x hx
      rcases List.mem_append.1 hx with h | h
      · exact DL_lt r x h
      · rw [List.mem_singleton.1 h]; exact hai) (by rw [List.length_append, DL_length, List.length_singleton]; omega) (by rw [List.length_append, DL_length, List.length_singleton]; omega) k0
    rw [vb_snoc, vb_DL, ← hs] at hmk
    obtain ⟨lq', q1, q2⟩ := rdiv_loop n b hb hbl hn x1 x3 x5 x6 la hla hl d m (i + 1) (s % b) (lq ++ [s / b]) (by omega) (by omega) hsm (by rw [List.length_append, hq]; rfl) (by
      intro x hx
      rcases List.mem_append.1 hx with h | h
      · exact hqd x h
      · rw [List.mem_singleton.1 h]; exact hsq) (by
      rw [vb_take_succ (by omega : i < la.length), vb_snoc, hv]
      generalize s / b = q at *
      generalize s % b = t at *
      generalize la.getD i 0 = x at *
      clear hmk
      grind)
    have h2 := fun k0 => rdiv_in (R := R) n b hb hbl hn x1 (nl .i64 la) x3 x5 x6 (nl .i64 lq) i k0 n s 0 (by omega) hsl (by omega)
    rw [Nat.zero_add, show ((0 : Nat) : Int) = 0 from rfl] at h2
    refine ⟨lq', fun k0 => ?_, q2⟩
    rw [← q1 k0]
    have w1 : (i : Int) + 1 = ((i + 1 : Nat) : Int) := by omega
    have w2 : II r ++ nl .i64 [la.getD i 0] = nl .i64 (DL r ++ [la.getD i 0]) := by unfold II; rw [nl_app]
    have w3 : hdSz 1 (II r) = true := hdSz_nl _ _
    simp only [p53_l4L, p53_l4B, p53_l10]
    simp (disch := (first | omega | (simp only [List.length_append, List.length_cons, List.length_nil, List.length_replicate, List.length_take, List.length_drop]; omega))) only [↓c_pos, ↓c_neg, dec_t, dec_f, Bool.and_true, Bool.true_and, Bool.and_false, Bool.false_and, Bool.not_true, Bool.not_false, cond_true, cond_false, inR_t, cutR_t, roomB_t, lenOK_t, w64, bs_size, List.length_append, List.length_cons, List.length_nil, bs_extract, bs_append, bs_push, bs_data, bs_empty, bs_lit, catS_bs, eqS_bs, ite_pos', ite_neg', decide_true, decide_false, if_true, if_false, toNatC, getI_nl, nl_len, nl_set, nl_set0, nl_take, nl_drop, nl_rep, nl_app, hdSz_nl, drop0, wu32, wu64, wu8, List.length_set, List.length_replicate, w1, w3, II_len, nl_one, w2, hmk, h2]
theorem from1_eq (n : Nat) (hn : 200000 ≤ n) (k0 : Bool → List PV → Option R) : p85 n 1 k0 = k0 false (II 1) := by
  obtain ⟨m, rfl⟩ : ∃ m, n = m + 2 := ⟨n - 2, by omega⟩
  have h := fun k0 => make0_eq (R := R) (m + 2) false [1] (by simp) (by simp) (by simp) k0
  have e : vb [1] = 1 := rfl
  rw [e] at h
  exact h k0
theorem sg_nat (a : Nat) : sg (a : Int) = false := by simp [sg]
theorem zs_sg (neg : Bool) (a : Nat) : sg (zs neg a) = (neg && !(a == 0)) := by
  cases neg
  · simp [zs, sg]
  · rw [Bool.eq_iff_iff]; simp [zs, sg]; omega
theorem rdiv_eq (n : Nat) (x : Int) (b : Nat) (hb : 0 < b) (hx : ll x.natAbs ≤ 20000) (hbl : ll b ≤ 20000) (hn : 200000 ≤ n) (k0 : Bool → List PV → Bool → List PV → Option R) :
    p53 n (sg x) (II x.natAbs) false (II b) k0 = k0 (sg (x / b)) (II (x / b).natAbs) (sg (x % b)) (II (x % b).natAbs) := by
  have hmod : x.natAbs % b < b := Nat.mod_lt _ hb
  have hdm := Nat.div_add_mod x.natAbs b
  obtain ⟨q, hq⟩ : ∃ q, q = x.natAbs / b := ⟨_, rfl⟩
  have hql : ll q ≤ 20000 := Nat.le_trans (ll_mono (by rw [hq]; exact Nat.div_le_self _ _)) hx
  have fin : ∀ z : Int, ll z.natAbs ≤ 20001 → z = x / b → p53_c17 n (sg x) (II x.natAbs) false (II b) false false (sg z) (II z.natAbs) k0 = k0 (sg (x / b)) (II (x / b).natAbs) (sg (x % b)) (II (x % b).natAbs) := by
    intro z hz hzx
    have m1 := fun k0 => rmul_eq (R := R) n z (b : Int) (by omega) (by rw [Int.natAbs_natCast]; omega) hn k0
    rw [sg_nat, Int.natAbs_natCast] at m1
    have hzb : ll (z * (b : Int)).natAbs ≤ 50000 := by
      rw [Int.natAbs_mul, Int.natAbs_natCast]
      exact Nat.le_trans (ll_mul _ _) (by omega)
    have m2 := fun k0 => rsub_eq (R := R) n x (z * (b : Int)) (by omega) hzb hn k0
    unfold p53_c17
    simp only [m1, m2]
    rw [Int.emod_def, ← hzx, Int.mul_comm]
  obtain ⟨lq, l1, l2, l3, l4⟩ := rdiv_loop (R := R) n b hb (by omega) hn (sg x) false false false (DL x.natAbs) (DL_lt _) (by rw [DL_length]; omega) (ll x.natAbs) n 0 0 [] (by rw [DL_length]; omega) (by omega) hb rfl (by intro d h; cases h) (by simp [vb_nil])
  rw [vb_DL] at l1 l4
  rw [DL_length] at l3
  rw [← hq] at l4 hdm
  have hmk := fun k0 => make0_eq (R := R) n (!(sg x == false)) lq l2 (by omega) (by omega) k0
  have e1 : (!(sg x == false)) = sg x := by cases sg x <;> rfl
  rw [e1, l4, ← zs_sg, ← zs_natAbs (sg x) q] at hmk
  rw [zs_natAbs] at hmk
  unfold p53 p53_l4
  have l1' : ∀ k0 : Bool → List PV → Bool → List PV → Bool → Bool → Bool → List PV → List PV → Option R, p53_l4L n n (sg x) (II x.natAbs) false (II b) false false false [] [] 0 k0 = k0 (sg x) (II x.natAbs) false (II b) false false false (II (x.natAbs % b)) (nl .i64 lq) := by
    intro k0
    have h := l1 k0
    rw [show ((0 : Nat) : Int) = 0 from rfl, nl_nil, II_zero] at h
    exact h
  rw [l1']
  rw [e1, hmk, II_len]
  obtain ⟨z0, hz0⟩ : ∃ z0, z0 = zs (sg x) q := ⟨_, rfl⟩
  have hz0n : z0.natAbs = q := by rw [hz0, zs_natAbs]
  rw [← hz0]
  by_cases hr : x.natAbs % b = 0
  · have e2 : ll (x.natAbs % b) = 0 := by rw [hr, ll_zero]
    have hz : z0 = x / b := by
      symm
      have := (Int.ediv_emod_unique (a := x) (b := (b : Int)) (r := 0) (q := z0) (by omega)).2 ⟨by
        rw [hr, Nat.add_zero] at hdm
        have hc : (b : Int) * (q : Int) = (x.natAbs : Int) := by rw [← hdm]; push_cast; rfl
        rw [hz0]; unfold zs sg
        by_cases hx0 : x < 0
        · rw [if_pos (by simpa using hx0), Int.mul_neg, hc]; omega
        · rw [if_neg (by simpa using hx0), hc]; omega, by omega, by omega⟩
      exact this.1
    have f := fin z0 (by rw [hz0n]; omega) hz
    rw [hz0n] at f
    simp (disch := (first | omega | (simp only [List.length_append, List.length_cons, List.length_nil, List.length_replicate, List.length_take, List.length_drop]; omega))) only [↓c_pos, ↓c_neg, dec_t, dec_f, Bool.and_true, Bool.true_and, Bool.and_false, Bool.false_and, Bool.not_true, Bool.not_false, cond_true, cond_false, inR_t, cutR_t, roomB_t, lenOK_t, w64, bs_size, List.length_append, List.length_cons, List.length_nil, bs_extract, bs_append, bs_push, bs_data, bs_empty, bs_lit, catS_bs, eqS_bs, ite_pos', ite_neg', decide_true, decide_false, if_true, if_false, toNatC, getI_nl, nl_len, nl_set, nl_set0, nl_take, nl_drop, nl_rep, nl_app, hdSz_nl, drop0, wu32, wu64, wu8, List.length_set, List.length_replicate, e2, f]
  · have e2 : 0 < ll (x.natAbs % b) := by
      have : ll (x.natAbs % b) ≠ 0 := fun h => hr (ll_eq0.1 h)
      omega
    by_cases hx0 : x < 0
    · have e3 : sg x = true := by simpa [sg] using hx0
      have hz : z0 - 1 = x / b := by
        symm
        have := (Int.ediv_emod_unique (a := x) (b := (b : Int)) (r := (b : Int) - (x.natAbs % b : Nat)) (q := z0 - 1) (by omega)).2 ⟨by
          have hc : (b : Int) * (q : Int) + ((x.natAbs % b : Nat) : Int) = (x.natAbs : Int) := by
            have := congrArg (fun k : Nat => (k : Int)) hdm
            push_cast at this ⊢
            exact this
          rw [hz0]; unfold zs
          rw [if_pos e3, Int.mul_sub, Int.mul_neg]; omega, by omega, by omega⟩
        exact this.1
      have s1 := fun k0 => rsub_eq (R := R) n z0 ((1 : Nat) : Int) (by rw [hz0n]; omega) (by rw [Int.natAbs_natCast]; unfold ll; rw [toL_dig (by omega) (by omega)]; decide) hn k0
      rw [sg_nat, Int.natAbs_natCast, hz0n] at s1
      have f := fin (z0 - 1) (by
        have : (z0 - 1).natAbs ≤ q + 1 := by omega
        exact Nat.le_trans (ll_mono this) (ll_add hql (by unfold ll; rw [toL_dig (by omega) (by omega)]; decide))) hz
      have f1 := fun k0 => from1_eq (R := R) n hn k0
      rw [e3] at f ⊢
      have e4 : (sg z0 : Bool) = decide (z0 < 0) := rfl
      have s1' : ∀ k0 : Bool → List PV → Option R, p82 n (sg z0) (II q) false (II 1) k0 = k0 (sg (z0 - 1)) (II (z0 - 1).natAbs) := s1
      generalize sg z0 = g0 at *
      generalize sg (z0 - 1) = g1 at *
      simp (disch := (first | omega | (simp only [List.length_append, List.length_cons, List.length_nil, List.length_replicate, List.length_take, List.length_drop]; omega))) only [↓c_pos, ↓c_neg, dec_t, dec_f, Bool.and_true, Bool.true_and, Bool.and_false, Bool.false_and, Bool.not_true, Bool.not_false, cond_true, cond_false, inR_t, cutR_t, roomB_t, lenOK_t, w64, bs_size, List.length_append, List.length_cons, List.length_nil, bs_extract, bs_append, bs_push, bs_data, bs_empty, bs_lit, catS_bs, eqS_bs, ite_pos', ite_neg', decide_true, decide_false, if_true, if_false, toNatC, getI_nl, nl_len, nl_set, nl_set0, nl_take, nl_drop, nl_rep, nl_app, hdSz_nl, drop0, wu32, wu64, wu8, List.length_set, List.length_replicate, e2, f1, s1', f]
    · have e3 : sg x = false := by simpa [sg] using hx0
      have hz : z0 = x / b := by
        symm
        have := (Int.ediv_emod_unique (a := x) (b := (b : Int)) (r := (x.natAbs % b : Nat)) (q := z0) (by omega)).2 ⟨by
          have hc : (b : Int) * (q : Int) + ((x.natAbs % b : Nat) : Int) = (x.natAbs : Int) := by
            have := congrArg (fun k : Nat => (k : Int)) hdm
            push_cast at this ⊢
            exact this
          rw [hz0]; unfold zs
          rw [if_neg (by rw [e3]; simp)]; omega, by omega, by omega⟩
        exact this.1
      have f := fin z0 (by rw [hz0n]; omega) hz
      rw [hz0n] at f
      rw [e3] at f ⊢
      generalize sg z0 = g0 at *
      simp (disch := (first | omega | (simp only [List.length_append, List.length_cons, List.length_nil, List.length_replicate, List.length_take, List.length_drop]; omega))) only [↓c_pos, ↓c_neg, dec_t, dec_f, Bool.and_true, Bool.true_and, Bool.and_false, Bool.false_and, Bool.not_true, Bool.not_false, cond_true, cond_false, inR_t, cutR_t, roomB_t, lenOK_t, w64, bs_size, List.length_append, List.length_cons, List.length_nil, bs_extract, bs_append, bs_push, bs_data, bs_empty, bs_lit, catS_bs, eqS_bs, ite_pos', ite_neg', decide_true, decide_false, if_true, if_false, toNatC, getI_nl, nl_len, nl_set, nl_set0, nl_take, nl_drop, nl_rep, nl_app, hdSz_nl, drop0, wu32, wu64, wu8, List.length_set, List.length_replicate, e2, f]
end Go.Proofs.YtfbahcfojiaeaaaGreatDoor


set_option linter.unusedVariables false
set_option maxRecDepth 100000
namespace Go.Proofs.YtfbahcfojiaeaaaGreatDoor
open Go Th Go.Proofs
def ann13 : Ann := { loops := [(8, [(0, .id), (3, .id)], [(2, .id)])], cuts := [(5, [(0, .id)], [(2, .id)]), (7, [(0, .id)], [(2, .id)])], frz := [], rm := [.id] }
noncomputable abbrev env13 (n : Nat) : Env := fun _ => none
theorem envok13 (n : Nat) : EnvOK Tryz.prog GI (env13 n) := EnvOK.nil
noncomputable def p13_l8B {R : Type} (n : Nat) (l0 : ByteArray → Int → Option R) (x1 : ByteArray) (x2 : Int) (k0 : Bool → Option R) (k1 : Option R) : Option R :=
  bif (decide (x2 < ((x1).size : Int))) then (bif (inR x2 (x1).size) then (bif (decide (byteAt x1 x2 < 48)) then (bif true then (bif true then (bif true then (bif true then (bif true then (k0 false) else none) else none) else none) else none) else none) else (bif false then none else (bif false then none else (bif (inR x2 (x1).size) then (bif false then none else (bif (bif false then true else (decide (byteAt x1 x2 > 57))) then (k0 false) else (l0 x1 (IntKind.i64.wrap (x2 + 1))))) else none)))) else none) else (k1)
noncomputable def p13_l8L {R : Type} (n : Nat) : Nat → ByteArray → Int → (Bool → Option R) → (Option R) → Option R
  | 0, _, _, _, _ => none
  | m + 1, x1, x2, k0, k1 => p13_l8B n (fun x1 x2 => p13_l8L n m x1 x2 k0 k1) x1 x2 k0 k1
noncomputable def p13_l8 {R : Type} (n : Nat) (x1 : ByteArray) (x2 : Int) (k0 : Bool → Option R) (k1 : Option R) : Option R := p13_l8L n n x1 x2 k0 k1
noncomputable def p13_c7 {R : Type} (n : Nat) (x1 : ByteArray) (k0 : Bool → Option R) : Option R :=
  p13_l8 n x1 0 (fun y2 => k0 y2) (k0 true)
noncomputable def p13_c5 {R : Type} (n : Nat) (x1 : ByteArray) (k0 : Bool → Option R) : Option R :=
  bif (decide (((x1).size : Int) < 1)) then (bif true then (bif true then (bif true then (bif true then (bif true then (bif true then (bif true then (bif true then (k0 false) else none) else none) else none) else none) else none) else none) else none) else none) else (bif false then none else (bif false then none else (bif (bif false then true else (decide (((x1).size : Int) > 400))) then (bif true then (bif true then (bif true then (bif true then (k0 false) else none) else none) else none) else none) else (bif false then none else (bif (inR 0 (x1).size) then (bif false then none else (bif (bif false then true else (byteAt x1 0 == 48)) then (k0 false) else (p13_c7 n x1 (fun y2 => k0 y2)))) else none)))))
noncomputable def p13 {R : Type} (n : Nat) (x1 : ByteArray) (k0 : Bool → Option R) : Option R :=
  bif (eqS x1 (⟨#[48]⟩ : ByteArray)) then (k0 true) else (bif (decide (((x1).size : Int) > 0)) then (bif true then (bif (inR 0 (x1).size) then (bif true then (bif (bif true then (byteAt x1 0 == 45) else false) then (bif (cutR 1 ((x1).size : Int) (x1).size) then (p13_c5 n (ByteArray.extract x1 (1 : Int).toNat (((x1).size : Int) : Int).toNat) (fun y2 => k0 y2)) else none) else (p13_c5 n x1 (fun y3 => k0 y3))) else none) else none) else none) else (bif false then none else (bif false then none else (bif false then none else (bif false then none else (p13_c5 n x1 (fun y4 => k0 y4)))))))
noncomputable abbrev E13 {R : Type} (n : Nat) (c : Code) : Fr → Kc R → Option R := evC Tryz.prog (env13 n) ann13 n (45, []) c
noncomputable def c13_c5 : Code := subC (bodyOf Tryz.f13) [1, 1, 1]
abbrev t13_c5 : Sl (List SV) := (.c (sP sStr) .n)
noncomputable abbrev f13_c5 {R : Type} (n : Nat) (K : Kc R) : t13_c5.T (Option R) := fun x1 => p13_c5 n x1 (fun y1 => K .ret (lk (outA ann13.cuts 5) [.p (.v (.bool y1))]))
noncomputable abbrev o13_c5 {R : Type} (n : Nat) (vs : List SV) (K : Kc R) : Option R := oget (t13_c5.ap vs (f13_c5 n K)) (cutE ann13 5 (E13 n c13_c5) vs K)
noncomputable def c13_c7 : Code := subC (bodyOf Tryz.f13) [1, 1, 1, 1]
abbrev t13_c7 : Sl (List SV) := (.c (sP sStr) .n)
noncomputable abbrev f13_c7 {R : Type} (n : Nat) (K : Kc R) : t13_c7.T (Option R) := fun x1 => p13_c7 n x1 (fun y1 => K .ret (lk (outA ann13.cuts 7) [.p (.v (.bool y1))]))
noncomputable abbrev o13_c7 {R : Type} (n : Nat) (vs : List SV) (K : Kc R) : Option R := oget (t13_c7.ap vs (f13_c7 n K)) (cutE ann13 7 (E13 n c13_c7) vs K)
noncomputable def c13_l8 : Code := subC (bodyOf Tryz.f13) [1, 1, 1, 1, 0, 1, 0, 0]
abbrev t13_l8 : Sl (List SV) := (.c (sP sStr) (.c (sP (sInt .i64)) .n))
noncomputable abbrev f13_l8 {R : Type} (n m : Nat) (K : Kc R) : t13_l8.T (Option R) := fun x1 x2 => p13_l8L n m x1 x2 (fun y1 => K .ret (lk (outA ann13.loops 8) [.p (.v (.bool y1))])) (K (.exit 0) (lk (outA ann13.loops 8) [.dead]))
noncomputable abbrev o13_l8 {R : Type} (n : Nat) (vs : List SV) (K : Kc R) : Option R := oget (t13_l8.ap vs (f13_l8 n n K)) (loopE ann13 8 (E13 n c13_l8) n vs K)
noncomputable abbrev lo13 {R : Type} (n : Nat) : Orc R := fun i vs K => dcnd (Nat.beq i 8) (o13_l8 n vs K) (none)
noncomputable abbrev cu13 {R : Type} (n : Nat) : Orc R := fun i vs K => dcnd (Nat.beq i 7) (o13_c7 n vs K) (dcnd (Nat.beq i 5) (o13_c5 n vs K) (none))
section
variable {R : Type}
noncomputable abbrev V13 (n : Nat) (c : Code) : Fr → Kc R → Option R := evOi Tryz.prog (env13 n) ann13 (45, []) (lo13 n) (cu13 n) c
abbrev K13 (R : Type) (n : Nat) := PartOK (R := R) Tryz.prog (env13 n) ann13 n (45, []) (lo13 n) (cu13 n)
theorem pa13_l8 (n : Nat) : allP (K13 R n) (partsOf ann13 c13_l8) := by
  rw [show partsOf ann13 c13_l8 = [] from by kernel_rfl]; exact trivial
theorem sp13_l8 (n m : Nat) (x1 : ByteArray) (x2 : Int) (K : Kc R) : loopE ann13 8 (V13 n c13_l8) (m + 1) [.p (.v (.string x1)), .p (.v (.int .i64 x2))] K = p13_l8B n (fun x1 x2 => loopE ann13 8 (V13 n c13_l8) m [.p (.v (.string x1)), .p (.v (.int .i64 x2))] K) x1 x2 (fun y1 => K .ret (lk (outA ann13.loops 8) [.p (.v (.bool y1))])) (K (.exit 0) (lk (outA ann13.loops 8) [.dead])) := by kernel_rfl
theorem ep13_l8 (n : Nat) (K : Kc R) : ∀ (m : Nat) (x1 : ByteArray) (x2 : Int), loopE ann13 8 (V13 n c13_l8) m [.p (.v (.string x1)), .p (.v (.int .i64 x2))] K = f13_l8 n m K x1 x2
  | 0, _, _ => rfl
  | m + 1, x1, x2 => (sp13_l8 n m x1 x2 K).trans (congrArg (fun l0 => p13_l8B n l0 x1 x2 (fun y1 => K .ret (lk (outA ann13.loops 8) [.p (.v (.bool y1))])) (K (.exit 0) (lk (outA ann13.loops 8) [.dead]))) (funext fun z0 => funext fun z1 => ep13_l8 n K m z0 z1))
theorem q13_l8 (n : Nat) : K13 R n (false, 8, c13_l8) := part_loop (pa13_l8 n) t13_l8 (f13_l8 n n) (fun K x1 x2 => ep13_l8 n K n x1 x2) fun _ _ => rfl
theorem pa13_c7 (n : Nat) : allP (K13 R n) (partsOf ann13 c13_c7) := by
  rw [show partsOf ann13 c13_c7 = [(false, 8, c13_l8)] from by kernel_rfl]; exact ⟨q13_l8 n, trivial⟩
theorem q13_c7 (n : Nat) : K13 R n (true, 7, c13_c7) := part_cut (pa13_c7 n) t13_c7 (f13_c7 n) (fun K x1 => by show cutE _ _ _ _ _ = _; kernel_rfl) fun _ _ => rfl
theorem pa13_c5 (n : Nat) : allP (K13 R n) (partsOf ann13 c13_c5) := by
  rw [show partsOf ann13 c13_c5 = [(true, 7, c13_c7)] from by kernel_rfl]; exact ⟨q13_c7 n, trivial⟩
theorem q13_c5 (n : Nat) : K13 R n (true, 5, c13_c5) := part_cut (pa13_c5 n) t13_c5 (f13_c5 n) (fun K x1 => by show cutE _ _ _ _ _ = _; kernel_rfl) fun _ _ => rfl
theorem pa13 (n : Nat) : allP (K13 R n) (partsOf ann13 (bodyOf Tryz.f13)) := by
  rw [show partsOf ann13 (bodyOf Tryz.f13) = [(true, 5, c13_c5)] from by kernel_rfl]; exact ⟨q13_c5 n, trivial⟩
end
abbrev t13 : Sl (List SV) := (.c (sP sStr) .n)
noncomputable abbrev f13 (n : Nat) {R : Type} (K : List SV → Option R) : t13.T (Option R) := fun x1 => p13 n x1 (fun y1 => K [.p (.v (.bool y1))])
theorem ep13 {R : Type} (n : Nat) (K : List SV → Option R) (x1 : ByteArray) : evFn Tryz.prog (env13 n) ann13 n Tryz.f13 [.p (.v (.string x1))] K = f13 n K x1 := by
  rw [evFn_evOi (c := bodyOf Tryz.f13) (by kernel_rfl) (pa13 n)]; kernel_rfl
noncomputable abbrev fs13 (n : Nat) : FS := { om := [false], run := fun args K => oget (t13.ap args (f13 n K)) none }
theorem ok13 (n : Nat) : FSound Tryz.prog GI 13 (fs13 n) :=
  FSound.good (envok13 n) (ann := ann13) (n := n) Tryz.func13
    (.cons (envok13 n) t13 (f13 n) (fun K x1 => ep13 n K x1) .nil)
    (by kernel_rfl) (by kernel_rfl) (by kernel_rfl)
end Go.Proofs.YtfbahcfojiaeaaaGreatDoor


set_option linter.unusedVariables false
set_option maxRecDepth 100000
namespace Go.Proofs.YtfbahcfojiaeaaaGreatDoor
open Go Th Go.Proofs
def ann48 : Ann := { loops := [], cuts := [], frz := [], rm := [.id] }
noncomputable abbrev env48 (n : Nat) : Env := fun _ => none
theorem envok48 (n : Nat) : EnvOK Tryz.prog GI (env48 n) := EnvOK.nil
noncomputable def p48 {R : Type} (n : Nat)  (k0 : Bool → List PV → Option R) : Option R :=
  k0 false ([.v (.int .i64 1)] : List PV)
noncomputable abbrev lo48 {R : Type} (n : Nat) : Orc R := fun i vs K => none
noncomputable abbrev cu48 {R : Type} (n : Nat) : Orc R := fun i vs K => none
section
variable {R : Type}
abbrev K48 (R : Type) (n : Nat) := PartOK (R := R) Tryz.prog (env48 n) ann48 n (3, []) (lo48 n) (cu48 n)
theorem pa48 (n : Nat) : allP (K48 R n) (partsOf ann48 (bodyOf Tryz.f48)) := by
  rw [show partsOf ann48 (bodyOf Tryz.f48) = [] from by kernel_rfl]; exact trivial
end
abbrev t48 : Sl (List SV) := .n
noncomputable abbrev f48 (n : Nat) {R : Type} (K : List SV → Option R) : t48.T (Option R) := p48 n  (fun y1 y2 => K [.p (.agg [.v (.bool y1), .sh y2])])
theorem ep48 {R : Type} (n : Nat) (K : List SV → Option R)  : evFn Tryz.prog (env48 n) ann48 n Tryz.f48 [] K = f48 n K  := by
  rw [evFn_evOi (c := bodyOf Tryz.f48) (by kernel_rfl) (pa48 n)]; kernel_rfl
noncomputable abbrev fs48 (n : Nat) : FS := { om := [], run := fun args K => oget (t48.ap args (f48 n K)) none }
theorem ok48 (n : Nat) : FSound Tryz.prog GI 48 (fs48 n) :=
  FSound.good (envok48 n) (ann := ann48) (n := n) Tryz.func48
    (.cons (envok48 n) t48 (f48 n) (fun K  => ep48 n K ) .nil)
    (by kernel_rfl) (by kernel_rfl) (by kernel_rfl)
end Go.Proofs.YtfbahcfojiaeaaaGreatDoor


set_option linter.unusedVariables false
set_option maxRecDepth 100000
namespace Go.Proofs.YtfbahcfojiaeaaaGreatDoor
open Go Th Go.Proofs
def ann14 : Ann := { loops := [], cuts := [], frz := [], rm := [.id] }
noncomputable abbrev env14 (n : Nat) : Env := fun i => bif Nat.beq i 48 then some (fs48 n) else (fun i => bif Nat.beq i 47 then some (fs47 n) else (fun i => bif Nat.beq i 20 then some (fs20 n) else (fun _ => none) i) i) i
theorem envok14 (n : Nat) : EnvOK Tryz.prog GI (env14 n) := EnvOK.cons (EnvOK.cons (EnvOK.cons (EnvOK.nil) (ok20 n)) (ok47 n)) (ok48 n)
noncomputable def p14 {R : Type} (n : Nat) (x1 : Bool) (x2 : List PV) (x3 : Bool) (x4 : List PV) (k0 : ByteArray → Option R) : Option R :=
  p48 n (fun y5 y6 => p47 n x3 x4 y5 y6 (fun y7 => bif (y7 == 0) then (p20 n x1 x2 (fun y8 => k0 y8)) else (p20 n x1 x2 (fun y9 => catS y9 (⟨#[47]⟩ : ByteArray) fun s10 => p20 n x3 x4 (fun y11 => catS s10 y11 fun s12 => k0 s12)))))
noncomputable abbrev lo14 {R : Type} (n : Nat) : Orc R := fun i vs K => none
noncomputable abbrev cu14 {R : Type} (n : Nat) : Orc R := fun i vs K => none
section
variable {R : Type}
abbrev K14 (R : Type) (n : Nat) := PartOK (R := R) Tryz.prog (env14 n) ann14 n (19, []) (lo14 n) (cu14 n)
theorem pa14 (n : Nat) : allP (K14 R n) (partsOf ann14 (bodyOf Tryz.f14)) := by
  rw [show partsOf ann14 (bodyOf Tryz.f14) = [] from by kernel_rfl]; exact trivial
end
abbrev t14 : Sl (List SV) := (.c (sP (sAgg (.c sBool (.c sSh (.c sBool (.c sSh .n)))))) .n)
noncomputable abbrev f14 (n : Nat) {R : Type} (K : List SV → Option R) : t14.T (Option R) := fun x1 x2 x3 x4 => p14 n x1 x2 x3 x4 (fun y1 => K [.p (.v (.string y1))])
theorem ep14 {R : Type} (n : Nat) (K : List SV → Option R) (x1 : Bool) (x2 : List PV) (x3 : Bool) (x4 : List PV) : evFn Tryz.prog (env14 n) ann14 n Tryz.f14 [.p (.agg [.v (.bool x1), .sh x2, .v (.bool x3), .sh x4])] K = f14 n K x1 x2 x3 x4 := by
  rw [evFn_evOi (c := bodyOf Tryz.f14) (by kernel_rfl) (pa14 n)]; kernel_rfl
noncomputable abbrev fs14 (n : Nat) : FS := { om := [false], run := fun args K => oget (t14.ap args (f14 n K)) none }
theorem ok14 (n : Nat) : FSound Tryz.prog GI 14 (fs14 n) :=
  FSound.good (envok14 n) (ann := ann14) (n := n) Tryz.func14
    (.cons (envok14 n) t14 (f14 n) (fun K x1 x2 x3 x4 => ep14 n K x1 x2 x3 x4) .nil)
    (by kernel_rfl) (by kernel_rfl) (by kernel_rfl)
end Go.Proofs.YtfbahcfojiaeaaaGreatDoor


set_option linter.unusedVariables false
set_option maxRecDepth 100000
namespace Go.Proofs.YtfbahcfojiaeaaaGreatDoor
open Go Th Go.Proofs
def ann49 : Ann := { loops := [], cuts := [], frz := [], rm := [.id] }
noncomputable abbrev env49 (n : Nat) : Env := fun _ => none
theorem envok49 (n : Nat) : EnvOK Tryz.prog GI (env49 n) := EnvOK.nil
noncomputable def p49 {R : Type} (n : Nat) (x1 : Bool) (x2 : List PV) (k0 : Bool → Option R) : Option R :=
  k0 (((x2).length : Int) == 0)
noncomputable abbrev lo49 {R : Type} (n : Nat) : Orc R := fun i vs K => none
noncomputable abbrev cu49 {R : Type} (n : Nat) : Orc R := fun i vs K => none
section
variable {R : Type}
abbrev K49 (R : Type) (n : Nat) := PartOK (R := R) Tryz.prog (env49 n) ann49 n (7, []) (lo49 n) (cu49 n)
theorem pa49 (n : Nat) : allP (K49 R n) (partsOf ann49 (bodyOf Tryz.f49)) := by
  rw [show partsOf ann49 (bodyOf Tryz.f49) = [] from by kernel_rfl]; exact trivial
end
abbrev t49 : Sl (List SV) := (.c (sP (sAgg (.c sBool (.c sSh .n)))) .n)
noncomputable abbrev f49 (n : Nat) {R : Type} (K : List SV → Option R) : t49.T (Option R) := fun x1 x2 => p49 n x1 x2 (fun y1 => K [.p (.v (.bool y1))])
theorem ep49 {R : Type} (n : Nat) (K : List SV → Option R) (x1 : Bool) (x2 : List PV) : evFn Tryz.prog (env49 n) ann49 n Tryz.f49 [.p (.agg [.v (.bool x1), .sh x2])] K = f49 n K x1 x2 := by
  rw [evFn_evOi (c := bodyOf Tryz.f49) (by kernel_rfl) (pa49 n)]; kernel_rfl
noncomputable abbrev fs49 (n : Nat) : FS := { om := [false], run := fun args K => oget (t49.ap args (f49 n K)) none }
theorem ok49 (n : Nat) : FSound Tryz.prog GI 49 (fs49 n) :=
  FSound.good (envok49 n) (ann := ann49) (n := n) Tryz.func49
    (.cons (envok49 n) t49 (f49 n) (fun K x1 x2 => ep49 n K x1 x2) .nil)
    (by kernel_rfl) (by kernel_rfl) (by kernel_rfl)
end Go.Proofs.YtfbahcfojiaeaaaGreatDoor


set_option linter.unusedVariables false
set_option maxRecDepth 100000
namespace Go.Proofs.YtfbahcfojiaeaaaGreatDoor
open Go Th Go.Proofs
def ann52 : Ann := { loops := [], cuts := [], frz := [], rm := [.id] }
noncomputable abbrev env52 (n : Nat) : Env := fun _ => none
theorem envok52 (n : Nat) : EnvOK Tryz.prog GI (env52 n) := EnvOK.nil
noncomputable def p52 {R : Type} (n : Nat) (x1 : Bool) (x2 : List PV) (k0 : Bool → List PV → Option R) : Option R :=
  k0 false x2
noncomputable abbrev lo52 {R : Type} (n : Nat) : Orc R := fun i vs K => none
noncomputable abbrev cu52 {R : Type} (n : Nat) : Orc R := fun i vs K => none
section
variable {R : Type}
abbrev K52 (R : Type) (n : Nat) := PartOK (R := R) Tryz.prog (env52 n) ann52 n (6, []) (lo52 n) (cu52 n)
theorem pa52 (n : Nat) : allP (K52 R n) (partsOf ann52 (bodyOf Tryz.f52)) := by
  rw [show partsOf ann52 (bodyOf Tryz.f52) = [] from by kernel_rfl]; exact trivial
end
abbrev t52 : Sl (List SV) := (.c (sP (sAgg (.c sBool (.c sSh .n)))) .n)
noncomputable abbrev f52 (n : Nat) {R : Type} (K : List SV → Option R) : t52.T (Option R) := fun x1 x2 => p52 n x1 x2 (fun y1 y2 => K [.p (.agg [.v (.bool y1), .sh y2])])
theorem ep52 {R : Type} (n : Nat) (K : List SV → Option R) (x1 : Bool) (x2 : List PV) : evFn Tryz.prog (env52 n) ann52 n Tryz.f52 [.p (.agg [.v (.bool x1), .sh x2])] K = f52 n K x1 x2 := by
  rw [evFn_evOi (c := bodyOf Tryz.f52) (by kernel_rfl) (pa52 n)]; kernel_rfl
noncomputable abbrev fs52 (n : Nat) : FS := { om := [false], run := fun args K => oget (t52.ap args (f52 n K)) none }
theorem ok52 (n : Nat) : FSound Tryz.prog GI 52 (fs52 n) :=
  FSound.good (envok52 n) (ann := ann52) (n := n) Tryz.func52
    (.cons (envok52 n) t52 (f52 n) (fun K x1 x2 => ep52 n K x1 x2) .nil)
    (by kernel_rfl) (by kernel_rfl) (by kernel_rfl)
end Go.Proofs.YtfbahcfojiaeaaaGreatDoor


set_option linter.unusedVariables false
set_option maxRecDepth 100000
namespace Go.Proofs.YtfbahcfojiaeaaaGreatDoor
open Go Th Go.Proofs
def ann15 : Ann := { loops := [], cuts := [(5, [(2, .id), (3, .id), (4, .id)], [(4, .id)]), (10, [(4, .id), (6, .id), (8, .id)], [(4, .id)])], frz := [], rm := [.id] }
noncomputable abbrev env15 (n : Nat) : Env := fun i => bif Nat.beq i 53 then some (fs53 n) else (fun i => bif Nat.beq i 52 then some (fs52 n) else (fun i => bif Nat.beq i 51 then some (fs51 n) else (fun i => bif Nat.beq i 50 then some (fs50 n) else (fun i => bif Nat.beq i 49 then some (fs49 n) else (fun i => bif Nat.beq i 48 then some (fs48 n) else (fun _ => none) i) i) i) i) i) i
theorem envok15 (n : Nat) : EnvOK Tryz.prog GI (env15 n) := EnvOK.cons (EnvOK.cons (EnvOK.cons (EnvOK.cons (EnvOK.cons (EnvOK.cons (EnvOK.nil) (ok48 n)) (ok49 n)) (ok50 n)) (ok51 n)) (ok52 n)) (ok53 n)
noncomputable def p15_c10 {R : Type} (n : Nat) (x1 x2 x3 : Bool) (x4 : List PV) (x5 : Bool) (x6 : List PV) (k0 : Bool → List PV → Bool → List PV → Option R) : Option R :=
  k0 x3 x4 x5 x6
noncomputable def p15_c5 {R : Type} (n : Nat) (x1 : Bool) (x2 : List PV) (x3 : Bool) (x4 : List PV) (x5 x6 : Bool) (k0 : Bool → List PV → Bool → List PV → Option R) : Option R :=
  p52 n x1 x2 (fun y7 y8 => p51 n y7 y8 x3 x4 (fun y9 y10 => p52 n x1 x2 (fun y11 y12 => p53 n y11 y12 y9 y10 (fun y13 y14 y15 y16 => p53 n x3 x4 y9 y10 (fun y17 y18 y19 y20 => bif x1 then (p50 n y13 y14 (fun y21 y22 => p15_c10 n x5 x6 y21 y22 y17 y18 (fun y23 y24 y25 y26 => k0 y23 y24 y25 y26))) else (p15_c10 n x5 x6 y13 y14 y17 y18 (fun y27 y28 y29 y30 => k0 y27 y28 y29 y30)))))))
noncomputable def p15 {R : Type} (n : Nat) (x1 : Bool) (x2 : List PV) (x3 : Bool) (x4 : List PV) (k0 : Bool → List PV → Bool → List PV → Option R) : Option R :=
  p49 n x1 x2 (fun y5 => bif y5 then (p48 n (fun y6 y7 => k0 x1 x2 y6 y7)) else (bif x3 then (p50 n x1 x2 (fun y8 y9 => p50 n x3 x4 (fun y10 y11 => p15_c5 n y8 y9 y10 y11 false false (fun y12 y13 y14 y15 => k0 y12 y13 y14 y15)))) else (p15_c5 n x1 x2 x3 x4 false false (fun y16 y17 y18 y19 => k0 y16 y17 y18 y19))))
noncomputable abbrev E15 {R : Type} (n : Nat) (c : Code) : Fr → Kc R → Option R := evC Tryz.prog (env15 n) ann15 n (45, []) c
noncomputable def c15_c5 : Code := subC (bodyOf Tryz.f15) [1, 1, 1]
abbrev t15_c5 : Sl (List SV) := (.c (sBx 31 (.c (sP sBool) (.c (sP sSh) .n))) (.c (sBx 31 (.c (sP sBool) (.c (sP sSh) .n))) (.c (sBx 33 (.c (sP sBool) (.c sNl (.c (sP sBool) (.c sNl .n))))) .n)))
noncomputable abbrev f15_c5 {R : Type} (n : Nat) (K : Kc R) : t15_c5.T (Option R) := fun x1 x2 x3 x4 x5 x6 => p15_c5 n x1 x2 x3 x4 x5 x6 (fun y1 y2 y3 y4 => K .ret (lk (outA ann15.cuts 5) [.bx 33 [.p (.v (.bool y1)), .p (.sh y2), .p (.v (.bool y3)), .p (.sh y4)]]))
noncomputable abbrev o15_c5 {R : Type} (n : Nat) (vs : List SV) (K : Kc R) : Option R := oget (t15_c5.ap vs (f15_c5 n K)) (cutE ann15 5 (E15 n c15_c5) vs K)
noncomputable def c15_c10 : Code := subC (bodyOf Tryz.f15) [1, 1, 1, 1, 1, 1, 1]
abbrev t15_c10 : Sl (List SV) := (.c (sBx 33 (.c (sP sBool) (.c sNl (.c (sP sBool) (.c sNl .n))))) (.c (sBx 31 (.c (sP sBool) (.c (sP sSh) .n))) (.c (sBx 31 (.c (sP sBool) (.c (sP sSh) .n))) .n)))
noncomputable abbrev f15_c10 {R : Type} (n : Nat) (K : Kc R) : t15_c10.T (Option R) := fun x1 x2 x3 x4 x5 x6 => p15_c10 n x1 x2 x3 x4 x5 x6 (fun y1 y2 y3 y4 => K .ret (lk (outA ann15.cuts 10) [.bx 33 [.p (.v (.bool y1)), .p (.sh y2), .p (.v (.bool y3)), .p (.sh y4)]]))
noncomputable abbrev o15_c10 {R : Type} (n : Nat) (vs : List SV) (K : Kc R) : Option R := oget (t15_c10.ap vs (f15_c10 n K)) (cutE ann15 10 (E15 n c15_c10) vs K)
noncomputable abbrev lo15 {R : Type} (n : Nat) : Orc R := fun i vs K => none
noncomputable abbrev cu15 {R : Type} (n : Nat) : Orc R := fun i vs K => dcnd (Nat.beq i 10) (o15_c10 n vs K) (dcnd (Nat.beq i 5) (o15_c5 n vs K) (none))
section
variable {R : Type}
abbrev K15 (R : Type) (n : Nat) := PartOK (R := R) Tryz.prog (env15 n) ann15 n (45, []) (lo15 n) (cu15 n)
theorem pa15_c10 (n : Nat) : allP (K15 R n) (partsOf ann15 c15_c10) := by
  rw [show partsOf ann15 c15_c10 = [] from by kernel_rfl]; exact trivial
theorem q15_c10 (n : Nat) : K15 R n (true, 10, c15_c10) := part_cut (pa15_c10 n) t15_c10 (f15_c10 n) (fun K x1 x2 x3 x4 x5 x6 => by show cutE _ _ _ _ _ = _; kernel_rfl) fun _ _ => rfl
theorem pa15_c5 (n : Nat) : allP (K15 R n) (partsOf ann15 c15_c5) := by
  rw [show partsOf ann15 c15_c5 = [(true, 10, c15_c10)] from by kernel_rfl]; exact ⟨q15_c10 n, trivial⟩
theorem q15_c5 (n : Nat) : K15 R n (true, 5, c15_c5) := part_cut (pa15_c5 n) t15_c5 (f15_c5 n) (fun K x1 x2 x3 x4 x5 x6 => by show cutE _ _ _ _ _ = _; kernel_rfl) fun _ _ => rfl
theorem pa15 (n : Nat) : allP (K15 R n) (partsOf ann15 (bodyOf Tryz.f15)) := by
  rw [show partsOf ann15 (bodyOf Tryz.f15) = [(true, 5, c15_c5)] from by kernel_rfl]; exact ⟨q15_c5 n, trivial⟩
end
abbrev t15 : Sl (List SV) := (.c (sP (sAgg (.c sBool (.c sSh .n)))) (.c (sP (sAgg (.c sBool (.c sSh .n)))) .n))
noncomputable abbrev f15 (n : Nat) {R : Type} (K : List SV → Option R) : t15.T (Option R) := fun x1 x2 x3 x4 => p15 n x1 x2 x3 x4 (fun y1 y2 y3 y4 => K [.p (.agg [.v (.bool y1), .sh y2, .v (.bool y3), .sh y4])])
theorem ep15 {R : Type} (n : Nat) (K : List SV → Option R) (x1 : Bool) (x2 : List PV) (x3 : Bool) (x4 : List PV) : evFn Tryz.prog (env15 n) ann15 n Tryz.f15 [.p (.agg [.v (.bool x1), .sh x2]), .p (.agg [.v (.bool x3), .sh x4])] K = f15 n K x1 x2 x3 x4 := by
  rw [evFn_evOi (c := bodyOf Tryz.f15) (by kernel_rfl) (pa15 n)]; kernel_rfl
noncomputable abbrev fs15 (n : Nat) : FS := { om := [false, false], run := fun args K => oget (t15.ap args (f15 n K)) none }
theorem ok15 (n : Nat) : FSound Tryz.prog GI 15 (fs15 n) :=
  FSound.good (envok15 n) (ann := ann15) (n := n) Tryz.func15
    (.cons (envok15 n) t15 (f15 n) (fun K x1 x2 x3 x4 => ep15 n K x1 x2 x3 x4) .nil)
    (by kernel_rfl) (by kernel_rfl) (by kernel_rfl)
end Go.Proofs.YtfbahcfojiaeaaaGreatDoor
