/- Proved: part 6 of the proof that the law RationalSums returns true at all its arguments (no further conditions). -/
import Derived.Test.YtfbahcfojiaeaaaGreatDoorMRationalSums1
import Derived.Test.YtfbahcfojiaeaaaGreatDoorMRationalSums0
import Derived.Test.YtfbahcfojiaeaaaGreatDoorT2
import Derived.Test.YtfbahcfojiaeaaaGreatDoorT1
import Derived.Test.YtfbahcfojiaeaaaGreatDoorRows
import Derived.WalkKit
import Derived.ProofKit
import Derived.LaidMore
import Derived.Lay
import Derived.Lib.LaidTab

set_option linter.unusedVariables false
set_option linter.unusedSimpArgs false
namespace Go.Proofs.YtfbahcfojiaeaaaGreatDoor
open Go Th Go.Proofs
variable {R : Type}
theorem rdivN_eq (n a b : Nat) (hb : 0 < b) (ha : ll a ≤ 20000) (hbl : ll b ≤ 20000) (hn : 200000 ≤ n) (k0 : Bool → List PV → Bool → List PV → Option R) :
    p53 n false (II a) false (II b) k0 = k0 false (II (a / b)) false (II (a % b)) := by
  have h := rdiv_eq (R := R) n (a : Int) b hb (by rw [Int.natAbs_natCast]; exact ha) hbl hn k0
  have e1 : (a : Int) / (b : Int) = ((a / b : Nat) : Int) := rfl
  have e2 : (a : Int) % (b : Int) = ((a % b : Nat) : Int) := rfl
  rw [e1, e2, sg_nat, sg_nat, sg_nat, Int.natAbs_natCast, Int.natAbs_natCast, Int.natAbs_natCast] at h
  exact h
theorem rgcd_loop (n : Nat) (hn : 200000 ≤ n) (x5 : Bool) (k0 : Bool → List PV → Bool → Option R) : ∀ (m a b : Nat), b < m → ll a ≤ 20000 → ll b ≤ 20000 → p51_l1L n m false (II a) false (II b) x5 k0 = k0 false (II (Nat.gcd b a)) x5
  | m + 1, a, b, hm, ha, hb => by
    simp only [p51_l1L, p51_l1B]
    by_cases h0 : b = 0
    · subst h0
      simp (disch := (first | omega | (simp only [List.length_append, List.length_cons, List.length_nil, List.length_replicate, List.length_take, List.length_drop]; omega))) only [↓c_pos, ↓c_neg, dec_t, dec_f, Bool.and_true, Bool.true_and, Bool.and_false, Bool.false_and, Bool.not_true, Bool.not_false, cond_true, cond_false, inR_t, cutR_t, roomB_t, lenOK_t, w64, bs_size, List.length_append, List.length_cons, List.length_nil, bs_extract, bs_append, bs_push, bs_data, bs_empty, bs_lit, catS_bs, eqS_bs, ite_pos', ite_neg', decide_true, decide_false, if_true, if_false, toNatC, getI_nl, nl_len, nl_set, nl_set0, nl_take, nl_drop, nl_rep, nl_app, hdSz_nl, drop0, wu32, wu64, wu8, List.length_set, List.length_replicate, II_len, ll_zero, Nat.gcd_zero_left]
    · have hl : 0 < ll b := by
        have : ll b ≠ 0 := fun e => h0 (ll_eq0.1 e)
        omega
      have hd := fun k0 => rdivN_eq (R := R) n a b (by omega) ha hb hn k0
      have hlt : a % b < b := Nat.mod_lt _ (by omega)
      have ih := rgcd_loop n hn x5 k0 m b (a % b) (by omega) hb (Nat.le_trans (ll_mono (Nat.le_of_lt hlt)) hb)
      simp (disch := (first | omega | (simp only [List.length_append, List.length_cons, List.length_nil, List.length_replicate, List.length_take, List.length_drop]; omega))) only [↓c_pos, ↓c_neg, dec_t, dec_f, Bool.and_true, Bool.true_and, Bool.and_false, Bool.false_and, Bool.not_true, Bool.not_false, cond_true, cond_false, inR_t, cutR_t, roomB_t, lenOK_t, w64, bs_size, List.length_append, List.length_cons, List.length_nil, bs_extract, bs_append, bs_push, bs_data, bs_empty, bs_lit, catS_bs, eqS_bs, ite_pos', ite_neg', decide_true, decide_false, if_true, if_false, toNatC, getI_nl, nl_len, nl_set, nl_set0, nl_take, nl_drop, nl_rep, nl_app, hdSz_nl, drop0, wu32, wu64, wu8, List.length_set, List.length_replicate, II_len, hd]
      rw [ih, ← Nat.gcd_rec]
theorem rgcd_eq (n a b : Nat) (hbn : b < n) (ha : ll a ≤ 20000) (hb : ll b ≤ 20000) (hn : 200000 ≤ n) (k0 : Bool → List PV → Option R) : p51 n false (II a) false (II b) k0 = k0 false (II (Nat.gcd b a)) := by
  have hg : ll (Nat.gcd b a) ≤ 20000 := by
    by_cases h : b = 0
    · subst h; rw [Nat.gcd_zero_left]; exact ha
    · exact Nat.le_trans (ll_mono (Nat.gcd_le_left _ (by omega))) hb
  unfold p51 p51_l1
  rw [rgcd_loop n hn _ _ n a b hbn ha hb]
  unfold II
  rw [make0_eq n _ _ (DL_lt _) (by rw [DL_length]; omega) (by rw [DL_length]; omega), vb_DL]
  rfl
theorem extract_ch (d : Nat) (h : d < 10) : List.drop d (List.take (d + 1) ([48, 49, 50, 51, 52, 53, 54, 55, 56, 57] : List UInt8)) = [ch d] := by
  match d, h with
  | 0, _ => rfl
  | 1, _ => rfl
  | 2, _ => rfl
  | 3, _ => rfl
  | 4, _ => rfl
  | 5, _ => rfl
  | 6, _ => rfl
  | 7, _ => rfl
  | 8, _ => rfl
  | 9, _ => rfl
theorem rtext_loop (n : Nat) (neg : Bool) (l : List Nat) (hl : ∀ d ∈ l, d < 10) (h40 : l.length < 2 ^ 40) (k0 : ByteArray → Option R) : ∀ (d m i : Nat) (s : List UInt8), d + i = l.length → d < m → s.length < 2 ^ 41 - d →
    p20_l7L n m neg (nl .i64 l) (bs s) i k0 = k0 (bs (s ++ (l.drop i).map ch))
  | 0, m + 1, i, s, hd, hm, hs => by
    rw [List.drop_eq_nil_of_le (by omega), List.map_nil, List.append_nil]
    simp only [p20_l7L, p20_l7B]
    simp (disch := (first | omega | (simp only [List.length_append, List.length_cons, List.length_nil, List.length_replicate, List.length_take, List.length_drop]; omega))) only [↓c_pos, ↓c_neg, dec_t, dec_f, Bool.and_true, Bool.true_and, Bool.and_false, Bool.false_and, Bool.not_true, Bool.not_false, cond_true, cond_false, inR_t, cutR_t, roomB_t, lenOK_t, w64, bs_size, List.length_append, List.length_cons, List.length_nil, bs_extract, bs_append, bs_push, bs_data, bs_empty, bs_lit, catS_bs, eqS_bs, ite_pos', ite_neg', decide_true, decide_false, if_true, if_false, toNatC, getI_nl, nl_len, nl_set, nl_set0, nl_take, nl_drop, nl_rep, nl_app, hdSz_nl, drop0, wu32, wu64, wu8, List.length_set, List.length_replicate]
  | d + 1, m + 1, i, s, hd, hm, hs => by
    have hi := getD_lt hT2 hl i
    have ih := rtext_loop n neg l hl h40 k0 d m (i + 1) (s ++ [ch (l.getD i 0)]) (by omega) (by omega) (by rw [List.length_append, List.length_singleton]; omega)
    rw [drop_getD (by omega : i < l.length), List.map_cons]
    have e1 : (i : Int) + 1 = ((i + 1 : Nat) : Int) := by omega
    have e2 : ((l.getD i 0 : Nat) : Int) + 1 = ((l.getD i 0 + 1 : Nat) : Int) := by omega
    have e3 := extract_ch _ hi
    have hsz : (bs [48, 49, 50, 51, 52, 53, 54, 55, 56, 57]).size = 10 := rfl
    have hsz2 : (⟨#[48, 49, 50, 51, 52, 53, 54, 55, 56, 57]⟩ : ByteArray).size = 10 := rfl
    simp only [p20_l7L, p20_l7B]
    simp (disch := (first | omega | (simp only [List.length_append, List.length_cons, List.length_nil, List.length_replicate, List.length_take, List.length_drop]; omega))) only [↓c_pos, ↓c_neg, dec_t, dec_f, Bool.and_true, Bool.true_and, Bool.and_false, Bool.false_and, Bool.not_true, Bool.not_false, cond_true, cond_false, inR_t, cutR_t, roomB_t, lenOK_t, w64, bs_size, List.length_append, List.length_cons, List.length_nil, bs_extract, bs_append, bs_push, bs_data, bs_empty, bs_lit, catS_bs, eqS_bs, ite_pos', ite_neg', decide_true, decide_false, if_true, if_false, toNatC, getI_nl, nl_len, nl_set, nl_set0, nl_take, nl_drop, nl_rep, nl_app, hdSz_nl, drop0, wu32, wu64, wu8, List.length_set, List.length_replicate, e1, e2, hsz, hsz2, e3, ih, List.append_assoc, List.singleton_append]
theorem rtext_eq (n : Nat) (x : Int) (hx : ll x.natAbs ≤ 50000) (hn : 200000 ≤ n) (k0 : ByteArray → Option R) : p20 n (sg x) (II x.natAbs) k0 = k0 (bs (Lib.itoa x)) := by
  unfold p20
  rw [II_len, beqInt0]
  by_cases h0 : x = 0
  · subst h0
    have e : (ll (0 : Int).natAbs == 0) = true := by rw [show (0 : Int).natAbs = 0 from rfl, ll_zero]; rfl
    have e2 := itoa_pos 0
    rw [dec_zero] at e2
    have e3 : Lib.itoa 0 = [48] := e2
    rw [e, e3]; rfl
  · have e : (ll x.natAbs == 0) = false := by simp only [beq_eq_false_iff_ne, ne_eq, ll_eq0]; omega
    have hlp := fun s hs => rtext_loop (R := R) n (sg x) (DL x.natAbs) (DL_lt _) (by rw [DL_length]; omega) (fun (y4 : ByteArray) => k0 y4) (ll x.natAbs) n 0 s (by rw [DL_length]; omega) (by omega) hs
    rw [List.drop_zero, ← dec_pos _ (by omega : x.natAbs ≠ 0)] at hlp
    rw [e, cond_false]
    simp only [p20_c6, p20_l7]
    have hz := itoa_zs (sg x) (a := x.natAbs) (by omega)
    rw [show zs (sg x) x.natAbs = x from zs_self x] at hz
    rw [hz]
    cases hs : sg x
    · rw [hs] at hlp
      exact hlp [] (by simp; omega)
    · rw [hs] at hlp
      exact hlp [45] (by simp; omega)
theorem of_loop (n : Nat) (x2 x3 : Bool) (s : List UInt8) (h40 : s.length < 2 ^ 30) (k0 : Bool → Bool → List PV → Option R) : ∀ (d m i : Nat) (l : List Nat), d + i = s.length → d < m → (∀ c ∈ s.drop i, isD c = true) → l.length ≤ i →
    p16_l4L n m (bs s) x2 x3 (nl .i64 l) i k0 = k0 x2 x3 (nl .i64 (l ++ dg (s.drop i)))
  | 0, m + 1, i, l, hd, hm, hs, hl => by
    rw [List.drop_eq_nil_of_le (by omega), dg, List.map_nil, List.append_nil]
    simp only [p16_l4L, p16_l4B]
    simp (disch := (first | omega | (simp only [List.length_append, List.length_cons, List.length_nil, List.length_replicate, List.length_take, List.length_drop]; omega))) only [↓c_pos, ↓c_neg, dec_t, dec_f, Bool.and_true, Bool.true_and, Bool.and_false, Bool.false_and, Bool.not_true, Bool.not_false, cond_true, cond_false, inR_t, cutR_t, roomB_t, lenOK_t, w64, bs_size, List.length_append, List.length_cons, List.length_nil, bs_extract, bs_append, bs_push, bs_data, bs_empty, bs_lit, catS_bs, eqS_bs, ite_pos', ite_neg', decide_true, decide_false, if_true, if_false, toNatC, getI_nl, nl_len, nl_set, nl_set0, nl_take, nl_drop, nl_rep, nl_app, hdSz_nl, drop0, wu32, wu64, wu8, List.length_set, List.length_replicate]
  | d + 1, m + 1, i, l, hd, hm, hs, hl => by
    have hi : i < s.length := by omega
    have hdr : s.drop i = s[i] :: s.drop (i + 1) := List.drop_eq_getElem_cons hi
    rw [hdr] at hs ⊢
    have hc := isD_iff.1 (hs _ (List.mem_cons_self ..))
    have ih := of_loop n x2 x3 s h40 k0 d m (i + 1) (l ++ [s[i].toNat - 48]) (by omega) (by omega) (fun c h => hs c (List.mem_cons_of_mem _ h)) (by rw [List.length_append, List.length_singleton]; omega)
    have e1 : (i : Int) + 1 = ((i + 1 : Nat) : Int) := by omega
    have e2 : byteAt (bs s) (i : Int) = (s[i].toNat : Int) := byteAt_nat hi
    have e3 : ((s[i].toNat : Int) == 45) = false := by simp only [beq_eq_false_iff_ne, ne_eq]; omega
    have e4 : (s[i].toNat : Int) - 48 = ((s[i].toNat - 48 : Nat) : Int) := by omega
    rw [dg, List.map_cons, ← dg, show l ++ (s[i].toNat - 48) :: dg (s.drop (i + 1)) = l ++ [s[i].toNat - 48] ++ dg (s.drop (i + 1)) from by simp, ← ih]
    simp only [p16_l4L, p16_l4B, p16_c5]
    simp (disch := (first | omega | (simp only [List.length_append, List.length_cons, List.length_nil, List.length_replicate, List.length_take, List.length_drop]; omega))) only [↓c_pos, ↓c_neg, dec_t, dec_f, Bool.and_true, Bool.true_and, Bool.and_false, Bool.false_and, Bool.not_true, Bool.not_false, cond_true, cond_false, inR_t, cutR_t, roomB_t, lenOK_t, w64, bs_size, List.length_append, List.length_cons, List.length_nil, bs_extract, bs_append, bs_push, bs_data, bs_empty, bs_lit, catS_bs, eqS_bs, ite_pos', ite_neg', decide_true, decide_false, if_true, if_false, toNatC, getI_nl, nl_len, nl_set, nl_set0, nl_take, nl_drop, nl_rep, nl_app, hdSz_nl, drop0, wu32, wu64, wu8, List.length_set, List.length_replicate, e1, e2, e3, e4, nl_one]
theorem of_eq (n : Nat) (x : Int) (hx : ll x.natAbs ≤ 50000) (hn : 200000 ≤ n) (k0 : Bool → List PV → Option R) : p16 n (bs (Lib.itoa x)) k0 = k0 (sg x) (II x.natAbs) := by
  have hdl : (dec x.natAbs).length ≤ 50001 := dec_ll hx
  have hdg : (dg (dec x.natAbs)).length ≤ 50001 := by unfold dg; rw [List.length_map]; exact hdl
  have hm := fun k0 => make0_eq (R := R) n (sg x) (dg (dec x.natAbs)) (dg_lt (dec_isD _)) (by omega) (by omega) k0
  rw [show vb (dg (dec x.natAbs)) = x.natAbs from ofD_dec _] at hm
  have e0 : (sg x && !(x.natAbs == 0)) = sg x := by
    rw [Bool.eq_iff_iff]; simp [sg]; omega
  rw [e0] at hm
  unfold p16 p16_l4
  by_cases h : x < 0
  · have hs : sg x = true := by simpa [sg] using h
    have hi : Lib.itoa x = 45 :: dec x.natAbs := by unfold Lib.itoa; rw [if_pos h]
    rw [hi]
    obtain ⟨m, rfl⟩ : ∃ m, n = m + 1 := ⟨n - 1, by omega⟩
    have hlp := fun k0 => of_loop (R := R) (m + 1) false true (45 :: dec x.natAbs) (by rw [List.length_cons]; omega) k0 (dec x.natAbs).length m 1 [] (by rw [List.length_cons]) (by omega) (dec_isD _) (by simp)
    have e2 : (byteAt (bs (45 :: dec x.natAbs)) 0 == 45) = true := rfl
    rw [nl_nil, show ((1 : Nat) : Int) = 0 + 1 from rfl] at hlp
    simp only [List.drop_succ_cons, List.drop_zero, List.nil_append] at hlp
    rw [hs] at hm ⊢
    simp only [p16_l4L, p16_l4B, p16_c5]
    simp (disch := (first | omega | (simp only [List.length_append, List.length_cons, List.length_nil, List.length_replicate, List.length_take, List.length_drop]; omega))) only [↓c_pos, ↓c_neg, dec_t, dec_f, Bool.and_true, Bool.true_and, Bool.and_false, Bool.false_and, Bool.not_true, Bool.not_false, cond_true, cond_false, inR_t, cutR_t, roomB_t, lenOK_t, w64, bs_size, List.length_append, List.length_cons, List.length_nil, bs_extract, bs_append, bs_push, bs_data, bs_empty, bs_lit, catS_bs, eqS_bs, ite_pos', ite_neg', decide_true, decide_false, if_true, if_false, toNatC, getI_nl, nl_len, nl_set, nl_set0, nl_take, nl_drop, nl_rep, nl_app, hdSz_nl, drop0, wu32, wu64, wu8, List.length_set, List.length_replicate, List.length_cons, e2, hlp, hm]
  · have hs : sg x = false := by simpa [sg] using h
    have hi : Lib.itoa x = dec x.natAbs := by
      unfold Lib.itoa; rw [if_neg h]; congr 1; omega
    rw [hi]
    have hlp := fun k0 => of_loop (R := R) n false false (dec x.natAbs) (by omega) k0 (dec x.natAbs).length n 0 [] (by omega) (by omega) (dec_isD _) (by simp)
    rw [nl_nil, show ((0 : Nat) : Int) = 0 from rfl, List.drop_zero, List.nil_append] at hlp
    rw [hs] at hm ⊢
    rw [hlp, hm]
theorem II_one : II 1 = [PV.v (.int .i64 1)] := by
  unfold II DL; rw [toL_dig (by omega) (by omega)]; rfl
theorem new_eq (n : Nat) (z w : Int) (hw : w ≠ 0) (hz : ll z.natAbs ≤ 15000) (hwl : ll w.natAbs ≤ 15000) (hn : 200000 ≤ n) (hnw : w.natAbs < n) (k0 : Bool → List PV → Bool → List PV → Option R) :
    p15 n (sg z) (II z.natAbs) (sg w) (II w.natAbs) k0 = k0 (sg (Rat.divInt z w).num) (II (Rat.divInt z w).num.natAbs) false (II (Rat.divInt z w).den) := by
  have hnum : (Rat.divInt z w).num = zs (!(sg z == sg w)) (z.natAbs / Nat.gcd w.natAbs z.natAbs) := by
    rw [divInt_mk, mk_num _ _ _ (by omega)]
  have hden : (Rat.divInt z w).den = w.natAbs / Nat.gcd w.natAbs z.natAbs := by
    rw [divInt_mk, mk_den _ _ _ (by omega)]
  rw [hnum, hden, zs_natAbs, zs_sg]
  obtain ⟨g, hg⟩ : ∃ g, g = Nat.gcd w.natAbs z.natAbs := ⟨_, rfl⟩
  rw [← hg]
  have hg0 : 0 < g := by rw [hg]; exact Nat.gcd_pos_of_pos_left _ (by omega)
  have hgw : g ≤ w.natAbs := by rw [hg]; exact Nat.gcd_le_left _ (by omega)
  have hgl : ll g ≤ 15000 := Nat.le_trans (ll_mono hgw) hwl
  simp only [p15, p49, II_len, beqInt0]
  by_cases h0 : z = 0
  · subst h0
    have hgg : g = w.natAbs := by rw [hg, show (0 : Int).natAbs = 0 from rfl, Nat.gcd_zero_right]
    have e : (ll (0 : Int).natAbs == 0) = true := by rw [show (0 : Int).natAbs = 0 from rfl, ll_zero]; rfl
    simp only [e, cond_true]
    rw [show (0 : Int).natAbs = 0 from rfl, Nat.zero_div, hgg, Nat.div_self (by omega), II_one]
    simp [p48, sg]
  · have e : (ll z.natAbs == 0) = false := by simp only [beq_eq_false_iff_ne, ne_eq, ll_eq0]; omega
    simp only [e, cond_false]
    have hzg : z.natAbs / g ≠ 0 := by
      have hd : g ∣ z.natAbs := by rw [hg]; exact Nat.gcd_dvd_right _ _
      have := Nat.div_mul_cancel hd
      intro e; rw [e] at this; omega
    have e2 : (z.natAbs / g == 0) = false := by simpa using hzg
    have q1 := fun k0 => rgcd_eq (R := R) n z.natAbs w.natAbs hnw (by omega) (by omega) hn k0
    rw [← hg] at q1
    have q2 := fun k0 => rdivN_eq (R := R) n z.natAbs g hg0 (by omega) (by omega) hn k0
    have q3 := fun k0 => rdivN_eq (R := R) n w.natAbs g hg0 (by omega) (by omega) hn k0
    have q4 := fun k0 => rneg_eq (R := R) n ((z.natAbs / g : Nat) : Int) (by rw [Int.natAbs_natCast]; exact Nat.le_trans (ll_mono (Nat.div_le_self _ _)) (by omega)) hn k0
    rw [sg_nat, Int.natAbs_neg, Int.natAbs_natCast] at q4
    have e5 : sg (-((z.natAbs / g : Nat) : Int)) = true := by
      have hp := Nat.pos_of_ne_zero hzg
      simp only [sg, decide_eq_true_eq]
      generalize z.natAbs / g = y at hp ⊢
      omega
    rw [e5] at q4
    have r1 := fun k0 => rneg_eq (R := R) n z (by omega) hn k0
    have r2 := fun k0 => rneg_eq (R := R) n w (by omega) hn k0
    rw [Int.natAbs_neg] at r1 r2
    rw [e2]
    have core : ∀ (neg : Bool) (k0 : Bool → List PV → Bool → List PV → Option R), p15_c5 n neg (II z.natAbs) false (II w.natAbs) false false k0 = k0 (neg) (II (z.natAbs / g)) false (II (w.natAbs / g)) := by
      intro neg k0
      unfold p15_c5 p52 p15_c10
      cases neg <;> simp only [q1, q2, q3, q4, cond_true, cond_false]
    by_cases hw0 : w < 0
    · have es : sg w = true := by simpa [sg] using hw0
      have es2 : sg (-w) = false := by simp [sg]; omega
      have es3 : sg (-z) = !(sg z) := by
        rw [Bool.eq_iff_iff]; simp [sg]; omega
      rw [es] at r2 ⊢
      simp only [cond_true, r1, r2, es2, es3, core]
      cases sg z <;> rfl
    · have es : sg w = false := by simpa [sg] using hw0
      simp only [es, cond_false, core]
      cases sg z <;> rfl
theorem ratTxt_eq (n : Nat) (q : Rat) (h1 : ll q.num.natAbs ≤ 15000) (h2 : ll q.den ≤ 15000) (hn : 200000 ≤ n) (k0 : ByteArray → Option R) : p14 n (sg q.num) (II q.num.natAbs) false (II q.den) k0 = k0 (bs (rtxt q)) := by
  have c1 := fun k0 => rcmpZ_eq (R := R) n (q.den : Int) ((1 : Nat) : Int) (by rw [Int.natAbs_natCast]; omega) (by rw [Int.natAbs_natCast]; unfold ll; rw [toL_dig (by omega) (by omega)]; decide) hn k0
  rw [sg_nat, sg_nat, Int.natAbs_natCast, Int.natAbs_natCast] at c1
  have t1 := fun k0 => rtext_eq (R := R) n q.num (by omega) hn k0
  have t2 := fun k0 => rtext_eq (R := R) n (q.den : Int) (by rw [Int.natAbs_natCast]; omega) hn k0
  rw [sg_nat, Int.natAbs_natCast, itoa_pos] at t2
  have l1 : (Lib.itoa q.num).length ≤ 15002 := by
    have h := cutN_in (Lib.itoa q.num)
    rw [cutN_itoa] at h
    have hd : (dec q.num.natAbs).length ≤ 15001 := dec_ll h1
    rw [h, List.length_append]
    split <;> simp <;> omega
  have l2 : (dec q.den).length ≤ 15001 := dec_ll h2
  simp only [p14, p48, ← II_one, c1]
  unfold rtxt
  have hd := q.den_nz
  by_cases h : q.den = 1
  · have e : (cmpZ (q.den : Int) ((1 : Nat) : Int) == 0) = true := by unfold cmpZ; rw [if_neg (by omega), if_pos (by omega)]; rfl
    simp only [e, cond_true, if_pos h, t1, List.append_nil]
  · have e : (cmpZ (q.den : Int) ((1 : Nat) : Int) == 0) = false := by unfold cmpZ; rw [if_neg (by omega), if_neg (by omega)]; rfl
    simp only [e, cond_false, if_neg h, t1]
    simp (disch := (first | omega | (simp only [List.length_append, List.length_cons, List.length_nil, List.length_replicate, List.length_take, List.length_drop]; omega))) only [↓c_pos, ↓c_neg, dec_t, dec_f, Bool.and_true, Bool.true_and, Bool.and_false, Bool.false_and, Bool.not_true, Bool.not_false, cond_true, cond_false, inR_t, cutR_t, roomB_t, lenOK_t, w64, bs_size, List.length_append, List.length_cons, List.length_nil, bs_extract, bs_append, bs_push, bs_data, bs_empty, bs_lit, catS_bs, eqS_bs, ite_pos', ite_neg', decide_true, decide_false, if_true, if_false, toNatC, getI_nl, nl_len, nl_set, nl_set0, nl_take, nl_drop, nl_rep, nl_app, hdSz_nl, drop0, wu32, wu64, wu8, List.length_set, List.length_replicate, t2, List.length_cons, List.length_nil, List.append_assoc, List.singleton_append]
end Go.Proofs.YtfbahcfojiaeaaaGreatDoor


set_option linter.unusedVariables false
set_option maxRecDepth 100000
namespace Go.Proofs.YtfbahcfojiaeaaaGreatDoor
open Go Th Go.Proofs
def ann10 : Ann := { loops := [(2, [(0, .id), (3, .id)], [(2, .id)])], cuts := [], frz := [], rm := [.id] }
noncomputable abbrev env10 (n : Nat) : Env := fun _ => none
theorem envok10 (n : Nat) : EnvOK Tryz.prog GI (env10 n) := EnvOK.nil
noncomputable def p10_l2B {R : Type} (n : Nat) (l0 : List PV → Int → Option R) (x1 : List PV) (x2 : Int) (k0 : Bool → Option R) (k1 : Option R) : Option R :=
  bif (decide (x2 < ((x1).length : Int))) then (bif (inR x2 ((x1).length)) then (getS ((x1).getD ((x2 : Int).toNat) (.v (.bool false))) fun e3 => bif (decide (((e3).size : Int) > 300)) then (k0 false) else (l0 x1 (IntKind.i64.wrap (x2 + 1)))) else none) else (k1)
noncomputable def p10_l2L {R : Type} (n : Nat) : Nat → List PV → Int → (Bool → Option R) → (Option R) → Option R
  | 0, _, _, _, _ => none
  | m + 1, x1, x2, k0, k1 => p10_l2B n (fun x1 x2 => p10_l2L n m x1 x2 k0 k1) x1 x2 k0 k1
noncomputable def p10_l2 {R : Type} (n : Nat) (x1 : List PV) (x2 : Int) (k0 : Bool → Option R) (k1 : Option R) : Option R := p10_l2L n n x1 x2 k0 k1
noncomputable def p10 {R : Type} (n : Nat) (x1 : List PV) (k0 : Bool → Option R) : Option R :=
  p10_l2 n x1 0 (fun y2 => k0 y2) (k0 true)
noncomputable abbrev E10 {R : Type} (n : Nat) (c : Code) : Fr → Kc R → Option R := evC Tryz.prog (env10 n) ann10 n (16, []) c
noncomputable def c10_l2 : Code := subC (bodyOf Tryz.f10) [1, 0, 1, 0, 0]
abbrev t10_l2 : Sl (List SV) := (.c (sP sSh) (.c (sP (sInt .i64)) .n))
noncomputable abbrev f10_l2 {R : Type} (n m : Nat) (K : Kc R) : t10_l2.T (Option R) := fun x1 x2 => p10_l2L n m x1 x2 (fun y1 => K .ret (lk (outA ann10.loops 2) [.p (.v (.bool y1))])) (K (.exit 0) (lk (outA ann10.loops 2) [.dead]))
noncomputable abbrev o10_l2 {R : Type} (n : Nat) (vs : List SV) (K : Kc R) : Option R := oget (t10_l2.ap vs (f10_l2 n n K)) (loopE ann10 2 (E10 n c10_l2) n vs K)
noncomputable abbrev lo10 {R : Type} (n : Nat) : Orc R := fun i vs K => dcnd (Nat.beq i 2) (o10_l2 n vs K) (none)
noncomputable abbrev cu10 {R : Type} (n : Nat) : Orc R := fun i vs K => none
section
variable {R : Type}
noncomputable abbrev V10 (n : Nat) (c : Code) : Fr → Kc R → Option R := evOi Tryz.prog (env10 n) ann10 (16, []) (lo10 n) (cu10 n) c
abbrev K10 (R : Type) (n : Nat) := PartOK (R := R) Tryz.prog (env10 n) ann10 n (16, []) (lo10 n) (cu10 n)
theorem pa10_l2 (n : Nat) : allP (K10 R n) (partsOf ann10 c10_l2) := by
  rw [show partsOf ann10 c10_l2 = [] from by kernel_rfl]; exact trivial
theorem sp10_l2 (n m : Nat) (x1 : List PV) (x2 : Int) (K : Kc R) : loopE ann10 2 (V10 n c10_l2) (m + 1) [.p (.sh x1), .p (.v (.int .i64 x2))] K = p10_l2B n (fun x1 x2 => loopE ann10 2 (V10 n c10_l2) m [.p (.sh x1), .p (.v (.int .i64 x2))] K) x1 x2 (fun y1 => K .ret (lk (outA ann10.loops 2) [.p (.v (.bool y1))])) (K (.exit 0) (lk (outA ann10.loops 2) [.dead])) := by kernel_rfl
theorem ep10_l2 (n : Nat) (K : Kc R) : ∀ (m : Nat) (x1 : List PV) (x2 : Int), loopE ann10 2 (V10 n c10_l2) m [.p (.sh x1), .p (.v (.int .i64 x2))] K = f10_l2 n m K x1 x2
  | 0, _, _ => rfl
  | m + 1, x1, x2 => (sp10_l2 n m x1 x2 K).trans (congrArg (fun l0 => p10_l2B n l0 x1 x2 (fun y1 => K .ret (lk (outA ann10.loops 2) [.p (.v (.bool y1))])) (K (.exit 0) (lk (outA ann10.loops 2) [.dead]))) (funext fun z0 => funext fun z1 => ep10_l2 n K m z0 z1))
theorem q10_l2 (n : Nat) : K10 R n (false, 2, c10_l2) := part_loop (pa10_l2 n) t10_l2 (f10_l2 n n) (fun K x1 x2 => ep10_l2 n K n x1 x2) fun _ _ => rfl
theorem pa10 (n : Nat) : allP (K10 R n) (partsOf ann10 (bodyOf Tryz.f10)) := by
  rw [show partsOf ann10 (bodyOf Tryz.f10) = [(false, 2, c10_l2)] from by kernel_rfl]; exact ⟨q10_l2 n, trivial⟩
end
abbrev t10 : Sl (List SV) := (.c (sP sSh) .n)
noncomputable abbrev f10 (n : Nat) {R : Type} (K : List SV → Option R) : t10.T (Option R) := fun x1 => p10 n x1 (fun y1 => K [.p (.v (.bool y1))])
theorem ep10 {R : Type} (n : Nat) (K : List SV → Option R) (x1 : List PV) : evFn Tryz.prog (env10 n) ann10 n Tryz.f10 [.p (.sh x1)] K = f10 n K x1 := by
  rw [evFn_evOi (c := bodyOf Tryz.f10) (by kernel_rfl) (pa10 n)]; kernel_rfl
noncomputable abbrev fs10 (n : Nat) : FS := { om := [false], run := fun args K => oget (t10.ap args (f10 n K)) none }
theorem ok10 (n : Nat) : FSound Tryz.prog GI 10 (fs10 n) :=
  FSound.good (envok10 n) (ann := ann10) (n := n) Tryz.func10
    (.cons (envok10 n) t10 (f10 n) (fun K x1 => ep10 n K x1) .nil)
    (by kernel_rfl) (by kernel_rfl) (by kernel_rfl)
end Go.Proofs.YtfbahcfojiaeaaaGreatDoor


set_option linter.unusedVariables false
set_option maxRecDepth 100000
namespace Go.Proofs.YtfbahcfojiaeaaaGreatDoor
open Go Th Go.Proofs
def ann56 : Ann := { loops := [(9, [(4, .id), (5, .id), (6, .id), (37, .id), (38, .id)], [(2, .id), (3, .id), (4, .id), (6, .id)])], cuts := [(2, [(0, .id), (4, .id)], [(2, .id), (3, .id)]), (5, [(0, .id), (4, .id), (5, .id)], [(2, .id), (3, .id)]), (7, [(4, .id), (5, .id)], [(2, .id), (3, .id)]), (17, [(6, .id)], [(2, .id), (3, .id)])], frz := [], rm := [.id, .id] }
noncomputable abbrev env56 (n : Nat) : Env := fun _ => none
theorem envok56 (n : Nat) : EnvOK Tryz.prog GI (env56 n) := EnvOK.nil
noncomputable def p56_l9B {R : Type} (n : Nat) (l0 : Bool → ByteArray → Int → Int → Int → Option R) (x1 : Bool) (x2 : ByteArray) (x3 x4 x5 : Int) (k0 : Int → Bool → Bool → Int → Option R) (k1 : Bool → Int → Option R) : Option R :=
  bif (decide (x5 < x4)) then (bif (inR x5 (x2).size) then (bif (decide (byteAt x2 x5 < 48)) then (bif true then (bif true then (bif true then (bif true then (bif true then (k0 0 false x1 x3) else none) else none) else none) else none) else none) else (bif false then none else (bif false then none else (bif (inR x5 (x2).size) then (bif false then none else (bif (bif false then true else (decide (byteAt x2 x5 > 57))) then (k0 0 false x1 x3) else (bif (inR x5 (x2).size) then (let v6 := IntKind.u8.wrap ((byteAt x2 x5) - 48); let v7 := IntKind.i64.wrap ((IntKind.i64.wrap (10 * x3)) + (IntKind.i64.wrap (v6))); l0 x1 x2 v7 x4 (IntKind.i64.wrap (x5 + 1))) else none))) else none)))) else none) else (k1 x1 x3)
noncomputable def p56_l9L {R : Type} (n : Nat) : Nat → Bool → ByteArray → Int → Int → Int → (Int → Bool → Bool → Int → Option R) → (Bool → Int → Option R) → Option R
  | 0, _, _, _, _, _, _, _ => none
  | m + 1, x1, x2, x3, x4, x5, k0, k1 => p56_l9B n (fun x1 x2 x3 x4 x5 => p56_l9L n m x1 x2 x3 x4 x5 k0 k1) x1 x2 x3 x4 x5 k0 k1
noncomputable def p56_l9 {R : Type} (n : Nat) (x1 : Bool) (x2 : ByteArray) (x3 x4 x5 : Int) (k0 : Int → Bool → Bool → Int → Option R) (k1 : Bool → Int → Option R) : Option R := p56_l9L n n x1 x2 x3 x4 x5 k0 k1
noncomputable def p56_c17 {R : Type} (n : Nat) (x1 : Int) (k0 : Int → Bool → Option R) : Option R :=
  k0 x1 true
noncomputable def p56_c7 {R : Type} (n : Nat) (x1 : Bool) (x2 : ByteArray) (k0 : Int → Bool → Option R) : Option R :=
  p56_l9 n x1 x2 0 ((x2).size : Int) 0 (fun y3 y4 y5 y6 => k0 y3 y4) (fun y7 y8 => bif y7 then (p56_c17 n (IntKind.i64.wrap (0 - y8)) (fun y9 y10 => k0 y9 y10)) else (p56_c17 n y8 (fun y11 y12 => k0 y11 y12)))
noncomputable def p56_c5 {R : Type} (n : Nat) (x1 : ByteArray) (x2 : Bool) (x3 : ByteArray) (k0 : Int → Bool → Option R) : Option R :=
  bif (eqS x3 (⟨#[]⟩ : ByteArray)) then (bif true then (bif true then (bif true then (bif true then (bif true then (bif true then (bif true then (bif true then (bif true then (bif true then (k0 0 false) else none) else none) else none) else none) else none) else none) else none) else none) else none) else none) else (bif false then none else (bif false then none else (bif (bif false then true else (decide (((x3).size : Int) > 9))) then (bif true then (bif true then (bif true then (bif true then (bif true then (bif true then (k0 0 false) else none) else none) else none) else none) else none) else none) else (bif false then none else (bif (inR 0 (x3).size) then (bif false then none else (bif false then none else (bif (byteAt x3 0 == 48) then (bif true then (bif true then (bif false then none else (bif (bif false then true else (bif true then (decide (((x1).size : Int) > 1)) else false)) then (k0 0 false) else (p56_c7 n x2 x3 (fun y4 y5 => k0 y4 y5)))) else none) else none) else (bif false then none else (bif false then none else (bif false then none else (bif false then none else (bif false then none else (p56_c7 n x2 x3 (fun y6 y7 => k0 y6 y7)))))))))) else none)))))
noncomputable def p56_c2 {R : Type} (n : Nat) (x1 : ByteArray) (x2 : Bool) (k0 : Int → Bool → Option R) : Option R :=
  bif x2 then (bif (cutR 1 ((x1).size : Int) (x1).size) then (p56_c5 n x1 x2 (ByteArray.extract x1 (1 : Int).toNat (((x1).size : Int) : Int).toNat) (fun y3 y4 => k0 y3 y4)) else none) else (p56_c5 n x1 x2 x1 (fun y5 y6 => k0 y5 y6))
noncomputable def p56 {R : Type} (n : Nat) (x1 : ByteArray) (k0 : Int → Bool → Option R) : Option R :=
  bif (!eqS x1 (⟨#[]⟩ : ByteArray)) then (bif true then (bif (inR 0 (x1).size) then (bif true then (p56_c2 n x1 (bif true then (byteAt x1 0 == 45) else false) (fun y2 y3 => k0 y2 y3)) else none) else none) else none) else (bif false then none else (bif false then none else (bif false then none else (p56_c2 n x1 false (fun y4 y5 => k0 y4 y5)))))
noncomputable abbrev E56 {R : Type} (n : Nat) (c : Code) : Fr → Kc R → Option R := evC Tryz.prog (env56 n) ann56 n (64, []) c
noncomputable def c56_c2 : Code := subC (bodyOf Tryz.f56) [1, 1]
abbrev t56_c2 : Sl (List SV) := (.c (sP sStr) (.c (sP sBool) .n))
noncomputable abbrev f56_c2 {R : Type} (n : Nat) (K : Kc R) : t56_c2.T (Option R) := fun x1 x2 => p56_c2 n x1 x2 (fun y1 y2 => K .ret (lk (outA ann56.cuts 2) [.p (.v (.int .i64 y1)), .p (.v (.bool y2))]))
noncomputable abbrev o56_c2 {R : Type} (n : Nat) (vs : List SV) (K : Kc R) : Option R := oget (t56_c2.ap vs (f56_c2 n K)) (cutE ann56 2 (E56 n c56_c2) vs K)
noncomputable def c56_c5 : Code := subC (bodyOf Tryz.f56) [1, 1, 1, 1]
abbrev t56_c5 : Sl (List SV) := (.c (sP sStr) (.c (sP sBool) (.c (sP sStr) .n)))
noncomputable abbrev f56_c5 {R : Type} (n : Nat) (K : Kc R) : t56_c5.T (Option R) := fun x1 x2 x3 => p56_c5 n x1 x2 x3 (fun y1 y2 => K .ret (lk (outA ann56.cuts 5) [.p (.v (.int .i64 y1)), .p (.v (.bool y2))]))
noncomputable abbrev o56_c5 {R : Type} (n : Nat) (vs : List SV) (K : Kc R) : Option R := oget (t56_c5.ap vs (f56_c5 n K)) (cutE ann56 5 (E56 n c56_c5) vs K)
noncomputable def c56_c7 : Code := subC (bodyOf Tryz.f56) [1, 1, 1, 1, 1]
abbrev t56_c7 : Sl (List SV) := (.c (sP sBool) (.c (sP sStr) .n))
noncomputable abbrev f56_c7 {R : Type} (n : Nat) (K : Kc R) : t56_c7.T (Option R) := fun x1 x2 => p56_c7 n x1 x2 (fun y1 y2 => K .ret (lk (outA ann56.cuts 7) [.p (.v (.int .i64 y1)), .p (.v (.bool y2))]))
noncomputable abbrev o56_c7 {R : Type} (n : Nat) (vs : List SV) (K : Kc R) : Option R := oget (t56_c7.ap vs (f56_c7 n K)) (cutE ann56 7 (E56 n c56_c7) vs K)
noncomputable def c56_c17 : Code := subC (bodyOf Tryz.f56) [1, 1, 1, 1, 1, 1, 1, 1]
abbrev t56_c17 : Sl (List SV) := (.c (sP (sInt .i64)) .n)
noncomputable abbrev f56_c17 {R : Type} (n : Nat) (K : Kc R) : t56_c17.T (Option R) := fun x1 => p56_c17 n x1 (fun y1 y2 => K .ret (lk (outA ann56.cuts 17) [.p (.v (.int .i64 y1)), .p (.v (.bool y2))]))
noncomputable abbrev o56_c17 {R : Type} (n : Nat) (vs : List SV) (K : Kc R) : Option R := oget (t56_c17.ap vs (f56_c17 n K)) (cutE ann56 17 (E56 n c56_c17) vs K)
noncomputable def c56_l9 : Code := subC (bodyOf Tryz.f56) [1, 1, 1, 1, 1, 1, 0, 1, 0, 0]
abbrev t56_l9 : Sl (List SV) := (.c (sP sBool) (.c (sP sStr) (.c (sP (sInt .i64)) (.c (sP (sInt .i64)) (.c (sP (sInt .i64)) .n)))))
noncomputable abbrev f56_l9 {R : Type} (n m : Nat) (K : Kc R) : t56_l9.T (Option R) := fun x1 x2 x3 x4 x5 => p56_l9L n m x1 x2 x3 x4 x5 (fun y1 y2 y3 y4 => K .ret (lk (outA ann56.loops 9) [.p (.v (.int .i64 y1)), .p (.v (.bool y2)), .p (.v (.bool y3)), .p (.v (.int .i64 y4))])) (fun y1 y2 => K (.exit 0) (lk (outA ann56.loops 9) [.dead, .dead, .p (.v (.bool y1)), .p (.v (.int .i64 y2))]))
noncomputable abbrev o56_l9 {R : Type} (n : Nat) (vs : List SV) (K : Kc R) : Option R := oget (t56_l9.ap vs (f56_l9 n n K)) (loopE ann56 9 (E56 n c56_l9) n vs K)
noncomputable abbrev lo56 {R : Type} (n : Nat) : Orc R := fun i vs K => dcnd (Nat.beq i 9) (o56_l9 n vs K) (none)
noncomputable abbrev cu56 {R : Type} (n : Nat) : Orc R := fun i vs K => dcnd (Nat.beq i 17) (o56_c17 n vs K) (dcnd (Nat.beq i 7) (o56_c7 n vs K) (dcnd (Nat.beq i 5) (o56_c5 n vs K) (dcnd (Nat.beq i 2) (o56_c2 n vs K) (none))))
section
variable {R : Type}
noncomputable abbrev V56 (n : Nat) (c : Code) : Fr → Kc R → Option R := evOi Tryz.prog (env56 n) ann56 (64, []) (lo56 n) (cu56 n) c
abbrev K56 (R : Type) (n : Nat) := PartOK (R := R) Tryz.prog (env56 n) ann56 n (64, []) (lo56 n) (cu56 n)
theorem pa56_l9 (n : Nat) : allP (K56 R n) (partsOf ann56 c56_l9) := by
  rw [show partsOf ann56 c56_l9 = [] from by kernel_rfl]; exact trivial
theorem sp56_l9 (n m : Nat) (x1 : Bool) (x2 : ByteArray) (x3 x4 x5 : Int) (K : Kc R) : loopE ann56 9 (V56 n c56_l9) (m + 1) [.p (.v (.bool x1)), .p (.v (.string x2)), .p (.v (.int .i64 x3)), .p (.v (.int .i64 x4)), .p (.v (.int .i64 x5))] K = p56_l9B n (fun x1 x2 x3 x4 x5 => loopE ann56 9 (V56 n c56_l9) m [.p (.v (.bool x1)), .p (.v (.string x2)), .p (.v (.int .i64 x3)), .p (.v (.int .i64 x4)), .p (.v (.int .i64 x5))] K) x1 x2 x3 x4 x5 (fun y1 y2 y3 y4 => K .ret (lk (outA ann56.loops 9) [.p (.v (.int .i64 y1)), .p (.v (.bool y2)), .p (.v (.bool y3)), .p (.v (.int .i64 y4))])) (fun y1 y2 => K (.exit 0) (lk (outA ann56.loops 9) [.dead, .dead, .p (.v (.bool y1)), .p (.v (.int .i64 y2))])) := by kernel_rfl
theorem ep56_l9 (n : Nat) (K : Kc R) : ∀ (m : Nat) (x1 : Bool) (x2 : ByteArray) (x3 x4 x5 : Int), loopE ann56 9 (V56 n c56_l9) m [.p (.v (.bool x1)), .p (.v (.string x2)), .p (.v (.int .i64 x3)), .p (.v (.int .i64 x4)), .p (.v (.int .i64 x5))] K = f56_l9 n m K x1 x2 x3 x4 x5
  | 0, _, _, _, _, _ => rfl
  | m + 1, x1, x2, x3, x4, x5 => (sp56_l9 n m x1 x2 x3 x4 x5 K).trans (congrArg (fun l0 => p56_l9B n l0 x1 x2 x3 x4 x5 (fun y1 y2 y3 y4 => K .ret (lk (outA ann56.loops 9) [.p (.v (.int .i64 y1)), .p (.v (.bool y2)), .p (.v (.bool y3)), .p (.v (.int .i64 y4))])) (fun y1 y2 => K (.exit 0) (lk (outA ann56.loops 9) [.dead, .dead, .p (.v (.bool y1)), .p (.v (.int .i64 y2))]))) (funext fun z0 => funext fun z1 => funext fun z2 => funext fun z3 => funext fun z4 => ep56_l9 n K m z0 z1 z2 z3 z4))
theorem q56_l9 (n : Nat) : K56 R n (false, 9, c56_l9) := part_loop (pa56_l9 n) t56_l9 (f56_l9 n n) (fun K x1 x2 x3 x4 x5 => ep56_l9 n K n x1 x2 x3 x4 x5) fun _ _ => rfl
theorem pa56_c17 (n : Nat) : allP (K56 R n) (partsOf ann56 c56_c17) := by
  rw [show partsOf ann56 c56_c17 = [] from by kernel_rfl]; exact trivial
theorem q56_c17 (n : Nat) : K56 R n (true, 17, c56_c17) := part_cut (pa56_c17 n) t56_c17 (f56_c17 n) (fun K x1 => by show cutE _ _ _ _ _ = _; kernel_rfl) fun _ _ => rfl
theorem pa56_c7 (n : Nat) : allP (K56 R n) (partsOf ann56 c56_c7) := by
  rw [show partsOf ann56 c56_c7 = [(false, 9, c56_l9), (true, 17, c56_c17)] from by kernel_rfl]; exact ⟨q56_l9 n, q56_c17 n, trivial⟩
theorem q56_c7 (n : Nat) : K56 R n (true, 7, c56_c7) := part_cut (pa56_c7 n) t56_c7 (f56_c7 n) (fun K x1 x2 => by show cutE _ _ _ _ _ = _; kernel_rfl) fun _ _ => rfl
theorem pa56_c5 (n : Nat) : allP (K56 R n) (partsOf ann56 c56_c5) := by
  rw [show partsOf ann56 c56_c5 = [(true, 7, c56_c7)] from by kernel_rfl]; exact ⟨q56_c7 n, trivial⟩
theorem q56_c5 (n : Nat) : K56 R n (true, 5, c56_c5) := part_cut (pa56_c5 n) t56_c5 (f56_c5 n) (fun K x1 x2 x3 => by show cutE _ _ _ _ _ = _; kernel_rfl) fun _ _ => rfl
theorem pa56_c2 (n : Nat) : allP (K56 R n) (partsOf ann56 c56_c2) := by
  rw [show partsOf ann56 c56_c2 = [(true, 5, c56_c5)] from by kernel_rfl]; exact ⟨q56_c5 n, trivial⟩
theorem q56_c2 (n : Nat) : K56 R n (true, 2, c56_c2) := part_cut (pa56_c2 n) t56_c2 (f56_c2 n) (fun K x1 x2 => by show cutE _ _ _ _ _ = _; kernel_rfl) fun _ _ => rfl
theorem pa56 (n : Nat) : allP (K56 R n) (partsOf ann56 (bodyOf Tryz.f56)) := by
  rw [show partsOf ann56 (bodyOf Tryz.f56) = [(true, 2, c56_c2)] from by kernel_rfl]; exact ⟨q56_c2 n, trivial⟩
end
abbrev t56 : Sl (List SV) := (.c (sP sStr) .n)
noncomputable abbrev f56 (n : Nat) {R : Type} (K : List SV → Option R) : t56.T (Option R) := fun x1 => p56 n x1 (fun y1 y2 => K [.p (.v (.int .i64 y1)), .p (.v (.bool y2))])
theorem ep56 {R : Type} (n : Nat) (K : List SV → Option R) (x1 : ByteArray) : evFn Tryz.prog (env56 n) ann56 n Tryz.f56 [.p (.v (.string x1))] K = f56 n K x1 := by
  rw [evFn_evOi (c := bodyOf Tryz.f56) (by kernel_rfl) (pa56 n)]; kernel_rfl
noncomputable abbrev fs56 (n : Nat) : FS := { om := [false], run := fun args K => oget (t56.ap args (f56 n K)) none }
theorem ok56 (n : Nat) : FSound Tryz.prog GI 56 (fs56 n) :=
  FSound.good (envok56 n) (ann := ann56) (n := n) Tryz.func56
    (.cons (envok56 n) t56 (f56 n) (fun K x1 => ep56 n K x1) .nil)
    (by kernel_rfl) (by kernel_rfl) (by kernel_rfl)
end Go.Proofs.YtfbahcfojiaeaaaGreatDoor


set_option linter.unusedVariables false
set_option maxRecDepth 100000
namespace Go.Proofs.YtfbahcfojiaeaaaGreatDoor
open Go Th Go.Proofs
def ann86 : Ann := { loops := [], cuts := [], frz := [], rm := [.id, .id, .id] }
noncomputable abbrev env86 (n : Nat) : Env := fun i => bif Nat.beq i 100 then some (fs100 n) else (fun _ => none) i
theorem envok86 (n : Nat) : EnvOK Tryz.prog GI (env86 n) := EnvOK.cons (EnvOK.nil) (ok100 n)
noncomputable def p86 {R : Type} (n : Nat) (x1 : ByteArray) (k0 : ByteArray → ByteArray → Bool → Option R) : Option R :=
  let v2 := Lib.indexByte (x1).data.toList (((⟨#[47]⟩ : ByteArray)).data.toList.headD 0); bif (decide (v2 ≥ 0)) then (bif (cutR 0 v2 (x1).size) then (let v3 := IntKind.i64.wrap (v2 + ((⟨#[47]⟩ : ByteArray).size : Int)); bif (cutR v3 ((x1).size : Int) (x1).size) then (k0 (ByteArray.extract x1 (0 : Int).toNat (v2 : Int).toNat) (ByteArray.extract x1 (v3 : Int).toNat (((x1).size : Int) : Int).toNat) true) else none) else none) else (k0 x1 ⟨#[]⟩ false)
noncomputable abbrev lo86 {R : Type} (n : Nat) : Orc R := fun i vs K => none
noncomputable abbrev cu86 {R : Type} (n : Nat) : Orc R := fun i vs K => none
section
variable {R : Type}
abbrev K86 (R : Type) (n : Nat) := PartOK (R := R) Tryz.prog (env86 n) ann86 n (23, []) (lo86 n) (cu86 n)
theorem pa86 (n : Nat) : allP (K86 R n) (partsOf ann86 (bodyOf Tryz.f86)) := by
  rw [show partsOf ann86 (bodyOf Tryz.f86) = [] from by kernel_rfl]; exact trivial
end
abbrev t86 : Sl (List SV) := (.c (sP sStr) (.c (sP (sStrC (⟨#[47]⟩ : ByteArray))) .n))
noncomputable abbrev f86 (n : Nat) {R : Type} (K : List SV → Option R) : t86.T (Option R) := fun x1 => p86 n x1 (fun y1 y2 y3 => K [.p (.v (.string y1)), .p (.v (.string y2)), .p (.v (.bool y3))])
theorem ep86 {R : Type} (n : Nat) (K : List SV → Option R) (x1 : ByteArray) : evFn Tryz.prog (env86 n) ann86 n Tryz.f86 [.p (.v (.string x1)), .p (.v (.string ⟨#[47]⟩))] K = f86 n K x1 := by
  rw [evFn_evOi (c := bodyOf Tryz.f86) (by kernel_rfl) (pa86 n)]; kernel_rfl
noncomputable abbrev fs86 (n : Nat) : FS := { om := [false, false], run := fun args K => oget (t86.ap args (f86 n K)) none }
theorem ok86 (n : Nat) : FSound Tryz.prog GI 86 (fs86 n) :=
  FSound.good (envok86 n) (ann := ann86) (n := n) Tryz.func86
    (.cons (envok86 n) t86 (f86 n) (fun K x1 => ep86 n K x1) .nil)
    (by kernel_rfl) (by kernel_rfl) (by kernel_rfl)
end Go.Proofs.YtfbahcfojiaeaaaGreatDoor


set_option linter.unusedVariables false
set_option maxRecDepth 100000
namespace Go.Proofs.YtfbahcfojiaeaaaGreatDoor
open Go Th Go.Proofs
def ann55 : Ann := { loops := [], cuts := [], frz := [], rm := [.id, .id, .id] }
noncomputable abbrev env55 (n : Nat) : Env := fun i => bif Nat.beq i 86 then some (fs86 n) else (fun _ => none) i
theorem envok55 (n : Nat) : EnvOK Tryz.prog GI (env55 n) := EnvOK.cons (EnvOK.nil) (ok86 n)
noncomputable def p55 {R : Type} (n : Nat) (x1 : ByteArray) (k0 : ByteArray → ByteArray → Bool → Option R) : Option R :=
  p86 n x1 (fun y2 y3 y4 => k0 y2 y3 y4)
noncomputable abbrev lo55 {R : Type} (n : Nat) : Orc R := fun i vs K => none
noncomputable abbrev cu55 {R : Type} (n : Nat) : Orc R := fun i vs K => none
section
variable {R : Type}
abbrev K55 (R : Type) (n : Nat) := PartOK (R := R) Tryz.prog (env55 n) ann55 n (13, []) (lo55 n) (cu55 n)
theorem pa55 (n : Nat) : allP (K55 R n) (partsOf ann55 (bodyOf Tryz.f55)) := by
  rw [show partsOf ann55 (bodyOf Tryz.f55) = [] from by kernel_rfl]; exact trivial
end
abbrev t55 : Sl (List SV) := (.c (sP sStr) (.c (sP (sStrC (⟨#[47]⟩ : ByteArray))) .n))
noncomputable abbrev f55 (n : Nat) {R : Type} (K : List SV → Option R) : t55.T (Option R) := fun x1 => p55 n x1 (fun y1 y2 y3 => K [.p (.v (.string y1)), .p (.v (.string y2)), .p (.v (.bool y3))])
theorem ep55 {R : Type} (n : Nat) (K : List SV → Option R) (x1 : ByteArray) : evFn Tryz.prog (env55 n) ann55 n Tryz.f55 [.p (.v (.string x1)), .p (.v (.string ⟨#[47]⟩))] K = f55 n K x1 := by
  rw [evFn_evOi (c := bodyOf Tryz.f55) (by kernel_rfl) (pa55 n)]; kernel_rfl
noncomputable abbrev fs55 (n : Nat) : FS := { om := [false, false], run := fun args K => oget (t55.ap args (f55 n K)) none }
theorem ok55 (n : Nat) : FSound Tryz.prog GI 55 (fs55 n) :=
  FSound.good (envok55 n) (ann := ann55) (n := n) Tryz.func55
    (.cons (envok55 n) t55 (f55 n) (fun K x1 => ep55 n K x1) .nil)
    (by kernel_rfl) (by kernel_rfl) (by kernel_rfl)
end Go.Proofs.YtfbahcfojiaeaaaGreatDoor


set_option linter.unusedVariables false
set_option maxRecDepth 100000
namespace Go.Proofs.YtfbahcfojiaeaaaGreatDoor
open Go Th Go.Proofs
def ann57 : Ann := { loops := [], cuts := [(10, [(2, .id), (5, .id), (10, .id)], [(2, .id), (3, .id)])], frz := [], rm := [.id, .id] }
noncomputable abbrev env57 (n : Nat) : Env := fun i => bif Nat.beq i 79 then some (fs79 n) else (fun i => bif Nat.beq i 76 then some (fs76 n) else (fun i => bif Nat.beq i 55 then some (fs55 n) else (fun i => bif Nat.beq i 45 then some (fs45 n) else (fun i => bif Nat.beq i 44 then some (fs44 n) else (fun _ => none) i) i) i) i) i
theorem envok57 (n : Nat) : EnvOK Tryz.prog GI (env57 n) := EnvOK.cons (EnvOK.cons (EnvOK.cons (EnvOK.cons (EnvOK.cons (EnvOK.nil) (ok44 n)) (ok45 n)) (ok55 n)) (ok76 n)) (ok79 n)
noncomputable def p57_c10 {R : Type} (n : Nat) (x1 : Bool) (x2 : ByteArray) (x3 : Bool) (x4 x5 : List PV) (k0 : Bool → List PV → List PV → Bool → Option R) : Option R :=
  p45 n x2 (fun y6 => p79 n x4 y6 (fun y7 => bif (((y7).length : Int) == 1) then (bif true then (bif (inR 0 ((y7).length)) then (getI .u32 ((y7).getD ((0 : Int).toNat) (.v (.bool false))) fun e8 => bif true then (bif true then (k0 x3 x4 y6 (bif true then (e8 == 1) else false)) else none) else none) else none) else none) else (bif false then none else (bif false then none else (bif false then none else (bif false then none else (k0 x3 x4 y6 false)))))))
noncomputable def p57 {R : Type} (n : Nat) (x1 : ByteArray) (k0 : Bool → List PV → List PV → Bool → Option R) : Option R :=
  p55 n x1 (fun y2 y3 y4 => p44 n y2 (fun y5 y6 y7 => bif (!y7) then (k0 false [] [] false) else (p45 n y6 (fun y8 => bif (!y4) then (k0 y5 y8 ([.v (.int .u32 1)] : List PV) true) else (p76 n y3 (fun y9 => bif (!y9) then (bif true then (bif true then (bif true then (bif true then (bif true then (bif true then (k0 false [] [] false) else none) else none) else none) else none) else none) else none) else (bif false then none else (bif (bif false then true else eqS y3 (⟨#[48]⟩ : ByteArray)) then (bif true then (bif true then (bif true then (k0 false [] [] false) else none) else none) else none) else (bif false then none else (bif (bif false then true else eqS y3 (⟨#[49]⟩ : ByteArray)) then (k0 false [] [] false) else (p57_c10 n false y3 y5 y8 ([.v (.int .u32 1)] : List PV) (fun y10 y11 y12 y13 => k0 y10 y11 y12 y13))))))))))))
noncomputable abbrev E57 {R : Type} (n : Nat) (c : Code) : Fr → Kc R → Option R := evC Tryz.prog (env57 n) ann57 n (65, []) c
noncomputable def c57_c10 : Code := subC (bodyOf Tryz.f57) [1, 1, 1, 1, 1, 1, 1]
abbrev t57_c10 : Sl (List SV) := (.c (sBx 65 (.c (sP sBool) (.c sNl (.c sNl .n)))) (.c (sP sStr) (.c (sBx 65 (.c (sP sBool) (.c (sP sSh) (.c (sP sSh) .n)))) .n)))
noncomputable abbrev f57_c10 {R : Type} (n : Nat) (K : Kc R) : t57_c10.T (Option R) := fun x1 x2 x3 x4 x5 => p57_c10 n x1 x2 x3 x4 x5 (fun y1 y2 y3 y4 => K .ret (lk (outA ann57.cuts 10) [.bx 65 [.p (.v (.bool y1)), .p (.sh y2), .p (.sh y3)], .p (.v (.bool y4))]))
noncomputable abbrev o57_c10 {R : Type} (n : Nat) (vs : List SV) (K : Kc R) : Option R := oget (t57_c10.ap vs (f57_c10 n K)) (cutE ann57 10 (E57 n c57_c10) vs K)
noncomputable abbrev lo57 {R : Type} (n : Nat) : Orc R := fun i vs K => none
noncomputable abbrev cu57 {R : Type} (n : Nat) : Orc R := fun i vs K => dcnd (Nat.beq i 10) (o57_c10 n vs K) (none)
section
variable {R : Type}
abbrev K57 (R : Type) (n : Nat) := PartOK (R := R) Tryz.prog (env57 n) ann57 n (65, []) (lo57 n) (cu57 n)
theorem pa57_c10 (n : Nat) : allP (K57 R n) (partsOf ann57 c57_c10) := by
  rw [show partsOf ann57 c57_c10 = [] from by kernel_rfl]; exact trivial
theorem q57_c10 (n : Nat) : K57 R n (true, 10, c57_c10) := part_cut (pa57_c10 n) t57_c10 (f57_c10 n) (fun K x1 x2 x3 x4 x5 => by show cutE _ _ _ _ _ = _; kernel_rfl) fun _ _ => rfl
theorem pa57 (n : Nat) : allP (K57 R n) (partsOf ann57 (bodyOf Tryz.f57)) := by
  rw [show partsOf ann57 (bodyOf Tryz.f57) = [(true, 10, c57_c10)] from by kernel_rfl]; exact ⟨q57_c10 n, trivial⟩
end
abbrev t57 : Sl (List SV) := (.c (sP sStr) .n)
noncomputable abbrev f57 (n : Nat) {R : Type} (K : List SV → Option R) : t57.T (Option R) := fun x1 => p57 n x1 (fun y1 y2 y3 y4 => K [.p (.agg [.v (.bool y1), .sh y2, .sh y3]), .p (.v (.bool y4))])
theorem ep57 {R : Type} (n : Nat) (K : List SV → Option R) (x1 : ByteArray) : evFn Tryz.prog (env57 n) ann57 n Tryz.f57 [.p (.v (.string x1))] K = f57 n K x1 := by
  rw [evFn_evOi (c := bodyOf Tryz.f57) (by kernel_rfl) (pa57 n)]; kernel_rfl
noncomputable abbrev fs57 (n : Nat) : FS := { om := [false], run := fun args K => oget (t57.ap args (f57 n K)) none }
theorem ok57 (n : Nat) : FSound Tryz.prog GI 57 (fs57 n) :=
  FSound.good (envok57 n) (ann := ann57) (n := n) Tryz.func57
    (.cons (envok57 n) t57 (f57 n) (fun K x1 => ep57 n K x1) .nil)
    (by kernel_rfl) (by kernel_rfl) (by kernel_rfl)
end Go.Proofs.YtfbahcfojiaeaaaGreatDoor


set_option linter.unusedVariables false
set_option maxRecDepth 100000
namespace Go.Proofs.YtfbahcfojiaeaaaGreatDoor
open Go Th Go.Proofs
def ann19 : Ann := { loops := [], cuts := [], frz := [], rm := [.id] }
noncomputable abbrev env19 (n : Nat) : Env := fun i => bif Nat.beq i 57 then some (fs57 n) else (fun i => bif Nat.beq i 56 then some (fs56 n) else (fun _ => none) i) i
theorem envok19 (n : Nat) : EnvOK Tryz.prog GI (env19 n) := EnvOK.cons (EnvOK.cons (EnvOK.nil) (ok56 n)) (ok57 n)
noncomputable def p19 {R : Type} (n : Nat) (x1 : ByteArray) (k0 : Bool → Option R) : Option R :=
  p56 n x1 (fun y2 y3 => bif y3 then (k0 true) else (p57 n x1 (fun y4 y5 y6 y7 => k0 y7)))
noncomputable abbrev lo19 {R : Type} (n : Nat) : Orc R := fun i vs K => none
noncomputable abbrev cu19 {R : Type} (n : Nat) : Orc R := fun i vs K => none
section
variable {R : Type}
abbrev K19 (R : Type) (n : Nat) := PartOK (R := R) Tryz.prog (env19 n) ann19 n (19, []) (lo19 n) (cu19 n)
theorem pa19 (n : Nat) : allP (K19 R n) (partsOf ann19 (bodyOf Tryz.f19)) := by
  rw [show partsOf ann19 (bodyOf Tryz.f19) = [] from by kernel_rfl]; exact trivial
end
abbrev t19 : Sl (List SV) := (.c (sP sStr) .n)
noncomputable abbrev f19 (n : Nat) {R : Type} (K : List SV → Option R) : t19.T (Option R) := fun x1 => p19 n x1 (fun y1 => K [.p (.v (.bool y1))])
theorem ep19 {R : Type} (n : Nat) (K : List SV → Option R) (x1 : ByteArray) : evFn Tryz.prog (env19 n) ann19 n Tryz.f19 [.p (.v (.string x1))] K = f19 n K x1 := by
  rw [evFn_evOi (c := bodyOf Tryz.f19) (by kernel_rfl) (pa19 n)]; kernel_rfl
noncomputable abbrev fs19 (n : Nat) : FS := { om := [false], run := fun args K => oget (t19.ap args (f19 n K)) none }
theorem ok19 (n : Nat) : FSound Tryz.prog GI 19 (fs19 n) :=
  FSound.good (envok19 n) (ann := ann19) (n := n) Tryz.func19
    (.cons (envok19 n) t19 (f19 n) (fun K x1 => ep19 n K x1) .nil)
    (by kernel_rfl) (by kernel_rfl) (by kernel_rfl)
end Go.Proofs.YtfbahcfojiaeaaaGreatDoor


set_option linter.unusedVariables false
set_option maxRecDepth 100000
namespace Go.Proofs.YtfbahcfojiaeaaaGreatDoor
open Go Th Go.Proofs
def ann62 : Ann := { loops := [], cuts := [], frz := [], rm := [.id, .id, .id] }
noncomputable abbrev env62 (n : Nat) : Env := fun i => bif Nat.beq i 56 then some (fs56 n) else (fun _ => none) i
theorem envok62 (n : Nat) : EnvOK Tryz.prog GI (env62 n) := EnvOK.cons (EnvOK.nil) (ok56 n)
noncomputable def p62 {R : Type} (n : Nat) (x1 x2 : ByteArray) (k0 : Int → Int → Bool → Option R) : Option R :=
  p56 n x1 (fun y3 y4 => p56 n x2 (fun y5 y6 => bif y4 then (k0 y3 y5 (bif true then y6 else false)) else (bif false then none else (k0 y3 y5 false))))
noncomputable abbrev lo62 {R : Type} (n : Nat) : Orc R := fun i vs K => none
noncomputable abbrev cu62 {R : Type} (n : Nat) : Orc R := fun i vs K => none
section
variable {R : Type}
abbrev K62 (R : Type) (n : Nat) := PartOK (R := R) Tryz.prog (env62 n) ann62 n (27, []) (lo62 n) (cu62 n)
theorem pa62 (n : Nat) : allP (K62 R n) (partsOf ann62 (bodyOf Tryz.f62)) := by
  rw [show partsOf ann62 (bodyOf Tryz.f62) = [] from by kernel_rfl]; exact trivial
end
abbrev t62 : Sl (List SV) := (.c (sP sStr) (.c (sP sStr) .n))
noncomputable abbrev f62 (n : Nat) {R : Type} (K : List SV → Option R) : t62.T (Option R) := fun x1 x2 => p62 n x1 x2 (fun y1 y2 y3 => K [.p (.v (.int .i64 y1)), .p (.v (.int .i64 y2)), .p (.v (.bool y3))])
theorem ep62 {R : Type} (n : Nat) (K : List SV → Option R) (x1 x2 : ByteArray) : evFn Tryz.prog (env62 n) ann62 n Tryz.f62 [.p (.v (.string x1)), .p (.v (.string x2))] K = f62 n K x1 x2 := by
  rw [evFn_evOi (c := bodyOf Tryz.f62) (by kernel_rfl) (pa62 n)]; kernel_rfl
noncomputable abbrev fs62 (n : Nat) : FS := { om := [false, false], run := fun args K => oget (t62.ap args (f62 n K)) none }
theorem ok62 (n : Nat) : FSound Tryz.prog GI 62 (fs62 n) :=
  FSound.good (envok62 n) (ann := ann62) (n := n) Tryz.func62
    (.cons (envok62 n) t62 (f62 n) (fun K x1 x2 => ep62 n K x1 x2) .nil)
    (by kernel_rfl) (by kernel_rfl) (by kernel_rfl)
end Go.Proofs.YtfbahcfojiaeaaaGreatDoor


set_option linter.unusedVariables false
set_option maxRecDepth 100000
namespace Go.Proofs.YtfbahcfojiaeaaaGreatDoor
open Go Th Go.Proofs
def ann66 : Ann := { loops := [], cuts := [], frz := [], rm := [.id] }
noncomputable abbrev env66 (n : Nat) : Env := fun i => bif Nat.beq i 89 then some (fs89 n) else (fun i => bif Nat.beq i 88 then some (fs88 n) else (fun i => bif Nat.beq i 73 then some (fs73 n) else (fun i => bif Nat.beq i 70 then some (fs70 n) else (fun _ => none) i) i) i) i
theorem envok66 (n : Nat) : EnvOK Tryz.prog GI (env66 n) := EnvOK.cons (EnvOK.cons (EnvOK.cons (EnvOK.cons (EnvOK.nil) (ok70 n)) (ok73 n)) (ok88 n)) (ok89 n)
noncomputable def p66 {R : Type} (n : Nat) (x1 : Bool) (x2 x3 : List PV) (x4 : Bool) (x5 x6 : List PV) (k0 : Bool → List PV → List PV → Option R) : Option R :=
  p70 n x2 x6 (fun y7 => p70 n x5 x3 (fun y8 => p70 n x3 x6 (fun y9 => bif (x1 == x4) then (p88 n y7 y8 (fun y10 => k0 x1 y10 y9)) else (p73 n y7 y8 (fun y11 => bif (decide (y11 < 0)) then (p89 n y8 y7 (fun y12 => k0 x4 y12 y9)) else (p89 n y7 y8 (fun y13 => k0 x1 y13 y9)))))))
noncomputable abbrev lo66 {R : Type} (n : Nat) : Orc R := fun i vs K => none
noncomputable abbrev cu66 {R : Type} (n : Nat) : Orc R := fun i vs K => none
section
variable {R : Type}
abbrev K66 (R : Type) (n : Nat) := PartOK (R := R) Tryz.prog (env66 n) ann66 n (53, []) (lo66 n) (cu66 n)
theorem pa66 (n : Nat) : allP (K66 R n) (partsOf ann66 (bodyOf Tryz.f66)) := by
  rw [show partsOf ann66 (bodyOf Tryz.f66) = [] from by kernel_rfl]; exact trivial
end
abbrev t66 : Sl (List SV) := (.c (sP (sAgg (.c sBool (.c sSh (.c sSh .n))))) (.c (sP (sAgg (.c sBool (.c sSh (.c sSh .n))))) .n))
noncomputable abbrev f66 (n : Nat) {R : Type} (K : List SV → Option R) : t66.T (Option R) := fun x1 x2 x3 x4 x5 x6 => p66 n x1 x2 x3 x4 x5 x6 (fun y1 y2 y3 => K [.p (.agg [.v (.bool y1), .sh y2, .sh y3])])
theorem ep66 {R : Type} (n : Nat) (K : List SV → Option R) (x1 : Bool) (x2 x3 : List PV) (x4 : Bool) (x5 x6 : List PV) : evFn Tryz.prog (env66 n) ann66 n Tryz.f66 [.p (.agg [.v (.bool x1), .sh x2, .sh x3]), .p (.agg [.v (.bool x4), .sh x5, .sh x6])] K = f66 n K x1 x2 x3 x4 x5 x6 := by
  rw [evFn_evOi (c := bodyOf Tryz.f66) (by kernel_rfl) (pa66 n)]; kernel_rfl
noncomputable abbrev fs66 (n : Nat) : FS := { om := [false, false], run := fun args K => oget (t66.ap args (f66 n K)) none }
theorem ok66 (n : Nat) : FSound Tryz.prog GI 66 (fs66 n) :=
  FSound.good (envok66 n) (ann := ann66) (n := n) Tryz.func66
    (.cons (envok66 n) t66 (f66 n) (fun K x1 x2 x3 x4 x5 x6 => ep66 n K x1 x2 x3 x4 x5 x6) .nil)
    (by kernel_rfl) (by kernel_rfl) (by kernel_rfl)
end Go.Proofs.YtfbahcfojiaeaaaGreatDoor


set_option linter.unusedVariables false
set_option maxRecDepth 100000
namespace Go.Proofs.YtfbahcfojiaeaaaGreatDoor
open Go Th Go.Proofs
def ann65 : Ann := { loops := [], cuts := [], frz := [], rm := [.id, .id] }
noncomputable abbrev env65 (n : Nat) : Env := fun i => bif Nat.beq i 66 then some (fs66 n) else (fun _ => none) i
theorem envok65 (n : Nat) : EnvOK Tryz.prog GI (env65 n) := EnvOK.cons (EnvOK.nil) (ok66 n)
noncomputable def p65 {R : Type} (n : Nat) (x1 : Bool) (x2 x3 : List PV) (x4 : Bool) (x5 x6 : List PV) (k0 : Bool → List PV → List PV → Int → Option R) : Option R :=
  p66 n x1 x2 x3 x4 x5 x6 (fun y7 y8 y9 => k0 y7 y8 y9 0)
noncomputable abbrev lo65 {R : Type} (n : Nat) : Orc R := fun i vs K => none
noncomputable abbrev cu65 {R : Type} (n : Nat) : Orc R := fun i vs K => none
section
variable {R : Type}
abbrev K65 (R : Type) (n : Nat) := PartOK (R := R) Tryz.prog (env65 n) ann65 n (9, []) (lo65 n) (cu65 n)
theorem pa65 (n : Nat) : allP (K65 R n) (partsOf ann65 (bodyOf Tryz.f65)) := by
  rw [show partsOf ann65 (bodyOf Tryz.f65) = [] from by kernel_rfl]; exact trivial
end
abbrev t65 : Sl (List SV) := (.c (sP (sAgg (.c sBool (.c sSh (.c sSh .n))))) (.c (sP (sAgg (.c sBool (.c sSh (.c sSh .n))))) .n))
noncomputable abbrev f65 (n : Nat) {R : Type} (K : List SV → Option R) : t65.T (Option R) := fun x1 x2 x3 x4 x5 x6 => p65 n x1 x2 x3 x4 x5 x6 (fun y1 y2 y3 y4 => K [.p (.agg [.v (.bool y1), .sh y2, .sh y3]), .p (.v (.int .i64 y4))])
theorem ep65 {R : Type} (n : Nat) (K : List SV → Option R) (x1 : Bool) (x2 x3 : List PV) (x4 : Bool) (x5 x6 : List PV) : evFn Tryz.prog (env65 n) ann65 n Tryz.f65 [.p (.agg [.v (.bool x1), .sh x2, .sh x3]), .p (.agg [.v (.bool x4), .sh x5, .sh x6])] K = f65 n K x1 x2 x3 x4 x5 x6 := by
  rw [evFn_evOi (c := bodyOf Tryz.f65) (by kernel_rfl) (pa65 n)]; kernel_rfl
noncomputable abbrev fs65 (n : Nat) : FS := { om := [false, false], run := fun args K => oget (t65.ap args (f65 n K)) none }
theorem ok65 (n : Nat) : FSound Tryz.prog GI 65 (fs65 n) :=
  FSound.good (envok65 n) (ann := ann65) (n := n) Tryz.func65
    (.cons (envok65 n) t65 (f65 n) (fun K x1 x2 x3 x4 x5 x6 => ep65 n K x1 x2 x3 x4 x5 x6) .nil)
    (by kernel_rfl) (by kernel_rfl) (by kernel_rfl)
end Go.Proofs.YtfbahcfojiaeaaaGreatDoor


set_option linter.unusedVariables false
set_option maxRecDepth 100000
namespace Go.Proofs.YtfbahcfojiaeaaaGreatDoor
open Go Th Go.Proofs
def ann68 : Ann := { loops := [], cuts := [], frz := [], rm := [.id] }
noncomputable abbrev env68 (n : Nat) : Env := fun _ => none
theorem envok68 (n : Nat) : EnvOK Tryz.prog GI (env68 n) := EnvOK.nil
noncomputable def p68 {R : Type} (n : Nat) (x1 : Bool) (x2 x3 : List PV) (k0 : Bool → List PV → List PV → Option R) : Option R :=
  bif (!x1) then (bif true then (bif true then (bif true then (k0 (bif true then (decide (((x2).length : Int) > 0)) else false) x2 x3) else none) else none) else none) else (bif false then none else (bif false then none else (bif false then none else (bif false then none else (k0 false x2 x3)))))
noncomputable abbrev lo68 {R : Type} (n : Nat) : Orc R := fun i vs K => none
noncomputable abbrev cu68 {R : Type} (n : Nat) : Orc R := fun i vs K => none
section
variable {R : Type}
abbrev K68 (R : Type) (n : Nat) := PartOK (R := R) Tryz.prog (env68 n) ann68 n (14, []) (lo68 n) (cu68 n)
theorem pa68 (n : Nat) : allP (K68 R n) (partsOf ann68 (bodyOf Tryz.f68)) := by
  rw [show partsOf ann68 (bodyOf Tryz.f68) = [] from by kernel_rfl]; exact trivial
end
abbrev t68 : Sl (List SV) := (.c (sP (sAgg (.c sBool (.c sSh (.c sSh .n))))) .n)
noncomputable abbrev f68 (n : Nat) {R : Type} (K : List SV → Option R) : t68.T (Option R) := fun x1 x2 x3 => p68 n x1 x2 x3 (fun y1 y2 y3 => K [.p (.agg [.v (.bool y1), .sh y2, .sh y3])])
theorem ep68 {R : Type} (n : Nat) (K : List SV → Option R) (x1 : Bool) (x2 x3 : List PV) : evFn Tryz.prog (env68 n) ann68 n Tryz.f68 [.p (.agg [.v (.bool x1), .sh x2, .sh x3])] K = f68 n K x1 x2 x3 := by
  rw [evFn_evOi (c := bodyOf Tryz.f68) (by kernel_rfl) (pa68 n)]; kernel_rfl
noncomputable abbrev fs68 (n : Nat) : FS := { om := [false], run := fun args K => oget (t68.ap args (f68 n K)) none }
theorem ok68 (n : Nat) : FSound Tryz.prog GI 68 (fs68 n) :=
  FSound.good (envok68 n) (ann := ann68) (n := n) Tryz.func68
    (.cons (envok68 n) t68 (f68 n) (fun K x1 x2 x3 => ep68 n K x1 x2 x3) .nil)
    (by kernel_rfl) (by kernel_rfl) (by kernel_rfl)
end Go.Proofs.YtfbahcfojiaeaaaGreatDoor


set_option linter.unusedVariables false
set_option maxRecDepth 100000
namespace Go.Proofs.YtfbahcfojiaeaaaGreatDoor
open Go Th Go.Proofs
def ann67 : Ann := { loops := [], cuts := [], frz := [], rm := [.id, .id] }
noncomputable abbrev env67 (n : Nat) : Env := fun i => bif Nat.beq i 68 then some (fs68 n) else (fun i => bif Nat.beq i 66 then some (fs66 n) else (fun _ => none) i) i
theorem envok67 (n : Nat) : EnvOK Tryz.prog GI (env67 n) := EnvOK.cons (EnvOK.cons (EnvOK.nil) (ok66 n)) (ok68 n)
noncomputable def p67 {R : Type} (n : Nat) (x1 : Bool) (x2 x3 : List PV) (x4 : Bool) (x5 x6 : List PV) (k0 : Bool → List PV → List PV → Int → Option R) : Option R :=
  p68 n x4 x5 x6 (fun y7 y8 y9 => p66 n x1 x2 x3 y7 y8 y9 (fun y10 y11 y12 => k0 y10 y11 y12 0))
noncomputable abbrev lo67 {R : Type} (n : Nat) : Orc R := fun i vs K => none
noncomputable abbrev cu67 {R : Type} (n : Nat) : Orc R := fun i vs K => none
section
variable {R : Type}
abbrev K67 (R : Type) (n : Nat) := PartOK (R := R) Tryz.prog (env67 n) ann67 n (10, []) (lo67 n) (cu67 n)
theorem pa67 (n : Nat) : allP (K67 R n) (partsOf ann67 (bodyOf Tryz.f67)) := by
  rw [show partsOf ann67 (bodyOf Tryz.f67) = [] from by kernel_rfl]; exact trivial
end
abbrev t67 : Sl (List SV) := (.c (sP (sAgg (.c sBool (.c sSh (.c sSh .n))))) (.c (sP (sAgg (.c sBool (.c sSh (.c sSh .n))))) .n))
noncomputable abbrev f67 (n : Nat) {R : Type} (K : List SV → Option R) : t67.T (Option R) := fun x1 x2 x3 x4 x5 x6 => p67 n x1 x2 x3 x4 x5 x6 (fun y1 y2 y3 y4 => K [.p (.agg [.v (.bool y1), .sh y2, .sh y3]), .p (.v (.int .i64 y4))])
theorem ep67 {R : Type} (n : Nat) (K : List SV → Option R) (x1 : Bool) (x2 x3 : List PV) (x4 : Bool) (x5 x6 : List PV) : evFn Tryz.prog (env67 n) ann67 n Tryz.f67 [.p (.agg [.v (.bool x1), .sh x2, .sh x3]), .p (.agg [.v (.bool x4), .sh x5, .sh x6])] K = f67 n K x1 x2 x3 x4 x5 x6 := by
  rw [evFn_evOi (c := bodyOf Tryz.f67) (by kernel_rfl) (pa67 n)]; kernel_rfl
noncomputable abbrev fs67 (n : Nat) : FS := { om := [false, false], run := fun args K => oget (t67.ap args (f67 n K)) none }
theorem ok67 (n : Nat) : FSound Tryz.prog GI 67 (fs67 n) :=
  FSound.good (envok67 n) (ann := ann67) (n := n) Tryz.func67
    (.cons (envok67 n) t67 (f67 n) (fun K x1 x2 x3 x4 x5 x6 => ep67 n K x1 x2 x3 x4 x5 x6) .nil)
    (by kernel_rfl) (by kernel_rfl) (by kernel_rfl)
end Go.Proofs.YtfbahcfojiaeaaaGreatDoor


set_option linter.unusedVariables false
set_option maxRecDepth 100000
namespace Go.Proofs.YtfbahcfojiaeaaaGreatDoor
open Go Th Go.Proofs
def ann69 : Ann := { loops := [], cuts := [], frz := [], rm := [.id, .id] }
noncomputable abbrev env69 (n : Nat) : Env := fun i => bif Nat.beq i 70 then some (fs70 n) else (fun _ => none) i
theorem envok69 (n : Nat) : EnvOK Tryz.prog GI (env69 n) := EnvOK.cons (EnvOK.nil) (ok70 n)
noncomputable def p69 {R : Type} (n : Nat) (x1 : Bool) (x2 x3 : List PV) (x4 : Bool) (x5 x6 : List PV) (k0 : Bool → List PV → List PV → Int → Option R) : Option R :=
  p70 n x2 x5 (fun y7 => p70 n x3 x6 (fun y8 => k0 (!(x1 == x4)) y7 y8 0))
noncomputable abbrev lo69 {R : Type} (n : Nat) : Orc R := fun i vs K => none
noncomputable abbrev cu69 {R : Type} (n : Nat) : Orc R := fun i vs K => none
section
variable {R : Type}
abbrev K69 (R : Type) (n : Nat) := PartOK (R := R) Tryz.prog (env69 n) ann69 n (22, []) (lo69 n) (cu69 n)
theorem pa69 (n : Nat) : allP (K69 R n) (partsOf ann69 (bodyOf Tryz.f69)) := by
  rw [show partsOf ann69 (bodyOf Tryz.f69) = [] from by kernel_rfl]; exact trivial
end
abbrev t69 : Sl (List SV) := (.c (sP (sAgg (.c sBool (.c sSh (.c sSh .n))))) (.c (sP (sAgg (.c sBool (.c sSh (.c sSh .n))))) .n))
noncomputable abbrev f69 (n : Nat) {R : Type} (K : List SV → Option R) : t69.T (Option R) := fun x1 x2 x3 x4 x5 x6 => p69 n x1 x2 x3 x4 x5 x6 (fun y1 y2 y3 y4 => K [.p (.agg [.v (.bool y1), .sh y2, .sh y3]), .p (.v (.int .i64 y4))])
theorem ep69 {R : Type} (n : Nat) (K : List SV → Option R) (x1 : Bool) (x2 x3 : List PV) (x4 : Bool) (x5 x6 : List PV) : evFn Tryz.prog (env69 n) ann69 n Tryz.f69 [.p (.agg [.v (.bool x1), .sh x2, .sh x3]), .p (.agg [.v (.bool x4), .sh x5, .sh x6])] K = f69 n K x1 x2 x3 x4 x5 x6 := by
  rw [evFn_evOi (c := bodyOf Tryz.f69) (by kernel_rfl) (pa69 n)]; kernel_rfl
noncomputable abbrev fs69 (n : Nat) : FS := { om := [false, false], run := fun args K => oget (t69.ap args (f69 n K)) none }
theorem ok69 (n : Nat) : FSound Tryz.prog GI 69 (fs69 n) :=
  FSound.good (envok69 n) (ann := ann69) (n := n) Tryz.func69
    (.cons (envok69 n) t69 (f69 n) (fun K x1 x2 x3 x4 x5 x6 => ep69 n K x1 x2 x3 x4 x5 x6) .nil)
    (by kernel_rfl) (by kernel_rfl) (by kernel_rfl)
end Go.Proofs.YtfbahcfojiaeaaaGreatDoor


set_option linter.unusedVariables false
set_option maxRecDepth 100000
namespace Go.Proofs.YtfbahcfojiaeaaaGreatDoor
open Go Th Go.Proofs
def ann71 : Ann := { loops := [], cuts := [], frz := [], rm := [.id, .id] }
noncomputable abbrev env71 (n : Nat) : Env := fun i => bif Nat.beq i 70 then some (fs70 n) else (fun _ => none) i
theorem envok71 (n : Nat) : EnvOK Tryz.prog GI (env71 n) := EnvOK.cons (EnvOK.nil) (ok70 n)
noncomputable def p71 {R : Type} (n : Nat) (x1 : Bool) (x2 x3 : List PV) (x4 : Bool) (x5 x6 : List PV) (k0 : Bool → List PV → List PV → Int → Option R) : Option R :=
  bif (((x5).length : Int) == 0) then (k0 false [] [] 24) else (p70 n x2 x6 (fun y7 => p70 n x3 x5 (fun y8 => k0 (!(x1 == x4)) y7 y8 0)))
noncomputable abbrev lo71 {R : Type} (n : Nat) : Orc R := fun i vs K => none
noncomputable abbrev cu71 {R : Type} (n : Nat) : Orc R := fun i vs K => none
section
variable {R : Type}
abbrev K71 (R : Type) (n : Nat) := PartOK (R := R) Tryz.prog (env71 n) ann71 n (27, []) (lo71 n) (cu71 n)
theorem pa71 (n : Nat) : allP (K71 R n) (partsOf ann71 (bodyOf Tryz.f71)) := by
  rw [show partsOf ann71 (bodyOf Tryz.f71) = [] from by kernel_rfl]; exact trivial
end
abbrev t71 : Sl (List SV) := (.c (sP (sAgg (.c sBool (.c sSh (.c sSh .n))))) (.c (sP (sAgg (.c sBool (.c sSh (.c sSh .n))))) .n))
noncomputable abbrev f71 (n : Nat) {R : Type} (K : List SV → Option R) : t71.T (Option R) := fun x1 x2 x3 x4 x5 x6 => p71 n x1 x2 x3 x4 x5 x6 (fun y1 y2 y3 y4 => K [.p (.agg [.v (.bool y1), .sh y2, .sh y3]), .p (.v (.int .i64 y4))])
theorem ep71 {R : Type} (n : Nat) (K : List SV → Option R) (x1 : Bool) (x2 x3 : List PV) (x4 : Bool) (x5 x6 : List PV) : evFn Tryz.prog (env71 n) ann71 n Tryz.f71 [.p (.agg [.v (.bool x1), .sh x2, .sh x3]), .p (.agg [.v (.bool x4), .sh x5, .sh x6])] K = f71 n K x1 x2 x3 x4 x5 x6 := by
  rw [evFn_evOi (c := bodyOf Tryz.f71) (by kernel_rfl) (pa71 n)]; kernel_rfl
noncomputable abbrev fs71 (n : Nat) : FS := { om := [false, false], run := fun args K => oget (t71.ap args (f71 n K)) none }
theorem ok71 (n : Nat) : FSound Tryz.prog GI 71 (fs71 n) :=
  FSound.good (envok71 n) (ann := ann71) (n := n) Tryz.func71
    (.cons (envok71 n) t71 (f71 n) (fun K x1 x2 x3 x4 x5 x6 => ep71 n K x1 x2 x3 x4 x5 x6) .nil)
    (by kernel_rfl) (by kernel_rfl) (by kernel_rfl)
end Go.Proofs.YtfbahcfojiaeaaaGreatDoor


set_option linter.unusedVariables false
set_option maxRecDepth 100000
namespace Go.Proofs.YtfbahcfojiaeaaaGreatDoor
open Go Th Go.Proofs
def ann64 : Ann := { loops := [], cuts := [(5, [(2, .id), (8, .id), (10, .id)], [(6, .id), (7, .id)])], frz := [], rm := [.id, .id] }
noncomputable abbrev env64 (n : Nat) : Env := fun i => bif Nat.beq i 71 then some (fs71 n) else (fun i => bif Nat.beq i 69 then some (fs69 n) else (fun i => bif Nat.beq i 67 then some (fs67 n) else (fun i => bif Nat.beq i 65 then some (fs65 n) else (fun i => bif Nat.beq i 57 then some (fs57 n) else (fun i => bif Nat.beq i 46 then some (fs46 n) else (fun _ => none) i) i) i) i) i) i
theorem envok64 (n : Nat) : EnvOK Tryz.prog GI (env64 n) := EnvOK.cons (EnvOK.cons (EnvOK.cons (EnvOK.cons (EnvOK.cons (EnvOK.cons (EnvOK.nil) (ok46 n)) (ok57 n)) (ok65 n)) (ok67 n)) (ok69 n)) (ok71 n)
noncomputable def p64_c5 {R : Type} (n : Nat) (x1 : Bool) (x2 x3 : List PV) (x4 : Bool) (x5 x6 : List PV) (k0 : ByteArray → Int → Option R) : Option R :=
  p65 n x1 x2 x3 x4 x5 x6 (fun y7 y8 y9 y10 => bif (y10 != 0) then (k0 ⟨#[]⟩ y10) else (p46 n y7 y8 y9 (fun y11 y12 => k0 y11 y12)))
noncomputable def p64 {R : Type} (n : Nat) (x1 x2 : ByteArray) (k0 : ByteArray → Int → Option R) : Option R :=
  p57 n x1 (fun y3 y4 y5 y6 => p57 n x2 (fun y7 y8 y9 y10 => bif (!y6) then (bif true then (bif true then (bif true then (k0 ⟨#[]⟩ 3) else none) else none) else none) else (bif false then none else (bif (bif false then true else (!y10)) then (k0 ⟨#[]⟩ 3) else (p64_c5 n y3 y4 y5 y7 y8 y9 (fun y11 y12 => k0 y11 y12))))))
noncomputable def p64_c5v1 {R : Type} (n : Nat) (x1 : Bool) (x2 x3 : List PV) (x4 : Bool) (x5 x6 : List PV) (k0 : ByteArray → Int → Option R) : Option R :=
  p71 n x1 x2 x3 x4 x5 x6 (fun y7 y8 y9 y10 => bif (y10 != 0) then (k0 ⟨#[]⟩ y10) else (p46 n y7 y8 y9 (fun y11 y12 => k0 y11 y12)))
noncomputable def p64v1 {R : Type} (n : Nat) (x1 x2 : ByteArray) (k0 : ByteArray → Int → Option R) : Option R :=
  p57 n x1 (fun y3 y4 y5 y6 => p57 n x2 (fun y7 y8 y9 y10 => bif (!y6) then (bif true then (bif true then (bif true then (k0 ⟨#[]⟩ 3) else none) else none) else none) else (bif false then none else (bif (bif false then true else (!y10)) then (k0 ⟨#[]⟩ 3) else (p64_c5v1 n y3 y4 y5 y7 y8 y9 (fun y11 y12 => k0 y11 y12))))))
noncomputable def p64_c5v2 {R : Type} (n : Nat) (x1 : Bool) (x2 x3 : List PV) (x4 : Bool) (x5 x6 : List PV) (k0 : ByteArray → Int → Option R) : Option R :=
  p67 n x1 x2 x3 x4 x5 x6 (fun y7 y8 y9 y10 => bif (y10 != 0) then (k0 ⟨#[]⟩ y10) else (p46 n y7 y8 y9 (fun y11 y12 => k0 y11 y12)))
noncomputable def p64v2 {R : Type} (n : Nat) (x1 x2 : ByteArray) (k0 : ByteArray → Int → Option R) : Option R :=
  p57 n x1 (fun y3 y4 y5 y6 => p57 n x2 (fun y7 y8 y9 y10 => bif (!y6) then (bif true then (bif true then (bif true then (k0 ⟨#[]⟩ 3) else none) else none) else none) else (bif false then none else (bif (bif false then true else (!y10)) then (k0 ⟨#[]⟩ 3) else (p64_c5v2 n y3 y4 y5 y7 y8 y9 (fun y11 y12 => k0 y11 y12))))))
noncomputable def p64_c5v3 {R : Type} (n : Nat) (x1 : Bool) (x2 x3 : List PV) (x4 : Bool) (x5 x6 : List PV) (k0 : ByteArray → Int → Option R) : Option R :=
  p69 n x1 x2 x3 x4 x5 x6 (fun y7 y8 y9 y10 => bif (y10 != 0) then (k0 ⟨#[]⟩ y10) else (p46 n y7 y8 y9 (fun y11 y12 => k0 y11 y12)))
noncomputable def p64v3 {R : Type} (n : Nat) (x1 x2 : ByteArray) (k0 : ByteArray → Int → Option R) : Option R :=
  p57 n x1 (fun y3 y4 y5 y6 => p57 n x2 (fun y7 y8 y9 y10 => bif (!y6) then (bif true then (bif true then (bif true then (k0 ⟨#[]⟩ 3) else none) else none) else none) else (bif false then none else (bif (bif false then true else (!y10)) then (k0 ⟨#[]⟩ 3) else (p64_c5v3 n y3 y4 y5 y7 y8 y9 (fun y11 y12 => k0 y11 y12))))))
noncomputable abbrev E64 {R : Type} (n : Nat) (c : Code) : Fr → Kc R → Option R := evC Tryz.prog (env64 n) ann64 n (44, []) c
noncomputable def c64_c5 : Code := subC (bodyOf Tryz.f64) [1, 1, 1, 1]
abbrev t64_c5a : Sl (List SV) := (.c (sP (sFn 65)) (.c (sBx 65 (.c (sP sBool) (.c (sP sSh) (.c (sP sSh) .n)))) (.c (sBx 65 (.c (sP sBool) (.c (sP sSh) (.c (sP sSh) .n)))) .n)))
noncomputable abbrev f64_c5a {R : Type} (n : Nat) (K : Kc R) : t64_c5a.T (Option R) := fun x1 x2 x3 x4 x5 x6 => p64_c5 n x1 x2 x3 x4 x5 x6 (fun y1 y2 => K .ret (lk (outA ann64.cuts 5) [.p (.v (.string y1)), .p (.v (.int .i64 y2))]))
abbrev t64_c5b : Sl (List SV) := (.c (sP (sFn 71)) (.c (sBx 65 (.c (sP sBool) (.c (sP sSh) (.c (sP sSh) .n)))) (.c (sBx 65 (.c (sP sBool) (.c (sP sSh) (.c (sP sSh) .n)))) .n)))
noncomputable abbrev f64_c5b {R : Type} (n : Nat) (K : Kc R) : t64_c5b.T (Option R) := fun x1 x2 x3 x4 x5 x6 => p64_c5v1 n x1 x2 x3 x4 x5 x6 (fun y1 y2 => K .ret (lk (outA ann64.cuts 5) [.p (.v (.string y1)), .p (.v (.int .i64 y2))]))
abbrev t64_c5c : Sl (List SV) := (.c (sP (sFn 67)) (.c (sBx 65 (.c (sP sBool) (.c (sP sSh) (.c (sP sSh) .n)))) (.c (sBx 65 (.c (sP sBool) (.c (sP sSh) (.c (sP sSh) .n)))) .n)))
noncomputable abbrev f64_c5c {R : Type} (n : Nat) (K : Kc R) : t64_c5c.T (Option R) := fun x1 x2 x3 x4 x5 x6 => p64_c5v2 n x1 x2 x3 x4 x5 x6 (fun y1 y2 => K .ret (lk (outA ann64.cuts 5) [.p (.v (.string y1)), .p (.v (.int .i64 y2))]))
abbrev t64_c5d : Sl (List SV) := (.c (sP (sFn 69)) (.c (sBx 65 (.c (sP sBool) (.c (sP sSh) (.c (sP sSh) .n)))) (.c (sBx 65 (.c (sP sBool) (.c (sP sSh) (.c (sP sSh) .n)))) .n)))
noncomputable abbrev f64_c5d {R : Type} (n : Nat) (K : Kc R) : t64_c5d.T (Option R) := fun x1 x2 x3 x4 x5 x6 => p64_c5v3 n x1 x2 x3 x4 x5 x6 (fun y1 y2 => K .ret (lk (outA ann64.cuts 5) [.p (.v (.string y1)), .p (.v (.int .i64 y2))]))
noncomputable abbrev o64_c5 {R : Type} (n : Nat) (vs : List SV) (K : Kc R) : Option R := oget (t64_c5a.ap vs (f64_c5a n K)) (oget (t64_c5b.ap vs (f64_c5b n K)) (oget (t64_c5c.ap vs (f64_c5c n K)) (oget (t64_c5d.ap vs (f64_c5d n K)) (cutE ann64 5 (E64 n c64_c5) vs K))))
noncomputable abbrev lo64 {R : Type} (n : Nat) : Orc R := fun i vs K => none
noncomputable abbrev cu64 {R : Type} (n : Nat) : Orc R := fun i vs K => dcnd (Nat.beq i 5) (o64_c5 n vs K) (none)
section
variable {R : Type}
abbrev K64 (R : Type) (n : Nat) := PartOK (R := R) Tryz.prog (env64 n) ann64 n (44, []) (lo64 n) (cu64 n)
theorem pa64_c5 (n : Nat) : allP (K64 R n) (partsOf ann64 c64_c5) := by
  rw [show partsOf ann64 c64_c5 = [] from by kernel_rfl]; exact trivial
theorem q64_c5 (n : Nat) : K64 R n (true, 5, c64_c5) := part_cut (pa64_c5 n) t64_c5a (f64_c5a n) (fun K x1 x2 x3 x4 x5 x6 => by show cutE _ _ _ _ _ = _; kernel_rfl) (part_cut (pa64_c5 n) t64_c5b (f64_c5b n) (fun K x1 x2 x3 x4 x5 x6 => by show cutE _ _ _ _ _ = _; kernel_rfl) (part_cut (pa64_c5 n) t64_c5c (f64_c5c n) (fun K x1 x2 x3 x4 x5 x6 => by show cutE _ _ _ _ _ = _; kernel_rfl) (part_cut (pa64_c5 n) t64_c5d (f64_c5d n) (fun K x1 x2 x3 x4 x5 x6 => by show cutE _ _ _ _ _ = _; kernel_rfl) fun _ _ => rfl)))
theorem pa64 (n : Nat) : allP (K64 R n) (partsOf ann64 (bodyOf Tryz.f64)) := by
  rw [show partsOf ann64 (bodyOf Tryz.f64) = [(true, 5, c64_c5)] from by kernel_rfl]; exact ⟨q64_c5 n, trivial⟩
end
abbrev t64a : Sl (List SV) := (.c (sP sStr) (.c (sP sStr) (.c (sP (sFn 65)) .n)))
noncomputable abbrev f64a (n : Nat) {R : Type} (K : List SV → Option R) : t64a.T (Option R) := fun x1 x2 => p64 n x1 x2 (fun y1 y2 => K [.p (.v (.string y1)), .p (.v (.int .i64 y2))])
theorem ep64 {R : Type} (n : Nat) (K : List SV → Option R) (x1 x2 : ByteArray) : evFn Tryz.prog (env64 n) ann64 n Tryz.f64 [.p (.v (.string x1)), .p (.v (.string x2)), .p (.v (.func (.func 65) #[] #[]))] K = f64a n K x1 x2 := by
  rw [evFn_evOi (c := bodyOf Tryz.f64) (by kernel_rfl) (pa64 n)]; kernel_rfl
abbrev t64b : Sl (List SV) := (.c (sP sStr) (.c (sP sStr) (.c (sP (sFn 71)) .n)))
noncomputable abbrev f64b (n : Nat) {R : Type} (K : List SV → Option R) : t64b.T (Option R) := fun x1 x2 => p64v1 n x1 x2 (fun y1 y2 => K [.p (.v (.string y1)), .p (.v (.int .i64 y2))])
theorem ep64v1 {R : Type} (n : Nat) (K : List SV → Option R) (x1 x2 : ByteArray) : evFn Tryz.prog (env64 n) ann64 n Tryz.f64 [.p (.v (.string x1)), .p (.v (.string x2)), .p (.v (.func (.func 71) #[] #[]))] K = f64b n K x1 x2 := by
  rw [evFn_evOi (c := bodyOf Tryz.f64) (by kernel_rfl) (pa64 n)]; kernel_rfl
abbrev t64c : Sl (List SV) := (.c (sP sStr) (.c (sP sStr) (.c (sP (sFn 67)) .n)))
noncomputable abbrev f64c (n : Nat) {R : Type} (K : List SV → Option R) : t64c.T (Option R) := fun x1 x2 => p64v2 n x1 x2 (fun y1 y2 => K [.p (.v (.string y1)), .p (.v (.int .i64 y2))])
theorem ep64v2 {R : Type} (n : Nat) (K : List SV → Option R) (x1 x2 : ByteArray) : evFn Tryz.prog (env64 n) ann64 n Tryz.f64 [.p (.v (.string x1)), .p (.v (.string x2)), .p (.v (.func (.func 67) #[] #[]))] K = f64c n K x1 x2 := by
  rw [evFn_evOi (c := bodyOf Tryz.f64) (by kernel_rfl) (pa64 n)]; kernel_rfl
abbrev t64d : Sl (List SV) := (.c (sP sStr) (.c (sP sStr) (.c (sP (sFn 69)) .n)))
noncomputable abbrev f64d (n : Nat) {R : Type} (K : List SV → Option R) : t64d.T (Option R) := fun x1 x2 => p64v3 n x1 x2 (fun y1 y2 => K [.p (.v (.string y1)), .p (.v (.int .i64 y2))])
theorem ep64v3 {R : Type} (n : Nat) (K : List SV → Option R) (x1 x2 : ByteArray) : evFn Tryz.prog (env64 n) ann64 n Tryz.f64 [.p (.v (.string x1)), .p (.v (.string x2)), .p (.v (.func (.func 69) #[] #[]))] K = f64d n K x1 x2 := by
  rw [evFn_evOi (c := bodyOf Tryz.f64) (by kernel_rfl) (pa64 n)]; kernel_rfl
noncomputable abbrev fs64 (n : Nat) : FS := { om := [false, false, false], run := fun args K => oget (t64a.ap args (f64a n K)) (oget (t64b.ap args (f64b n K)) (oget (t64c.ap args (f64c n K)) (oget (t64d.ap args (f64d n K)) none))) }
theorem ok64 (n : Nat) : FSound Tryz.prog GI 64 (fs64 n) :=
  FSound.good (envok64 n) (ann := ann64) (n := n) Tryz.func64
    (.cons (envok64 n) t64a (f64a n) (fun K x1 x2 => ep64 n K x1 x2) (.cons (envok64 n) t64b (f64b n) (fun K x1 x2 => ep64v1 n K x1 x2) (.cons (envok64 n) t64c (f64c n) (fun K x1 x2 => ep64v2 n K x1 x2) (.cons (envok64 n) t64d (f64d n) (fun K x1 x2 => ep64v3 n K x1 x2) .nil))))
    (by kernel_rfl) (by kernel_rfl) (by kernel_rfl)
end Go.Proofs.YtfbahcfojiaeaaaGreatDoor


set_option linter.unusedVariables false
set_option maxRecDepth 100000
namespace Go.Proofs.YtfbahcfojiaeaaaGreatDoor
open Go Th Go.Proofs
def ann27 : Ann := { loops := [], cuts := [], frz := [], rm := [.id, .id] }
noncomputable abbrev env27 (n : Nat) : Env := fun i => bif Nat.beq i 64 then some (fs64 n) else (fun i => bif Nat.beq i 63 then some (fs63 n) else (fun i => bif Nat.beq i 62 then some (fs62 n) else (fun _ => none) i) i) i
theorem envok27 (n : Nat) : EnvOK Tryz.prog GI (env27 n) := EnvOK.cons (EnvOK.cons (EnvOK.cons (EnvOK.nil) (ok62 n)) (ok63 n)) (ok64 n)
noncomputable def p27 {R : Type} (n : Nat) (x1 x2 : ByteArray) (k0 : ByteArray → Int → Option R) : Option R :=
  p62 n x1 x2 (fun y3 y4 y5 => bif y5 then (bif (i64R (IntKind.i64.wrap (y3 + y4))) then (k0 (itoaB (IntKind.i64.wrap (y3 + y4))) 0) else none) else (p64 n x1 x2 (fun y6 y7 => k0 y6 y7)))
noncomputable abbrev lo27 {R : Type} (n : Nat) : Orc R := fun i vs K => none
noncomputable abbrev cu27 {R : Type} (n : Nat) : Orc R := fun i vs K => none
section
variable {R : Type}
abbrev K27 (R : Type) (n : Nat) := PartOK (R := R) Tryz.prog (env27 n) ann27 n (26, []) (lo27 n) (cu27 n)
theorem pa27 (n : Nat) : allP (K27 R n) (partsOf ann27 (bodyOf Tryz.f27)) := by
  rw [show partsOf ann27 (bodyOf Tryz.f27) = [] from by kernel_rfl]; exact trivial
end
abbrev t27 : Sl (List SV) := (.c (sP sStr) (.c (sP sStr) .n))
noncomputable abbrev f27 (n : Nat) {R : Type} (K : List SV → Option R) : t27.T (Option R) := fun x1 x2 => p27 n x1 x2 (fun y1 y2 => K [.p (.v (.string y1)), .p (.v (.int .i64 y2))])
theorem ep27 {R : Type} (n : Nat) (K : List SV → Option R) (x1 x2 : ByteArray) : evFn Tryz.prog (env27 n) ann27 n Tryz.f27 [.p (.v (.string x1)), .p (.v (.string x2))] K = f27 n K x1 x2 := by
  rw [evFn_evOi (c := bodyOf Tryz.f27) (by kernel_rfl) (pa27 n)]; kernel_rfl
noncomputable abbrev fs27 (n : Nat) : FS := { om := [false, false], run := fun args K => oget (t27.ap args (f27 n K)) none }
theorem ok27 (n : Nat) : FSound Tryz.prog GI 27 (fs27 n) :=
  FSound.good (envok27 n) (ann := ann27) (n := n) Tryz.func27
    (.cons (envok27 n) t27 (f27 n) (fun K x1 x2 => ep27 n K x1 x2) .nil)
    (by kernel_rfl) (by kernel_rfl) (by kernel_rfl)
end Go.Proofs.YtfbahcfojiaeaaaGreatDoor


set_option linter.unusedVariables false
set_option maxRecDepth 100000
namespace Go.Proofs.YtfbahcfojiaeaaaGreatDoor
open Go Th Go.Proofs
def ann30 : Ann := { loops := [], cuts := [], frz := [], rm := [.id, .id] }
noncomputable abbrev env30 (n : Nat) : Env := fun i => bif Nat.beq i 64 then some (fs64 n) else (fun _ => none) i
theorem envok30 (n : Nat) : EnvOK Tryz.prog GI (env30 n) := EnvOK.cons (EnvOK.nil) (ok64 n)
noncomputable def p30 {R : Type} (n : Nat) (x1 x2 : ByteArray) (k0 : ByteArray → Int → Option R) : Option R :=
  p64v1 n x1 x2 (fun y3 y4 => k0 y3 y4)
noncomputable abbrev lo30 {R : Type} (n : Nat) : Orc R := fun i vs K => none
noncomputable abbrev cu30 {R : Type} (n : Nat) : Orc R := fun i vs K => none
section
variable {R : Type}
abbrev K30 (R : Type) (n : Nat) := PartOK (R := R) Tryz.prog (env30 n) ann30 n (11, []) (lo30 n) (cu30 n)
theorem pa30 (n : Nat) : allP (K30 R n) (partsOf ann30 (bodyOf Tryz.f30)) := by
  rw [show partsOf ann30 (bodyOf Tryz.f30) = [] from by kernel_rfl]; exact trivial
end
abbrev t30 : Sl (List SV) := (.c (sP sStr) (.c (sP sStr) .n))
noncomputable abbrev f30 (n : Nat) {R : Type} (K : List SV → Option R) : t30.T (Option R) := fun x1 x2 => p30 n x1 x2 (fun y1 y2 => K [.p (.v (.string y1)), .p (.v (.int .i64 y2))])
theorem ep30 {R : Type} (n : Nat) (K : List SV → Option R) (x1 x2 : ByteArray) : evFn Tryz.prog (env30 n) ann30 n Tryz.f30 [.p (.v (.string x1)), .p (.v (.string x2))] K = f30 n K x1 x2 := by
  rw [evFn_evOi (c := bodyOf Tryz.f30) (by kernel_rfl) (pa30 n)]; kernel_rfl
noncomputable abbrev fs30 (n : Nat) : FS := { om := [false, false], run := fun args K => oget (t30.ap args (f30 n K)) none }
theorem ok30 (n : Nat) : FSound Tryz.prog GI 30 (fs30 n) :=
  FSound.good (envok30 n) (ann := ann30) (n := n) Tryz.func30
    (.cons (envok30 n) t30 (f30 n) (fun K x1 x2 => ep30 n K x1 x2) .nil)
    (by kernel_rfl) (by kernel_rfl) (by kernel_rfl)
end Go.Proofs.YtfbahcfojiaeaaaGreatDoor


set_option linter.unusedVariables false
set_option maxRecDepth 100000
namespace Go.Proofs.YtfbahcfojiaeaaaGreatDoor
open Go Th Go.Proofs
def ann72 : Ann := { loops := [], cuts := [], frz := [], rm := [.id] }
noncomputable abbrev env72 (n : Nat) : Env := fun _ => none
theorem envok72 (n : Nat) : EnvOK Tryz.prog GI (env72 n) := EnvOK.nil
noncomputable def p72 {R : Type} (n : Nat) (x1 x2 : Int) (k0 : Int → Option R) : Option R :=
  bif (decide (x1 < x2)) then (k0 (-1)) else (bif (decide (x1 > x2)) then (k0 1) else (k0 0))
noncomputable abbrev lo72 {R : Type} (n : Nat) : Orc R := fun i vs K => none
noncomputable abbrev cu72 {R : Type} (n : Nat) : Orc R := fun i vs K => none
section
variable {R : Type}
abbrev K72 (R : Type) (n : Nat) := PartOK (R := R) Tryz.prog (env72 n) ann72 n (13, []) (lo72 n) (cu72 n)
theorem pa72 (n : Nat) : allP (K72 R n) (partsOf ann72 (bodyOf Tryz.f72)) := by
  rw [show partsOf ann72 (bodyOf Tryz.f72) = [] from by kernel_rfl]; exact trivial
end
abbrev t72 : Sl (List SV) := (.c (sP (sInt .i64)) (.c (sP (sInt .i64)) .n))
noncomputable abbrev f72 (n : Nat) {R : Type} (K : List SV → Option R) : t72.T (Option R) := fun x1 x2 => p72 n x1 x2 (fun y1 => K [.p (.v (.int .i64 y1))])
theorem ep72 {R : Type} (n : Nat) (K : List SV → Option R) (x1 x2 : Int) : evFn Tryz.prog (env72 n) ann72 n Tryz.f72 [.p (.v (.int .i64 x1)), .p (.v (.int .i64 x2))] K = f72 n K x1 x2 := by
  rw [evFn_evOi (c := bodyOf Tryz.f72) (by kernel_rfl) (pa72 n)]; kernel_rfl
noncomputable abbrev fs72 (n : Nat) : FS := { om := [false, false], run := fun args K => oget (t72.ap args (f72 n K)) none }
theorem ok72 (n : Nat) : FSound Tryz.prog GI 72 (fs72 n) :=
  FSound.good (envok72 n) (ann := ann72) (n := n) Tryz.func72
    (.cons (envok72 n) t72 (f72 n) (fun K x1 x2 => ep72 n K x1 x2) .nil)
    (by kernel_rfl) (by kernel_rfl) (by kernel_rfl)
end Go.Proofs.YtfbahcfojiaeaaaGreatDoor


set_option linter.unusedVariables false
set_option maxRecDepth 100000
namespace Go.Proofs.YtfbahcfojiaeaaaGreatDoor
open Go Th Go.Proofs
def ann36 : Ann := { loops := [], cuts := [(8, [(8, .id), (10, .id)], [(4, .id)]), (12, [(8, .id), (10, .id)], [(4, .id)])], frz := [], rm := [.id] }
noncomputable abbrev env36 (n : Nat) : Env := fun i => bif Nat.beq i 73 then some (fs73 n) else (fun i => bif Nat.beq i 72 then some (fs72 n) else (fun i => bif Nat.beq i 70 then some (fs70 n) else (fun i => bif Nat.beq i 62 then some (fs62 n) else (fun i => bif Nat.beq i 57 then some (fs57 n) else (fun _ => none) i) i) i) i) i
theorem envok36 (n : Nat) : EnvOK Tryz.prog GI (env36 n) := EnvOK.cons (EnvOK.cons (EnvOK.cons (EnvOK.cons (EnvOK.cons (EnvOK.nil) (ok57 n)) (ok62 n)) (ok70 n)) (ok72 n)) (ok73 n)
noncomputable def p36_c12 {R : Type} (n : Nat) (x1 : Bool) (x2 x3 : List PV) (x4 : Bool) (x5 x6 : List PV) (k0 : Int → Option R) : Option R :=
  p70 n x2 x6 (fun y7 => p70 n x5 x3 (fun y8 => p73 n y7 y8 (fun y9 => bif x1 then (k0 (IntKind.i64.wrap (0 - y9))) else (k0 y9))))
noncomputable def p36_c8 {R : Type} (n : Nat) (x1 : Bool) (x2 x3 : List PV) (x4 : Bool) (x5 x6 : List PV) (k0 : Int → Option R) : Option R :=
  bif x1 then (bif true then (bif true then (bif (bif true then (!x4) else false) then (k0 (-1)) else (bif x4 then (bif true then (bif true then (bif (bif true then (!x1) else false) then (k0 1) else (p36_c12 n x1 x2 x3 x4 x5 x6 (fun y7 => k0 y7))) else none) else none) else (bif false then none else (bif false then none else (bif false then none else (bif false then none else (p36_c12 n x1 x2 x3 x4 x5 x6 (fun y8 => k0 y8)))))))) else none) else none) else (bif false then none else (bif false then none else (bif false then none else (bif false then none else (bif x4 then (bif true then (bif true then (bif (bif true then (!x1) else false) then (k0 1) else (p36_c12 n x1 x2 x3 x4 x5 x6 (fun y9 => k0 y9))) else none) else none) else (bif false then none else (bif false then none else (bif false then none else (bif false then none else (p36_c12 n x1 x2 x3 x4 x5 x6 (fun y10 => k0 y10)))))))))))
noncomputable def p36 {R : Type} (n : Nat) (x1 x2 : ByteArray) (k0 : Int → Option R) : Option R :=
  p62 n x1 x2 (fun y3 y4 y5 => bif y5 then (p72 n y3 y4 (fun y6 => k0 y6)) else (p57 n x1 (fun y7 y8 y9 y10 => p57 n x2 (fun y11 y12 y13 y14 => bif (!y10) then (bif true then (bif true then (bif true then (k0 0) else none) else none) else none) else (bif false then none else (bif (bif false then true else (!y14)) then (k0 0) else (p36_c8 n y7 y8 y9 y11 y12 y13 (fun y15 => k0 y15))))))))
noncomputable abbrev E36 {R : Type} (n : Nat) (c : Code) : Fr → Kc R → Option R := evC Tryz.prog (env36 n) ann36 n (72, []) c
noncomputable def c36_c8 : Code := subC (bodyOf Tryz.f36) [1, 1, 1, 1, 1]
abbrev t36_c8 : Sl (List SV) := (.c (sBx 65 (.c (sP sBool) (.c (sP sSh) (.c (sP sSh) .n)))) (.c (sBx 65 (.c (sP sBool) (.c (sP sSh) (.c (sP sSh) .n)))) .n))
noncomputable abbrev f36_c8 {R : Type} (n : Nat) (K : Kc R) : t36_c8.T (Option R) := fun x1 x2 x3 x4 x5 x6 => p36_c8 n x1 x2 x3 x4 x5 x6 (fun y1 => K .ret (lk (outA ann36.cuts 8) [.p (.v (.int .i64 y1))]))
noncomputable abbrev o36_c8 {R : Type} (n : Nat) (vs : List SV) (K : Kc R) : Option R := oget (t36_c8.ap vs (f36_c8 n K)) (cutE ann36 8 (E36 n c36_c8) vs K)
noncomputable def c36_c12 : Code := subC (bodyOf Tryz.f36) [1, 1, 1, 1, 1, 1]
abbrev t36_c12 : Sl (List SV) := (.c (sBx 65 (.c (sP sBool) (.c (sP sSh) (.c (sP sSh) .n)))) (.c (sBx 65 (.c (sP sBool) (.c (sP sSh) (.c (sP sSh) .n)))) .n))
noncomputable abbrev f36_c12 {R : Type} (n : Nat) (K : Kc R) : t36_c12.T (Option R) := fun x1 x2 x3 x4 x5 x6 => p36_c12 n x1 x2 x3 x4 x5 x6 (fun y1 => K .ret (lk (outA ann36.cuts 12) [.p (.v (.int .i64 y1))]))
noncomputable abbrev o36_c12 {R : Type} (n : Nat) (vs : List SV) (K : Kc R) : Option R := oget (t36_c12.ap vs (f36_c12 n K)) (cutE ann36 12 (E36 n c36_c12) vs K)
noncomputable abbrev lo36 {R : Type} (n : Nat) : Orc R := fun i vs K => none
noncomputable abbrev cu36 {R : Type} (n : Nat) : Orc R := fun i vs K => dcnd (Nat.beq i 12) (o36_c12 n vs K) (dcnd (Nat.beq i 8) (o36_c8 n vs K) (none))
section
variable {R : Type}
abbrev K36 (R : Type) (n : Nat) := PartOK (R := R) Tryz.prog (env36 n) ann36 n (72, []) (lo36 n) (cu36 n)
theorem pa36_c12 (n : Nat) : allP (K36 R n) (partsOf ann36 c36_c12) := by
  rw [show partsOf ann36 c36_c12 = [] from by kernel_rfl]; exact trivial
theorem q36_c12 (n : Nat) : K36 R n (true, 12, c36_c12) := part_cut (pa36_c12 n) t36_c12 (f36_c12 n) (fun K x1 x2 x3 x4 x5 x6 => by show cutE _ _ _ _ _ = _; kernel_rfl) fun _ _ => rfl
theorem pa36_c8 (n : Nat) : allP (K36 R n) (partsOf ann36 c36_c8) := by
  rw [show partsOf ann36 c36_c8 = [(true, 12, c36_c12)] from by kernel_rfl]; exact ⟨q36_c12 n, trivial⟩
theorem q36_c8 (n : Nat) : K36 R n (true, 8, c36_c8) := part_cut (pa36_c8 n) t36_c8 (f36_c8 n) (fun K x1 x2 x3 x4 x5 x6 => by show cutE _ _ _ _ _ = _; kernel_rfl) fun _ _ => rfl
theorem pa36 (n : Nat) : allP (K36 R n) (partsOf ann36 (bodyOf Tryz.f36)) := by
  rw [show partsOf ann36 (bodyOf Tryz.f36) = [(true, 8, c36_c8)] from by kernel_rfl]; exact ⟨q36_c8 n, trivial⟩
end
abbrev t36 : Sl (List SV) := (.c (sP sStr) (.c (sP sStr) .n))
noncomputable abbrev f36 (n : Nat) {R : Type} (K : List SV → Option R) : t36.T (Option R) := fun x1 x2 => p36 n x1 x2 (fun y1 => K [.p (.v (.int .i64 y1))])
theorem ep36 {R : Type} (n : Nat) (K : List SV → Option R) (x1 x2 : ByteArray) : evFn Tryz.prog (env36 n) ann36 n Tryz.f36 [.p (.v (.string x1)), .p (.v (.string x2))] K = f36 n K x1 x2 := by
  rw [evFn_evOi (c := bodyOf Tryz.f36) (by kernel_rfl) (pa36 n)]; kernel_rfl
noncomputable abbrev fs36 (n : Nat) : FS := { om := [false, false], run := fun args K => oget (t36.ap args (f36 n K)) none }
theorem ok36 (n : Nat) : FSound Tryz.prog GI 36 (fs36 n) :=
  FSound.good (envok36 n) (ann := ann36) (n := n) Tryz.func36
    (.cons (envok36 n) t36 (f36 n) (fun K x1 x2 => ep36 n K x1 x2) .nil)
    (by kernel_rfl) (by kernel_rfl) (by kernel_rfl)
end Go.Proofs.YtfbahcfojiaeaaaGreatDoor


set_option linter.unusedVariables false
set_option maxRecDepth 100000
namespace Go.Proofs.YtfbahcfojiaeaaaGreatDoor
open Go Th Go.Proofs
def ann74 : Ann := { loops := [], cuts := [(4, [(1, .id), (2, .id), (3, .id)], [(2, .id)])], frz := [], rm := [.id] }
noncomputable abbrev env74 (n : Nat) : Env := fun i => bif Nat.beq i 88 then some (fs88 n) else (fun i => bif Nat.beq i 80 then some (fs80 n) else (fun _ => none) i) i
theorem envok74 (n : Nat) : EnvOK Tryz.prog GI (env74 n) := EnvOK.cons (EnvOK.cons (EnvOK.nil) (ok80 n)) (ok88 n)
noncomputable def p74_c4 {R : Type} (n : Nat) (x1 : Bool) (x2 x3 : List PV) (x4 : Bool) (x5 : List PV) (k0 : Bool → List PV → List PV → Option R) : Option R :=
  bif x1 then (bif true then (bif true then (k0 (bif true then (decide (((x5).length : Int) > 0)) else false) x5 ([.v (.int .u32 1)] : List PV)) else none) else none) else (bif false then none else (bif false then none else (bif false then none else (k0 false x5 ([.v (.int .u32 1)] : List PV)))))
noncomputable def p74 {R : Type} (n : Nat) (x1 : Bool) (x2 x3 : List PV) (k0 : Bool → List PV → List PV → Option R) : Option R :=
  p80 n x2 x3 (fun y4 y5 => bif x1 then (bif true then (bif true then (bif (bif true then (decide (((y5).length : Int) > 0)) else false) then (p88 n y4 ([.v (.int .u32 1)] : List PV) (fun y6 => p74_c4 n x1 x2 x3 false y6 (fun y7 y8 y9 => k0 y7 y8 y9))) else (p74_c4 n x1 x2 x3 false y4 (fun y10 y11 y12 => k0 y10 y11 y12))) else none) else none) else (bif false then none else (bif false then none else (bif false then none else (bif false then none else (p74_c4 n x1 x2 x3 false y4 (fun y13 y14 y15 => k0 y13 y14 y15)))))))
noncomputable abbrev E74 {R : Type} (n : Nat) (c : Code) : Fr → Kc R → Option R := evC Tryz.prog (env74 n) ann74 n (33, []) c
noncomputable def c74_c4 : Code := subC (bodyOf Tryz.f74) [1, 1, 1]
abbrev t74_c4 : Sl (List SV) := (.c (sBx 65 (.c (sP sBool) (.c (sP sSh) (.c (sP sSh) .n)))) (.c (sBx 65 (.c (sP sBool) (.c sNl (.c sNl .n)))) (.c (sP sSh) .n)))
noncomputable abbrev f74_c4 {R : Type} (n : Nat) (K : Kc R) : t74_c4.T (Option R) := fun x1 x2 x3 x4 x5 => p74_c4 n x1 x2 x3 x4 x5 (fun y1 y2 y3 => K .ret (lk (outA ann74.cuts 4) [.bx 65 [.p (.v (.bool y1)), .p (.sh y2), .p (.sh y3)]]))
noncomputable abbrev o74_c4 {R : Type} (n : Nat) (vs : List SV) (K : Kc R) : Option R := oget (t74_c4.ap vs (f74_c4 n K)) (cutE ann74 4 (E74 n c74_c4) vs K)
noncomputable abbrev lo74 {R : Type} (n : Nat) : Orc R := fun i vs K => none
noncomputable abbrev cu74 {R : Type} (n : Nat) : Orc R := fun i vs K => dcnd (Nat.beq i 4) (o74_c4 n vs K) (none)
section
variable {R : Type}
abbrev K74 (R : Type) (n : Nat) := PartOK (R := R) Tryz.prog (env74 n) ann74 n (33, []) (lo74 n) (cu74 n)
theorem pa74_c4 (n : Nat) : allP (K74 R n) (partsOf ann74 c74_c4) := by
  rw [show partsOf ann74 c74_c4 = [] from by kernel_rfl]; exact trivial
theorem q74_c4 (n : Nat) : K74 R n (true, 4, c74_c4) := part_cut (pa74_c4 n) t74_c4 (f74_c4 n) (fun K x1 x2 x3 x4 x5 => by show cutE _ _ _ _ _ = _; kernel_rfl) fun _ _ => rfl
theorem pa74 (n : Nat) : allP (K74 R n) (partsOf ann74 (bodyOf Tryz.f74)) := by
  rw [show partsOf ann74 (bodyOf Tryz.f74) = [(true, 4, c74_c4)] from by kernel_rfl]; exact ⟨q74_c4 n, trivial⟩
end
abbrev t74 : Sl (List SV) := (.c (sP (sAgg (.c sBool (.c sSh (.c sSh .n))))) .n)
noncomputable abbrev f74 (n : Nat) {R : Type} (K : List SV → Option R) : t74.T (Option R) := fun x1 x2 x3 => p74 n x1 x2 x3 (fun y1 y2 y3 => K [.p (.agg [.v (.bool y1), .sh y2, .sh y3])])
theorem ep74 {R : Type} (n : Nat) (K : List SV → Option R) (x1 : Bool) (x2 x3 : List PV) : evFn Tryz.prog (env74 n) ann74 n Tryz.f74 [.p (.agg [.v (.bool x1), .sh x2, .sh x3])] K = f74 n K x1 x2 x3 := by
  rw [evFn_evOi (c := bodyOf Tryz.f74) (by kernel_rfl) (pa74 n)]; kernel_rfl
noncomputable abbrev fs74 (n : Nat) : FS := { om := [false], run := fun args K => oget (t74.ap args (f74 n K)) none }
theorem ok74 (n : Nat) : FSound Tryz.prog GI 74 (fs74 n) :=
  FSound.good (envok74 n) (ann := ann74) (n := n) Tryz.func74
    (.cons (envok74 n) t74 (f74 n) (fun K x1 x2 x3 => ep74 n K x1 x2 x3) .nil)
    (by kernel_rfl) (by kernel_rfl) (by kernel_rfl)
end Go.Proofs.YtfbahcfojiaeaaaGreatDoor


set_option linter.unusedVariables false
set_option maxRecDepth 100000
namespace Go.Proofs.YtfbahcfojiaeaaaGreatDoor
open Go Th Go.Proofs
def ann38 : Ann := { loops := [], cuts := [], frz := [], rm := [.id, .id] }
noncomputable abbrev env38 (n : Nat) : Env := fun i => bif Nat.beq i 74 then some (fs74 n) else (fun i => bif Nat.beq i 57 then some (fs57 n) else (fun i => bif Nat.beq i 46 then some (fs46 n) else (fun _ => none) i) i) i
theorem envok38 (n : Nat) : EnvOK Tryz.prog GI (env38 n) := EnvOK.cons (EnvOK.cons (EnvOK.cons (EnvOK.nil) (ok46 n)) (ok57 n)) (ok74 n)
noncomputable def p38 {R : Type} (n : Nat) (x1 : ByteArray) (k0 : ByteArray → Int → Option R) : Option R :=
  p57 n x1 (fun y2 y3 y4 y5 => bif (!y5) then (k0 ⟨#[]⟩ 3) else (p74 n y2 y3 y4 (fun y6 y7 y8 => p46 n y6 y7 y8 (fun y9 y10 => k0 y9 y10))))
noncomputable abbrev lo38 {R : Type} (n : Nat) : Orc R := fun i vs K => none
noncomputable abbrev cu38 {R : Type} (n : Nat) : Orc R := fun i vs K => none
section
variable {R : Type}
abbrev K38 (R : Type) (n : Nat) := PartOK (R := R) Tryz.prog (env38 n) ann38 n (18, []) (lo38 n) (cu38 n)
theorem pa38 (n : Nat) : allP (K38 R n) (partsOf ann38 (bodyOf Tryz.f38)) := by
  rw [show partsOf ann38 (bodyOf Tryz.f38) = [] from by kernel_rfl]; exact trivial
end
abbrev t38 : Sl (List SV) := (.c (sP sStr) .n)
noncomputable abbrev f38 (n : Nat) {R : Type} (K : List SV → Option R) : t38.T (Option R) := fun x1 => p38 n x1 (fun y1 y2 => K [.p (.v (.string y1)), .p (.v (.int .i64 y2))])
theorem ep38 {R : Type} (n : Nat) (K : List SV → Option R) (x1 : ByteArray) : evFn Tryz.prog (env38 n) ann38 n Tryz.f38 [.p (.v (.string x1))] K = f38 n K x1 := by
  rw [evFn_evOi (c := bodyOf Tryz.f38) (by kernel_rfl) (pa38 n)]; kernel_rfl
noncomputable abbrev fs38 (n : Nat) : FS := { om := [false], run := fun args K => oget (t38.ap args (f38 n K)) none }
theorem ok38 (n : Nat) : FSound Tryz.prog GI 38 (fs38 n) :=
  FSound.good (envok38 n) (ann := ann38) (n := n) Tryz.func38
    (.cons (envok38 n) t38 (f38 n) (fun K x1 => ep38 n K x1) .nil)
    (by kernel_rfl) (by kernel_rfl) (by kernel_rfl)
end Go.Proofs.YtfbahcfojiaeaaaGreatDoor


set_option linter.unusedVariables false
set_option maxRecDepth 100000
namespace Go.Proofs.YtfbahcfojiaeaaaGreatDoor
open Go Th Go.Proofs
def ann11 : Ann := { loops := [], cuts := [], frz := [], rm := [.id] }
noncomputable abbrev env11 (n : Nat) : Env := fun i => bif Nat.beq i 38 then some (fs38 n) else (fun i => bif Nat.beq i 36 then some (fs36 n) else (fun i => bif Nat.beq i 30 then some (fs30 n) else (fun i => bif Nat.beq i 27 then some (fs27 n) else (fun i => bif Nat.beq i 19 then some (fs19 n) else (fun i => bif Nat.beq i 12 then some (fs12 n) else (fun _ => none) i) i) i) i) i) i
theorem envok11 (n : Nat) : EnvOK Tryz.prog GI (env11 n) := EnvOK.cons (EnvOK.cons (EnvOK.cons (EnvOK.cons (EnvOK.cons (EnvOK.cons (EnvOK.nil) (ok12 n)) (ok19 n)) (ok27 n)) (ok30 n)) (ok36 n)) (ok38 n)
noncomputable def p11 {R : Type} (n : Nat)  (k0 : Bool → Option R) : Option R :=
  p12 n ⟨#[54]⟩ ⟨#[45, 52]⟩ (fun y1 y2 => p27 n ⟨#[49, 47, 50]⟩ ⟨#[49, 47, 51]⟩ (fun y3 y4 => p38 n ⟨#[45, 49, 47, 50]⟩ (fun y5 y6 => p30 n ⟨#[49]⟩ ⟨#[48]⟩ (fun y7 y8 => bif (y2 == 0) then (bif true then (bif (bif true then eqS y1 (⟨#[45, 51, 47, 50]⟩ : ByteArray) else false) then (bif true then (bif (bif true then (y4 == 0) else false) then (bif true then (bif (bif true then eqS y3 (⟨#[53, 47, 54]⟩ : ByteArray) else false) then (bif true then (bif (bif true then (y6 == 0) else false) then (bif true then (bif (bif true then eqS y5 (⟨#[45, 49]⟩ : ByteArray) else false) then (bif true then (bif (bif true then (y8 == 24) else false) then (p36 n ⟨#[49, 47, 51]⟩ ⟨#[49, 47, 50]⟩ (fun y9 => bif true then (bif (bif true then (y9 == (-1)) else false) then (p19 n ⟨#[52, 47, 50]⟩ (fun y10 => bif true then (k0 (bif true then (!y10) else false)) else none)) else (bif false then none else (bif false then none else (k0 false)))) else none)) else (bif false then none else (bif false then none else (bif false then none else (bif false then none else (bif false then none else (k0 false))))))) else none) else (bif false then none else (bif false then none else (bif false then none else (bif false then none else (bif false then none else (bif false then none else (bif false then none else (bif false then none else (k0 false)))))))))) else none) else (bif false then none else (bif false then none else (bif false then none else (bif false then none else (bif false then none else (bif false then none else (bif false then none else (bif false then none else (bif false then none else (bif false then none else (bif false then none else (k0 false))))))))))))) else none) else (bif false then none else (bif false then none else (bif false then none else (bif false then none else (bif false then none else (bif false then none else (bif false then none else (bif false then none else (bif false then none else (bif false then none else (bif false then none else (bif false then none else (bif false then none else (bif false then none else (k0 false)))))))))))))))) else none) else (bif false then none else (bif false then none else (bif false then none else (bif false then none else (bif false then none else (bif false then none else (bif false then none else (bif false then none else (bif false then none else (bif false then none else (bif false then none else (bif false then none else (bif false then none else (bif false then none else (bif false then none else (bif false then none else (bif false then none else (k0 false))))))))))))))))))) else none) else (bif false then none else (bif false then none else (bif false then none else (bif false then none else (bif false then none else (bif false then none else (bif false then none else (bif false then none else (bif false then none else (bif false then none else (bif false then none else (bif false then none else (bif false then none else (bif false then none else (bif false then none else (bif false then none else (bif false then none else (bif false then none else (bif false then none else (bif false then none else (k0 false)))))))))))))))))))))) else none) else (bif false then none else (bif false then none else (bif false then none else (bif false then none else (bif false then none else (bif false then none else (bif false then none else (bif false then none else (bif false then none else (bif false then none else (bif false then none else (bif false then none else (bif false then none else (bif false then none else (bif false then none else (bif false then none else (bif false then none else (bif false then none else (bif false then none else (bif false then none else (bif false then none else (bif false then none else (bif false then none else (k0 false))))))))))))))))))))))))))))
noncomputable abbrev lo11 {R : Type} (n : Nat) : Orc R := fun i vs K => none
noncomputable abbrev cu11 {R : Type} (n : Nat) : Orc R := fun i vs K => none
section
variable {R : Type}
abbrev K11 (R : Type) (n : Nat) := PartOK (R := R) Tryz.prog (env11 n) ann11 n (59, []) (lo11 n) (cu11 n)
theorem pa11 (n : Nat) : allP (K11 R n) (partsOf ann11 (bodyOf Tryz.f11)) := by
  rw [show partsOf ann11 (bodyOf Tryz.f11) = [] from by kernel_rfl]; exact trivial
end
abbrev t11 : Sl (List SV) := .n
noncomputable abbrev f11 (n : Nat) {R : Type} (K : List SV → Option R) : t11.T (Option R) := p11 n  (fun y1 => K [.p (.v (.bool y1))])
theorem ep11 {R : Type} (n : Nat) (K : List SV → Option R)  : evFn Tryz.prog (env11 n) ann11 n Tryz.f11 [] K = f11 n K  := by
  rw [evFn_evOi (c := bodyOf Tryz.f11) (by kernel_rfl) (pa11 n)]; kernel_rfl
noncomputable abbrev fs11 (n : Nat) : FS := { om := [], run := fun args K => oget (t11.ap args (f11 n K)) none }
theorem ok11 (n : Nat) : FSound Tryz.prog GI 11 (fs11 n) :=
  FSound.good (envok11 n) (ann := ann11) (n := n) Tryz.func11
    (.cons (envok11 n) t11 (f11 n) (fun K  => ep11 n K ) .nil)
    (by kernel_rfl) (by kernel_rfl) (by kernel_rfl)
end Go.Proofs.YtfbahcfojiaeaaaGreatDoor


namespace Go.Proofs.YtfbahcfojiaeaaaGreatDoor
open Go Th Go.Proofs
theorem p11_eq {R : Type} (m : Nat) (k0 : Bool → Option R) : p11 (m + 40) k0 = k0 true := by kernel_rfl
theorem p11_run {R : Type} (n : Nat) (h : 40 ≤ n) (k0 : Bool → Option R) : p11 n k0 = k0 true := by
  rw [show n = (n - 40) + 40 from by omega]; exact p11_eq _ k0
end Go.Proofs.YtfbahcfojiaeaaaGreatDoor


set_option linter.unusedVariables false
set_option linter.unusedSimpArgs false
namespace Go.Proofs.YtfbahcfojiaeaaaGreatDoor
open Go Th Go.Proofs
variable {R : Type}
theorem condT {α : Type} (a b : α) : (bif true then a else b) = a := (Eq.refl _).trans (Eq.refl _)
theorem condF {α : Type} (a b : α) : (bif false then a else b) = b := (Eq.refl _).trans (Eq.refl _)
theorem notT : (!true) = false := (Eq.refl _).trans (Eq.refl _)
theorem notF : (!false) = true := (Eq.refl _).trans (Eq.refl _)
def digs1 (t : List UInt8) : Bool := !t.isEmpty && decide (t.length ≤ 400) && !(t.head? == some 48) && t.all isD
theorem digs1_eq (t : List UInt8) : (digs t && !(t == [48])) = digs1 t := by
  unfold digs digs1
  match t with
  | [] => rfl
  | [c] =>
    by_cases h : c = 48
    · subst h; rfl
    · have e1 : ([c] == [48]) = false := by simpa using h
      have e2 : (([c] : List UInt8).head? == some 48) = false := by simpa using h
      rw [e1, e2]; simp
  | c :: d :: r =>
    have e1 : ((c :: d :: r) == [48]) = false := by simp
    rw [e1]
    by_cases h : c = 48
    · subst h; simp
    · have e2 : ((c :: d :: r : List UInt8).head? == some 48) = false := by simpa using h
      rw [e2]; simp
theorem valid_loop (n : Nat) (t : List UInt8) (h40 : t.length < 2 ^ 40) (k0 : Bool → Option R) (k1 : Option R) : ∀ (d m i : Nat), d + i = t.length → d < m → p13_l8L n m (bs t) i k0 k1 = if (t.drop i).all isD then k1 else k0 false
  | 0, m + 1, i, hd, hm => by
    rw [List.drop_eq_nil_of_le (by omega), List.all_nil, if_pos rfl]
    simp only [p13_l8L, p13_l8B]
    simp (disch := (first | omega | (simp only [List.length_append, List.length_cons, List.length_nil, List.length_replicate, List.length_take, List.length_drop]; omega))) only [↓c_pos, ↓c_neg, dec_t, dec_f, Bool.and_true, Bool.true_and, Bool.and_false, Bool.false_and, Bool.not_true, Bool.not_false, cond_true, cond_false, inR_t, cutR_t, roomB_t, lenOK_t, w64, bs_size, List.length_append, List.length_cons, List.length_nil, bs_extract, bs_append, bs_push, bs_data, bs_empty, bs_lit, catS_bs, eqS_bs, ite_pos', ite_neg', decide_true, decide_false, if_true, if_false]
  | d + 1, m + 1, i, hd, hm => by
    have hi : i < t.length := by omega
    have hdr : t.drop i = t[i] :: t.drop (i + 1) := List.drop_eq_getElem_cons hi
    have ih := valid_loop n t h40 k0 k1 d m (i + 1) (by omega) (by omega)
    have e1 : (i : Int) + 1 = ((i + 1 : Nat) : Int) := by omega
    have e2 : byteAt (bs t) (i : Int) = (t[i].toNat : Int) := byteAt_nat hi
    rw [hdr, List.all_cons]
    simp only [p13_l8L, p13_l8B]
    by_cases h : isD t[i] = true
    · have hc := isD_iff.1 h
      rw [h, Bool.true_and, ← ih]
      simp (disch := (first | omega | (simp only [List.length_append, List.length_cons, List.length_nil, List.length_replicate, List.length_take, List.length_drop]; omega))) only [↓c_pos, ↓c_neg, dec_t, dec_f, Bool.and_true, Bool.true_and, Bool.and_false, Bool.false_and, Bool.not_true, Bool.not_false, cond_true, cond_false, inR_t, cutR_t, roomB_t, lenOK_t, w64, bs_size, List.length_append, List.length_cons, List.length_nil, bs_extract, bs_append, bs_push, bs_data, bs_empty, bs_lit, catS_bs, eqS_bs, ite_pos', ite_neg', decide_true, decide_false, if_true, if_false, e1, e2]
    · have hc : ¬ (48 ≤ t[i].toNat ∧ t[i].toNat ≤ 57) := fun q => h (isD_iff.2 q)
      have hf : isD t[i] = false := by simpa using h
      rw [hf, Bool.false_and, if_neg (by simp)]
      by_cases h1 : t[i].toNat < 48
      · simp (disch := (first | omega | (simp only [List.length_append, List.length_cons, List.length_nil, List.length_replicate, List.length_take, List.length_drop]; omega))) only [↓c_pos, ↓c_neg, dec_t, dec_f, Bool.and_true, Bool.true_and, Bool.and_false, Bool.false_and, Bool.not_true, Bool.not_false, cond_true, cond_false, inR_t, cutR_t, roomB_t, lenOK_t, w64, bs_size, List.length_append, List.length_cons, List.length_nil, bs_extract, bs_append, bs_push, bs_data, bs_empty, bs_lit, catS_bs, eqS_bs, ite_pos', ite_neg', decide_true, decide_false, if_true, if_false, e1, e2]
      · simp (disch := (first | omega | (simp only [List.length_append, List.length_cons, List.length_nil, List.length_replicate, List.length_take, List.length_drop]; omega))) only [↓c_pos, ↓c_neg, dec_t, dec_f, Bool.and_true, Bool.true_and, Bool.and_false, Bool.false_and, Bool.not_true, Bool.not_false, cond_true, cond_false, inR_t, cutR_t, roomB_t, lenOK_t, w64, bs_size, List.length_append, List.length_cons, List.length_nil, bs_extract, bs_append, bs_push, bs_data, bs_empty, bs_lit, catS_bs, eqS_bs, ite_pos', ite_neg', decide_true, decide_false, if_true, if_false, e1, e2]
theorem validC_eq (n : Nat) (t : List UInt8) (ht : t.length < 2 ^ 40) (hn : t.length < n) (k0 : Bool → Option R) : p13_c5 n (bs t) k0 = k0 (digs1 t) := by
  cases t with
  | nil => rfl
  | cons c r =>
    rw [List.length_cons] at ht hn
    unfold p13_c5
    by_cases h4 : 400 < r.length + 1
    · have e1 : digs1 (c :: r) = false := by
        unfold digs1
        rw [List.length_cons, decide_eq_false (by omega)]; simp
      simp (disch := (first | omega | (simp only [List.length_append, List.length_cons, List.length_nil, List.length_replicate, List.length_take, List.length_drop]; omega))) only [↓c_pos, ↓c_neg, dec_t, dec_f, Bool.and_true, Bool.true_and, Bool.and_false, Bool.false_and, Bool.not_true, Bool.not_false, cond_true, cond_false, inR_t, cutR_t, roomB_t, lenOK_t, w64, bs_size, List.length_append, List.length_cons, List.length_nil, bs_extract, bs_append, bs_push, bs_data, bs_empty, bs_lit, catS_bs, eqS_bs, ite_pos', ite_neg', decide_true, decide_false, if_true, if_false, e1, List.length_cons]
    have e0 : byteAt (bs (c :: r)) 0 = (c.toNat : Int) := rfl
    have hb := beqB c 48
    rw [show ((48 : UInt8).toNat : Int) = 48 from rfl] at hb
    by_cases hc : c = 48
    · have e1 : digs1 (c :: r) = false := by unfold digs1; rw [hc]; simp
      have e2 : (c == 48) = true := by simpa using hc
      simp (disch := (first | omega | (simp only [List.length_append, List.length_cons, List.length_nil, List.length_replicate, List.length_take, List.length_drop]; omega))) only [↓c_pos, ↓c_neg, dec_t, dec_f, Bool.and_true, Bool.true_and, Bool.and_false, Bool.false_and, Bool.not_true, Bool.not_false, cond_true, cond_false, inR_t, cutR_t, roomB_t, lenOK_t, w64, bs_size, List.length_append, List.length_cons, List.length_nil, bs_extract, bs_append, bs_push, bs_data, bs_empty, bs_lit, catS_bs, eqS_bs, ite_pos', ite_neg', decide_true, decide_false, if_true, if_false, e1, List.length_cons, e0, hb, e2]
    · have e1 : digs1 (c :: r) = (c :: r).all isD := by
        have : ((c :: r : List UInt8).head? == some 48) = false := by simpa using hc
        unfold digs1
        rw [List.length_cons, decide_eq_true (by omega), this]; simp
      have e2 : (c == 48) = false := by simpa using hc
      have hlp := fun k0 k1 => valid_loop (R := R) n (c :: r) (by rw [List.length_cons]; omega) k0 k1 (r.length + 1) n 0 (by rw [List.length_cons]) (by omega)
      rw [List.drop_zero, show ((0 : Nat) : Int) = 0 from rfl] at hlp
      rw [e1]
      simp (disch := (first | omega | (simp only [List.length_append, List.length_cons, List.length_nil, List.length_replicate, List.length_take, List.length_drop]; omega))) only [↓c_pos, ↓c_neg, dec_t, dec_f, Bool.and_true, Bool.true_and, Bool.and_false, Bool.false_and, Bool.not_true, Bool.not_false, cond_true, cond_false, inR_t, cutR_t, roomB_t, lenOK_t, w64, bs_size, List.length_append, List.length_cons, List.length_nil, bs_extract, bs_append, bs_push, bs_data, bs_empty, bs_lit, catS_bs, eqS_bs, ite_pos', ite_neg', decide_true, decide_false, if_true, if_false, List.length_cons, e0, hb, e2, p13_c7, p13_l8, hlp]
      cases (c :: r).all isD <;> rfl
theorem valid_eq (n : Nat) (s : List UInt8) (hs : s.length < 2 ^ 40) (hn : s.length < n) (k0 : Bool → Option R) : p13 n (bs s) k0 = k0 (intB s) := by
  unfold p13
  by_cases h0 : s = [48]
  · subst h0
    have e : intB [48] = true := rfl
    rw [e]; rfl
  · have e0 : (s == [48]) = false := by simpa using h0
    cases s with
    | nil => rfl
    | cons c r =>
      rw [List.length_cons] at hs hn
      have e1 : byteAt (bs (c :: r)) 0 = (c.toNat : Int) := rfl
      have hb := beqB c 45
      rw [show ((45 : UInt8).toNat : Int) = 45 from rfl] at hb
      have e3 : List.drop (1 : Int).toNat (List.take (r.length + 1) (c :: r)) = r := by
        show List.drop 1 (c :: List.take r.length r) = r
        rw [List.take_length]; rfl
      by_cases hc : c = 45
      · have e2 : (c == 45) = true := by simpa using hc
        have hv := fun k0 => validC_eq (R := R) n r (by omega) (by omega) k0
        have hI : intB (c :: r) = digs1 r := by
          unfold intB; rw [cutN_cons, if_pos hc, ← digs1_eq]; simp
        rw [hI]
        simp (disch := (first | omega | (simp only [List.length_append, List.length_cons, List.length_nil, List.length_replicate, List.length_take, List.length_drop]; omega))) only [↓c_pos, ↓c_neg, dec_t, dec_f, Bool.and_true, Bool.true_and, Bool.and_false, Bool.false_and, Bool.not_true, Bool.not_false, cond_true, cond_false, inR_t, cutR_t, roomB_t, lenOK_t, w64, bs_size, List.length_append, List.length_cons, List.length_nil, bs_extract, bs_append, bs_push, bs_data, bs_empty, bs_lit, catS_bs, eqS_bs, ite_pos', ite_neg', decide_true, decide_false, if_true, if_false, List.length_cons, e0, e1, hb, e2, toNatC, e3, hv]
      · have e2 : (c == 45) = false := by simpa using hc
        have hv := fun k0 => validC_eq (R := R) n (c :: r) (by rw [List.length_cons]; omega) (by rw [List.length_cons]; omega) k0
        have hI : intB (c :: r) = digs1 (c :: r) := by
          unfold intB; rw [cutN_cons, if_neg hc, ← digs1_eq, e0]; simp
        rw [hI]
        simp (disch := (first | omega | (simp only [List.length_append, List.length_cons, List.length_nil, List.length_replicate, List.length_take, List.length_drop]; omega))) only [↓c_pos, ↓c_neg, dec_t, dec_f, Bool.and_true, Bool.true_and, Bool.and_false, Bool.false_and, Bool.not_true, Bool.not_false, cond_true, cond_false, inR_t, cutR_t, roomB_t, lenOK_t, w64, bs_size, List.length_append, List.length_cons, List.length_nil, bs_extract, bs_append, bs_push, bs_data, bs_empty, bs_lit, catS_bs, eqS_bs, ite_pos', ite_neg', decide_true, decide_false, if_true, if_false, List.length_cons, e0, e1, hb, e2, hv]
def sl (l : List (List UInt8)) : List PV := l.map fun s => PV.v (.string (bs s))
theorem sl_len (l : List (List UInt8)) : (sl l).length = l.length := by unfold sl; rw [List.length_map]
theorem getS_sl {l : List (List UInt8)} {i : Nat} {d : PV} {K : ByteArray → Option R} (h : i < l.length) : getS ((sl l).getD i d) K = K (bs (l.getD i [])) := by
  unfold sl
  rw [List.getD_eq_getElem?_getD, List.getElem?_map, List.getD_eq_getElem?_getD, List.getElem?_eq_getElem h]
  rfl
theorem shorts_loop (n : Nat) (l : List (List UInt8)) (h40 : l.length < 2 ^ 40) (k0 : Bool → Option R) (k1 : Option R) : ∀ (d m i : Nat), d + i = l.length → d < m → p10_l2L n m (sl l) i k0 k1 = if ∀ s ∈ l.drop i, s.length ≤ 300 then k1 else k0 false
  | 0, m + 1, i, hd, hm => by
    rw [List.drop_eq_nil_of_le (by omega), if_pos (by intro s h; cases h)]
    simp only [p10_l2L, p10_l2B]
    simp (disch := (first | omega | (simp only [List.length_append, List.length_cons, List.length_nil, List.length_replicate, List.length_take, List.length_drop]; omega))) only [↓c_pos, ↓c_neg, dec_t, dec_f, Bool.and_true, Bool.true_and, Bool.and_false, Bool.false_and, Bool.not_true, Bool.not_false, cond_true, cond_false, inR_t, cutR_t, roomB_t, lenOK_t, w64, bs_size, List.length_append, List.length_cons, List.length_nil, bs_extract, bs_append, bs_push, bs_data, bs_empty, bs_lit, catS_bs, eqS_bs, ite_pos', ite_neg', decide_true, decide_false, if_true, if_false, sl_len]
  | d + 1, m + 1, i, hd, hm => by
    have hi : i < l.length := by omega
    have hdr : l.drop i = l.getD i [] :: l.drop (i + 1) := by
      rw [List.drop_eq_getElem_cons hi, List.getD_eq_getElem?_getD, List.getElem?_eq_getElem hi]; rfl
    have ih := shorts_loop n l h40 k0 k1 d m (i + 1) (by omega) (by omega)
    have e1 : (i : Int) + 1 = ((i + 1 : Nat) : Int) := by omega
    have hg : ∀ K : ByteArray → Option R, getS ((sl l).getD i (PV.v (Value.bool false))) K = K (bs (l.getD i [])) := fun K => getS_sl hi
    rw [hdr]
    simp only [p10_l2L, p10_l2B, List.forall_mem_cons]
    by_cases h : (l.getD i []).length ≤ 300
    · simp only [h, true_and]
      rw [← ih]
      simp (disch := (first | omega | (simp only [List.length_append, List.length_cons, List.length_nil, List.length_replicate, List.length_take, List.length_drop]; omega))) only [↓c_pos, ↓c_neg, dec_t, dec_f, Bool.and_true, Bool.true_and, Bool.and_false, Bool.false_and, Bool.not_true, Bool.not_false, cond_true, cond_false, inR_t, cutR_t, roomB_t, lenOK_t, w64, bs_size, List.length_append, List.length_cons, List.length_nil, bs_extract, bs_append, bs_push, bs_data, bs_empty, bs_lit, catS_bs, eqS_bs, ite_pos', ite_neg', decide_true, decide_false, if_true, if_false, e1, sl_len, toNatC, hg]
    · rw [if_neg (fun q => h q.1)]
      simp (disch := (first | omega | (simp only [List.length_append, List.length_cons, List.length_nil, List.length_replicate, List.length_take, List.length_drop]; omega))) only [↓c_pos, ↓c_neg, dec_t, dec_f, Bool.and_true, Bool.true_and, Bool.and_false, Bool.false_and, Bool.not_true, Bool.not_false, cond_true, cond_false, inR_t, cutR_t, roomB_t, lenOK_t, w64, bs_size, List.length_append, List.length_cons, List.length_nil, bs_extract, bs_append, bs_push, bs_data, bs_empty, bs_lit, catS_bs, eqS_bs, ite_pos', ite_neg', decide_true, decide_false, if_true, if_false, e1, sl_len, toNatC, hg]
theorem shorts_eq (n : Nat) (l : List (List UInt8)) (h40 : l.length < 2 ^ 40) (hn : l.length < n) (k0 : Bool → Option R) : p10 n (sl l) k0 = k0 (decide (∀ s ∈ l, s.length ≤ 300)) := by
  unfold p10 p10_l2
  have h := shorts_loop (R := R) n l h40 (fun y => k0 y) (k0 true) l.length n 0 (by omega) hn
  rw [List.drop_zero, show ((0 : Nat) : Int) = 0 from rfl] at h
  rw [h]
  by_cases hc : ∀ s ∈ l, s.length ≤ 300
  · rw [if_pos hc, decide_eq_true hc]
  · rw [if_neg hc, decide_eq_false hc]
end Go.Proofs.YtfbahcfojiaeaaaGreatDoor


set_option linter.unusedVariables false
set_option linter.unusedSimpArgs false
namespace Go.Proofs.YtfbahcfojiaeaaaGreatDoor
open Go Th Go.Proofs
variable {R : Type}
theorem quick_loop (n : Nat) (neg : Bool) (t : List UInt8) (ht : t.length ≤ 9) : ∀ (d m i acc : Nat), d + i = t.length → d < m → acc < 10 ^ i →
    (∀ c ∈ t.drop i, isD c = true) → ∀ (k0 : Int → Bool → Bool → Int → Option R) (k1 : Bool → Int → Option R), p56_l9L n m neg (bs t) acc t.length i k0 k1 = k1 neg ((acc * 10 ^ (t.length - i) + ofD (t.drop i) : Nat) : Int)
  | 0, m + 1, i, acc, hd, hm, ha, hs, k0, k1 => by
    rw [List.drop_eq_nil_of_le (by omega), show t.length - i = 0 from by omega, Nat.pow_zero, Nat.mul_one, show ofD [] = 0 from rfl, Nat.add_zero]
    simp only [p56_l9L, p56_l9B]
    simp (disch := (first | omega | (simp only [List.length_append, List.length_cons, List.length_nil, List.length_replicate, List.length_take, List.length_drop]; omega))) only [↓c_pos, ↓c_neg, dec_t, dec_f, Bool.and_true, Bool.true_and, Bool.and_false, Bool.false_and, Bool.not_true, Bool.not_false, cond_true, cond_false, inR_t, cutR_t, roomB_t, lenOK_t, w64, bs_size, List.length_append, List.length_cons, List.length_nil, bs_extract, bs_append, bs_push, bs_data, bs_empty, bs_lit, catS_bs, eqS_bs, ite_pos', ite_neg', decide_true, decide_false, if_true, if_false]
    rfl
  | d + 1, m + 1, i, acc, hd, hm, ha, hs, k0, k1 => by
    have hi : i < t.length := by omega
    have hdr : t.drop i = t[i] :: t.drop (i + 1) := List.drop_eq_getElem_cons hi
    rw [hdr] at hs ⊢
    have hc := isD_iff.1 (hs _ (List.mem_cons_self ..))
    have hp : (10 : Nat) ^ i ≤ 10 ^ 9 := Nat.pow_le_pow_right (by omega) (by omega)
    have ih := quick_loop n neg t ht d m (i + 1) (10 * acc + (t[i].toNat - 48)) (by omega) (by omega) (by rw [Nat.pow_succ]; omega) (fun c h => hs c (List.mem_cons_of_mem _ h)) k0 k1
    have e1 : (i : Int) + 1 = ((i + 1 : Nat) : Int) := by omega
    have e2 : byteAt (bs t) (i : Int) = (t[i].toNat : Int) := byteAt_nat hi
    have e4 : (t[i].toNat : Int) - 48 = ((t[i].toNat - 48 : Nat) : Int) := by omega
    have e5 : (10 : Int) * (acc : Int) + ((t[i].toNat - 48 : Nat) : Int) = ((10 * acc + (t[i].toNat - 48) : Nat) : Int) := by omega
    have hdl : (t.drop (i + 1)).length = t.length - (i + 1) := List.length_drop
    have e6 : acc * 10 ^ (t.length - i) + ofD (t[i] :: t.drop (i + 1)) = (10 * acc + (t[i].toNat - 48)) * 10 ^ (t.length - (i + 1)) + ofD (t.drop (i + 1)) := by
      have : ofD (t[i] :: t.drop (i + 1)) = (t[i].toNat - 48) * 10 ^ (t.length - (i + 1)) + ofD (t.drop (i + 1)) := by
        unfold ofD dg; rw [List.map_cons, vb_cons, List.length_map, hdl]
      rw [this, show t.length - i = (t.length - (i + 1)) + 1 from by omega, Nat.pow_succ]
      grind
    rw [e6, ← ih]
    simp only [p56_l9L, p56_l9B]
    simp (disch := (first | omega | (simp only [List.length_append, List.length_cons, List.length_nil, List.length_replicate, List.length_take, List.length_drop]; omega))) only [↓c_pos, ↓c_neg, dec_t, dec_f, Bool.and_true, Bool.true_and, Bool.and_false, Bool.false_and, Bool.not_true, Bool.not_false, cond_true, cond_false, inR_t, cutR_t, roomB_t, lenOK_t, w64, bs_size, List.length_append, List.length_cons, List.length_nil, bs_extract, bs_append, bs_push, bs_data, bs_empty, bs_lit, catS_bs, eqS_bs, ite_pos', ite_neg', decide_true, decide_false, if_true, if_false, e1, e2, e4, e5, wu8]
theorem quick_loop_bad (n : Nat) (neg : Bool) (t : List UInt8) (ht : t.length ≤ 9) : ∀ (d m i acc : Nat), d + i = t.length → d < m → acc < 10 ^ i →
    ¬ (∀ c ∈ t.drop i, isD c = true) → ∃ y : Int, ∀ (k0 : Int → Bool → Bool → Int → Option R) (k1 : Bool → Int → Option R), p56_l9L n m neg (bs t) acc t.length i k0 k1 = k0 0 false neg y
  | 0, m + 1, i, acc, hd, hm, ha, hs => by
    rw [List.drop_eq_nil_of_le (by omega)] at hs
    exact absurd (fun c h => by cases h) hs
  | d + 1, m + 1, i, acc, hd, hm, ha, hs => by
    have hi : i < t.length := by omega
    have hdr : t.drop i = t[i] :: t.drop (i + 1) := List.drop_eq_getElem_cons hi
    rw [hdr] at hs
    have hp : (10 : Nat) ^ i ≤ 10 ^ 9 := Nat.pow_le_pow_right (by omega) (by omega)
    have e1 : (i : Int) + 1 = ((i + 1 : Nat) : Int) := by omega
    have e2 : byteAt (bs t) (i : Int) = (t[i].toNat : Int) := byteAt_nat hi
    by_cases h : isD t[i] = true
    · have hc := isD_iff.1 h
      have hs' : ¬ ∀ c ∈ t.drop (i + 1), isD c = true := fun q => hs (by
        intro c hc
        rcases List.mem_cons.1 hc with rfl | hc
        · exact h
        · exact q c hc)
      obtain ⟨y, ih⟩ := quick_loop_bad n neg t ht d m (i + 1) (10 * acc + (t[i].toNat - 48)) (by omega) (by omega) (by rw [Nat.pow_succ]; omega) hs'
      refine ⟨y, fun k0 k1 => ?_⟩
      have e4 : (t[i].toNat : Int) - 48 = ((t[i].toNat - 48 : Nat) : Int) := by omega
      have e5 : (10 : Int) * (acc : Int) + ((t[i].toNat - 48 : Nat) : Int) = ((10 * acc + (t[i].toNat - 48) : Nat) : Int) := by omega
      rw [← ih k0 k1]
      simp only [p56_l9L, p56_l9B]
      simp (disch := (first | omega | (simp only [List.length_append, List.length_cons, List.length_nil, List.length_replicate, List.length_take, List.length_drop]; omega))) only [↓c_pos, ↓c_neg, dec_t, dec_f, Bool.and_true, Bool.true_and, Bool.and_false, Bool.false_and, Bool.not_true, Bool.not_false, cond_true, cond_false, inR_t, cutR_t, roomB_t, lenOK_t, w64, bs_size, List.length_append, List.length_cons, List.length_nil, bs_extract, bs_append, bs_push, bs_data, bs_empty, bs_lit, catS_bs, eqS_bs, ite_pos', ite_neg', decide_true, decide_false, if_true, if_false, e1, e2, e4, e5, wu8]
    · have hc : ¬ (48 ≤ t[i].toNat ∧ t[i].toNat ≤ 57) := fun q => h (isD_iff.2 q)
      refine ⟨acc, fun k0 k1 => ?_⟩
      simp only [p56_l9L, p56_l9B]
      by_cases h1 : t[i].toNat < 48
      · simp (disch := (first | omega | (simp only [List.length_append, List.length_cons, List.length_nil, List.length_replicate, List.length_take, List.length_drop]; omega))) only [↓c_pos, ↓c_neg, dec_t, dec_f, Bool.and_true, Bool.true_and, Bool.and_false, Bool.false_and, Bool.not_true, Bool.not_false, cond_true, cond_false, inR_t, cutR_t, roomB_t, lenOK_t, w64, bs_size, List.length_append, List.length_cons, List.length_nil, bs_extract, bs_append, bs_push, bs_data, bs_empty, bs_lit, catS_bs, eqS_bs, ite_pos', ite_neg', decide_true, decide_false, if_true, if_false, e1, e2]
      · simp (disch := (first | omega | (simp only [List.length_append, List.length_cons, List.length_nil, List.length_replicate, List.length_take, List.length_drop]; omega))) only [↓c_pos, ↓c_neg, dec_t, dec_f, Bool.and_true, Bool.true_and, Bool.and_false, Bool.false_and, Bool.not_true, Bool.not_false, cond_true, cond_false, inR_t, cutR_t, roomB_t, lenOK_t, w64, bs_size, List.length_append, List.length_cons, List.length_nil, bs_extract, bs_append, bs_push, bs_data, bs_empty, bs_lit, catS_bs, eqS_bs, ite_pos', ite_neg', decide_true, decide_false, if_true, if_false, e1, e2]
theorem quickC_ok (n : Nat) (hn : 20 ≤ n) (s t : List UInt8) (neg : Bool) (hsl : s.length < 2 ^ 40) (h0 : t ≠ []) (ht : t.length ≤ 9) (hd : ∀ c ∈ t, isD c = true) (hz : t.head? = some 48 → s.length ≤ 1) (k0 : Int → Bool → Option R) :
    p56_c5 n (bs s) neg (bs t) k0 = k0 (zs neg (ofD t)) true := by
  have hlt := ofD_lt hd
  have hp : (10 : Nat) ^ t.length ≤ 10 ^ 9 := Nat.pow_le_pow_right (by omega) ht
  have hlp := fun (k0 : Int → Bool → Bool → Int → Option R) (k1 : Bool → Int → Option R) => quick_loop (R := R) n neg t ht t.length n 0 0 (by omega) (by omega) (by simp) (by rw [List.drop_zero]; exact hd) k0 k1
  rw [Nat.zero_mul, List.drop_zero, Nat.zero_add, show ((0 : Nat) : Int) = 0 from rfl] at hlp
  cases t with
  | nil => exact absurd rfl h0
  | cons c r =>
    have e0 : ((c :: r) == ([] : List UInt8)) = false := rfl
    have e1 : byteAt (bs (c :: r)) 0 = (c.toNat : Int) := rfl
    have hb := beqB c 48
    rw [show ((48 : UInt8).toNat : Int) = 48 from rfl] at hb
    rw [List.length_cons] at ht
    simp only [List.length_cons] at hlp
    generalize hv : ofD (c :: r) = v at *
    by_cases hc : c = 48
    · have e2 : (c == 48) = true := by simpa using hc
      have hs1 := hz (by rw [hc]; rfl)
      simp only [p56_c5, p56_c7, p56_c17, p56_l9]
      cases neg
      · simp (disch := (first | omega | (simp only [List.length_append, List.length_cons, List.length_nil, List.length_replicate, List.length_take, List.length_drop]; omega))) only [↓c_pos, ↓c_neg, dec_t, dec_f, Bool.and_true, Bool.true_and, Bool.and_false, Bool.false_and, Bool.not_true, Bool.not_false, cond_true, cond_false, inR_t, cutR_t, roomB_t, lenOK_t, w64, bs_size, List.length_append, List.length_cons, List.length_nil, bs_extract, bs_append, bs_push, bs_data, bs_empty, bs_lit, catS_bs, eqS_bs, ite_pos', ite_neg', decide_true, decide_false, if_true, if_false, List.length_cons, e0, e1, hb, e2, hlp]
        rfl
      · simp (disch := (first | omega | (simp only [List.length_append, List.length_cons, List.length_nil, List.length_replicate, List.length_take, List.length_drop]; omega))) only [↓c_pos, ↓c_neg, dec_t, dec_f, Bool.and_true, Bool.true_and, Bool.and_false, Bool.false_and, Bool.not_true, Bool.not_false, cond_true, cond_false, inR_t, cutR_t, roomB_t, lenOK_t, w64, bs_size, List.length_append, List.length_cons, List.length_nil, bs_extract, bs_append, bs_push, bs_data, bs_empty, bs_lit, catS_bs, eqS_bs, ite_pos', ite_neg', decide_true, decide_false, if_true, if_false, List.length_cons, e0, e1, hb, e2, hlp, Int.zero_sub]
        rfl
    · have e2 : (c == 48) = false := by simpa using hc
      simp only [p56_c5, p56_c7, p56_c17, p56_l9]
      cases neg
      · simp (disch := (first | omega | (simp only [List.length_append, List.length_cons, List.length_nil, List.length_replicate, List.length_take, List.length_drop]; omega))) only [↓c_pos, ↓c_neg, dec_t, dec_f, Bool.and_true, Bool.true_and, Bool.and_false, Bool.false_and, Bool.not_true, Bool.not_false, cond_true, cond_false, inR_t, cutR_t, roomB_t, lenOK_t, w64, bs_size, List.length_append, List.length_cons, List.length_nil, bs_extract, bs_append, bs_push, bs_data, bs_empty, bs_lit, catS_bs, eqS_bs, ite_pos', ite_neg', decide_true, decide_false, if_true, if_false, List.length_cons, e0, e1, hb, e2, hlp]
        rfl
      · simp (disch := (first | omega | (simp only [List.length_append, List.length_cons, List.length_nil, List.length_replicate, List.length_take, List.length_drop]; omega))) only [↓c_pos, ↓c_neg, dec_t, dec_f, Bool.and_true, Bool.true_and, Bool.and_false, Bool.false_and, Bool.not_true, Bool.not_false, cond_true, cond_false, inR_t, cutR_t, roomB_t, lenOK_t, w64, bs_size, List.length_append, List.length_cons, List.length_nil, bs_extract, bs_append, bs_push, bs_data, bs_empty, bs_lit, catS_bs, eqS_bs, ite_pos', ite_neg', decide_true, decide_false, if_true, if_false, List.length_cons, e0, e1, hb, e2, hlp, Int.zero_sub]
        rfl
theorem quickC_bad (n : Nat) (hn : 20 ≤ n) (s t : List UInt8) (neg : Bool) (hsl : s.length < 2 ^ 40) (htl : t.length < 2 ^ 40) (h : ¬ (t ≠ [] ∧ t.length ≤ 9 ∧ (∀ c ∈ t, isD c = true) ∧ (t.head? = some 48 → s.length ≤ 1))) :
    ∀ k0 : Int → Bool → Option R, p56_c5 n (bs s) neg (bs t) k0 = k0 0 false := by
  intro k0
  cases t with
  | nil => rfl
  | cons c r =>
    have e0 : ((c :: r) == ([] : List UInt8)) = false := rfl
    have e1 : byteAt (bs (c :: r)) 0 = (c.toNat : Int) := rfl
    have hb := beqB c 48
    rw [show ((48 : UInt8).toNat : Int) = 48 from rfl] at hb
    rw [List.length_cons] at htl
    simp only [p56_c5, p56_c7, p56_c17, p56_l9]
    by_cases h9 : 9 < r.length + 1
    · simp (disch := (first | omega | (simp only [List.length_append, List.length_cons, List.length_nil, List.length_replicate, List.length_take, List.length_drop]; omega))) only [↓c_pos, ↓c_neg, dec_t, dec_f, Bool.and_true, Bool.true_and, Bool.and_false, Bool.false_and, Bool.not_true, Bool.not_false, cond_true, cond_false, inR_t, cutR_t, roomB_t, lenOK_t, w64, bs_size, List.length_append, List.length_cons, List.length_nil, bs_extract, bs_append, bs_push, bs_data, bs_empty, bs_lit, catS_bs, eqS_bs, ite_pos', ite_neg', decide_true, decide_false, if_true, if_false, List.length_cons, e0]
    · by_cases hd : ∀ x ∈ c :: r, isD x = true
      · have hs : c = 48 ∧ 1 < s.length := by
          by_cases hc : c = 48
          · refine ⟨hc, ?_⟩
            apply Nat.lt_of_not_le
            intro q
            exact h ⟨by simp, by rw [List.length_cons]; omega, hd, fun _ => q⟩
          · exact absurd ⟨by simp, by rw [List.length_cons]; omega, hd, fun q => absurd (by simpa using q) hc⟩ h
        have e2 : (c == 48) = true := by simpa using hs.1
        have hs1 := hs.2
        simp (disch := (first | omega | (simp only [List.length_append, List.length_cons, List.length_nil, List.length_replicate, List.length_take, List.length_drop]; omega))) only [↓c_pos, ↓c_neg, dec_t, dec_f, Bool.and_true, Bool.true_and, Bool.and_false, Bool.false_and, Bool.not_true, Bool.not_false, cond_true, cond_false, inR_t, cutR_t, roomB_t, lenOK_t, w64, bs_size, List.length_append, List.length_cons, List.length_nil, bs_extract, bs_append, bs_push, bs_data, bs_empty, bs_lit, catS_bs, eqS_bs, ite_pos', ite_neg', decide_true, decide_false, if_true, if_false, List.length_cons, e0, e1, hb, e2]
      · obtain ⟨y, hlp⟩ := quick_loop_bad (R := R) n neg (c :: r) (by rw [List.length_cons]; omega) (r.length + 1) n 0 0 (by rw [List.length_cons]) (by omega) (by simp) (by rw [List.drop_zero]; exact hd)
        rw [show ((0 : Nat) : Int) = 0 from rfl] at hlp
        simp only [List.length_cons] at hlp
        by_cases hc : c = 48
        · have e2 : (c == 48) = true := by simpa using hc
          by_cases hs1 : 1 < s.length
          · simp (disch := (first | omega | (simp only [List.length_append, List.length_cons, List.length_nil, List.length_replicate, List.length_take, List.length_drop]; omega))) only [↓c_pos, ↓c_neg, dec_t, dec_f, Bool.and_true, Bool.true_and, Bool.and_false, Bool.false_and, Bool.not_true, Bool.not_false, cond_true, cond_false, inR_t, cutR_t, roomB_t, lenOK_t, w64, bs_size, List.length_append, List.length_cons, List.length_nil, bs_extract, bs_append, bs_push, bs_data, bs_empty, bs_lit, catS_bs, eqS_bs, ite_pos', ite_neg', decide_true, decide_false, if_true, if_false, List.length_cons, e0, e1, hb, e2]
          · simp (disch := (first | omega | (simp only [List.length_append, List.length_cons, List.length_nil, List.length_replicate, List.length_take, List.length_drop]; omega))) only [↓c_pos, ↓c_neg, dec_t, dec_f, Bool.and_true, Bool.true_and, Bool.and_false, Bool.false_and, Bool.not_true, Bool.not_false, cond_true, cond_false, inR_t, cutR_t, roomB_t, lenOK_t, w64, bs_size, List.length_append, List.length_cons, List.length_nil, bs_extract, bs_append, bs_push, bs_data, bs_empty, bs_lit, catS_bs, eqS_bs, ite_pos', ite_neg', decide_true, decide_false, if_true, if_false, List.length_cons, e0, e1, hb, e2, hlp]
        · have e2 : (c == 48) = false := by simpa using hc
          simp (disch := (first | omega | (simp only [List.length_append, List.length_cons, List.length_nil, List.length_replicate, List.length_take, List.length_drop]; omega))) only [↓c_pos, ↓c_neg, dec_t, dec_f, Bool.and_true, Bool.true_and, Bool.and_false, Bool.false_and, Bool.not_true, Bool.not_false, cond_true, cond_false, inR_t, cutR_t, roomB_t, lenOK_t, w64, bs_size, List.length_append, List.length_cons, List.length_nil, bs_extract, bs_append, bs_push, bs_data, bs_empty, bs_lit, catS_bs, eqS_bs, ite_pos', ite_neg', decide_true, decide_false, if_true, if_false, List.length_cons, e0, e1, hb, e2, hlp]
theorem quick_split (n : Nat) (s : List UInt8) (hs : s.length < 2 ^ 40) (k0 : Int → Bool → Option R) : p56 n (bs s) k0 = p56_c5 n (bs s) (cutN s).1 (bs (cutN s).2) k0 := by
  unfold p56
  cases s with
  | nil => rfl
  | cons c r =>
    rw [List.length_cons] at hs
    have e0 : ((c :: r) == ([] : List UInt8)) = false := rfl
    have e1 : byteAt (bs (c :: r)) 0 = (c.toNat : Int) := rfl
    have hb := beqB c 45
    rw [show ((45 : UInt8).toNat : Int) = 45 from rfl] at hb
    have e3 : List.drop (1 : Int).toNat (List.take (r.length + 1) (c :: r)) = r := by
      show List.drop 1 (c :: List.take r.length r) = r
      rw [List.take_length]; rfl
    rw [cutN_cons]
    by_cases hc : c = 45
    · have e2 : (c == 45) = true := by simpa using hc
      rw [if_pos hc]
      simp (disch := (first | omega | (simp only [List.length_append, List.length_cons, List.length_nil, List.length_replicate, List.length_take, List.length_drop]; omega))) only [↓c_pos, ↓c_neg, dec_t, dec_f, Bool.and_true, Bool.true_and, Bool.and_false, Bool.false_and, Bool.not_true, Bool.not_false, cond_true, cond_false, inR_t, cutR_t, roomB_t, lenOK_t, w64, bs_size, List.length_append, List.length_cons, List.length_nil, bs_extract, bs_append, bs_push, bs_data, bs_empty, bs_lit, catS_bs, eqS_bs, ite_pos', ite_neg', decide_true, decide_false, if_true, if_false, List.length_cons, e0, e1, hb, e2, p56_c2, toNatC, e3]
    · have e2 : (c == 45) = false := by simpa using hc
      rw [if_neg hc]
      simp (disch := (first | omega | (simp only [List.length_append, List.length_cons, List.length_nil, List.length_replicate, List.length_take, List.length_drop]; omega))) only [↓c_pos, ↓c_neg, dec_t, dec_f, Bool.and_true, Bool.true_and, Bool.and_false, Bool.false_and, Bool.not_true, Bool.not_false, cond_true, cond_false, inR_t, cutR_t, roomB_t, lenOK_t, w64, bs_size, List.length_append, List.length_cons, List.length_nil, bs_extract, bs_append, bs_push, bs_data, bs_empty, bs_lit, catS_bs, eqS_bs, ite_pos', ite_neg', decide_true, decide_false, if_true, if_false, List.length_cons, e0, e1, hb, e2, p56_c2]
theorem quick_ok (n : Nat) (hn : 20 ≤ n) (v : Int) (hv : v.natAbs < 10 ^ 9) (k0 : Int → Bool → Option R) : p56 n (bs (Lib.itoa v)) k0 = k0 v true := by
  have hl := (dec_len v.natAbs 9 (by omega)).2 hv
  have hin := cutN_in (Lib.itoa v)
  rw [cutN_itoa] at hin
  have hls : (Lib.itoa v).length ≤ 10 := by
    rw [hin, List.length_append]
    split <;> simp <;> omega
  rw [quick_split n _ (by omega), cutN_itoa, quickC_ok n hn _ _ _ (by omega) (dec_ne _) hl (dec_isD _) ?_, ofD_dec, zs_self]
  intro h48
  rcases dec_head v.natAbs with h | h
  · exact absurd h48 h
  · by_cases hv0 : v < 0
    · exfalso
      have h1 := dec_isD v.natAbs
      cases hd : dec v.natAbs with
      | nil => exact dec_ne _ hd
      | cons c r =>
        rw [hd] at h48 h
        simp at h48 h
        have : dec v.natAbs = dec 0 := by rw [hd, h48, h, dec_zero]
        have := dec_inj this
        omega
    · rw [hin, decide_eq_false hv0]
      simp only [Bool.false_eq_true, if_false, List.nil_append]
      omega
theorem quick_bad (n : Nat) (hn : 20 ≤ n) (s : List UInt8) (hs : s.length < 2 ^ 40) (h : ¬ ∃ v : Int, v.natAbs < 10 ^ 9 ∧ s = Lib.itoa v) (k0 : Int → Bool → Option R) : p56 n (bs s) k0 = k0 0 false := by
  have hl := cutN_len s
  rw [quick_split n s hs]
  refine quickC_bad n hn s _ _ hs (by omega) ?_ k0
  rintro ⟨h1, h2, h3, h4⟩
  apply h
  have hin := cutN_in s
  have hd : dec (ofD (cutN s).2) = (cutN s).2 := dec_ofD h3 h1 (by
    by_cases hz : (cutN s).2.head? = some 48
    · right
      have := h4 hz
      have := List.length_pos_iff.2 h1
      omega
    · exact Or.inl hz)
  have hlt : ofD (cutN s).2 < 10 ^ 9 := (dec_len _ 9 (by omega)).1 (by rw [hd]; exact h2)
  refine ⟨zs (cutN s).1 (ofD (cutN s).2), by rw [zs_natAbs]; exact hlt, ?_⟩
  by_cases h0 : ofD (cutN s).2 = 0
  · have e : (cutN s).1 = false := by
      cases hb : (cutN s).1 with
      | false => rfl
      | true =>
        exfalso
        rw [h0, dec_zero] at hd
        have h5 := h4 (by rw [← hd]; rfl)
        rw [hb, ← hd] at hin
        rw [hin] at h5
        simp at h5
    rw [h0, e]
    rw [e, ← hd, h0] at hin
    rw [hin]
    exact (itoa_pos 0).symm
  · rw [itoa_zs _ h0, hd]; exact hin
end Go.Proofs.YtfbahcfojiaeaaaGreatDoor


set_option linter.unusedVariables false
set_option maxRecDepth 100000
namespace Go.Proofs.YtfbahcfojiaeaaaGreatDoor
open Go Th Go.Proofs
section
variable {R : Type}
end
end Go.Proofs.YtfbahcfojiaeaaaGreatDoor


set_option linter.unusedVariables false
set_option maxRecDepth 100000
namespace Go.Proofs.YtfbahcfojiaeaaaGreatDoor
open Go Th Go.Proofs
def ann18 : Ann := { loops := [(3, [(0, .id), (2, .id), (4, .id), (5, .id)], [(0, .id), (2, .id), (3, .id), (4, .id)])], cuts := [(4, [(0, .id), (2, .id), (4, .id), (5, .id)], [(0, .id), (2, .id), (3, .id), (4, .id), (5, .id)]), (11, [(0, .id), (2, .id), (6, .id), (7, .id)], [(2, .id), (3, .id)]), (13, [(0, .id), (2, .id), (6, .id), (7, .id)], [(2, .id), (3, .id)])], frz := [], rm := [.id, .id] }
noncomputable abbrev env18 (n : Nat) : Env := fun i => bif Nat.beq i 49 then some (fs49 n) else (fun i => bif Nat.beq i 16 then some (fs16 n) else (fun i => bif Nat.beq i 15 then some (fs15 n) else (fun i => bif Nat.beq i 14 then some (fs14 n) else (fun i => bif Nat.beq i 13 then some (fs13 n) else (fun _ => none) i) i) i) i) i
theorem envok18 (n : Nat) : EnvOK Tryz.prog GI (env18 n) := EnvOK.cons (EnvOK.cons (EnvOK.cons (EnvOK.cons (EnvOK.cons (EnvOK.nil) (ok13 n)) (ok14 n)) (ok15 n)) (ok16 n)) (ok49 n)
noncomputable def p18_c4 {R : Type} (n : Nat) (x1 : ByteArray) (x2 x3 : Bool) (x4 x5 : Int) (k0 : ByteArray → Bool → Bool → Int → Int → Option R) : Option R :=
  k0 x1 x2 x3 x4 (IntKind.i64.wrap (x5 + 1))
noncomputable def p18_l3B {R : Type} (n : Nat) (l0 : ByteArray → Bool → Bool → Int → Int → Option R) (x1 : ByteArray) (x2 x3 : Bool) (x4 x5 : Int) (k0 : ByteArray → Bool → Bool → Int → Option R) : Option R :=
  bif (decide (x5 < ((x1).size : Int))) then (bif (inR x5 (x1).size) then (bif (byteAt x1 x5 == 47) then (bif true then (bif true then (bif true then (bif (bif true then (x4 == ((x1).size : Int)) else false) then (p18_c4 n x1 x2 x3 x5 x5 (fun y6 y7 y8 y9 y10 => l0 y6 y7 y8 y9 y10)) else (p18_c4 n x1 x2 x3 x4 x5 (fun y11 y12 y13 y14 y15 => l0 y11 y12 y13 y14 y15))) else none) else none) else none) else (bif false then none else (bif false then none else (bif false then none else (bif false then none else (bif false then none else (p18_c4 n x1 x2 x3 x4 x5 (fun y16 y17 y18 y19 y20 => l0 y16 y17 y18 y19 y20)))))))) else none) else (k0 x1 x2 x3 x4)
noncomputable def p18_l3L {R : Type} (n : Nat) : Nat → ByteArray → Bool → Bool → Int → Int → (ByteArray → Bool → Bool → Int → Option R) → Option R
  | 0, _, _, _, _, _, _ => none
  | m + 1, x1, x2, x3, x4, x5, k0 => p18_l3B n (fun x1 x2 x3 x4 x5 => p18_l3L n m x1 x2 x3 x4 x5 k0) x1 x2 x3 x4 x5 k0
noncomputable def p18_l3 {R : Type} (n : Nat) (x1 : ByteArray) (x2 x3 : Bool) (x4 x5 : Int) (k0 : ByteArray → Bool → Bool → Int → Option R) : Option R := p18_l3L n n x1 x2 x3 x4 x5 k0
noncomputable def p18_c13 {R : Type} (n : Nat) (x1 : ByteArray) (x2 x3 : Bool) (x4 x5 : ByteArray) (k0 : Bool → List PV → Bool → List PV → Bool → Option R) : Option R :=
  p16 n x5 (fun y6 y7 => p49 n y6 y7 (fun y8 => bif y8 then (k0 false [] false [] false) else (p16 n x4 (fun y9 y10 => p16 n x5 (fun y11 y12 => p15 n y9 y10 y11 y12 (fun y13 y14 y15 y16 => p14 n y13 y14 y15 y16 (fun y17 => k0 y13 y14 y15 y16 (eqS y17 x1))))))))
noncomputable def p18_c11 {R : Type} (n : Nat) (x1 : ByteArray) (x2 x3 : Bool) (x4 x5 : ByteArray) (k0 : Bool → List PV → Bool → List PV → Bool → Option R) : Option R :=
  p13 n x4 (fun y6 => bif (!y6) then (bif true then (bif true then (bif true then (bif true then (k0 false [] false [] false) else none) else none) else none) else none) else (bif false then none else (p13 n x5 (fun y7 => bif false then none else (bif (bif false then true else (!y7)) then (k0 false [] false [] false) else (p18_c13 n x1 x2 x3 x4 x5 (fun y8 y9 y10 y11 y12 => k0 y8 y9 y10 y11 y12)))))))
noncomputable def p18 {R : Type} (n : Nat) (x1 : ByteArray) (k0 : Bool → List PV → Bool → List PV → Bool → Option R) : Option R :=
  p18_l3 n x1 false false ((x1).size : Int) 0 (fun y2 y3 y4 y5 => bif (cutR 0 y5 (y2).size) then (bif (decide (y5 < ((y2).size : Int))) then (bif (cutR (IntKind.i64.wrap (y5 + 1)) ((y2).size : Int) (y2).size) then (p18_c11 n y2 y3 y4 (ByteArray.extract y2 (0 : Int).toNat (y5 : Int).toNat) (ByteArray.extract y2 (IntKind.i64.wrap (y5 + 1) : Int).toNat (((y2).size : Int) : Int).toNat) (fun y6 y7 y8 y9 y10 => k0 y6 y7 y8 y9 y10)) else none) else (p18_c11 n y2 y3 y4 (ByteArray.extract y2 (0 : Int).toNat (y5 : Int).toNat) ⟨#[49]⟩ (fun y11 y12 y13 y14 y15 => k0 y11 y12 y13 y14 y15))) else none)
noncomputable abbrev E18 {R : Type} (n : Nat) (c : Code) : Fr → Kc R → Option R := evC Tryz.prog (env18 n) ann18 n (62, []) c
noncomputable def c18_c4 : Code := subC (bodyOf Tryz.f18) [1, 1, 0, 1, 0, 0, 1, 1]
abbrev t18_c4 : Sl (List SV) := (.c (sP sStr) (.c (sBx 33 (.c (sP sBool) (.c sNl (.c (sP sBool) (.c sNl .n))))) (.c (sP (sInt .i64)) (.c (sP (sInt .i64)) .n))))
noncomputable abbrev f18_c4 {R : Type} (n : Nat) (K : Kc R) : t18_c4.T (Option R) := fun x1 x2 x3 x4 x5 => p18_c4 n x1 x2 x3 x4 x5 (fun y1 y2 y3 y4 y5 => K .normal (lk (outA ann18.cuts 4) [.p (.v (.string y1)), .bx 33 [.p (.v (.bool y2)), .nl, .p (.v (.bool y3)), .nl], .dead, .p (.v (.int .i64 y4)), .p (.v (.int .i64 y5))]))
noncomputable abbrev o18_c4 {R : Type} (n : Nat) (vs : List SV) (K : Kc R) : Option R := oget (t18_c4.ap vs (f18_c4 n K)) (cutE ann18 4 (E18 n c18_c4) vs K)
noncomputable def c18_c11 : Code := subC (bodyOf Tryz.f18) [1, 1, 1, 1, 1, 1]
abbrev t18_c11 : Sl (List SV) := (.c (sP sStr) (.c (sBx 33 (.c (sP sBool) (.c sNl (.c (sP sBool) (.c sNl .n))))) (.c (sP sStr) (.c (sP sStr) .n))))
noncomputable abbrev f18_c11 {R : Type} (n : Nat) (K : Kc R) : t18_c11.T (Option R) := fun x1 x2 x3 x4 x5 => p18_c11 n x1 x2 x3 x4 x5 (fun y1 y2 y3 y4 y5 => K .ret (lk (outA ann18.cuts 11) [.bx 33 [.p (.v (.bool y1)), .p (.sh y2), .p (.v (.bool y3)), .p (.sh y4)], .p (.v (.bool y5))]))
noncomputable abbrev o18_c11 {R : Type} (n : Nat) (vs : List SV) (K : Kc R) : Option R := oget (t18_c11.ap vs (f18_c11 n K)) (cutE ann18 11 (E18 n c18_c11) vs K)
noncomputable def c18_c13 : Code := subC (bodyOf Tryz.f18) [1, 1, 1, 1, 1, 1, 1]
abbrev t18_c13 : Sl (List SV) := (.c (sP sStr) (.c (sBx 33 (.c (sP sBool) (.c sNl (.c (sP sBool) (.c sNl .n))))) (.c (sP sStr) (.c (sP sStr) .n))))
noncomputable abbrev f18_c13 {R : Type} (n : Nat) (K : Kc R) : t18_c13.T (Option R) := fun x1 x2 x3 x4 x5 => p18_c13 n x1 x2 x3 x4 x5 (fun y1 y2 y3 y4 y5 => K .ret (lk (outA ann18.cuts 13) [.bx 33 [.p (.v (.bool y1)), .p (.sh y2), .p (.v (.bool y3)), .p (.sh y4)], .p (.v (.bool y5))]))
noncomputable abbrev o18_c13 {R : Type} (n : Nat) (vs : List SV) (K : Kc R) : Option R := oget (t18_c13.ap vs (f18_c13 n K)) (cutE ann18 13 (E18 n c18_c13) vs K)
noncomputable def c18_l3 : Code := subC (bodyOf Tryz.f18) [1, 1, 0, 1, 0, 0]
abbrev t18_l3 : Sl (List SV) := (.c (sP sStr) (.c (sBx 33 (.c (sP sBool) (.c sNl (.c (sP sBool) (.c sNl .n))))) (.c (sP (sInt .i64)) (.c (sP (sInt .i64)) .n))))
noncomputable abbrev f18_l3 {R : Type} (n m : Nat) (K : Kc R) : t18_l3.T (Option R) := fun x1 x2 x3 x4 x5 => p18_l3L n m x1 x2 x3 x4 x5 (fun y1 y2 y3 y4 => K (.exit 0) (lk (outA ann18.loops 3) [.p (.v (.string y1)), .bx 33 [.p (.v (.bool y2)), .nl, .p (.v (.bool y3)), .nl], .dead, .p (.v (.int .i64 y4))]))
noncomputable abbrev o18_l3 {R : Type} (n : Nat) (vs : List SV) (K : Kc R) : Option R := oget (t18_l3.ap vs (f18_l3 n n K)) (loopE ann18 3 (E18 n c18_l3) n vs K)
noncomputable abbrev lo18 {R : Type} (n : Nat) : Orc R := fun i vs K => dcnd (Nat.beq i 3) (o18_l3 n vs K) (none)
noncomputable abbrev cu18 {R : Type} (n : Nat) : Orc R := fun i vs K => dcnd (Nat.beq i 13) (o18_c13 n vs K) (dcnd (Nat.beq i 11) (o18_c11 n vs K) (dcnd (Nat.beq i 4) (o18_c4 n vs K) (none)))
section
variable {R : Type}
noncomputable abbrev V18 (n : Nat) (c : Code) : Fr → Kc R → Option R := evOi Tryz.prog (env18 n) ann18 (62, []) (lo18 n) (cu18 n) c
abbrev K18 (R : Type) (n : Nat) := PartOK (R := R) Tryz.prog (env18 n) ann18 n (62, []) (lo18 n) (cu18 n)
theorem pa18_c4 (n : Nat) : allP (K18 R n) (partsOf ann18 c18_c4) := by
  rw [show partsOf ann18 c18_c4 = [] from by kernel_rfl]; exact trivial
theorem q18_c4 (n : Nat) : K18 R n (true, 4, c18_c4) := part_cut (pa18_c4 n) t18_c4 (f18_c4 n) (fun K x1 x2 x3 x4 x5 => by show cutE _ _ _ _ _ = _; kernel_rfl) fun _ _ => rfl
theorem pa18_l3 (n : Nat) : allP (K18 R n) (partsOf ann18 c18_l3) := by
  rw [show partsOf ann18 c18_l3 = [(true, 4, c18_c4)] from by kernel_rfl]; exact ⟨q18_c4 n, trivial⟩
theorem sp18_l3 (n m : Nat) (x1 : ByteArray) (x2 x3 : Bool) (x4 x5 : Int) (K : Kc R) : loopE ann18 3 (V18 n c18_l3) (m + 1) [.p (.v (.string x1)), .bx 33 [.p (.v (.bool x2)), .nl, .p (.v (.bool x3)), .nl], .p (.v (.int .i64 x4)), .p (.v (.int .i64 x5))] K = p18_l3B n (fun x1 x2 x3 x4 x5 => loopE ann18 3 (V18 n c18_l3) m [.p (.v (.string x1)), .bx 33 [.p (.v (.bool x2)), .nl, .p (.v (.bool x3)), .nl], .p (.v (.int .i64 x4)), .p (.v (.int .i64 x5))] K) x1 x2 x3 x4 x5 (fun y1 y2 y3 y4 => K (.exit 0) (lk (outA ann18.loops 3) [.p (.v (.string y1)), .bx 33 [.p (.v (.bool y2)), .nl, .p (.v (.bool y3)), .nl], .dead, .p (.v (.int .i64 y4))])) := by kernel_rfl
theorem ep18_l3 (n : Nat) (K : Kc R) : ∀ (m : Nat) (x1 : ByteArray) (x2 x3 : Bool) (x4 x5 : Int), loopE ann18 3 (V18 n c18_l3) m [.p (.v (.string x1)), .bx 33 [.p (.v (.bool x2)), .nl, .p (.v (.bool x3)), .nl], .p (.v (.int .i64 x4)), .p (.v (.int .i64 x5))] K = f18_l3 n m K x1 x2 x3 x4 x5
  | 0, _, _, _, _, _ => rfl
  | m + 1, x1, x2, x3, x4, x5 => (sp18_l3 n m x1 x2 x3 x4 x5 K).trans (congrArg (fun l0 => p18_l3B n l0 x1 x2 x3 x4 x5 (fun y1 y2 y3 y4 => K (.exit 0) (lk (outA ann18.loops 3) [.p (.v (.string y1)), .bx 33 [.p (.v (.bool y2)), .nl, .p (.v (.bool y3)), .nl], .dead, .p (.v (.int .i64 y4))]))) (funext fun z0 => funext fun z1 => funext fun z2 => funext fun z3 => funext fun z4 => ep18_l3 n K m z0 z1 z2 z3 z4))
theorem q18_l3 (n : Nat) : K18 R n (false, 3, c18_l3) := part_loop (pa18_l3 n) t18_l3 (f18_l3 n n) (fun K x1 x2 x3 x4 x5 => ep18_l3 n K n x1 x2 x3 x4 x5) fun _ _ => rfl
theorem pa18_c13 (n : Nat) : allP (K18 R n) (partsOf ann18 c18_c13) := by
  rw [show partsOf ann18 c18_c13 = [] from by kernel_rfl]; exact trivial
theorem q18_c13 (n : Nat) : K18 R n (true, 13, c18_c13) := part_cut (pa18_c13 n) t18_c13 (f18_c13 n) (fun K x1 x2 x3 x4 x5 => by show cutE _ _ _ _ _ = _; kernel_rfl) fun _ _ => rfl
theorem pa18_c11 (n : Nat) : allP (K18 R n) (partsOf ann18 c18_c11) := by
  rw [show partsOf ann18 c18_c11 = [(true, 13, c18_c13)] from by kernel_rfl]; exact ⟨q18_c13 n, trivial⟩
theorem q18_c11 (n : Nat) : K18 R n (true, 11, c18_c11) := part_cut (pa18_c11 n) t18_c11 (f18_c11 n) (fun K x1 x2 x3 x4 x5 => by show cutE _ _ _ _ _ = _; kernel_rfl) fun _ _ => rfl
theorem pa18 (n : Nat) : allP (K18 R n) (partsOf ann18 (bodyOf Tryz.f18)) := by
  rw [show partsOf ann18 (bodyOf Tryz.f18) = [(false, 3, c18_l3), (true, 11, c18_c11)] from by kernel_rfl]; exact ⟨q18_l3 n, q18_c11 n, trivial⟩
end
abbrev t18 : Sl (List SV) := (.c (sP sStr) .n)
noncomputable abbrev f18 (n : Nat) {R : Type} (K : List SV → Option R) : t18.T (Option R) := fun x1 => p18 n x1 (fun y1 y2 y3 y4 y5 => K [.p (.agg [.v (.bool y1), .sh y2, .v (.bool y3), .sh y4]), .p (.v (.bool y5))])
theorem ep18 {R : Type} (n : Nat) (K : List SV → Option R) (x1 : ByteArray) : evFn Tryz.prog (env18 n) ann18 n Tryz.f18 [.p (.v (.string x1))] K = f18 n K x1 := by
  rw [evFn_evOi (c := bodyOf Tryz.f18) (by kernel_rfl) (pa18 n)]; kernel_rfl
noncomputable abbrev fs18 (n : Nat) : FS := { om := [false], run := fun args K => oget (t18.ap args (f18 n K)) none }
theorem ok18 (n : Nat) : FSound Tryz.prog GI 18 (fs18 n) :=
  FSound.good (envok18 n) (ann := ann18) (n := n) Tryz.func18
    (.cons (envok18 n) t18 (f18 n) (fun K x1 => ep18 n K x1) .nil)
    (by kernel_rfl) (by kernel_rfl) (by kernel_rfl)
end Go.Proofs.YtfbahcfojiaeaaaGreatDoor


set_option linter.unusedVariables false
set_option linter.unusedSimpArgs false
namespace Go.Proofs.YtfbahcfojiaeaaaGreatDoor
open Go Th Go.Proofs
variable {R : Type}
theorem ll_lim {a : Nat} (h : a < 10 ^ 400) : ll a ≤ 400 := ll_le.2 h
theorem big_n {n : Nat} (hn : 10 ^ 400 ≤ n) : 200000 ≤ n := Nat.le_trans (by decide +kernel) hn
theorem den_le (z w : Int) (hw : w ≠ 0) : (Rat.divInt z w).den ≤ w.natAbs := by
  rw [divInt_mk, mk_den _ _ _ (by omega)]; exact Nat.div_le_self _ _
theorem num_le (z w : Int) (hw : w ≠ 0) : (Rat.divInt z w).num.natAbs ≤ z.natAbs := by
  rw [divInt_mk, mk_num _ _ _ (by omega), zs_natAbs]; exact Nat.div_le_self _ _
theorem eq_self (s : List UInt8) : (s == s) = true := by simp
def idx (s : List UInt8) : Nat := (s.takeWhile (· != 47)).length
theorem idx_nil : idx [] = 0 := rfl
theorem idx_cons (c : UInt8) (r : List UInt8) : idx (c :: r) = if c = 47 then 0 else idx r + 1 := by
  unfold idx
  rw [List.takeWhile_cons]
  by_cases h : c = 47 <;> simp [h]
theorem idx_le : ∀ (s : List UInt8), idx s ≤ s.length
  | [] => Nat.le_refl _
  | c :: r => by
    have := idx_le r
    rw [idx_cons, List.length_cons]
    split <;> omega
theorem idx_none : ∀ {s : List UInt8}, (∀ c ∈ s, c ≠ 47) → idx s = s.length
  | [], _ => rfl
  | c :: r, h => by rw [idx_cons, if_neg (h c (List.mem_cons_self ..)), idx_none fun x hx => h x (List.mem_cons_of_mem _ hx), List.length_cons]
theorem idx_at : ∀ {a : List UInt8} (b : List UInt8), (∀ c ∈ a, c ≠ 47) → idx (a ++ 47 :: b) = a.length
  | [], b, _ => by rw [List.nil_append, idx_cons, if_pos rfl]; rfl
  | c :: r, b, h => by rw [List.cons_append, idx_cons, if_neg (h c (List.mem_cons_self ..)), idx_at b fun x hx => h x (List.mem_cons_of_mem _ hx), List.length_cons]
theorem idx_slash : ∀ {s : List UInt8}, idx s < s.length → s = s.take (idx s) ++ 47 :: s.drop (idx s + 1)
  | [], h => by simp [idx_nil] at h
  | c :: r, h => by
    rw [idx_cons, List.length_cons] at *
    by_cases hc : c = 47
    · rw [if_pos hc] at *; rw [hc]; rfl
    · rw [if_neg hc] at *
      have ih := idx_slash (s := r) (by omega)
      rw [List.take_succ_cons, List.drop_succ_cons, List.cons_append, ← ih]
theorem indexByte_idx : ∀ (s : List UInt8), Lib.indexByte s 47 = if idx s < s.length then (idx s : Int) else -1
  | [] => rfl
  | c :: r => by
    have ih := indexByte_idx r
    simp only [Lib.indexByte, idx_cons, List.length_cons]
    by_cases hc : c = 47
    · subst hc; simp
    · rw [if_neg (by simpa using hc), ih, if_neg hc]
      by_cases h : idx r < r.length
      · simp only [if_pos h]
        rw [if_neg (by simp), if_pos (by omega)]; omega
      · simp only [if_neg h]
        rw [if_pos (by decide), if_neg (by omega)]
theorem cut_eq (n : Nat) (s : List UInt8) (hs : s.length < 2 ^ 40) (k0 : ByteArray → ByteArray → Bool → Option R) :
    p55 n (bs s) k0 = if idx s < s.length then k0 (bs (s.take (idx s))) (bs (s.drop (idx s + 1))) true else k0 (bs s) (bs []) false := by
  unfold p55 p86
  have e : ((⟨#[47]⟩ : ByteArray).data.toList.headD 0) = 47 := rfl
  have hz : (⟨#[47]⟩ : ByteArray).size = 1 := rfl
  rw [bs_data, e, indexByte_idx]
  by_cases h : idx s < s.length
  · rw [if_pos h, if_pos h]
    have e1 : (idx s : Int) + ((1 : Nat) : Int) = ((idx s + 1 : Nat) : Int) := by omega
    have e2 : List.drop (0 : Int).toNat (List.take (idx s) s) = s.take (idx s) := rfl
    have e3 : List.drop 0 (List.take (idx s) s) = s.take (idx s) := rfl
    have e4 : List.drop (idx s + 1) (List.take s.length s) = s.drop (idx s + 1) := by rw [List.take_length]
    have hz2 : (bs [47]).size = 1 := rfl
    simp (disch := (first | omega | (simp only [List.length_append, List.length_cons, List.length_nil, List.length_replicate, List.length_take, List.length_drop]; omega))) only [↓c_pos, ↓c_neg, dec_t, dec_f, Bool.and_true, Bool.true_and, Bool.and_false, Bool.false_and, Bool.not_true, Bool.not_false, cond_true, cond_false, inR_t, cutR_t, roomB_t, lenOK_t, w64, bs_size, List.length_append, List.length_cons, List.length_nil, bs_extract, bs_append, bs_push, bs_data, bs_empty, bs_lit, catS_bs, eqS_bs, ite_pos', ite_neg', decide_true, decide_false, if_true, if_false, hz, hz2, e1, toNatC, e2, e3, e4, List.length_nil]
  · rw [if_neg h, if_neg h]
    simp (disch := (first | omega | (simp only [List.length_append, List.length_cons, List.length_nil, List.length_replicate, List.length_take, List.length_drop]; omega))) only [↓c_pos, ↓c_neg, dec_t, dec_f, Bool.and_true, Bool.true_and, Bool.and_false, Bool.false_and, Bool.not_true, Bool.not_false, cond_true, cond_false, inR_t, cutR_t, roomB_t, lenOK_t, w64, bs_size, List.length_append, List.length_cons, List.length_nil, bs_extract, bs_append, bs_push, bs_data, bs_empty, bs_lit, catS_bs, eqS_bs, ite_pos', ite_neg', decide_true, decide_false, if_true, if_false]
theorem no47_dec (a : Nat) : ∀ c ∈ dec a, c ≠ 47 := by
  intro c hc h
  have := isD_iff.1 (dec_isD a c hc)
  rw [h] at this
  exact absurd this.1 (by decide)
theorem no47_itoa (z : Int) : ∀ c ∈ Lib.itoa z, c ≠ 47 := by
  have h := cutN_in (Lib.itoa z)
  rw [cutN_itoa] at h
  rw [h]
  intro c hc
  rcases List.mem_append.1 hc with h1 | h1
  · split at h1
    · rw [List.mem_singleton.1 h1]; decide
    · cases h1
  · exact no47_dec _ c h1
theorem itoa_len {z : Int} (h : z.natAbs < 10 ^ 400) : (Lib.itoa z).length ≤ 401 := by
  have h1 := dec_lim h
  have h2 := cutN_in (Lib.itoa z)
  rw [cutN_itoa] at h2
  rw [h2, List.length_append]
  split <;> simp <;> omega
theorem rtxt_len {q : Rat} (h : fits q) : (rtxt q).length ≤ 802 := by
  unfold rtxt
  have h1 := itoa_len h.1
  have h2 := dec_lim h.2
  rw [List.length_append]
  split <;> simp <;> omega
theorem dec_one : dec 1 = [49] := dec_small (by omega)
theorem rtxt_parts (q : Rat) : (rtxt q).take (idx (rtxt q)) = Lib.itoa q.num ∧ (idx (rtxt q) < (rtxt q).length ↔ q.den ≠ 1) ∧ (q.den ≠ 1 → (rtxt q).drop (idx (rtxt q) + 1) = dec q.den) := by
  unfold rtxt
  by_cases h : q.den = 1
  · rw [if_pos h, List.append_nil, idx_none (no47_itoa _), List.take_length]
    exact ⟨rfl, by simp [h], fun q => absurd h q⟩
  · rw [if_neg h, idx_at _ (no47_itoa _), List.take_left]
    refine ⟨rfl, by simp [h], fun _ => ?_⟩
    rw [List.drop_append, List.drop_of_length_le (by omega), show (Lib.itoa q.num).length + 1 - (Lib.itoa q.num).length = 1 from by omega]
    rfl
theorem rtxt_inj {p q : Rat} (h : rtxt p = rtxt q) : p = q := by
  obtain ⟨a1, a2, a3⟩ := rtxt_parts p
  obtain ⟨b1, b2, b3⟩ := rtxt_parts q
  rw [h] at a1 a2 a3
  have hn : Lib.itoa p.num = Lib.itoa q.num := a1.symm.trans b1
  have hc := congrArg cutN hn
  rw [cutN_itoa, cutN_itoa] at hc
  have h1 := dec_inj (Prod.mk.inj hc).2
  have h2 : (p.num < 0) = (q.num < 0) := by simpa using (Prod.mk.inj hc).1
  have hnum : p.num = q.num := by
    have : p.num < 0 ↔ q.num < 0 := by rw [h2]
    omega
  by_cases hd : q.den = 1
  · have : p.den = 1 := by
      apply Classical.byContradiction
      intro hp
      exact (b2.1 (a2.2 hp)) hd
    exact Rat.ext hnum (this.trans hd.symm)
  · have hp : p.den ≠ 1 := a2.1 (b2.2 hd)
    exact Rat.ext hnum (dec_inj ((a3 hp).symm.trans (b3 hd)))
def isQ (s : List UInt8) : Prop := ∃ q : Rat, fits q ∧ s = rtxt q
theorem gcd1_eq (n : Nat) (z w : Nat) (hz : z < 10 ^ 400) (hw : w < 10 ^ 400) (hw0 : w ≠ 0) (hn : 10 ^ 400 ≤ n) (x1 x3 : Bool) (x5 : List PV) (k0 : Bool → List PV → List PV → Bool → Option R) :
    p57_c10 n x1 (bs (dec w)) x3 (NN z) x5 k0 = k0 x3 (NN z) (NN w) (Nat.gcd w z == 1) := by
  have hN := Nat.le_trans (by decide +kernel : 2 ^ 20 ≤ 10 ^ 400) hn
  have m1 := lim_len hz
  have m2 := lim_len hw
  have lw := dec_lim hw
  have q2 := fun k0 => parse_eq (R := R) n (dec w) (dec_isD _) (by omega) (by omega) k0
  rw [ofD_dec] at q2
  have hg := fun k0 => gcd_eq (R := R) n z w (by omega) (by omega) (by omega) (by omega) (by omega) k0
  obtain ⟨g, hge⟩ : ∃ g, Nat.gcd w z = g := ⟨_, rfl⟩
  have hg0 : g ≠ 0 := by rw [← hge]; intro e; exact hw0 (Nat.gcd_eq_zero_iff.1 e).1
  rw [hge] at hg ⊢
  have hgl : (toL 1000000000 g).length ≤ 45 := lenB_mono m2 (by rw [← hge]; exact Nat.le_of_dvd (by omega) (Nat.gcd_dvd_left _ _))
  unfold p57_c10
  clear hz hw hn
  simp only [q2, hg, NN_len]
  by_cases c : (toL 1000000000 g).length = 1
  · have hg1 : g < 1000000000 := by
      have := (toL_len hB2 g 1).1 (by omega)
      rwa [Nat.pow_one] at this
    have hgi : ∀ (K : Int → Option R), getI .u32 ((NN g).getD (0 : Int).toNat (PV.v (Value.bool false))) K = K (g : Int) := fun K => by rw [NN_small hg0 hg1]; rfl
    have e1 : (((toL 1000000000 g).length : Int) == 1) = true := by rw [c]; rfl
    have e2 : ((g : Int) == 1) = (g == 1) := beqInt_nat g 1
    simp (disch := (first | omega | (simp only [List.length_append, List.length_cons, List.length_nil, List.length_replicate, List.length_take, List.length_drop]; omega))) only [↓c_pos, ↓c_neg, dec_t, dec_f, Bool.and_true, Bool.true_and, Bool.and_false, Bool.false_and, Bool.not_true, Bool.not_false, cond_true, cond_false, inR_t, cutR_t, roomB_t, lenOK_t, w64, bs_size, List.length_append, List.length_cons, List.length_nil, bs_extract, bs_append, bs_push, bs_data, bs_empty, bs_lit, catS_bs, eqS_bs, ite_pos', ite_neg', decide_true, decide_false, if_true, if_false, toNatC, getI_nl, nl_len, nl_set, nl_set0, nl_take, nl_drop, nl_rep, nl_app, hdSz_nl, drop0, wu32, wu64, wu8, List.length_set, List.length_replicate, e1, hgi, e2]
  · have e1 : (((toL 1000000000 g).length : Int) == 1) = false := by
      simp only [beq_eq_false_iff_ne, ne_eq]; omega
    have e2 : (g == 1) = false := by
      simp only [beq_eq_false_iff_ne, ne_eq]
      intro e
      rw [e, toL_one hB2 (by omega) (by omega)] at c
      exact c rfl
    rw [e2]
    simp (disch := (first | omega | (simp only [List.length_append, List.length_cons, List.length_nil, List.length_replicate, List.length_take, List.length_drop]; omega))) only [↓c_pos, ↓c_neg, dec_t, dec_f, Bool.and_true, Bool.true_and, Bool.and_false, Bool.false_and, Bool.not_true, Bool.not_false, cond_true, cond_false, inR_t, cutR_t, roomB_t, lenOK_t, w64, bs_size, List.length_append, List.length_cons, List.length_nil, bs_extract, bs_append, bs_push, bs_data, bs_empty, bs_lit, catS_bs, eqS_bs, ite_pos', ite_neg', decide_true, decide_false, if_true, if_false, toNatC, getI_nl, nl_len, nl_set, nl_set0, nl_take, nl_drop, nl_rep, nl_app, hdSz_nl, drop0, wu32, wu64, wu8, List.length_set, List.length_replicate, e1]
theorem coprime_num (q : Rat) : Nat.gcd q.den q.num.natAbs = 1 := by rw [Nat.gcd_comm]; exact q.reduced
theorem eqS48 {s : List UInt8} : eqS (bs s) (⟨#[48]⟩ : ByteArray) = (s == [48]) := rfl
theorem eqS49 {s : List UInt8} : eqS (bs s) (⟨#[49]⟩ : ByteArray) = (s == [49]) := rfl
theorem isQ_div (z : Int) (w : Nat) (hz : z.natAbs < 10 ^ 400) (hw : w < 10 ^ 400) (h0 : w ≠ 0) (hc : Nat.gcd w z.natAbs = 1) : ∃ q : Rat, fits q ∧ q.num = z ∧ q.den = w :=
  ⟨⟨z, w, h0, by rw [Nat.gcd_comm] at hc; exact hc⟩, ⟨hz, hw⟩, rfl, rfl⟩
theorem read_ok (n : Nat) (hn : 10 ^ 400 ≤ n) (q : Rat) (hq : fits q) (k0 : Bool → List PV → List PV → Bool → Option R) :
    p57 n (bs (rtxt q)) k0 = k0 (sg q.num) (NN q.num.natAbs) (NN q.den) true := by
  have hN := Nat.le_trans (by decide +kernel : 2 ^ 20 ≤ 10 ^ 400) hn
  have hl := rtxt_len hq
  obtain ⟨a1, a2, a3⟩ := rtxt_parts q
  have c1 := fun k0 => cut_eq (R := R) n (rtxt q) (by omega) k0
  have li := itoa_len hq.1
  have i1 := fun k0 => integer_eq (R := R) n (Lib.itoa q.num) (by omega) k0
  rw [cutN_itoa, intB_itoa hq.1] at i1
  have ln := dec_lim hq.1
  have q1 := fun k0 => parse_eq (R := R) n (dec q.num.natAbs) (dec_isD _) (by omega) (by omega) k0
  rw [ofD_dec] at q1
  unfold p57
  by_cases hd : q.den = 1
  · have e1 : rtxt q = Lib.itoa q.num := by unfold rtxt; rw [if_pos hd, List.append_nil]
    simp only [if_neg (fun h => a2.1 h hd)] at c1
    rw [e1] at c1 ⊢
    simp only [c1, i1, q1, Bool.not_true, Bool.not_false, condT, condF]
    rw [hd, NN_one]
  · simp only [if_pos (a2.2 hd), a1, a3 hd] at c1
    have d1 := fun k0 => digits_eq (R := R) n (dec q.den) (by have := dec_lim hq.2; omega) k0
    rw [digs_dec hq.2] at d1
    have g1 := fun x1 x3 x5 k0 => gcd1_eq (R := R) n q.num.natAbs q.den hq.1 hq.2 q.den_nz hn x1 x3 x5 k0
    rw [coprime_num] at g1
    have e48 : (dec q.den == [48]) = false := by
      simp only [beq_eq_false_iff_ne, ne_eq]
      intro e; exact q.den_nz (dec_inj (e.trans dec_zero.symm))
    have e49 : (dec q.den == [49]) = false := by
      simp only [beq_eq_false_iff_ne, ne_eq]
      intro e; exact hd (dec_inj (e.trans dec_one.symm))
    simp only [c1, i1, q1, d1, eqS48, eqS49, e48, e49, g1, Bool.not_true, Bool.not_false, condT, condF, show ((1 : Nat) == 1) = true from rfl]
theorem read_or (n : Nat) (hn : 10 ^ 400 ≤ n) (s : List UInt8) (hs : s.length < 2 ^ 20) :
    isQ s ∨ ∃ a b c, ∀ k0 : Bool → List PV → List PV → Bool → Option R, p57 n (bs s) k0 = k0 a b c false := by
  have hN := Nat.le_trans (by decide +kernel : 2 ^ 20 ≤ 10 ^ 400) hn
  have c1 := fun k0 => cut_eq (R := R) n s (by omega) k0
  by_cases hsl : idx s < s.length
  · simp only [if_pos hsl] at c1
    have hspl := idx_slash hsl
    have lt : (s.take (idx s)).length < 2 ^ 20 := by rw [List.length_take]; omega
    have lb : (s.drop (idx s + 1)).length < 2 ^ 20 := by rw [List.length_drop]; omega
    generalize s.take (idx s) = t at *
    generalize s.drop (idx s + 1) = b at *
    have i1 := fun k0 => integer_eq (R := R) n t (by omega) k0
    have d1 := fun k0 => digits_eq (R := R) n b (by omega) k0
    cases hI : intB t with
    | false =>
      rw [hI] at i1
      exact Or.inr ⟨false, [], [], fun k0 => by unfold p57; simp only [c1, i1, Bool.not_false, condT]⟩
    | true =>
      rw [hI] at i1
      obtain ⟨z, hz, rfl⟩ := intB_out hI
      rw [cutN_itoa] at i1
      have ln := dec_lim hz
      have q1 := fun k0 => parse_eq (R := R) n (dec z.natAbs) (dec_isD _) (by omega) (by omega) k0
      rw [ofD_dec] at q1
      cases hD : digs b with
      | false =>
        rw [hD] at d1
        exact Or.inr ⟨false, [], [], fun k0 => by unfold p57; simp only [c1, i1, q1, d1, Bool.not_true, Bool.not_false, condT, condF]⟩
      | true =>
        rw [hD] at d1
        obtain ⟨hw, hb⟩ := digs_out hD
        by_cases h48 : b = [48]
        · have e48 : (b == [48]) = true := by simpa using h48
          exact Or.inr ⟨false, [], [], fun k0 => by unfold p57; simp only [c1, i1, q1, d1, eqS48, e48, Bool.not_true, Bool.not_false, condT, condF]⟩
        have e48 : (b == [48]) = false := by simpa using h48
        by_cases h49 : b = [49]
        · have e49 : (b == [49]) = true := by simpa using h49
          exact Or.inr ⟨false, [], [], fun k0 => by unfold p57; simp only [c1, i1, q1, d1, eqS48, eqS49, e48, e49, Bool.not_true, Bool.not_false, condT, condF]⟩
        have e49 : (b == [49]) = false := by simpa using h49
        have hw0 : ofD b ≠ 0 := fun e => h48 (by rw [hb, e, dec_zero])
        have hw1 : ofD b ≠ 1 := fun e => h49 (by rw [hb, e, dec_one])
        have g1 := fun x1 x3 x5 k0 => gcd1_eq (R := R) n z.natAbs (ofD b) hz hw hw0 hn x1 x3 x5 k0
        rw [← hb] at g1
        by_cases hg : Nat.gcd (ofD b) z.natAbs = 1
        · obtain ⟨q, f1, f2, f3⟩ := isQ_div z (ofD b) hz hw hw0 hg
          refine Or.inl ⟨q, f1, ?_⟩
          unfold rtxt
          rw [f2, f3, if_neg hw1, ← hb]
          exact hspl
        · rw [show (Nat.gcd (ofD b) z.natAbs == 1) = false from by simpa using hg] at g1
          exact Or.inr ⟨decide (z < 0), NN z.natAbs, NN (ofD b), fun k0 => by unfold p57; simp only [c1, i1, q1, d1, eqS48, eqS49, e48, e49, g1, Bool.not_true, Bool.not_false, condT, condF]⟩
  · simp only [if_neg hsl] at c1
    have i1 := fun k0 => integer_eq (R := R) n s (by omega) k0
    cases hI : intB s with
    | false =>
      rw [hI] at i1
      exact Or.inr ⟨false, [], [], fun k0 => by unfold p57; simp only [c1, i1, Bool.not_false, condT]⟩
    | true =>
      obtain ⟨z, hz, rfl⟩ := intB_out hI
      obtain ⟨q, f1, f2, f3⟩ := isQ_div z 1 hz (by decide +kernel) (by omega) (Nat.gcd_one_left _)
      refine Or.inl ⟨q, f1, ?_⟩
      unfold rtxt
      rw [f2, f3, if_pos rfl, List.append_nil]
theorem read_bad (n : Nat) (hn : 10 ^ 400 ≤ n) (s : List UInt8) (hs : s.length < 2 ^ 20) (h : ¬ isQ s) : ∃ a b c, ∀ k0 : Bool → List PV → List PV → Bool → Option R, p57 n (bs s) k0 = k0 a b c false :=
  (read_or n hn s hs).resolve_left h
theorem itoa_rtxt (v : Int) : Lib.itoa v = rtxt (v : Rat) := by
  unfold rtxt
  rw [Rat.num_intCast, Rat.den_intCast, if_pos rfl, List.append_nil]
theorem fits_int {v : Int} (h : v.natAbs < 10 ^ 400) : fits (v : Rat) := by
  unfold fits
  rw [Rat.num_intCast, Rat.den_intCast]
  exact ⟨h, by decide +kernel⟩
theorem ValidR_eq (n : Nat) (hn : 10 ^ 400 ≤ n) (s : List UInt8) (hs : s.length < 2 ^ 20) (k0 : Bool → Option R) [Decidable (isQ s)] : p19 n (bs s) k0 = k0 (decide (isQ s)) := by
  have hN := Nat.le_trans (by decide +kernel : 2 ^ 20 ≤ 10 ^ 400) hn
  unfold p19
  by_cases hv : ∃ v : Int, v.natAbs < 10 ^ 9 ∧ s = Lib.itoa v
  · obtain ⟨v, h1, rfl⟩ := hv
    have hq : isQ (Lib.itoa v) := ⟨(v : Rat), fits_int (Nat.lt_trans h1 (by decide +kernel)), itoa_rtxt v⟩
    rw [quick_ok n (by omega) v h1, decide_eq_true hq]; rfl
  · rw [quick_bad n (by omega) s (by omega) hv, condF]
    by_cases hq : isQ s
    · obtain ⟨q, h1, rfl⟩ := hq
      rw [read_ok n hn q h1, decide_eq_true ⟨q, h1, rfl⟩]
    · obtain ⟨a, b, c, h⟩ := read_bad (R := R) n hn s hs hq
      rw [h, decide_eq_false hq]
theorem idx_ne : ∀ {s : List UInt8} {i : Nat} (h : i < s.length), i < idx s → s[i] ≠ 47
  | c :: r, 0, _, h => by
    rw [idx_cons] at h
    intro e
    rw [if_pos (by simpa using e)] at h
    omega
  | c :: r, i + 1, hl, h => by
    rw [idx_cons] at h
    by_cases hc : c = 47
    · rw [if_pos hc] at h; omega
    · rw [if_neg hc] at h
      rw [List.getElem_cons_succ]
      exact idx_ne (by simpa using hl) (by omega)
theorem idx_eq : ∀ {s : List UInt8} (h : idx s < s.length), s[idx s] = 47
  | c :: r, h => by
    by_cases hc : c = 47
    · simp [idx_cons, hc]
    · have e : idx (c :: r) = idx r + 1 := by rw [idx_cons, if_neg hc]
      have h2 : idx r < r.length := by rw [e, List.length_cons] at h; omega
      simp only [e, List.getElem_cons_succ]
      exact idx_eq h2
theorem slash_loop (n : Nat) (s : List UInt8) (hs : s.length < 2 ^ 40) (x2 x3 : Bool) (k0 : ByteArray → Bool → Bool → Int → Option R) : ∀ (d m i : Nat), d + i = s.length → d < m →
    p18_l3L n m (bs s) x2 x3 ((if idx s < i then idx s else s.length : Nat) : Int) i k0 = k0 (bs s) x2 x3 (idx s : Int)
  | 0, m + 1, i, hd, hm => by
    have h1 := idx_le s
    have e : (if idx s < i then idx s else s.length) = idx s := by split <;> omega
    rw [e]
    simp only [p18_l3L, p18_l3B]
    simp (disch := (first | omega | (simp only [List.length_append, List.length_cons, List.length_nil, List.length_replicate, List.length_take, List.length_drop]; omega))) only [↓c_pos, ↓c_neg, dec_t, dec_f, Bool.and_true, Bool.true_and, Bool.and_false, Bool.false_and, Bool.not_true, Bool.not_false, cond_true, cond_false, inR_t, cutR_t, roomB_t, lenOK_t, w64, bs_size, List.length_append, List.length_cons, List.length_nil, bs_extract, bs_append, bs_push, bs_data, bs_empty, bs_lit, catS_bs, eqS_bs, ite_pos', ite_neg', decide_true, decide_false, if_true, if_false]
  | d + 1, m + 1, i, hd, hm => by
    have hi : i < s.length := by omega
    have ih := slash_loop n s hs x2 x3 k0 d m (i + 1) (by omega) (by omega)
    have e1 : (i : Int) + 1 = ((i + 1 : Nat) : Int) := by omega
    have e2 : byteAt (bs s) (i : Int) = (s[i].toNat : Int) := byteAt_nat hi
    have hb := beqB s[i] 47
    rw [show ((47 : UInt8).toNat : Int) = 47 from rfl] at hb
    simp only [p18_l3L, p18_l3B, p18_c4]
    by_cases h1 : idx s < i
    · rw [if_pos (by omega)] at ih
      rw [if_pos h1]
      have e3 : ((idx s : Int) == (s.length : Int)) = false := by rw [beqInt_nat]; simp only [beq_eq_false_iff_ne, ne_eq]; omega
      cases hc : (s[i] == 47)
      · rw [hc] at hb
        simp (disch := (first | omega | (simp only [List.length_append, List.length_cons, List.length_nil, List.length_replicate, List.length_take, List.length_drop]; omega))) only [↓c_pos, ↓c_neg, dec_t, dec_f, Bool.and_true, Bool.true_and, Bool.and_false, Bool.false_and, Bool.not_true, Bool.not_false, cond_true, cond_false, inR_t, cutR_t, roomB_t, lenOK_t, w64, bs_size, List.length_append, List.length_cons, List.length_nil, bs_extract, bs_append, bs_push, bs_data, bs_empty, bs_lit, catS_bs, eqS_bs, ite_pos', ite_neg', decide_true, decide_false, if_true, if_false, e1, e2, hb, ih]
      · rw [hc] at hb
        simp (disch := (first | omega | (simp only [List.length_append, List.length_cons, List.length_nil, List.length_replicate, List.length_take, List.length_drop]; omega))) only [↓c_pos, ↓c_neg, dec_t, dec_f, Bool.and_true, Bool.true_and, Bool.and_false, Bool.false_and, Bool.not_true, Bool.not_false, cond_true, cond_false, inR_t, cutR_t, roomB_t, lenOK_t, w64, bs_size, List.length_append, List.length_cons, List.length_nil, bs_extract, bs_append, bs_push, bs_data, bs_empty, bs_lit, catS_bs, eqS_bs, ite_pos', ite_neg', decide_true, decide_false, if_true, if_false, e1, e2, hb, e3, ih]
    · rw [if_neg h1]
      have e3 : ((s.length : Int) == (s.length : Int)) = true := by simp
      by_cases h2 : idx s = i
      · subst h2
        have hc2 : (s[idx s] == 47) = true := by simpa using idx_eq hi
        rw [hc2] at hb
        rw [if_pos (by omega)] at ih
        simp (disch := (first | omega | (simp only [List.length_append, List.length_cons, List.length_nil, List.length_replicate, List.length_take, List.length_drop]; omega))) only [↓c_pos, ↓c_neg, dec_t, dec_f, Bool.and_true, Bool.true_and, Bool.and_false, Bool.false_and, Bool.not_true, Bool.not_false, cond_true, cond_false, inR_t, cutR_t, roomB_t, lenOK_t, w64, bs_size, List.length_append, List.length_cons, List.length_nil, bs_extract, bs_append, bs_push, bs_data, bs_empty, bs_lit, catS_bs, eqS_bs, ite_pos', ite_neg', decide_true, decide_false, if_true, if_false, e1, e2, hb, e3, ih]
      · have hc2 : (s[i] == 47) = false := by
          have := idx_ne hi (by omega)
          simpa using this
        rw [hc2] at hb
        rw [if_neg (by omega)] at ih
        simp (disch := (first | omega | (simp only [List.length_append, List.length_cons, List.length_nil, List.length_replicate, List.length_take, List.length_drop]; omega))) only [↓c_pos, ↓c_neg, dec_t, dec_f, Bool.and_true, Bool.true_and, Bool.and_false, Bool.false_and, Bool.not_true, Bool.not_false, cond_true, cond_false, inR_t, cutR_t, roomB_t, lenOK_t, w64, bs_size, List.length_append, List.length_cons, List.length_nil, bs_extract, bs_append, bs_push, bs_data, bs_empty, bs_lit, catS_bs, eqS_bs, ite_pos', ite_neg', decide_true, decide_false, if_true, if_false, e1, e2, hb, ih]
theorem rread_split (n : Nat) (s : List UInt8) (hs : s.length < 2 ^ 40) (hn : s.length < n) (k0 : Bool → List PV → Bool → List PV → Bool → Option R) :
    p18 n (bs s) k0 = p18_c11 n (bs s) false false (bs (s.take (idx s))) (bs (if idx s < s.length then s.drop (idx s + 1) else [49])) k0 := by
  have hl := fun k0 => slash_loop (R := R) n s hs false false k0 s.length n 0 (by omega) hn
  simp only [Nat.not_lt_zero, if_false] at hl
  rw [show ((0 : Nat) : Int) = 0 from rfl] at hl
  have h1 := idx_le s
  have e2 : List.drop (0 : Int).toNat (List.take (idx s) s) = s.take (idx s) := rfl
  have e3 : List.drop 0 (List.take (idx s) s) = s.take (idx s) := rfl
  have e4 : List.drop (idx s + 1) (List.take s.length s) = s.drop (idx s + 1) := by rw [List.take_length]
  have e5 : (idx s : Int) + 1 = ((idx s + 1 : Nat) : Int) := by omega
  unfold p18 p18_l3
  by_cases h : idx s < s.length
  · rw [if_pos h]
    simp (disch := (first | omega | (simp only [List.length_append, List.length_cons, List.length_nil, List.length_replicate, List.length_take, List.length_drop]; omega))) only [↓c_pos, ↓c_neg, dec_t, dec_f, Bool.and_true, Bool.true_and, Bool.and_false, Bool.false_and, Bool.not_true, Bool.not_false, cond_true, cond_false, inR_t, cutR_t, roomB_t, lenOK_t, w64, bs_size, List.length_append, List.length_cons, List.length_nil, bs_extract, bs_append, bs_push, bs_data, bs_empty, bs_lit, catS_bs, eqS_bs, ite_pos', ite_neg', decide_true, decide_false, if_true, if_false, hl, toNatC, e2, e3, e4, e5]
  · rw [if_neg h]
    simp (disch := (first | omega | (simp only [List.length_append, List.length_cons, List.length_nil, List.length_replicate, List.length_take, List.length_drop]; omega))) only [↓c_pos, ↓c_neg, dec_t, dec_f, Bool.and_true, Bool.true_and, Bool.and_false, Bool.false_and, Bool.not_true, Bool.not_false, cond_true, cond_false, inR_t, cutR_t, roomB_t, lenOK_t, w64, bs_size, List.length_append, List.length_cons, List.length_nil, bs_extract, bs_append, bs_push, bs_data, bs_empty, bs_lit, catS_bs, eqS_bs, ite_pos', ite_neg', decide_true, decide_false, if_true, if_false, hl, toNatC, e2, e3, e4, e5]
theorem rread_core (n : Nat) (hn : 10 ^ 400 ≤ n) (s : List UInt8) (z : Int) (w : Int) (hz : z.natAbs < 10 ^ 400) (hw : w.natAbs < 10 ^ 400) (hw0 : w ≠ 0) (x2 x3 : Bool) (k0 : Bool → List PV → Bool → List PV → Bool → Option R) :
    p18_c11 n (bs s) x2 x3 (bs (Lib.itoa z)) (bs (Lib.itoa w)) k0 = k0 (sg (Rat.divInt z w).num) (II (Rat.divInt z w).num.natAbs) false (II (Rat.divInt z w).den) (rtxt (Rat.divInt z w) == s) := by
  have hN := big_n hn
  have l1 := ll_lim hz
  have l2 := ll_lim hw
  have wn : w.natAbs < n := Nat.lt_of_lt_of_le hw hn
  have li := itoa_len hz
  have lw := itoa_len hw
  have v1 := fun k => valid_eq (R := R) n (Lib.itoa z) (by omega) (by omega) k
  have v2 := fun k => valid_eq (R := R) n (Lib.itoa w) (by omega) (by omega) k
  rw [intB_itoa hz] at v1
  rw [intB_itoa hw] at v2
  have o1 := fun k => of_eq (R := R) n z (by omega) hN k
  have o2 := fun k => of_eq (R := R) n w (by omega) hN k
  have n1 := fun k => new_eq (R := R) n z w hw0 (by omega) (by omega) hN wn k
  have t1 := fun k => ratTxt_eq (R := R) n (Rat.divInt z w) (Nat.le_trans (ll_mono (num_le z w hw0)) (by omega)) (Nat.le_trans (ll_mono (den_le z w hw0)) (by omega)) hN k
  have e1 : (((ll w.natAbs : Nat) : Int) == 0) = false := by
    rw [beqInt0]; simp only [beq_eq_false_iff_ne, ne_eq, ll_eq0]; omega
  simp only [p18_c11, p18_c13, v1, v2, o1, o2, p49, II_len, e1, n1, t1, eqS_bs, Bool.not_true, condF]
theorem rread_ok (n : Nat) (hn : 10 ^ 400 ≤ n) (q : Rat) (hq : fits q) (k0 : Bool → List PV → Bool → List PV → Bool → Option R) :
    p18 n (bs (rtxt q)) k0 = k0 (sg q.num) (II q.num.natAbs) false (II q.den) true := by
  have hN := big_n hn
  have hl := rtxt_len hq
  obtain ⟨a1, a2, a3⟩ := rtxt_parts q
  have e : (if idx (rtxt q) < (rtxt q).length then (rtxt q).drop (idx (rtxt q) + 1) else [49]) = Lib.itoa (q.den : Int) := by
    rw [itoa_pos]
    by_cases hd : q.den = 1
    · rw [if_neg (fun h => a2.1 h hd), hd, dec_one]
    · rw [if_pos (a2.2 hd), a3 hd]
  have hd := q.den_nz
  rw [rread_split n _ (by omega) (by omega), e, a1, rread_core n hn (rtxt q) q.num q.den hq.1 (by rw [Int.natAbs_natCast]; exact hq.2) (by omega), Rat.num_divInt_den]
  rw [show (rtxt q == rtxt q) = true from by simp]
theorem rread_or (n : Nat) (hn : 10 ^ 400 ≤ n) (s : List UInt8) (hs : s.length < 2 ^ 17) :
    isQ s ∨ ∃ a b c d, ∀ k0 : Bool → List PV → Bool → List PV → Bool → Option R, p18 n (bs s) k0 = k0 a b c d false := by
  have hN := big_n hn
  have sp := fun k0 => rread_split (R := R) n s (by omega) (by omega) k0
  have lt : (s.take (idx s)).length < 2 ^ 17 := by rw [List.length_take]; omega
  have lb : (if idx s < s.length then s.drop (idx s + 1) else [49]).length < 2 ^ 17 := by
    split
    · rw [List.length_drop]; omega
    · simp
  have hspl : s.take (idx s) = s.take (idx s) := rfl
  generalize s.take (idx s) = t at *
  generalize (if idx s < s.length then s.drop (idx s + 1) else [49]) = b at *
  have v1 := fun k => valid_eq (R := R) n t (by omega) (by omega) k
  have v2 := fun k => valid_eq (R := R) n b (by omega) (by omega) k
  cases hI : intB t with
  | false =>
    rw [hI] at v1
    exact Or.inr ⟨false, [], false, [], fun k0 => by rw [sp]; simp only [p18_c11, v1, Bool.not_false, condT]⟩
  | true =>
    rw [hI] at v1
    cases hJ : intB b with
    | false =>
      rw [hJ] at v2
      exact Or.inr ⟨false, [], false, [], fun k0 => by rw [sp]; simp only [p18_c11, v1, v2, Bool.not_false, Bool.not_true, condT, condF]⟩
    | true =>
      rw [hJ] at v2
      obtain ⟨z, hz, rfl⟩ := intB_out hI
      obtain ⟨w, hw, rfl⟩ := intB_out hJ
      by_cases hw0 : w = 0
      · subst hw0
        have o2 := fun k => of_eq (R := R) n 0 (by rw [show (0 : Int).natAbs = 0 from rfl, ll_zero]; omega) hN k
        have e1 : (((ll (0 : Int).natAbs : Nat) : Int) == 0) = true := by rw [show (0 : Int).natAbs = 0 from rfl, ll_zero]; rfl
        exact Or.inr ⟨false, [], false, [], fun k0 => by rw [sp]; simp only [p18_c11, p18_c13, v1, v2, o2, p49, II_len, e1, Bool.not_false, Bool.not_true, condT, condF]⟩
      · have hc := fun k0 => rread_core (R := R) n hn s z w hz hw hw0 false false k0
        by_cases he : rtxt (Rat.divInt z w) = s
        · exact Or.inl ⟨Rat.divInt z w, ⟨Nat.lt_of_le_of_lt (num_le z w hw0) hz, Nat.lt_of_le_of_lt (den_le z w hw0) hw⟩, he.symm⟩
        · have e2 : (rtxt (Rat.divInt z w) == s) = false := by simpa using he
          rw [e2] at hc
          exact Or.inr ⟨_, _, _, _, fun k0 => by rw [sp, hc]⟩
theorem rread_bad (n : Nat) (hn : 10 ^ 400 ≤ n) (s : List UInt8) (hs : s.length < 2 ^ 17) (h : ¬ isQ s) : ∃ a b c d, ∀ k0 : Bool → List PV → Bool → List PV → Bool → Option R, p18 n (bs s) k0 = k0 a b c d false :=
  (rread_or n hn s hs).resolve_left h
end Go.Proofs.YtfbahcfojiaeaaaGreatDoor


set_option linter.unusedVariables false
set_option maxRecDepth 100000
namespace Go.Proofs.YtfbahcfojiaeaaaGreatDoor
open Go Th Go.Proofs
section
variable {R : Type}
end
end Go.Proofs.YtfbahcfojiaeaaaGreatDoor


set_option linter.unusedVariables false
set_option maxRecDepth 100000
namespace Go.Proofs.YtfbahcfojiaeaaaGreatDoor
open Go Th Go.Proofs
section
variable {R : Type}
end
end Go.Proofs.YtfbahcfojiaeaaaGreatDoor


set_option linter.unusedVariables false
set_option maxRecDepth 100000
namespace Go.Proofs.YtfbahcfojiaeaaaGreatDoor
open Go Th Go.Proofs
section
variable {R : Type}
end
end Go.Proofs.YtfbahcfojiaeaaaGreatDoor


set_option linter.unusedVariables false
set_option maxRecDepth 100000
namespace Go.Proofs.YtfbahcfojiaeaaaGreatDoor
open Go Th Go.Proofs
section
variable {R : Type}
end
end Go.Proofs.YtfbahcfojiaeaaaGreatDoor


set_option linter.unusedVariables false
set_option linter.unusedSimpArgs false
namespace Go.Proofs.YtfbahcfojiaeaaaGreatDoor
open Go Th Go.Proofs
variable {R : Type}
def resK (q : Rat) (k0 : ByteArray → Int → Option R) : Option R := if fits q then k0 (bs (rtxt q)) 0 else k0 (bs []) 5
theorem tl_mul {a b i j : Nat} (ha : (toL 1000000000 a).length ≤ i) (hb : (toL 1000000000 b).length ≤ j) : (toL 1000000000 (a * b)).length ≤ i + j := by
  rw [toL_len hB2] at *
  rw [Nat.pow_add]
  exact Nat.mul_lt_mul_of_lt_of_lt ha hb
theorem tl_add {a b i : Nat} (ha : (toL 1000000000 a).length ≤ i) (hb : (toL 1000000000 b).length ≤ i) : (toL 1000000000 (a + b)).length ≤ i + 1 := by
  rw [toL_len hB2] at *
  rw [Nat.pow_succ]; omega
theorem tl_mono {a b i : Nat} (h : a ≤ b) (hb : (toL 1000000000 b).length ≤ i) : (toL 1000000000 a).length ≤ i := lenB_mono hb h
theorem lt_mulP {a b i j : Nat} (ha : a < 10 ^ i) (hb : b < 10 ^ j) : a * b < 10 ^ (i + j) := by
  rw [Nat.pow_add]; exact Nat.mul_lt_mul_of_lt_of_lt ha hb
theorem lt_mul400 {a b : Nat} (ha : a < 10 ^ 400) (hb : b < 10 ^ 400) : a * b < 10 ^ 800 := by
  have h := lt_mulP ha hb
  have e : 400 + 400 = 800 := rfl
  rw [e] at h; exact h
theorem sum_eq (n : Nat) (hn : 2 ^ 20 ≤ n) (neg neg2 : Bool) (a b c d : Nat) (ha : (toL 1000000000 a).length ≤ 100) (hb : (toL 1000000000 b).length ≤ 100) (hc : (toL 1000000000 c).length ≤ 100) (hd : (toL 1000000000 d).length ≤ 100) :
    ∃ (ng : Bool) (e : Nat), (∀ k0 : Bool → List PV → List PV → Option R, p66 n neg (NN a) (NN b) neg2 (NN c) (NN d) k0 = k0 ng (NN e) (NN (b * d))) ∧ zs ng e = zs neg a * d + zs neg2 c * b ∧ (toL 1000000000 e).length ≤ 201 := by
  have l1 := tl_mul ha hd
  have l2 := tl_mul hc hb
  have m1 := fun k0 => times_eq (R := R) n a d (by omega) (by omega) (by omega) k0
  have m2 := fun k0 => times_eq (R := R) n c b (by omega) (by omega) (by omega) k0
  have m3 := fun k0 => times_eq (R := R) n b d (by omega) (by omega) (by omega) k0
  have z1 : zs neg a * (d : Int) = zs neg (a * d) := by cases neg <;> simp [zs, Int.neg_mul]
  have z2 : zs neg2 c * (b : Int) = zs neg2 (c * b) := by cases neg2 <;> simp [zs, Int.neg_mul]
  rw [z1, z2]
  by_cases hs : neg = neg2
  · subst hs
    have p1 := fun k0 => plus_eq (R := R) n (a * d) (c * b) (by omega) (by omega) (by omega) (by omega) k0
    refine ⟨neg, a * d + c * b, fun k0 => ?_, ?_, tl_add l1 l2⟩
    · unfold p66
      have e : (neg == neg) = true := by simp
      simp only [m1, m2, m3, e, condT, p1]
    · generalize a * d = x
      generalize c * b = y
      cases neg
      · simp only [zs, Bool.false_eq_true, if_false]; omega
      · simp only [zs, if_true]; omega
  · have e : (neg == neg2) = false := by simpa using hs
    have hneg : neg2 = !neg := by cases neg <;> cases neg2 <;> simp_all
    have c1 := fun k0 => cmp_eq (R := R) n (a * d) (c * b) (by omega) (by omega) (by omega) k0
    by_cases hlt : a * d < c * b
    · have p1 := fun k0 => minus_eq (R := R) n (c * b) (a * d) (by omega) (by omega) (by omega) k0
      have e2 : decide (cmpN (a * d) (c * b) < 0) = true := by rw [show cmpN (a * d) (c * b) = -1 from by unfold cmpN; rw [if_pos hlt]]; rfl
      refine ⟨neg2, c * b - a * d, fun k0 => ?_, ?_, tl_mono (Nat.sub_le _ _) (Nat.le_trans l2 (by omega))⟩
      · unfold p66
        simp only [m1, m2, m3, e, condF, c1, e2, condT, p1]
      · rw [hneg]
        generalize a * d = x at *
        generalize c * b = y at *
        cases neg
        · simp only [zs, Bool.not_false, if_true, Bool.false_eq_true, if_false]; omega
        · simp only [zs, Bool.not_true, if_true, Bool.false_eq_true, if_false]; omega
    · have p1 := fun k0 => minus_eq (R := R) n (a * d) (c * b) (by omega) (by omega) (by omega) k0
      have e2 : decide (cmpN (a * d) (c * b) < 0) = false := by
        apply decide_eq_false
        unfold cmpN; rw [if_neg hlt]; split <;> omega
      refine ⟨neg, a * d - c * b, fun k0 => ?_, ?_, tl_mono (Nat.sub_le _ _) (Nat.le_trans l1 (by omega))⟩
      · unfold p66
        simp only [m1, m2, m3, e, condF, c1, e2, p1]
      · rw [hneg]
        generalize a * d = x at *
        generalize c * b = y at *
        cases neg
        · simp only [zs, Bool.not_false, if_true, Bool.false_eq_true, if_false]; omega
        · simp only [zs, Bool.not_true, if_true, Bool.false_eq_true, if_false]; omega
theorem mk_add (p q : Rat) : mkRat (p.num * q.den + q.num * p.den) (p.den * q.den) = p + q := by
  rw [← Rat.mkRat_add_mkRat _ _ p.den_nz q.den_nz, Rat.mkRat_self, Rat.mkRat_self]
theorem n20 {n : Nat} (hn : 10 ^ 1000 ≤ n) : 2 ^ 20 < n := Nat.lt_of_lt_of_le (by decide +kernel) hn
theorem n400 {n : Nat} (hn : 10 ^ 1000 ≤ n) : 10 ^ 400 ≤ n := Nat.le_trans (by decide +kernel) hn
theorem n800 {n a b : Nat} (hn : 10 ^ 1000 ≤ n) (ha : a < 10 ^ 400) (hb : b < 10 ^ 400) : a * b < n := Nat.lt_of_lt_of_le (lt_mul400 ha hb) (Nat.le_trans (by decide +kernel) hn)
theorem textOf (n : Nat) (hn : 10 ^ 1000 ≤ n) (ng : Bool) (e f : Nat) (hf : f ≠ 0) (he : (toL 1000000000 e).length ≤ 300) (hfl : (toL 1000000000 f).length ≤ 300) (hfn : f < n) (q : Rat) (hq : mkRat (zs ng e) f = q) (k0 : ByteArray → Int → Option R) : p46 n ng (NN e) (NN f) k0 = resK q k0 := by
  have h20 := n20 hn
  rw [ratText_eq n ng e f hf (by omega) (by omega) h20 hfn, hq]; rfl
theorem twoAdd_ok (n : Nat) (hn : 10 ^ 1000 ≤ n) (p q : Rat) (hp : fits p) (hq : fits q) (k0 : ByteArray → Int → Option R) : p64 n (bs (rtxt p)) (bs (rtxt q)) k0 = resK (p + q) k0 := by
  have h20 := n20 hn
  have r1 := fun k0 => read_ok (R := R) n (n400 hn) p hp k0
  have r2 := fun k0 => read_ok (R := R) n (n400 hn) q hq k0
  have m1 := lim_len hp.1
  have m2 := lim_len hp.2
  have m3 := lim_len hq.1
  have m4 := lim_len hq.2
  obtain ⟨ng, e, s1, s2, s3⟩ := sum_eq (R := R) n (by omega) (sg p.num) (sg q.num) p.num.natAbs p.den q.num.natAbs q.den (by omega) (by omega) (by omega) (by omega)
  rw [show zs (sg p.num) p.num.natAbs = p.num from zs_self _, show zs (sg q.num) q.num.natAbs = q.num from zs_self _] at s2
  have t := fun k0 => textOf (R := R) n hn ng e (p.den * q.den) (Nat.mul_ne_zero p.den_nz q.den_nz) (by omega) (Nat.le_trans (tl_mul m2 m4) (by omega)) (n800 hn hp.2 hq.2) (p + q) (by rw [s2, mk_add]) k0
  have e0 : ((0 : Int) != 0) = false := rfl
  simp only [p64, p64_c5, p65, r1, r2, s1, t, e0, Bool.not_true, condF]
end Go.Proofs.YtfbahcfojiaeaaaGreatDoor


set_option linter.unusedVariables false
set_option linter.unusedSimpArgs false
namespace Go.Proofs.YtfbahcfojiaeaaaGreatDoor
open Go Th Go.Proofs
variable {R : Type}
def smallT (s : List UInt8) : Prop := ∃ v : Int, v.natAbs < 10 ^ 9 ∧ s = Lib.itoa v
theorem quick_any (n : Nat) (hn : 20 ≤ n) (s : List UInt8) (hs : s.length < 2 ^ 40) : ∃ a d, (∀ k0 : Int → Bool → Option R, p56 n (bs s) k0 = k0 a d) ∧ (¬ smallT s → d = false) := by
  by_cases h : smallT s
  · obtain ⟨v, h1, rfl⟩ := h
    exact ⟨v, true, fun k0 => quick_ok n hn v h1 k0, fun h => absurd ⟨v, h1, rfl⟩ h⟩
  · exact ⟨0, false, fun k0 => quick_bad n hn s hs h k0, fun _ => rfl⟩
theorem both_ok (n : Nat) (hn : 20 ≤ n) (v w : Int) (hv : v.natAbs < 10 ^ 9) (hw : w.natAbs < 10 ^ 9) (k0 : Int → Int → Bool → Option R) : p62 n (bs (Lib.itoa v)) (bs (Lib.itoa w)) k0 = k0 v w true := by
  have q1 := fun k0 => quick_ok (R := R) n hn v hv k0
  have q2 := fun k0 => quick_ok (R := R) n hn w hw k0
  simp only [p62, q1, q2, condT]
theorem both_bad (n : Nat) (hn : 20 ≤ n) (s t : List UInt8) (hs : s.length < 2 ^ 40) (ht : t.length < 2 ^ 40) (h : ¬ (smallT s ∧ smallT t)) : ∃ a b, ∀ k0 : Int → Int → Bool → Option R, p62 n (bs s) (bs t) k0 = k0 a b false := by
  obtain ⟨a, d, q1, f1⟩ := quick_any (R := R) n hn s hs
  obtain ⟨b, e, q2, f2⟩ := quick_any (R := R) n hn t ht
  cases d with
  | false => exact ⟨a, b, fun k0 => by simp only [p62, q1, q2, condF]⟩
  | true =>
    have hS : smallT s := Classical.byContradiction fun h => by have := f1 h; cases this
    have hT : ¬ smallT t := fun hT => h ⟨hS, hT⟩
    have e0 := f2 hT
    subst e0
    exact ⟨a, b, fun k0 => by simp only [p62, q1, q2, condT]⟩
theorem itoaB_bs (x : Int) : itoaB x = bs (Lib.itoa x) := rfl
theorem resK_int (v : Int) (h : v.natAbs < 10 ^ 400) (k0 : ByteArray → Int → Option R) : resK (v : Rat) k0 = k0 (bs (Lib.itoa v)) 0 := by
  unfold resK
  rw [if_pos (fits_int h), itoa_rtxt]
theorem small_rat {p : Rat} (h : smallT (rtxt p)) : ∃ v : Int, v.natAbs < 10 ^ 9 ∧ p = (v : Rat) := by
  obtain ⟨v, h1, h2⟩ := h
  exact ⟨v, h1, rtxt_inj (h2.trans (itoa_rtxt v))⟩
theorem i64R_t {x : Int} (h1 : -9223372036854775808 ≤ x) (h2 : x < 9223372036854775808) : i64R x = true := by
  unfold i64R; simp; omega
theorem Add_ok (n : Nat) (hn : 10 ^ 1000 ≤ n) (p q : Rat) (hp : fits p) (hq : fits q) (k0 : ByteArray → Int → Option R) : p27 n (bs (rtxt p)) (bs (rtxt q)) k0 = resK (p + q) k0 := by
  have h20 := n20 hn
  have lp := rtxt_len hp
  have lq := rtxt_len hq
  by_cases hb : smallT (rtxt p) ∧ smallT (rtxt q)
  · obtain ⟨v, hv, rfl⟩ := small_rat hb.1
    obtain ⟨w, hw, rfl⟩ := small_rat hb.2
    have b1 := fun k0 => both_ok (R := R) n (by omega) v w hv hw k0
    rw [← Rat.intCast_add, resK_int _ (Nat.lt_of_le_of_lt (by omega : (v + w).natAbs ≤ 2000000000) (by decide +kernel)), ← itoa_rtxt, ← itoa_rtxt]
    have e1 : IntKind.i64.wrap (v + w) = v + w := w64 (by omega) (by omega)
    have e2 : i64R (v + w) = true := i64R_t (by omega) (by omega)
    simp only [p27, b1, condT, e1, e2, itoaB_bs]
  · obtain ⟨a, b, b1⟩ := both_bad (R := R) n (by omega) (rtxt p) (rtxt q) (by omega) (by omega) hb
    have t := fun k0 => twoAdd_ok (R := R) n hn p q hp hq k0
    simp only [p27, b1, condF, t]
end Go.Proofs.YtfbahcfojiaeaaaGreatDoor


set_option linter.unusedVariables false
set_option linter.unusedSimpArgs false
namespace Go.Proofs.YtfbahcfojiaeaaaGreatDoor
open Go Th Go.Proofs
variable {R : Type}
theorem resK_fit {q : Rat} (h : fits q) (k0 : ByteArray → Int → Option R) : resK q k0 = k0 (bs (rtxt q)) 0 := by unfold resK; rw [if_pos h]
end Go.Proofs.YtfbahcfojiaeaaaGreatDoor


set_option linter.unusedVariables false
set_option maxRecDepth 100000
namespace Go.Proofs.YtfbahcfojiaeaaaGreatDoor
open Go Th Go.Proofs
def ann24 : Ann := { loops := [], cuts := [], frz := [], rm := [.id] }
noncomputable abbrev env24 (n : Nat) : Env := fun i => bif Nat.beq i 60 then some (fs60 n) else (fun i => bif Nat.beq i 59 then some (fs59 n) else (fun i => bif Nat.beq i 15 then some (fs15 n) else (fun _ => none) i) i) i
theorem envok24 (n : Nat) : EnvOK Tryz.prog GI (env24 n) := EnvOK.cons (EnvOK.cons (EnvOK.cons (EnvOK.nil) (ok15 n)) (ok59 n)) (ok60 n)
noncomputable def p24 {R : Type} (n : Nat) (x1 : Bool) (x2 : List PV) (x3 : Bool) (x4 : List PV) (x5 : Bool) (x6 : List PV) (x7 : Bool) (x8 : List PV) (k0 : Bool → List PV → Bool → List PV → Option R) : Option R :=
  p60 n x1 x2 x7 x8 (fun y9 y10 => p60 n x5 x6 x3 x4 (fun y11 y12 => p59 n y9 y10 y11 y12 (fun y13 y14 => p60 n x3 x4 x7 x8 (fun y15 y16 => p15 n y13 y14 y15 y16 (fun y17 y18 y19 y20 => k0 y17 y18 y19 y20)))))
noncomputable abbrev lo24 {R : Type} (n : Nat) : Orc R := fun i vs K => none
noncomputable abbrev cu24 {R : Type} (n : Nat) : Orc R := fun i vs K => none
section
variable {R : Type}
abbrev K24 (R : Type) (n : Nat) := PartOK (R := R) Tryz.prog (env24 n) ann24 n (22, []) (lo24 n) (cu24 n)
theorem pa24 (n : Nat) : allP (K24 R n) (partsOf ann24 (bodyOf Tryz.f24)) := by
  rw [show partsOf ann24 (bodyOf Tryz.f24) = [] from by kernel_rfl]; exact trivial
end
abbrev t24 : Sl (List SV) := (.c (sP (sAgg (.c sBool (.c sSh (.c sBool (.c sSh .n)))))) (.c (sP (sAgg (.c sBool (.c sSh (.c sBool (.c sSh .n)))))) .n))
noncomputable abbrev f24 (n : Nat) {R : Type} (K : List SV → Option R) : t24.T (Option R) := fun x1 x2 x3 x4 x5 x6 x7 x8 => p24 n x1 x2 x3 x4 x5 x6 x7 x8 (fun y1 y2 y3 y4 => K [.p (.agg [.v (.bool y1), .sh y2, .v (.bool y3), .sh y4])])
theorem ep24 {R : Type} (n : Nat) (K : List SV → Option R) (x1 : Bool) (x2 : List PV) (x3 : Bool) (x4 : List PV) (x5 : Bool) (x6 : List PV) (x7 : Bool) (x8 : List PV) : evFn Tryz.prog (env24 n) ann24 n Tryz.f24 [.p (.agg [.v (.bool x1), .sh x2, .v (.bool x3), .sh x4]), .p (.agg [.v (.bool x5), .sh x6, .v (.bool x7), .sh x8])] K = f24 n K x1 x2 x3 x4 x5 x6 x7 x8 := by
  rw [evFn_evOi (c := bodyOf Tryz.f24) (by kernel_rfl) (pa24 n)]; kernel_rfl
noncomputable abbrev fs24 (n : Nat) : FS := { om := [false, false], run := fun args K => oget (t24.ap args (f24 n K)) none }
theorem ok24 (n : Nat) : FSound Tryz.prog GI 24 (fs24 n) :=
  FSound.good (envok24 n) (ann := ann24) (n := n) Tryz.func24
    (.cons (envok24 n) t24 (f24 n) (fun K x1 x2 x3 x4 x5 x6 x7 x8 => ep24 n K x1 x2 x3 x4 x5 x6 x7 x8) .nil)
    (by kernel_rfl) (by kernel_rfl) (by kernel_rfl)
end Go.Proofs.YtfbahcfojiaeaaaGreatDoor


set_option linter.unusedVariables false
set_option maxRecDepth 100000
namespace Go.Proofs.YtfbahcfojiaeaaaGreatDoor
open Go Th Go.Proofs
section
variable {R : Type}
end
end Go.Proofs.YtfbahcfojiaeaaaGreatDoor


set_option linter.unusedVariables false
set_option maxRecDepth 100000
namespace Go.Proofs.YtfbahcfojiaeaaaGreatDoor
open Go Th Go.Proofs
section
variable {R : Type}
end
end Go.Proofs.YtfbahcfojiaeaaaGreatDoor


set_option linter.unusedVariables false
set_option maxRecDepth 100000
namespace Go.Proofs.YtfbahcfojiaeaaaGreatDoor
open Go Th Go.Proofs
section
variable {R : Type}
end
end Go.Proofs.YtfbahcfojiaeaaaGreatDoor


set_option linter.unusedVariables false
set_option maxRecDepth 100000
namespace Go.Proofs.YtfbahcfojiaeaaaGreatDoor
open Go Th Go.Proofs
section
variable {R : Type}
end
end Go.Proofs.YtfbahcfojiaeaaaGreatDoor


set_option linter.unusedVariables false
set_option maxRecDepth 100000
namespace Go.Proofs.YtfbahcfojiaeaaaGreatDoor
open Go Th Go.Proofs
section
variable {R : Type}
end
abbrev t37 : Sl (List SV) := (.c (sP (sAgg (.c sBool (.c sSh (.c sBool (.c sSh .n)))))) (.c (sP (sAgg (.c sBool (.c sSh (.c sBool (.c sSh .n)))))) .n))
end Go.Proofs.YtfbahcfojiaeaaaGreatDoor


set_option linter.unusedVariables false
set_option maxRecDepth 100000
namespace Go.Proofs.YtfbahcfojiaeaaaGreatDoor
open Go Th Go.Proofs
section
variable {R : Type}
end
end Go.Proofs.YtfbahcfojiaeaaaGreatDoor


set_option linter.unusedVariables false
set_option maxRecDepth 100000
namespace Go.Proofs.YtfbahcfojiaeaaaGreatDoor
open Go Th Go.Proofs
section
variable {R : Type}
end
end Go.Proofs.YtfbahcfojiaeaaaGreatDoor


set_option linter.unusedVariables false
set_option maxRecDepth 100000
namespace Go.Proofs.YtfbahcfojiaeaaaGreatDoor
open Go Th Go.Proofs
section
variable {R : Type}
end
end Go.Proofs.YtfbahcfojiaeaaaGreatDoor


set_option linter.unusedVariables false
set_option maxRecDepth 100000
namespace Go.Proofs.YtfbahcfojiaeaaaGreatDoor
open Go Th Go.Proofs
def ann61 : Ann := { loops := [], cuts := [], frz := [], rm := [.id] }
noncomputable abbrev env61 (n : Nat) : Env := fun _ => none
theorem envok61 (n : Nat) : EnvOK Tryz.prog GI (env61 n) := EnvOK.nil
noncomputable def p61 {R : Type} (n : Nat) (x1 : Bool) (x2 : List PV) (k0 : Bool → Option R) : Option R :=
  k0 (decide (((x2).length : Int) > 400))
noncomputable abbrev lo61 {R : Type} (n : Nat) : Orc R := fun i vs K => none
noncomputable abbrev cu61 {R : Type} (n : Nat) : Orc R := fun i vs K => none
section
variable {R : Type}
abbrev K61 (R : Type) (n : Nat) := PartOK (R := R) Tryz.prog (env61 n) ann61 n (7, []) (lo61 n) (cu61 n)
theorem pa61 (n : Nat) : allP (K61 R n) (partsOf ann61 (bodyOf Tryz.f61)) := by
  rw [show partsOf ann61 (bodyOf Tryz.f61) = [] from by kernel_rfl]; exact trivial
end
abbrev t61 : Sl (List SV) := (.c (sP (sAgg (.c sBool (.c sSh .n)))) .n)
noncomputable abbrev f61 (n : Nat) {R : Type} (K : List SV → Option R) : t61.T (Option R) := fun x1 x2 => p61 n x1 x2 (fun y1 => K [.p (.v (.bool y1))])
theorem ep61 {R : Type} (n : Nat) (K : List SV → Option R) (x1 : Bool) (x2 : List PV) : evFn Tryz.prog (env61 n) ann61 n Tryz.f61 [.p (.agg [.v (.bool x1), .sh x2])] K = f61 n K x1 x2 := by
  rw [evFn_evOi (c := bodyOf Tryz.f61) (by kernel_rfl) (pa61 n)]; kernel_rfl
noncomputable abbrev fs61 (n : Nat) : FS := { om := [false], run := fun args K => oget (t61.ap args (f61 n K)) none }
theorem ok61 (n : Nat) : FSound Tryz.prog GI 61 (fs61 n) :=
  FSound.good (envok61 n) (ann := ann61) (n := n) Tryz.func61
    (.cons (envok61 n) t61 (f61 n) (fun K x1 x2 => ep61 n K x1 x2) .nil)
    (by kernel_rfl) (by kernel_rfl) (by kernel_rfl)
end Go.Proofs.YtfbahcfojiaeaaaGreatDoor


set_option linter.unusedVariables false
set_option maxRecDepth 100000
namespace Go.Proofs.YtfbahcfojiaeaaaGreatDoor
open Go Th Go.Proofs
def ann26 : Ann := { loops := [], cuts := [], frz := [], rm := [.id] }
noncomputable abbrev env26 (n : Nat) : Env := fun i => bif Nat.beq i 61 then some (fs61 n) else (fun _ => none) i
theorem envok26 (n : Nat) : EnvOK Tryz.prog GI (env26 n) := EnvOK.cons (EnvOK.nil) (ok61 n)
noncomputable def p26 {R : Type} (n : Nat) (x1 : Bool) (x2 : List PV) (x3 : Bool) (x4 : List PV) (k0 : Bool → Option R) : Option R :=
  p61 n x1 x2 (fun y5 => bif y5 then (bif true then (bif true then (bif true then (k0 true) else none) else none) else none) else (bif false then none else (bif false then none else (p61 n x3 x4 (fun y6 => k0 (bif false then true else y6))))))
noncomputable abbrev lo26 {R : Type} (n : Nat) : Orc R := fun i vs K => none
noncomputable abbrev cu26 {R : Type} (n : Nat) : Orc R := fun i vs K => none
section
variable {R : Type}
abbrev K26 (R : Type) (n : Nat) := PartOK (R := R) Tryz.prog (env26 n) ann26 n (11, []) (lo26 n) (cu26 n)
theorem pa26 (n : Nat) : allP (K26 R n) (partsOf ann26 (bodyOf Tryz.f26)) := by
  rw [show partsOf ann26 (bodyOf Tryz.f26) = [] from by kernel_rfl]; exact trivial
end
abbrev t26 : Sl (List SV) := (.c (sP (sAgg (.c sBool (.c sSh (.c sBool (.c sSh .n)))))) .n)
noncomputable abbrev f26 (n : Nat) {R : Type} (K : List SV → Option R) : t26.T (Option R) := fun x1 x2 x3 x4 => p26 n x1 x2 x3 x4 (fun y1 => K [.p (.v (.bool y1))])
theorem ep26 {R : Type} (n : Nat) (K : List SV → Option R) (x1 : Bool) (x2 : List PV) (x3 : Bool) (x4 : List PV) : evFn Tryz.prog (env26 n) ann26 n Tryz.f26 [.p (.agg [.v (.bool x1), .sh x2, .v (.bool x3), .sh x4])] K = f26 n K x1 x2 x3 x4 := by
  rw [evFn_evOi (c := bodyOf Tryz.f26) (by kernel_rfl) (pa26 n)]; kernel_rfl
noncomputable abbrev fs26 (n : Nat) : FS := { om := [false], run := fun args K => oget (t26.ap args (f26 n K)) none }
theorem ok26 (n : Nat) : FSound Tryz.prog GI 26 (fs26 n) :=
  FSound.good (envok26 n) (ann := ann26) (n := n) Tryz.func26
    (.cons (envok26 n) t26 (f26 n) (fun K x1 x2 x3 x4 => ep26 n K x1 x2 x3 x4) .nil)
    (by kernel_rfl) (by kernel_rfl) (by kernel_rfl)
end Go.Proofs.YtfbahcfojiaeaaaGreatDoor


set_option linter.unusedVariables false
set_option maxRecDepth 100000
namespace Go.Proofs.YtfbahcfojiaeaaaGreatDoor
open Go Th Go.Proofs
section
variable {R : Type}
end
end Go.Proofs.YtfbahcfojiaeaaaGreatDoor


set_option linter.unusedVariables false
set_option linter.unusedSimpArgs false
namespace Go.Proofs.YtfbahcfojiaeaaaGreatDoor
open Go Th Go.Proofs
variable {R : Type}
theorem fits_ll {q : Rat} : fits q ↔ ll q.num.natAbs ≤ 400 ∧ ll q.den ≤ 400 := by
  unfold fits; rw [ll_le, ll_le]
theorem add_divInt (p q : Rat) : Rat.divInt (p.num * q.den + q.num * p.den) ((p.den * q.den : Nat) : Int) = p + q := by rw [Rat.divInt_ofNat, mk_add]
theorem ll_mulZ {x y : Int} {i j : Nat} (hx : ll x.natAbs ≤ i) (hy : ll y.natAbs ≤ j) : ll (x * y).natAbs ≤ i + j := by
  rw [Int.natAbs_mul]
  exact Nat.le_trans (ll_mul _ _) (Nat.add_le_add hx hy)
theorem ll_addZ {x y : Int} {i : Nat} (hx : ll x.natAbs ≤ i) (hy : ll y.natAbs ≤ i) : ll (x + y).natAbs ≤ i + 1 :=
  Nat.le_trans (ll_mono (Int.natAbs_add_le x y)) (ll_add hx hy)
theorem ll_natZ (a : Nat) : ll ((a : Int)).natAbs = ll a := by rw [Int.natAbs_natCast]
section
variable (n : Nat) (hn : 10 ^ 1000 ≤ n) (p q : Rat) (hp : fits p) (hq : fits q)
include hp hq
include hn
theorem radd24_ok (k0 : Bool → List PV → Bool → List PV → Option R) : p24 n (sg p.num) (II p.num.natAbs) false (II p.den) (sg q.num) (II q.num.natAbs) false (II q.den) k0 = k0 (sg (p + q).num) (II (p + q).num.natAbs) false (II (p + q).den) := by
  obtain ⟨a1, a2⟩ := fits_ll.1 hp
  obtain ⟨b1, b2⟩ := fits_ll.1 hq
  have hN := big_n (n400 hn)
  have hw : ((p.den * q.den : Nat) : Int) ≠ 0 := by have := Nat.mul_ne_zero p.den_nz q.den_nz; omega
  have m1 := fun k => rmul_eq (R := R) n p.num (q.den : Int) (by omega) (by rw [ll_natZ]; omega) hN k
  have m2 := fun k => rmul_eq (R := R) n q.num (p.den : Int) (by omega) (by rw [ll_natZ]; omega) hN k
  have m3 := fun k => rmul_eq (R := R) n (p.den : Int) (q.den : Int) (by rw [ll_natZ]; omega) (by rw [ll_natZ]; omega) hN k
  have l1 : ll (p.num * (q.den : Int)).natAbs ≤ 800 := ll_mulZ a1 (by rw [ll_natZ]; exact b2)
  have l2 : ll (q.num * (p.den : Int)).natAbs ≤ 800 := ll_mulZ b1 (by rw [ll_natZ]; exact a2)
  have l3 := ll_addZ l1 l2
  have l4 : ll ((p.den * q.den : Nat) : Int).natAbs ≤ 800 := by rw [ll_natZ]; exact Nat.le_trans (ll_mul _ _) (by omega)
  have m4 := fun k => radd_eq (R := R) n (p.num * (q.den : Int)) (q.num * (p.den : Int)) (by omega) (by omega) hN k
  have m5 := fun k => new_eq (R := R) n (p.num * (q.den : Int) + q.num * (p.den : Int)) ((p.den * q.den : Nat) : Int) hw (by omega) (by omega) hN (by rw [Int.natAbs_natCast]; exact n800 hn hp.2 hq.2) k
  rw [add_divInt] at m5
  have e : (p.den : Int) * (q.den : Int) = ((p.den * q.den : Nat) : Int) := by rw [Int.natCast_mul]
  rw [e] at m3
  simp only [sg_nat, Int.natAbs_natCast] at m1 m2 m3 m5
  simp only [p24, m1, m2, m3, m4, m5]
end
end Go.Proofs.YtfbahcfojiaeaaaGreatDoor


set_option linter.unusedVariables false
namespace Go.Proofs.YtfbahcfojiaeaaaGreatDoor
open Go Th Go.Proofs
abbrev laidAll7 : List (String × DataW Unit) := [("math/bits.deBruijn32tab", Rows.laid_math_bits_deBruijn32tab), ("math/bits.deBruijn64tab", Rows.laid_math_bits_deBruijn64tab), ("internal/strconv.uint64pow10", Rows.laid_internal_strconv_uint64pow10), ("unicode/utf8.acceptRanges", Rows.laid_unicode_utf8_acceptRanges), ("strconv.ErrRange", Rows.laid_strconv_ErrRange), ("strconv.ErrSyntax", Rows.laid_strconv_ErrSyntax), ("unicode/utf8.first", Rows.laid_unicode_utf8_first)]
theorem tab_laid {W : World} (h : laidMetH Tryz.prog laidAll7 W) : Lib.TabIs Tryz.prog W "internal/strconv.uint64pow10" .u64 Lib.pow10Tab := by
  rw [MakeChecks.laidMetH_plain _ _ _ (by kernel_rfl)] at h
  obtain ⟨ps, ⟨_, _, _, _, _, _, _, _, _, _, ⟨_, _, _, _, _, _, _, _, _, _, ⟨g, t, cs, f, p, q, hg, ht, hv, hd, _, _⟩, _⟩, _⟩, _⟩ := h
  obtain rfl := Option.some.inj ((show Tryz.prog.globalNamed "internal/strconv.uint64pow10" = some 1 by kernel_rfl).symm.trans hg)
  have e : (Rows.laid_internal_strconv_uint64pow10 : DataW Unit) = Lib.tabData .u64 Lib.pow10Tab := by kernel_rfl
  rw [e] at hd
  obtain rfl := Option.some.inj ((show (Tryz.prog.globals[1]?).map (·.type) = some 144 by kernel_rfl).symm.trans ht)
  have hc := Lib.cells_of_tab Tryz.underlying144 Tryz.underlying107 (by kernel_rfl) (by kernel_rfl) hd
  unfold Lib.TabIs
  rw [hv, ← hc]
theorem tab_size {P : Program} {W : World} {name : String} {k : IntKind} {zs : List Int} {g : Nat} (hg : P.globalNamed name = some g) (h : Lib.TabIs P W name k zs) : g < W.heap.size := by
  unfold Lib.TabIs World.var? at h
  rw [hg] at h
  simp only [Option.bind_some] at h
  split at h
  · rename_i hh
    exact (Array.getElem?_eq_some_iff.1 hh).1
  · cases h
theorem gi_size {W : World} (h : Lib.TabIs Tryz.prog W "internal/strconv.uint64pow10" .u64 Lib.pow10Tab) : ∀ b, b = 1 → b < W.heap.size := by
  rintro b rfl
  exact tab_size (by kernel_rfl) h
end Go.Proofs.YtfbahcfojiaeaaaGreatDoor


set_option linter.unusedVariables false
set_option maxRecDepth 100000
namespace Go.Proofs.YtfbahcfojiaeaaaGreatDoor
open Go Th Go.Proofs
def ann21 : Ann := { loops := [(2, [(0, .id), (10, .id), (11, .id), (12, .id)], [(0, .id), (2, .id), (3, .id)]), (9, [(6, .id), (20, .id), (21, .id), (22, .id)], [(2, .id), (3, .id), (6, .id)])], cuts := [], frz := [], rm := [.id, .id] }
noncomputable abbrev env21 (n : Nat) : Env := fun i => bif Nat.beq i 27 then some (fs27 n) else (fun i => bif Nat.beq i 19 then some (fs19 n) else (fun _ => none) i) i
theorem envok21 (n : Nat) : EnvOK Tryz.prog GI (env21 n) := EnvOK.cons (EnvOK.cons (EnvOK.nil) (ok19 n)) (ok27 n)
noncomputable def p21_l2B {R : Type} (n : Nat) (l0 : List PV → List PV → Int → Int → Option R) (x1 x2 : List PV) (x3 x4 : Int) (k0 : List PV → ByteArray → Int → Option R) (k1 : List PV → Option R) : Option R :=
  bif (decide (x4 < x3)) then (bif (inR x4 ((x2).length)) then (getS ((x2).getD ((x4 : Int).toNat) (.v (.bool false))) fun e5 => p19 n e5 (fun y6 => bif (!y6) then (k0 x1 ⟨#[]⟩ 3) else (l0 x1 x2 x3 (IntKind.i64.wrap (x4 + 1))))) else none) else (k1 x1)
noncomputable def p21_l2L {R : Type} (n : Nat) : Nat → List PV → List PV → Int → Int → (List PV → ByteArray → Int → Option R) → (List PV → Option R) → Option R
  | 0, _, _, _, _, _, _ => none
  | m + 1, x1, x2, x3, x4, k0, k1 => p21_l2B n (fun x1 x2 x3 x4 => p21_l2L n m x1 x2 x3 x4 k0 k1) x1 x2 x3 x4 k0 k1
noncomputable def p21_l2 {R : Type} (n : Nat) (x1 x2 : List PV) (x3 x4 : Int) (k0 : List PV → ByteArray → Int → Option R) (k1 : List PV → Option R) : Option R := p21_l2L n n x1 x2 x3 x4 k0 k1
noncomputable def p21_l9B {R : Type} (n : Nat) (l0 : ByteArray → List PV → Int → Int → Option R) (x1 : ByteArray) (x2 : List PV) (x3 x4 : Int) (k0 : ByteArray → Int → ByteArray → Option R) (k1 : ByteArray → Option R) : Option R :=
  bif (decide (x4 < x3)) then (bif (inR x4 ((x2).length)) then (getS ((x2).getD ((x4 : Int).toNat) (.v (.bool false))) fun e5 => p27 n x1 e5 (fun y6 y7 => bif (y7 != 0) then (k0 ⟨#[]⟩ y7 y6) else (l0 y6 x2 x3 (IntKind.i64.wrap (x4 + 1))))) else none) else (k1 x1)
noncomputable def p21_l9L {R : Type} (n : Nat) : Nat → ByteArray → List PV → Int → Int → (ByteArray → Int → ByteArray → Option R) → (ByteArray → Option R) → Option R
  | 0, _, _, _, _, _, _ => none
  | m + 1, x1, x2, x3, x4, k0, k1 => p21_l9B n (fun x1 x2 x3 x4 => p21_l9L n m x1 x2 x3 x4 k0 k1) x1 x2 x3 x4 k0 k1
noncomputable def p21_l9 {R : Type} (n : Nat) (x1 : ByteArray) (x2 : List PV) (x3 x4 : Int) (k0 : ByteArray → Int → ByteArray → Option R) (k1 : ByteArray → Option R) : Option R := p21_l9L n n x1 x2 x3 x4 k0 k1
noncomputable def p21 {R : Type} (n : Nat) (x1 : List PV) (k0 : ByteArray → Int → Option R) : Option R :=
  p21_l2 n x1 x1 ((x1).length : Int) 0 (fun y2 y3 y4 => k0 y3 y4) (fun y5 => p21_l9 n ⟨#[48]⟩ y5 ((y5).length : Int) 0 (fun y6 y7 y8 => k0 y6 y7) (fun y9 => k0 y9 0))
noncomputable abbrev E21 {R : Type} (n : Nat) (c : Code) : Fr → Kc R → Option R := evC Tryz.prog (env21 n) ann21 n (37, []) c
noncomputable def c21_l2 : Code := subC (bodyOf Tryz.f21) [1, 0, 1, 0, 0]
abbrev t21_l2 : Sl (List SV) := (.c (sP sSh) (.c (sP sSh) (.c (sP (sInt .i64)) (.c (sP (sInt .i64)) .n))))
noncomputable abbrev f21_l2 {R : Type} (n m : Nat) (K : Kc R) : t21_l2.T (Option R) := fun x1 x2 x3 x4 => p21_l2L n m x1 x2 x3 x4 (fun y1 y2 y3 => K .ret (lk (outA ann21.loops 2) [.p (.sh y1), .p (.v (.string y2)), .p (.v (.int .i64 y3))])) (fun y1 => K (.exit 0) (lk (outA ann21.loops 2) [.p (.sh y1), .dead, .dead]))
noncomputable abbrev o21_l2 {R : Type} (n : Nat) (vs : List SV) (K : Kc R) : Option R := oget (t21_l2.ap vs (f21_l2 n n K)) (loopE ann21 2 (E21 n c21_l2) n vs K)
noncomputable def c21_l9 : Code := subC (bodyOf Tryz.f21) [1, 1, 1, 0, 1, 0, 0]
abbrev t21_l9 : Sl (List SV) := (.c (sP sStr) (.c (sP sSh) (.c (sP (sInt .i64)) (.c (sP (sInt .i64)) .n))))
noncomputable abbrev f21_l9 {R : Type} (n m : Nat) (K : Kc R) : t21_l9.T (Option R) := fun x1 x2 x3 x4 => p21_l9L n m x1 x2 x3 x4 (fun y1 y2 y3 => K .ret (lk (outA ann21.loops 9) [.p (.v (.string y1)), .p (.v (.int .i64 y2)), .p (.v (.string y3))])) (fun y1 => K (.exit 2) (lk (outA ann21.loops 9) [.dead, .dead, .p (.v (.string y1))]))
noncomputable abbrev o21_l9 {R : Type} (n : Nat) (vs : List SV) (K : Kc R) : Option R := oget (t21_l9.ap vs (f21_l9 n n K)) (loopE ann21 9 (E21 n c21_l9) n vs K)
noncomputable abbrev lo21 {R : Type} (n : Nat) : Orc R := fun i vs K => dcnd (Nat.beq i 9) (o21_l9 n vs K) (dcnd (Nat.beq i 2) (o21_l2 n vs K) (none))
noncomputable abbrev cu21 {R : Type} (n : Nat) : Orc R := fun i vs K => none
section
variable {R : Type}
noncomputable abbrev V21 (n : Nat) (c : Code) : Fr → Kc R → Option R := evOi Tryz.prog (env21 n) ann21 (37, []) (lo21 n) (cu21 n) c
abbrev K21 (R : Type) (n : Nat) := PartOK (R := R) Tryz.prog (env21 n) ann21 n (37, []) (lo21 n) (cu21 n)
theorem pa21_l2 (n : Nat) : allP (K21 R n) (partsOf ann21 c21_l2) := by
  rw [show partsOf ann21 c21_l2 = [] from by kernel_rfl]; exact trivial
theorem sp21_l2 (n m : Nat) (x1 x2 : List PV) (x3 x4 : Int) (K : Kc R) : loopE ann21 2 (V21 n c21_l2) (m + 1) [.p (.sh x1), .p (.sh x2), .p (.v (.int .i64 x3)), .p (.v (.int .i64 x4))] K = p21_l2B n (fun x1 x2 x3 x4 => loopE ann21 2 (V21 n c21_l2) m [.p (.sh x1), .p (.sh x2), .p (.v (.int .i64 x3)), .p (.v (.int .i64 x4))] K) x1 x2 x3 x4 (fun y1 y2 y3 => K .ret (lk (outA ann21.loops 2) [.p (.sh y1), .p (.v (.string y2)), .p (.v (.int .i64 y3))])) (fun y1 => K (.exit 0) (lk (outA ann21.loops 2) [.p (.sh y1), .dead, .dead])) := by kernel_rfl
theorem ep21_l2 (n : Nat) (K : Kc R) : ∀ (m : Nat) (x1 x2 : List PV) (x3 x4 : Int), loopE ann21 2 (V21 n c21_l2) m [.p (.sh x1), .p (.sh x2), .p (.v (.int .i64 x3)), .p (.v (.int .i64 x4))] K = f21_l2 n m K x1 x2 x3 x4
  | 0, _, _, _, _ => rfl
  | m + 1, x1, x2, x3, x4 => (sp21_l2 n m x1 x2 x3 x4 K).trans (congrArg (fun l0 => p21_l2B n l0 x1 x2 x3 x4 (fun y1 y2 y3 => K .ret (lk (outA ann21.loops 2) [.p (.sh y1), .p (.v (.string y2)), .p (.v (.int .i64 y3))])) (fun y1 => K (.exit 0) (lk (outA ann21.loops 2) [.p (.sh y1), .dead, .dead]))) (funext fun z0 => funext fun z1 => funext fun z2 => funext fun z3 => ep21_l2 n K m z0 z1 z2 z3))
theorem q21_l2 (n : Nat) : K21 R n (false, 2, c21_l2) := part_loop (pa21_l2 n) t21_l2 (f21_l2 n n) (fun K x1 x2 x3 x4 => ep21_l2 n K n x1 x2 x3 x4) fun _ _ => rfl
theorem pa21_l9 (n : Nat) : allP (K21 R n) (partsOf ann21 c21_l9) := by
  rw [show partsOf ann21 c21_l9 = [] from by kernel_rfl]; exact trivial
theorem sp21_l9 (n m : Nat) (x1 : ByteArray) (x2 : List PV) (x3 x4 : Int) (K : Kc R) : loopE ann21 9 (V21 n c21_l9) (m + 1) [.p (.v (.string x1)), .p (.sh x2), .p (.v (.int .i64 x3)), .p (.v (.int .i64 x4))] K = p21_l9B n (fun x1 x2 x3 x4 => loopE ann21 9 (V21 n c21_l9) m [.p (.v (.string x1)), .p (.sh x2), .p (.v (.int .i64 x3)), .p (.v (.int .i64 x4))] K) x1 x2 x3 x4 (fun y1 y2 y3 => K .ret (lk (outA ann21.loops 9) [.p (.v (.string y1)), .p (.v (.int .i64 y2)), .p (.v (.string y3))])) (fun y1 => K (.exit 2) (lk (outA ann21.loops 9) [.dead, .dead, .p (.v (.string y1))])) := by kernel_rfl
theorem ep21_l9 (n : Nat) (K : Kc R) : ∀ (m : Nat) (x1 : ByteArray) (x2 : List PV) (x3 x4 : Int), loopE ann21 9 (V21 n c21_l9) m [.p (.v (.string x1)), .p (.sh x2), .p (.v (.int .i64 x3)), .p (.v (.int .i64 x4))] K = f21_l9 n m K x1 x2 x3 x4
  | 0, _, _, _, _ => rfl
  | m + 1, x1, x2, x3, x4 => (sp21_l9 n m x1 x2 x3 x4 K).trans (congrArg (fun l0 => p21_l9B n l0 x1 x2 x3 x4 (fun y1 y2 y3 => K .ret (lk (outA ann21.loops 9) [.p (.v (.string y1)), .p (.v (.int .i64 y2)), .p (.v (.string y3))])) (fun y1 => K (.exit 2) (lk (outA ann21.loops 9) [.dead, .dead, .p (.v (.string y1))]))) (funext fun z0 => funext fun z1 => funext fun z2 => funext fun z3 => ep21_l9 n K m z0 z1 z2 z3))
theorem q21_l9 (n : Nat) : K21 R n (false, 9, c21_l9) := part_loop (pa21_l9 n) t21_l9 (f21_l9 n n) (fun K x1 x2 x3 x4 => ep21_l9 n K n x1 x2 x3 x4) fun _ _ => rfl
theorem pa21 (n : Nat) : allP (K21 R n) (partsOf ann21 (bodyOf Tryz.f21)) := by
  rw [show partsOf ann21 (bodyOf Tryz.f21) = [(false, 2, c21_l2), (false, 9, c21_l9)] from by kernel_rfl]; exact ⟨q21_l2 n, q21_l9 n, trivial⟩
end
abbrev t21 : Sl (List SV) := (.c (sP sSh) .n)
noncomputable abbrev f21 (n : Nat) {R : Type} (K : List SV → Option R) : t21.T (Option R) := fun x1 => p21 n x1 (fun y1 y2 => K [.p (.v (.string y1)), .p (.v (.int .i64 y2))])
theorem ep21 {R : Type} (n : Nat) (K : List SV → Option R) (x1 : List PV) : evFn Tryz.prog (env21 n) ann21 n Tryz.f21 [.p (.sh x1)] K = f21 n K x1 := by
  rw [evFn_evOi (c := bodyOf Tryz.f21) (by kernel_rfl) (pa21 n)]; kernel_rfl
noncomputable abbrev fs21 (n : Nat) : FS := { om := [false], run := fun args K => oget (t21.ap args (f21 n K)) none }
theorem ok21 (n : Nat) : FSound Tryz.prog GI 21 (fs21 n) :=
  FSound.good (envok21 n) (ann := ann21) (n := n) Tryz.func21
    (.cons (envok21 n) t21 (f21 n) (fun K x1 => ep21 n K x1) .nil)
    (by kernel_rfl) (by kernel_rfl) (by kernel_rfl)
end Go.Proofs.YtfbahcfojiaeaaaGreatDoor


set_option linter.unusedVariables false
set_option maxRecDepth 100000
namespace Go.Proofs.YtfbahcfojiaeaaaGreatDoor
open Go Th Go.Proofs
def ann22 : Ann := { loops := [], cuts := [], frz := [], rm := [.id] }
noncomputable abbrev env22 (n : Nat) : Env := fun i => bif Nat.beq i 18 then some (fs18 n) else (fun _ => none) i
theorem envok22 (n : Nat) : EnvOK Tryz.prog GI (env22 n) := EnvOK.cons (EnvOK.nil) (ok18 n)
noncomputable def p22 {R : Type} (n : Nat) (x1 : ByteArray) (k0 : Bool → Option R) : Option R :=
  p18 n x1 (fun y2 y3 y4 y5 y6 => k0 y6)
noncomputable abbrev lo22 {R : Type} (n : Nat) : Orc R := fun i vs K => none
noncomputable abbrev cu22 {R : Type} (n : Nat) : Orc R := fun i vs K => none
section
variable {R : Type}
abbrev K22 (R : Type) (n : Nat) := PartOK (R := R) Tryz.prog (env22 n) ann22 n (11, []) (lo22 n) (cu22 n)
theorem pa22 (n : Nat) : allP (K22 R n) (partsOf ann22 (bodyOf Tryz.f22)) := by
  rw [show partsOf ann22 (bodyOf Tryz.f22) = [] from by kernel_rfl]; exact trivial
end
abbrev t22 : Sl (List SV) := (.c (sP sStr) .n)
noncomputable abbrev f22 (n : Nat) {R : Type} (K : List SV → Option R) : t22.T (Option R) := fun x1 => p22 n x1 (fun y1 => K [.p (.v (.bool y1))])
theorem ep22 {R : Type} (n : Nat) (K : List SV → Option R) (x1 : ByteArray) : evFn Tryz.prog (env22 n) ann22 n Tryz.f22 [.p (.v (.string x1))] K = f22 n K x1 := by
  rw [evFn_evOi (c := bodyOf Tryz.f22) (by kernel_rfl) (pa22 n)]; kernel_rfl
noncomputable abbrev fs22 (n : Nat) : FS := { om := [false], run := fun args K => oget (t22.ap args (f22 n K)) none }
theorem ok22 (n : Nat) : FSound Tryz.prog GI 22 (fs22 n) :=
  FSound.good (envok22 n) (ann := ann22) (n := n) Tryz.func22
    (.cons (envok22 n) t22 (f22 n) (fun K x1 => ep22 n K x1) .nil)
    (by kernel_rfl) (by kernel_rfl) (by kernel_rfl)
end Go.Proofs.YtfbahcfojiaeaaaGreatDoor


set_option linter.unusedVariables false
set_option maxRecDepth 100000
namespace Go.Proofs.YtfbahcfojiaeaaaGreatDoor
open Go Th Go.Proofs
def ann58 : Ann := { loops := [], cuts := [], frz := [], rm := [.id] }
noncomputable abbrev env58 (n : Nat) : Env := fun _ => none
theorem envok58 (n : Nat) : EnvOK Tryz.prog GI (env58 n) := EnvOK.nil
noncomputable def p58 {R : Type} (n : Nat)  (k0 : ByteArray → Option R) : Option R :=
  bif false then none else (bif false then none else (bif false then none else (bif false then none else (bif false then none else (bif false then none else (bif (cutR 0 (IntKind.i64.wrap (0 + 1)) ((⟨#[48, 49, 50, 51, 52, 53, 54, 55, 56, 57]⟩ : ByteArray)).size) then (k0 (ByteArray.extract (⟨#[48, 49, 50, 51, 52, 53, 54, 55, 56, 57]⟩ : ByteArray) (0 : Int).toNat (IntKind.i64.wrap (0 + 1) : Int).toNat)) else none))))))
noncomputable abbrev lo58 {R : Type} (n : Nat) : Orc R := fun i vs K => none
noncomputable abbrev cu58 {R : Type} (n : Nat) : Orc R := fun i vs K => none
section
variable {R : Type}
abbrev K58 (R : Type) (n : Nat) := PartOK (R := R) Tryz.prog (env58 n) ann58 n (36, []) (lo58 n) (cu58 n)
theorem pa58 (n : Nat) : allP (K58 R n) (partsOf ann58 (bodyOf Tryz.f58)) := by
  rw [show partsOf ann58 (bodyOf Tryz.f58) = [] from by kernel_rfl]; exact trivial
end
abbrev t58 : Sl (List SV) := (.c (sP (sIntC .i64 0)) .n)
noncomputable abbrev f58 (n : Nat) {R : Type} (K : List SV → Option R) : t58.T (Option R) := p58 n  (fun y1 => K [.p (.v (.string y1))])
theorem ep58 {R : Type} (n : Nat) (K : List SV → Option R)  : evFn Tryz.prog (env58 n) ann58 n Tryz.f58 [.p (.v (.int .i64 0))] K = f58 n K  := by
  rw [evFn_evOi (c := bodyOf Tryz.f58) (by kernel_rfl) (pa58 n)]; kernel_rfl
noncomputable abbrev fs58 (n : Nat) : FS := { om := [false], run := fun args K => oget (t58.ap args (f58 n K)) none }
theorem ok58 (n : Nat) : FSound Tryz.prog GI 58 (fs58 n) :=
  FSound.good (envok58 n) (ann := ann58) (n := n) Tryz.func58
    (.cons (envok58 n) t58 (f58 n) (fun K  => ep58 n K ) .nil)
    (by kernel_rfl) (by kernel_rfl) (by kernel_rfl)
end Go.Proofs.YtfbahcfojiaeaaaGreatDoor


set_option linter.unusedVariables false
set_option maxRecDepth 100000
namespace Go.Proofs.YtfbahcfojiaeaaaGreatDoor
open Go Th Go.Proofs
def ann23 : Ann := { loops := [], cuts := [], frz := [], rm := [.id] }
noncomputable abbrev env23 (n : Nat) : Env := fun i => bif Nat.beq i 58 then some (fs58 n) else (fun i => bif Nat.beq i 48 then some (fs48 n) else (fun i => bif Nat.beq i 16 then some (fs16 n) else (fun i => bif Nat.beq i 15 then some (fs15 n) else (fun _ => none) i) i) i) i
theorem envok23 (n : Nat) : EnvOK Tryz.prog GI (env23 n) := EnvOK.cons (EnvOK.cons (EnvOK.cons (EnvOK.cons (EnvOK.nil) (ok15 n)) (ok16 n)) (ok48 n)) (ok58 n)
noncomputable def p23 {R : Type} (n : Nat)  (k0 : Bool → List PV → Bool → List PV → Option R) : Option R :=
  p58 n (fun y1 => p16 n y1 (fun y2 y3 => p48 n (fun y4 y5 => p15 n y2 y3 y4 y5 (fun y6 y7 y8 y9 => k0 y6 y7 y8 y9))))
noncomputable abbrev lo23 {R : Type} (n : Nat) : Orc R := fun i vs K => none
noncomputable abbrev cu23 {R : Type} (n : Nat) : Orc R := fun i vs K => none
section
variable {R : Type}
abbrev K23 (R : Type) (n : Nat) := PartOK (R := R) Tryz.prog (env23 n) ann23 n (8, []) (lo23 n) (cu23 n)
theorem pa23 (n : Nat) : allP (K23 R n) (partsOf ann23 (bodyOf Tryz.f23)) := by
  rw [show partsOf ann23 (bodyOf Tryz.f23) = [] from by kernel_rfl]; exact trivial
end
abbrev t23 : Sl (List SV) := (.c (sP (sIntC .i64 0)) .n)
noncomputable abbrev f23 (n : Nat) {R : Type} (K : List SV → Option R) : t23.T (Option R) := p23 n  (fun y1 y2 y3 y4 => K [.p (.agg [.v (.bool y1), .sh y2, .v (.bool y3), .sh y4])])
theorem ep23 {R : Type} (n : Nat) (K : List SV → Option R)  : evFn Tryz.prog (env23 n) ann23 n Tryz.f23 [.p (.v (.int .i64 0))] K = f23 n K  := by
  rw [evFn_evOi (c := bodyOf Tryz.f23) (by kernel_rfl) (pa23 n)]; kernel_rfl
noncomputable abbrev fs23 (n : Nat) : FS := { om := [false], run := fun args K => oget (t23.ap args (f23 n K)) none }
theorem ok23 (n : Nat) : FSound Tryz.prog GI 23 (fs23 n) :=
  FSound.good (envok23 n) (ann := ann23) (n := n) Tryz.func23
    (.cons (envok23 n) t23 (f23 n) (fun K  => ep23 n K ) .nil)
    (by kernel_rfl) (by kernel_rfl) (by kernel_rfl)
end Go.Proofs.YtfbahcfojiaeaaaGreatDoor


set_option linter.unusedVariables false
set_option maxRecDepth 100000
namespace Go.Proofs.YtfbahcfojiaeaaaGreatDoor
open Go Th Go.Proofs
def ann25 : Ann := { loops := [], cuts := [], frz := [], rm := [.id] }
noncomputable abbrev env25 (n : Nat) : Env := fun i => bif Nat.beq i 48 then some (fs48 n) else (fun i => bif Nat.beq i 18 then some (fs18 n) else (fun _ => none) i) i
theorem envok25 (n : Nat) : EnvOK Tryz.prog GI (env25 n) := EnvOK.cons (EnvOK.cons (EnvOK.nil) (ok18 n)) (ok48 n)
noncomputable def p25 {R : Type} (n : Nat) (x1 : ByteArray) (k0 : Bool → List PV → Bool → List PV → Option R) : Option R :=
  p18 n x1 (fun y2 y3 y4 y5 y6 => bif (!y6) then (p48 n (fun y7 y8 => k0 false [] y7 y8)) else (k0 y2 y3 y4 y5))
noncomputable abbrev lo25 {R : Type} (n : Nat) : Orc R := fun i vs K => none
noncomputable abbrev cu25 {R : Type} (n : Nat) : Orc R := fun i vs K => none
section
variable {R : Type}
abbrev K25 (R : Type) (n : Nat) := PartOK (R := R) Tryz.prog (env25 n) ann25 n (16, []) (lo25 n) (cu25 n)
theorem pa25 (n : Nat) : allP (K25 R n) (partsOf ann25 (bodyOf Tryz.f25)) := by
  rw [show partsOf ann25 (bodyOf Tryz.f25) = [] from by kernel_rfl]; exact trivial
end
abbrev t25 : Sl (List SV) := (.c (sP sStr) .n)
noncomputable abbrev f25 (n : Nat) {R : Type} (K : List SV → Option R) : t25.T (Option R) := fun x1 => p25 n x1 (fun y1 y2 y3 y4 => K [.p (.agg [.v (.bool y1), .sh y2, .v (.bool y3), .sh y4])])
theorem ep25 {R : Type} (n : Nat) (K : List SV → Option R) (x1 : ByteArray) : evFn Tryz.prog (env25 n) ann25 n Tryz.f25 [.p (.v (.string x1))] K = f25 n K x1 := by
  rw [evFn_evOi (c := bodyOf Tryz.f25) (by kernel_rfl) (pa25 n)]; kernel_rfl
noncomputable abbrev fs25 (n : Nat) : FS := { om := [false], run := fun args K => oget (t25.ap args (f25 n K)) none }
theorem ok25 (n : Nat) : FSound Tryz.prog GI 25 (fs25 n) :=
  FSound.good (envok25 n) (ann := ann25) (n := n) Tryz.func25
    (.cons (envok25 n) t25 (f25 n) (fun K x1 => ep25 n K x1) .nil)
    (by kernel_rfl) (by kernel_rfl) (by kernel_rfl)
end Go.Proofs.YtfbahcfojiaeaaaGreatDoor


set_option linter.unusedVariables false
set_option maxRecDepth 100000
namespace Go.Proofs.YtfbahcfojiaeaaaGreatDoor
open Go Th Go.Proofs
def ann5 : Ann := { loops := [(5, [(0, .id), (3, .id), (4, .id), (5, .id)], [(0, .id), (2, .id), (3, .id), (4, .id)]), (11, [(0, .id), (3, .id), (4, .id), (6, .id), (7, .id)], [(2, .id), (3, .id), (4, .id), (6, .id)])], cuts := [(3, [(0, .id)], [(2, .id)])], frz := [], rm := [.id] }
noncomputable abbrev env5 (n : Nat) : Env := fun i => bif Nat.beq i 26 then some (fs26 n) else (fun i => bif Nat.beq i 25 then some (fs25 n) else (fun i => bif Nat.beq i 24 then some (fs24 n) else (fun i => bif Nat.beq i 23 then some (fs23 n) else (fun i => bif Nat.beq i 22 then some (fs22 n) else (fun i => bif Nat.beq i 21 then some (fs21 n) else (fun i => bif Nat.beq i 14 then some (fs14 n) else (fun i => bif Nat.beq i 11 then some (fs11 n) else (fun i => bif Nat.beq i 10 then some (fs10 n) else (fun _ => none) i) i) i) i) i) i) i) i) i
theorem envok5 (n : Nat) : EnvOK Tryz.prog GI (env5 n) := EnvOK.cons (EnvOK.cons (EnvOK.cons (EnvOK.cons (EnvOK.cons (EnvOK.cons (EnvOK.cons (EnvOK.cons (EnvOK.cons (EnvOK.nil) (ok10 n)) (ok11 n)) (ok14 n)) (ok21 n)) (ok22 n)) (ok23 n)) (ok24 n)) (ok25 n)) (ok26 n)
noncomputable def p5_l5B {R : Type} (n : Nat) (l0 : List PV → ByteArray → Int → Int → Option R) (x1 : List PV) (x2 : ByteArray) (x3 x4 : Int) (k0 : List PV → Bool → ByteArray → Int → Option R) (k1 : List PV → ByteArray → Int → Option R) : Option R :=
  bif (decide (x4 < ((x1).length : Int))) then (bif (inR x4 ((x1).length)) then (getS ((x1).getD ((x4 : Int).toNat) (.v (.bool false))) fun e5 => p22 n e5 (fun y6 => bif (!y6) then (p11 n (fun y7 => bif y7 then (bif true then (bif (bif true then eqS x2 (⟨#[]⟩ : ByteArray) else false) then (bif true then (k0 x1 (bif true then (x3 == 3) else false) x2 x3) else none) else (bif false then none else (bif false then none else (k0 x1 false x2 x3)))) else none) else (bif false then none else (bif false then none else (bif false then none else (bif false then none else (bif false then none else (k0 x1 false x2 x3)))))))) else (l0 x1 x2 x3 (IntKind.i64.wrap (x4 + 1))))) else none) else (k1 x1 x2 x3)
noncomputable def p5_l5L {R : Type} (n : Nat) : Nat → List PV → ByteArray → Int → Int → (List PV → Bool → ByteArray → Int → Option R) → (List PV → ByteArray → Int → Option R) → Option R
  | 0, _, _, _, _, _, _ => none
  | m + 1, x1, x2, x3, x4, k0, k1 => p5_l5B n (fun x1 x2 x3 x4 => p5_l5L n m x1 x2 x3 x4 k0 k1) x1 x2 x3 x4 k0 k1
noncomputable def p5_l5 {R : Type} (n : Nat) (x1 : List PV) (x2 : ByteArray) (x3 x4 : Int) (k0 : List PV → Bool → ByteArray → Int → Option R) (k1 : List PV → ByteArray → Int → Option R) : Option R := p5_l5L n n x1 x2 x3 x4 k0 k1
noncomputable def p5_l11B {R : Type} (n : Nat) (l0 : List PV → ByteArray → Int → Bool → List PV → Bool → List PV → Int → Option R) (x1 : List PV) (x2 : ByteArray) (x3 : Int) (x4 : Bool) (x5 : List PV) (x6 : Bool) (x7 : List PV) (x8 : Int) (k0 : Bool → ByteArray → Int → Bool → List PV → Bool → List PV → Option R) (k1 : ByteArray → Int → Bool → List PV → Bool → List PV → Option R) : Option R :=
  bif (decide (x8 < ((x1).length : Int))) then (bif (inR x8 ((x1).length)) then (getS ((x1).getD ((x8 : Int).toNat) (.v (.bool false))) fun e9 => p25 n e9 (fun y10 y11 y12 y13 => p24 n x4 x5 x6 x7 y10 y11 y12 y13 (fun y14 y15 y16 y17 => p26 n y14 y15 y16 y17 (fun y18 => bif y18 then (p11 n (fun y19 => bif y19 then (bif true then (bif (bif true then eqS x2 (⟨#[]⟩ : ByteArray) else false) then (bif true then (k0 (bif true then (x3 == 5) else false) x2 x3 y14 y15 y16 y17) else none) else (bif false then none else (bif false then none else (k0 false x2 x3 y14 y15 y16 y17)))) else none) else (bif false then none else (bif false then none else (bif false then none else (bif false then none else (bif false then none else (k0 false x2 x3 y14 y15 y16 y17)))))))) else (l0 x1 x2 x3 y14 y15 y16 y17 (IntKind.i64.wrap (x8 + 1))))))) else none) else (k1 x2 x3 x4 x5 x6 x7)
noncomputable def p5_l11L {R : Type} (n : Nat) : Nat → List PV → ByteArray → Int → Bool → List PV → Bool → List PV → Int → (Bool → ByteArray → Int → Bool → List PV → Bool → List PV → Option R) → (ByteArray → Int → Bool → List PV → Bool → List PV → Option R) → Option R
  | 0, _, _, _, _, _, _, _, _, _, _ => none
  | m + 1, x1, x2, x3, x4, x5, x6, x7, x8, k0, k1 => p5_l11B n (fun x1 x2 x3 x4 x5 x6 x7 x8 => p5_l11L n m x1 x2 x3 x4 x5 x6 x7 x8 k0 k1) x1 x2 x3 x4 x5 x6 x7 x8 k0 k1
noncomputable def p5_l11 {R : Type} (n : Nat) (x1 : List PV) (x2 : ByteArray) (x3 : Int) (x4 : Bool) (x5 : List PV) (x6 : Bool) (x7 : List PV) (x8 : Int) (k0 : Bool → ByteArray → Int → Bool → List PV → Bool → List PV → Option R) (k1 : ByteArray → Int → Bool → List PV → Bool → List PV → Option R) : Option R := p5_l11L n n x1 x2 x3 x4 x5 x6 x7 x8 k0 k1
noncomputable def p5_c3 {R : Type} (n : Nat) (x1 : List PV) (k0 : Bool → Option R) : Option R :=
  p21 n x1 (fun y2 y3 => p5_l5 n x1 y2 y3 0 (fun y4 y5 y6 y7 => k0 y5) (fun y8 y9 y10 => p23 n (fun y11 y12 y13 y14 => p5_l11 n y8 y9 y10 y11 y12 y13 y14 0 (fun y15 y16 y17 y18 y19 y20 y21 => k0 y15) (fun y22 y23 y24 y25 y26 y27 => p11 n (fun y28 => bif y28 then (bif true then (bif true then (p14 n y24 y25 y26 y27 (fun y29 => bif true then (bif (bif true then eqS y22 y29 else false) then (bif true then (k0 (bif true then (y23 == 0) else false)) else none) else (bif false then none else (bif false then none else (k0 false)))) else none)) else none) else none) else (bif false then none else (bif false then none else (bif false then none else (bif false then none else (bif false then none else (bif false then none else (bif false then none else (k0 false)))))))))))))
noncomputable def p5 {R : Type} (n : Nat) (x1 : List PV) (k0 : Bool → Option R) : Option R :=
  bif (decide (((x1).length : Int) > 8)) then (bif true then (bif true then (bif true then (bif true then (p11 n (fun y2 => k0 y2)) else none) else none) else none) else none) else (bif false then none else (p10 n x1 (fun y3 => bif false then none else (bif (bif false then true else (!y3)) then (p11 n (fun y4 => k0 y4)) else (p5_c3 n x1 (fun y5 => k0 y5))))))
noncomputable abbrev E5 {R : Type} (n : Nat) (c : Code) : Fr → Kc R → Option R := evC Tryz.prog (env5 n) ann5 n (79, []) c
noncomputable def c5_c3 : Code := subC (bodyOf Tryz.f5) [1, 1]
abbrev t5_c3 : Sl (List SV) := (.c (sP sSh) .n)
noncomputable abbrev f5_c3 {R : Type} (n : Nat) (K : Kc R) : t5_c3.T (Option R) := fun x1 => p5_c3 n x1 (fun y1 => K .ret (lk (outA ann5.cuts 3) [.p (.v (.bool y1))]))
noncomputable abbrev o5_c3 {R : Type} (n : Nat) (vs : List SV) (K : Kc R) : Option R := oget (t5_c3.ap vs (f5_c3 n K)) (cutE ann5 3 (E5 n c5_c3) vs K)
noncomputable def c5_l5 : Code := subC (bodyOf Tryz.f5) [1, 1, 1, 0, 1, 0, 0]
abbrev t5_l5 : Sl (List SV) := (.c (sP sSh) (.c (sP sStr) (.c (sP (sInt .i64)) (.c (sP (sInt .i64)) .n))))
noncomputable abbrev f5_l5 {R : Type} (n m : Nat) (K : Kc R) : t5_l5.T (Option R) := fun x1 x2 x3 x4 => p5_l5L n m x1 x2 x3 x4 (fun y1 y2 y3 y4 => K .ret (lk (outA ann5.loops 5) [.p (.sh y1), .p (.v (.bool y2)), .p (.v (.string y3)), .p (.v (.int .i64 y4))])) (fun y1 y2 y3 => K (.exit 0) (lk (outA ann5.loops 5) [.p (.sh y1), .dead, .p (.v (.string y2)), .p (.v (.int .i64 y3))]))
noncomputable abbrev o5_l5 {R : Type} (n : Nat) (vs : List SV) (K : Kc R) : Option R := oget (t5_l5.ap vs (f5_l5 n n K)) (loopE ann5 5 (E5 n c5_l5) n vs K)
noncomputable def c5_l11 : Code := subC (bodyOf Tryz.f5) [1, 1, 1, 1, 1, 0, 1, 0, 0]
abbrev t5_l11 : Sl (List SV) := (.c (sP sSh) (.c (sP sStr) (.c (sP (sInt .i64)) (.c (sBx 33 (.c (sP sBool) (.c (sP sSh) (.c (sP sBool) (.c (sP sSh) .n))))) (.c (sP (sInt .i64)) .n)))))
noncomputable abbrev f5_l11 {R : Type} (n m : Nat) (K : Kc R) : t5_l11.T (Option R) := fun x1 x2 x3 x4 x5 x6 x7 x8 => p5_l11L n m x1 x2 x3 x4 x5 x6 x7 x8 (fun y1 y2 y3 y4 y5 y6 y7 => K .ret (lk (outA ann5.loops 11) [.p (.v (.bool y1)), .p (.v (.string y2)), .p (.v (.int .i64 y3)), .bx 33 [.p (.v (.bool y4)), .p (.sh y5), .p (.v (.bool y6)), .p (.sh y7)]])) (fun y1 y2 y3 y4 y5 y6 => K (.exit 2) (lk (outA ann5.loops 11) [.dead, .p (.v (.string y1)), .p (.v (.int .i64 y2)), .bx 33 [.p (.v (.bool y3)), .p (.sh y4), .p (.v (.bool y5)), .p (.sh y6)]]))
noncomputable abbrev o5_l11 {R : Type} (n : Nat) (vs : List SV) (K : Kc R) : Option R := oget (t5_l11.ap vs (f5_l11 n n K)) (loopE ann5 11 (E5 n c5_l11) n vs K)
noncomputable abbrev lo5 {R : Type} (n : Nat) : Orc R := fun i vs K => dcnd (Nat.beq i 11) (o5_l11 n vs K) (dcnd (Nat.beq i 5) (o5_l5 n vs K) (none))
noncomputable abbrev cu5 {R : Type} (n : Nat) : Orc R := fun i vs K => dcnd (Nat.beq i 3) (o5_c3 n vs K) (none)
section
variable {R : Type}
noncomputable abbrev V5 (n : Nat) (c : Code) : Fr → Kc R → Option R := evOi Tryz.prog (env5 n) ann5 (79, []) (lo5 n) (cu5 n) c
abbrev K5 (R : Type) (n : Nat) := PartOK (R := R) Tryz.prog (env5 n) ann5 n (79, []) (lo5 n) (cu5 n)
theorem pa5_l5 (n : Nat) : allP (K5 R n) (partsOf ann5 c5_l5) := by
  rw [show partsOf ann5 c5_l5 = [] from by kernel_rfl]; exact trivial
theorem sp5_l5 (n m : Nat) (x1 : List PV) (x2 : ByteArray) (x3 x4 : Int) (K : Kc R) : loopE ann5 5 (V5 n c5_l5) (m + 1) [.p (.sh x1), .p (.v (.string x2)), .p (.v (.int .i64 x3)), .p (.v (.int .i64 x4))] K = p5_l5B n (fun x1 x2 x3 x4 => loopE ann5 5 (V5 n c5_l5) m [.p (.sh x1), .p (.v (.string x2)), .p (.v (.int .i64 x3)), .p (.v (.int .i64 x4))] K) x1 x2 x3 x4 (fun y1 y2 y3 y4 => K .ret (lk (outA ann5.loops 5) [.p (.sh y1), .p (.v (.bool y2)), .p (.v (.string y3)), .p (.v (.int .i64 y4))])) (fun y1 y2 y3 => K (.exit 0) (lk (outA ann5.loops 5) [.p (.sh y1), .dead, .p (.v (.string y2)), .p (.v (.int .i64 y3))])) := by kernel_rfl
theorem ep5_l5 (n : Nat) (K : Kc R) : ∀ (m : Nat) (x1 : List PV) (x2 : ByteArray) (x3 x4 : Int), loopE ann5 5 (V5 n c5_l5) m [.p (.sh x1), .p (.v (.string x2)), .p (.v (.int .i64 x3)), .p (.v (.int .i64 x4))] K = f5_l5 n m K x1 x2 x3 x4
  | 0, _, _, _, _ => rfl
  | m + 1, x1, x2, x3, x4 => (sp5_l5 n m x1 x2 x3 x4 K).trans (congrArg (fun l0 => p5_l5B n l0 x1 x2 x3 x4 (fun y1 y2 y3 y4 => K .ret (lk (outA ann5.loops 5) [.p (.sh y1), .p (.v (.bool y2)), .p (.v (.string y3)), .p (.v (.int .i64 y4))])) (fun y1 y2 y3 => K (.exit 0) (lk (outA ann5.loops 5) [.p (.sh y1), .dead, .p (.v (.string y2)), .p (.v (.int .i64 y3))]))) (funext fun z0 => funext fun z1 => funext fun z2 => funext fun z3 => ep5_l5 n K m z0 z1 z2 z3))
theorem q5_l5 (n : Nat) : K5 R n (false, 5, c5_l5) := part_loop (pa5_l5 n) t5_l5 (f5_l5 n n) (fun K x1 x2 x3 x4 => ep5_l5 n K n x1 x2 x3 x4) fun _ _ => rfl
theorem pa5_l11 (n : Nat) : allP (K5 R n) (partsOf ann5 c5_l11) := by
  rw [show partsOf ann5 c5_l11 = [] from by kernel_rfl]; exact trivial
theorem sp5_l11 (n m : Nat) (x1 : List PV) (x2 : ByteArray) (x3 : Int) (x4 : Bool) (x5 : List PV) (x6 : Bool) (x7 : List PV) (x8 : Int) (K : Kc R) : loopE ann5 11 (V5 n c5_l11) (m + 1) [.p (.sh x1), .p (.v (.string x2)), .p (.v (.int .i64 x3)), .bx 33 [.p (.v (.bool x4)), .p (.sh x5), .p (.v (.bool x6)), .p (.sh x7)], .p (.v (.int .i64 x8))] K = p5_l11B n (fun x1 x2 x3 x4 x5 x6 x7 x8 => loopE ann5 11 (V5 n c5_l11) m [.p (.sh x1), .p (.v (.string x2)), .p (.v (.int .i64 x3)), .bx 33 [.p (.v (.bool x4)), .p (.sh x5), .p (.v (.bool x6)), .p (.sh x7)], .p (.v (.int .i64 x8))] K) x1 x2 x3 x4 x5 x6 x7 x8 (fun y1 y2 y3 y4 y5 y6 y7 => K .ret (lk (outA ann5.loops 11) [.p (.v (.bool y1)), .p (.v (.string y2)), .p (.v (.int .i64 y3)), .bx 33 [.p (.v (.bool y4)), .p (.sh y5), .p (.v (.bool y6)), .p (.sh y7)]])) (fun y1 y2 y3 y4 y5 y6 => K (.exit 2) (lk (outA ann5.loops 11) [.dead, .p (.v (.string y1)), .p (.v (.int .i64 y2)), .bx 33 [.p (.v (.bool y3)), .p (.sh y4), .p (.v (.bool y5)), .p (.sh y6)]])) := by kernel_rfl
theorem ep5_l11 (n : Nat) (K : Kc R) : ∀ (m : Nat) (x1 : List PV) (x2 : ByteArray) (x3 : Int) (x4 : Bool) (x5 : List PV) (x6 : Bool) (x7 : List PV) (x8 : Int), loopE ann5 11 (V5 n c5_l11) m [.p (.sh x1), .p (.v (.string x2)), .p (.v (.int .i64 x3)), .bx 33 [.p (.v (.bool x4)), .p (.sh x5), .p (.v (.bool x6)), .p (.sh x7)], .p (.v (.int .i64 x8))] K = f5_l11 n m K x1 x2 x3 x4 x5 x6 x7 x8
  | 0, _, _, _, _, _, _, _, _ => rfl
  | m + 1, x1, x2, x3, x4, x5, x6, x7, x8 => (sp5_l11 n m x1 x2 x3 x4 x5 x6 x7 x8 K).trans (congrArg (fun l0 => p5_l11B n l0 x1 x2 x3 x4 x5 x6 x7 x8 (fun y1 y2 y3 y4 y5 y6 y7 => K .ret (lk (outA ann5.loops 11) [.p (.v (.bool y1)), .p (.v (.string y2)), .p (.v (.int .i64 y3)), .bx 33 [.p (.v (.bool y4)), .p (.sh y5), .p (.v (.bool y6)), .p (.sh y7)]])) (fun y1 y2 y3 y4 y5 y6 => K (.exit 2) (lk (outA ann5.loops 11) [.dead, .p (.v (.string y1)), .p (.v (.int .i64 y2)), .bx 33 [.p (.v (.bool y3)), .p (.sh y4), .p (.v (.bool y5)), .p (.sh y6)]]))) (funext fun z0 => funext fun z1 => funext fun z2 => funext fun z3 => funext fun z4 => funext fun z5 => funext fun z6 => funext fun z7 => ep5_l11 n K m z0 z1 z2 z3 z4 z5 z6 z7))
theorem q5_l11 (n : Nat) : K5 R n (false, 11, c5_l11) := part_loop (pa5_l11 n) t5_l11 (f5_l11 n n) (fun K x1 x2 x3 x4 x5 x6 x7 x8 => ep5_l11 n K n x1 x2 x3 x4 x5 x6 x7 x8) fun _ _ => rfl
theorem pa5_c3 (n : Nat) : allP (K5 R n) (partsOf ann5 c5_c3) := by
  rw [show partsOf ann5 c5_c3 = [(false, 5, c5_l5), (false, 11, c5_l11)] from by kernel_rfl]; exact ⟨q5_l5 n, q5_l11 n, trivial⟩
theorem q5_c3 (n : Nat) : K5 R n (true, 3, c5_c3) := part_cut (pa5_c3 n) t5_c3 (f5_c3 n) (fun K x1 => by show cutE _ _ _ _ _ = _; kernel_rfl) fun _ _ => rfl
theorem pa5 (n : Nat) : allP (K5 R n) (partsOf ann5 (bodyOf Tryz.f5)) := by
  rw [show partsOf ann5 (bodyOf Tryz.f5) = [(true, 3, c5_c3)] from by kernel_rfl]; exact ⟨q5_c3 n, trivial⟩
end
abbrev t5 : Sl (List SV) := (.c (sP sSh) .n)
noncomputable abbrev f5 (n : Nat) {R : Type} (K : List SV → Option R) : t5.T (Option R) := fun x1 => p5 n x1 (fun y1 => K [.p (.v (.bool y1))])
theorem ep5 {R : Type} (n : Nat) (K : List SV → Option R) (x1 : List PV) : evFn Tryz.prog (env5 n) ann5 n Tryz.f5 [.p (.sh x1)] K = f5 n K x1 := by
  rw [evFn_evOi (c := bodyOf Tryz.f5) (by kernel_rfl) (pa5 n)]; kernel_rfl
noncomputable abbrev fs5 (n : Nat) : FS := { om := [false], run := fun args K => oget (t5.ap args (f5 n K)) none }
theorem ok5 (n : Nat) : FSound Tryz.prog GI 5 (fs5 n) :=
  FSound.good (envok5 n) (ann := ann5) (n := n) Tryz.func5
    (.cons (envok5 n) t5 (f5 n) (fun K x1 => ep5 n K x1) .nil)
    (by kernel_rfl) (by kernel_rfl) (by kernel_rfl)
end Go.Proofs.YtfbahcfojiaeaaaGreatDoor
