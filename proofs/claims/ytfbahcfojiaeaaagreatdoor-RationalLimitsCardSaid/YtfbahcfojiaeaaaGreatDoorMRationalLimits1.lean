/- Proved: the law RationalLimits returns true at all its arguments (no further conditions): the row and what it stands on. -/
import Derived.Test.YtfbahcfojiaeaaaGreatDoorMRationalLimits0
import Derived.Test.YtfbahcfojiaeaaaGreatDoorT2
import Derived.Test.YtfbahcfojiaeaaaGreatDoorT1
import Derived.Test.YtfbahcfojiaeaaaGreatDoorRows
import Derived.WalkKit
import Derived.ProofKit
import Derived.LaidMore
import Derived.Lay
import Derived.Lib.LaidTab
import Derived.Test.YtfbahcfojiaeaaaGreatDoorCards
import Derived.Test.YtfbahcfojiaeaaaGreatDoorTie
import Derived.OpenShut
import Derived.ShutString
import Derived.ChangeOld
import Derived.Below
import Derived.SizedLaws
import Derived.SevenTiedAt
import Derived.Stop.Joined

set_option linter.unusedVariables false
set_option linter.unusedSimpArgs false
namespace Go.Proofs.YtfbahcfojiaeaaaGreatDoor
open Go Th Go.Proofs
variable {R : Type}
theorem maxI_sub (l k : Nat) : maxI 0 ((l : Int) - (k : Int)) = ((l - k : Nat) : Int) := by
  unfold maxI; split <;> omega
theorem atoiK_dig {s : List UInt8} (h : ∀ c ∈ s, isD c = true) (h0 : s ≠ []) (hl : s.length ≤ 18) (K : Int → Option R) : atoiK (bs s) K = K (ofD s : Int) := by
  unfold atoiK
  rw [bs_data, atoi_dig s h h0 hl, bs_size, decide_eq_true (by omega)]; rfl
theorem parse_loop (n : Nat) : ∀ (m : Nat) (s : List UInt8) (o : List Nat), (∀ c ∈ s, isD c = true) → (∀ d ∈ o, d < 1000000000) → s.length < m → s.length + o.length < 2 ^ 30 →
    ∃ o' : List Nat, (∀ k0 : List PV → Option R, p45_l2L n m (bs s) (nl .u32 o) k0 = k0 (nl .u32 o')) ∧ (∀ d ∈ o', d < 1000000000) ∧ o'.length ≤ o.length + s.length ∧ val 1000000000 o' = val 1000000000 o + 1000000000 ^ o.length * ofD s
  | m + 1, s, o, hs, ho, hm, hl => by
    by_cases h0 : s = []
    · subst h0
      refine ⟨o, fun k0 => ?_, ho, by omega, by rw [show ofD [] = 0 from rfl]; simp⟩
      simp only [p45_l2L, p45_l2B]
      simp (disch := (first | omega | (simp only [List.length_append, List.length_cons, List.length_nil, List.length_replicate, List.length_take, List.length_drop]; omega))) only [↓c_pos, ↓c_neg, dec_t, dec_f, Bool.and_true, Bool.true_and, Bool.and_false, Bool.false_and, Bool.not_true, Bool.not_false, cond_true, cond_false, inR_t, cutR_t, roomB_t, lenOK_t, w64, bs_size, List.length_append, List.length_cons, List.length_nil, bs_extract, bs_append, bs_push, bs_data, bs_empty, bs_lit, catS_bs, eqS_bs, ite_pos', ite_neg', decide_true, decide_false, if_true, if_false, toNatC, getI_nl, nl_len, nl_set, nl_set0, nl_take, nl_drop, nl_rep, nl_app, hdSz_nl, drop0, wu32, wu64, wu8, List.length_set, List.length_replicate]
    · have hpos : 0 < s.length := List.length_pos_iff.2 h0
      obtain ⟨k, hk⟩ : ∃ k, k = s.length - 9 := ⟨_, rfl⟩
      have h1 : ∀ c ∈ s.take k, isD c = true := fun c h => hs c (List.mem_of_mem_take h)
      have h2 : ∀ c ∈ s.drop k, isD c = true := fun c h => hs c (List.mem_of_mem_drop h)
      have h3 : (s.drop k).length ≤ 9 := by rw [List.length_drop]; omega
      have h4 : s.drop k ≠ [] := by intro e; have := congrArg List.length e; rw [List.length_drop, List.length_nil] at this; omega
      have h5 : ofD (s.drop k) < 1000000000 := Nat.lt_of_lt_of_le (ofD_lt h2) (Nat.pow_le_pow_right (n := 10) (by omega) h3)
      have h6 : ofD s = ofD (s.take k) * 1000000000 + ofD (s.drop k) := by
        conv => lhs; rw [← List.take_append_drop k s]
        rw [ofD_append]
        by_cases hk0 : k = 0
        · subst hk0
          rw [List.take_zero, show ofD [] = 0 from rfl, Nat.zero_mul, Nat.zero_mul]
        · rw [List.length_drop, show s.length - k = 9 from by omega]
      obtain ⟨o', q1, q2, q3, q4⟩ := parse_loop n m (s.take k) (o ++ [ofD (s.drop k)]) h1 (by
        intro d hd
        rcases List.mem_append.1 hd with h | h
        · exact ho d h
        · rw [List.mem_singleton.1 h]; exact h5) (by rw [List.length_take]; omega) (by rw [List.length_take, List.length_append, List.length_singleton]; omega)
      refine ⟨o', fun k0 => ?_, q2, by rw [List.length_append, List.length_singleton, List.length_take] at q3; omega, ?_⟩
      · rw [← q1 k0]
        have w1 : maxI 0 ((s.length : Int) - 9) = (k : Int) := by rw [hk]; exact maxI_sub s.length 9
        have w2 : List.drop k (List.take s.length s) = s.drop k := by rw [List.take_length]
        have w3 := fun K => atoiK_dig (R := R) h2 h4 (by omega) K
        have w4 : List.drop 0 (List.take k s) = s.take k := rfl
        simp only [p45_l2L, p45_l2B]
        simp (disch := (first | omega | (simp only [List.length_append, List.length_cons, List.length_nil, List.length_replicate, List.length_take, List.length_drop]; omega))) only [↓c_pos, ↓c_neg, dec_t, dec_f, Bool.and_true, Bool.true_and, Bool.and_false, Bool.false_and, Bool.not_true, Bool.not_false, cond_true, cond_false, inR_t, cutR_t, roomB_t, lenOK_t, w64, bs_size, List.length_append, List.length_cons, List.length_nil, bs_extract, bs_append, bs_push, bs_data, bs_empty, bs_lit, catS_bs, eqS_bs, ite_pos', ite_neg', decide_true, decide_false, if_true, if_false, toNatC, getI_nl, nl_len, nl_set, nl_set0, nl_take, nl_drop, nl_rep, nl_app, hdSz_nl, drop0, wu32, wu64, wu8, List.length_set, List.length_replicate, w1, w2, w3, nl_one]
      · rw [q4, val_snoc, h6, List.length_append, List.length_singleton, Nat.pow_succ]
        grind
theorem parse_eq (n : Nat) (s : List UInt8) (hs : ∀ c ∈ s, isD c = true) (hl : s.length < 2 ^ 20) (hn : s.length < n) (k0 : List PV → Option R) : p45 n (bs s) k0 = k0 (NN (ofD s)) := by
  obtain ⟨o', q1, q2, q3, q4⟩ := parse_loop (R := R) n n s [] hs (by intro d h; cases h) hn (by simp; omega)
  rw [List.length_nil] at q3
  have ht := trim_eq (R := R) n o' q2 (by omega) (by omega) k0
  rw [q4, show val 1000000000 [] = 0 from rfl, List.length_nil, Nat.pow_zero, Nat.one_mul, Nat.zero_add] at ht
  unfold p45 p45_l2
  rw [show ([] : List PV) = nl .u32 [] from rfl, q1, ht]
theorem itoa_nat (d : Nat) (h : d < 1000000000) : itoaB (d : Int) = bs (dec d) := by
  unfold itoaB Lib.itoa
  rw [if_neg (by omega), Int.toNat_natCast]; rfl
theorem i64R_nat (d : Nat) (h : d < 1000000000) : i64R (d : Int) = true := by
  unfold i64R; simp; omega
theorem repL_one (k : Nat) : Lib.repeatL [48] k = List.replicate k 48 := by
  induction k with
  | zero => rfl
  | succ k ih => rw [Lib.repeatL, ih]; rfl
theorem dec9 {d : Nat} (h : d < 1000000000) : (dec d).length ≤ 9 := (dec_len d 9 (by omega)).2 h
theorem text_loop (n : Nat) (l : List Nat) (hl : ∀ d ∈ l, d < 1000000000) (h30 : l.length < 2 ^ 30) (k0 : ByteArray → Option R) : ∀ (i m : Nat), i < l.length → i < m → val 1000000000 (l.drop i) ≠ 0 → (dec (val 1000000000 (l.drop i))).length ≤ 9 * (l.length - i) →
    p81_l5v1L n m (nl .u32 l) (bs (dec (val 1000000000 (l.drop i)))) ((i : Int) - 1) k0 = k0 (bs (dec (val 1000000000 l)))
  | 0, m + 1, hi, hm, h0, hb => by
    rw [List.drop_zero] at *
    simp only [p81_l5v1L, p81_l5v1B]
    simp (disch := (first | omega | (simp only [List.length_append, List.length_cons, List.length_nil, List.length_replicate, List.length_take, List.length_drop]; omega))) only [↓c_pos, ↓c_neg, dec_t, dec_f, Bool.and_true, Bool.true_and, Bool.and_false, Bool.false_and, Bool.not_true, Bool.not_false, cond_true, cond_false, inR_t, cutR_t, roomB_t, lenOK_t, w64, bs_size, List.length_append, List.length_cons, List.length_nil, bs_extract, bs_append, bs_push, bs_data, bs_empty, bs_lit, catS_bs, eqS_bs, ite_pos', ite_neg', decide_true, decide_false, if_true, if_false, toNatC, getI_nl, nl_len, nl_set, nl_set0, nl_take, nl_drop, nl_rep, nl_app, hdSz_nl, drop0, wu32, wu64, wu8, List.length_set, List.length_replicate]
  | i + 1, m + 1, hi, hm, h0, hb => by
    have hd := getD_lt hB2 hl i
    have hv := val_drop_step 1000000000 l i
    have hstep := dec_step 9 (val 1000000000 (l.drop (i + 1))) (l.getD i 0) h0 hd
    have e : val 1000000000 (l.drop (i + 1)) * 10 ^ 9 + l.getD i 0 = val 1000000000 (l.drop i) := by rw [hv]; omega
    rw [e] at hstep
    have h9 := dec9 hd
    have hp := pad_eq 8 (l.getD i 0) hd
    have hlp : (pad 9 (l.getD i 0)).length = 9 := by rw [← hp, List.length_append, List.length_replicate]; omega
    have hlen : (dec (val 1000000000 (l.drop i))).length ≤ 9 * (l.length - i) := by rw [hstep, List.length_append, hlp]; omega
    have ih := text_loop n l hl h30 k0 i m (by omega) (by omega) (by rw [hv]; omega) hlen
    rw [hstep, ← hp] at ih
    have w1 : ((i + 1 : Nat) : Int) - 1 = (i : Int) := by omega
    have w2 := itoa_nat _ hd
    have w3 := i64R_nat _ hd
    have w4 : ((9 : Int) - ((dec (l.getD i 0)).length : Int)) = ((8 + 1 - (dec (l.getD i 0)).length : Nat) : Int) := by omega
    have w5 : repB (bs [48]) ((8 + 1 - (dec (l.getD i 0)).length : Nat) : Int) = bs (List.replicate (8 + 1 - (dec (l.getD i 0)).length) 48) := by
      rw [repB_bs, Int.toNat_natCast, repL_one]
    have w6 : (⟨#[48]⟩ : ByteArray).size = 1 := rfl
    simp only [p81_l5v1L, p81_l5v1B, p81_c6]
    simp (disch := (first | omega | (simp only [List.length_append, List.length_cons, List.length_nil, List.length_replicate, List.length_take, List.length_drop]; omega))) only [↓c_pos, ↓c_neg, dec_t, dec_f, Bool.and_true, Bool.true_and, Bool.and_false, Bool.false_and, Bool.not_true, Bool.not_false, cond_true, cond_false, inR_t, cutR_t, roomB_t, lenOK_t, w64, bs_size, List.length_append, List.length_cons, List.length_nil, bs_extract, bs_append, bs_push, bs_data, bs_empty, bs_lit, catS_bs, eqS_bs, ite_pos', ite_neg', decide_true, decide_false, if_true, if_false, toNatC, getI_nl, nl_len, nl_set, nl_set0, nl_take, nl_drop, nl_rep, nl_app, hdSz_nl, drop0, wu32, wu64, wu8, List.length_set, List.length_replicate, w1, w2, w3, w4, w5, w6, ih]
theorem text_eq (n a : Nat) (hl : (toL 1000000000 a).length < 2 ^ 30) (hn : (toL 1000000000 a).length < n) (k0 : ByteArray → Option R) : p81 n (NN a) k0 = k0 (bs (dec a)) := by
  unfold p81 NN
  by_cases h0 : a = 0
  · subst h0
    rw [toL_zero, dec_zero]
    rfl
  obtain ⟨t1, t2, t3, t4⟩ := toL_top hB2 h0
  have hlt := toL_lt hB2 a
  have hval := val_toL hB2 a
  generalize toL 1000000000 a = l at *
  obtain ⟨m, rfl⟩ : ∃ m, n = m + 1 := ⟨n - 1, by omega⟩
  have hd := getD_lt hB2 hlt (l.length - 1)
  have hv := val_drop_step 1000000000 l (l.length - 1)
  rw [show l.length - 1 + 1 = l.length from by omega, List.drop_length, show val 1000000000 [] = 0 from rfl, Nat.mul_zero, Nat.add_zero] at hv
  have h9 := dec9 hd
  have ih := text_loop (m + 1) l hlt hl k0 (l.length - 1) m (by omega) (by omega) (by omega) (by rw [hv]; omega)
  rw [hv, hval] at ih
  have w0 : ((l.length : Int) == 0) = false := by simp; intro e; rw [e] at t1; simp at t1
  have w1 : ((l.length : Int) - 1) = ((l.length - 1 : Nat) : Int) := by omega
  have w2 := itoa_nat _ hd
  have w3 := i64R_nat _ hd
  simp only [p81_l5, p81_l5L, p81_l5B, p81_c6]
  simp (disch := (first | omega | (simp only [List.length_append, List.length_cons, List.length_nil, List.length_replicate, List.length_take, List.length_drop]; omega))) only [↓c_pos, ↓c_neg, dec_t, dec_f, Bool.and_true, Bool.true_and, Bool.and_false, Bool.false_and, Bool.not_true, Bool.not_false, cond_true, cond_false, inR_t, cutR_t, roomB_t, lenOK_t, w64, bs_size, List.length_append, List.length_cons, List.length_nil, bs_extract, bs_append, bs_push, bs_data, bs_empty, bs_lit, catS_bs, eqS_bs, ite_pos', ite_neg', decide_true, decide_false, if_true, if_false, toNatC, getI_nl, nl_len, nl_set, nl_set0, nl_take, nl_drop, nl_rep, nl_app, hdSz_nl, drop0, wu32, wu64, wu8, List.length_set, List.length_replicate, w0, w1, w2, w3, List.nil_append, ih]
def ratL (a b : Nat) : Prop := a ≠ 0 ∧ (10 ^ 400 ≤ a / Nat.gcd a b ∨ 10 ^ 400 ≤ b / Nat.gcd a b)
instance (a b : Nat) : Decidable (ratL a b) := by unfold ratL; infer_instance
end Go.Proofs.YtfbahcfojiaeaaaGreatDoor


set_option linter.unusedVariables false
set_option maxRecDepth 100000
namespace Go.Proofs.YtfbahcfojiaeaaaGreatDoor
open Go Th Go.Proofs
def ann105 : Ann := { loops := [], cuts := [], frz := [], rm := [.id] }
noncomputable abbrev env105 (n : Nat) : Env := fun _ => none
theorem envok105 (n : Nat) : EnvOK Tryz.prog GI (env105 n) := EnvOK.nil
noncomputable def p105 {R : Type} (n : Nat) (x1 x2 : ByteArray) (k0 : Bool → Option R) : Option R :=
  bif (decide (((x1).size : Int) ≥ ((x2).size : Int))) then (bif true then (bif true then (bif true then (bif (cutR 0 ((x2).size : Int) (x1).size) then (bif true then (bif true then (k0 (bif true then eqS (ByteArray.extract x1 (0 : Int).toNat (((x2).size : Int) : Int).toNat) x2 else false)) else none) else none) else none) else none) else none) else none) else (bif false then none else (bif false then none else (bif false then none else (bif false then none else (bif false then none else (bif false then none else (k0 false)))))))
noncomputable abbrev lo105 {R : Type} (n : Nat) : Orc R := fun i vs K => none
noncomputable abbrev cu105 {R : Type} (n : Nat) : Orc R := fun i vs K => none
section
variable {R : Type}
abbrev K105 (R : Type) (n : Nat) := PartOK (R := R) Tryz.prog (env105 n) ann105 n (18, []) (lo105 n) (cu105 n)
theorem pa105 (n : Nat) : allP (K105 R n) (partsOf ann105 (bodyOf Tryz.f105)) := by
  rw [show partsOf ann105 (bodyOf Tryz.f105) = [] from by kernel_rfl]; exact trivial
end
abbrev t105 : Sl (List SV) := (.c (sP sStr) (.c (sP sStr) .n))
noncomputable abbrev f105 (n : Nat) {R : Type} (K : List SV → Option R) : t105.T (Option R) := fun x1 x2 => p105 n x1 x2 (fun y1 => K [.p (.v (.bool y1))])
theorem ep105 {R : Type} (n : Nat) (K : List SV → Option R) (x1 x2 : ByteArray) : evFn Tryz.prog (env105 n) ann105 n Tryz.f105 [.p (.v (.string x1)), .p (.v (.string x2))] K = f105 n K x1 x2 := by
  rw [evFn_evOi (c := bodyOf Tryz.f105) (by kernel_rfl) (pa105 n)]; kernel_rfl
noncomputable abbrev fs105 (n : Nat) : FS := { om := [false, false], run := fun args K => oget (t105.ap args (f105 n K)) none }
theorem ok105 (n : Nat) : FSound Tryz.prog GI 105 (fs105 n) :=
  FSound.good (envok105 n) (ann := ann105) (n := n) Tryz.func105
    (.cons (envok105 n) t105 (f105 n) (fun K x1 x2 => ep105 n K x1 x2) .nil)
    (by kernel_rfl) (by kernel_rfl) (by kernel_rfl)
end Go.Proofs.YtfbahcfojiaeaaaGreatDoor


set_option linter.unusedVariables false
set_option maxRecDepth 100000
namespace Go.Proofs.YtfbahcfojiaeaaaGreatDoor
open Go Th Go.Proofs
def ann90 : Ann := { loops := [], cuts := [], frz := [], rm := [.id, .id] }
noncomputable abbrev env90 (n : Nat) : Env := fun i => bif Nat.beq i 105 then some (fs105 n) else (fun _ => none) i
theorem envok90 (n : Nat) : EnvOK Tryz.prog GI (env90 n) := EnvOK.cons (EnvOK.nil) (ok105 n)
noncomputable def p90 {R : Type} (n : Nat) (x1 x2 : ByteArray) (k0 : ByteArray → Bool → Option R) : Option R :=
  p105 n x1 x2 (fun y3 => bif (!y3) then (k0 x1 false) else (bif (cutR ((x2).size : Int) ((x1).size : Int) (x1).size) then (k0 (ByteArray.extract x1 (((x2).size : Int) : Int).toNat (((x1).size : Int) : Int).toNat) true) else none))
noncomputable abbrev lo90 {R : Type} (n : Nat) : Orc R := fun i vs K => none
noncomputable abbrev cu90 {R : Type} (n : Nat) : Orc R := fun i vs K => none
section
variable {R : Type}
abbrev K90 (R : Type) (n : Nat) := PartOK (R := R) Tryz.prog (env90 n) ann90 n (15, []) (lo90 n) (cu90 n)
theorem pa90 (n : Nat) : allP (K90 R n) (partsOf ann90 (bodyOf Tryz.f90)) := by
  rw [show partsOf ann90 (bodyOf Tryz.f90) = [] from by kernel_rfl]; exact trivial
end
abbrev t90 : Sl (List SV) := (.c (sP sStr) (.c (sP sStr) .n))
noncomputable abbrev f90 (n : Nat) {R : Type} (K : List SV → Option R) : t90.T (Option R) := fun x1 x2 => p90 n x1 x2 (fun y1 y2 => K [.p (.v (.string y1)), .p (.v (.bool y2))])
theorem ep90 {R : Type} (n : Nat) (K : List SV → Option R) (x1 x2 : ByteArray) : evFn Tryz.prog (env90 n) ann90 n Tryz.f90 [.p (.v (.string x1)), .p (.v (.string x2))] K = f90 n K x1 x2 := by
  rw [evFn_evOi (c := bodyOf Tryz.f90) (by kernel_rfl) (pa90 n)]; kernel_rfl
noncomputable abbrev fs90 (n : Nat) : FS := { om := [false, false], run := fun args K => oget (t90.ap args (f90 n K)) none }
theorem ok90 (n : Nat) : FSound Tryz.prog GI 90 (fs90 n) :=
  FSound.good (envok90 n) (ann := ann90) (n := n) Tryz.func90
    (.cons (envok90 n) t90 (f90 n) (fun K x1 x2 => ep90 n K x1 x2) .nil)
    (by kernel_rfl) (by kernel_rfl) (by kernel_rfl)
end Go.Proofs.YtfbahcfojiaeaaaGreatDoor


set_option linter.unusedVariables false
set_option maxRecDepth 100000
namespace Go.Proofs.YtfbahcfojiaeaaaGreatDoor
open Go Th Go.Proofs
def ann75 : Ann := { loops := [], cuts := [], frz := [], rm := [.id, .id] }
noncomputable abbrev env75 (n : Nat) : Env := fun i => bif Nat.beq i 90 then some (fs90 n) else (fun _ => none) i
theorem envok75 (n : Nat) : EnvOK Tryz.prog GI (env75 n) := EnvOK.cons (EnvOK.nil) (ok90 n)
noncomputable def p75 {R : Type} (n : Nat) (x1 x2 : ByteArray) (k0 : ByteArray → Bool → Option R) : Option R :=
  p90 n x1 x2 (fun y3 y4 => k0 y3 y4)
noncomputable abbrev lo75 {R : Type} (n : Nat) : Orc R := fun i vs K => none
noncomputable abbrev cu75 {R : Type} (n : Nat) : Orc R := fun i vs K => none
section
variable {R : Type}
abbrev K75 (R : Type) (n : Nat) := PartOK (R := R) Tryz.prog (env75 n) ann75 n (11, []) (lo75 n) (cu75 n)
theorem pa75 (n : Nat) : allP (K75 R n) (partsOf ann75 (bodyOf Tryz.f75)) := by
  rw [show partsOf ann75 (bodyOf Tryz.f75) = [] from by kernel_rfl]; exact trivial
end
abbrev t75 : Sl (List SV) := (.c (sP sStr) (.c (sP sStr) .n))
noncomputable abbrev f75 (n : Nat) {R : Type} (K : List SV → Option R) : t75.T (Option R) := fun x1 x2 => p75 n x1 x2 (fun y1 y2 => K [.p (.v (.string y1)), .p (.v (.bool y2))])
theorem ep75 {R : Type} (n : Nat) (K : List SV → Option R) (x1 x2 : ByteArray) : evFn Tryz.prog (env75 n) ann75 n Tryz.f75 [.p (.v (.string x1)), .p (.v (.string x2))] K = f75 n K x1 x2 := by
  rw [evFn_evOi (c := bodyOf Tryz.f75) (by kernel_rfl) (pa75 n)]; kernel_rfl
noncomputable abbrev fs75 (n : Nat) : FS := { om := [false, false], run := fun args K => oget (t75.ap args (f75 n K)) none }
theorem ok75 (n : Nat) : FSound Tryz.prog GI 75 (fs75 n) :=
  FSound.good (envok75 n) (ann := ann75) (n := n) Tryz.func75
    (.cons (envok75 n) t75 (f75 n) (fun K x1 x2 => ep75 n K x1 x2) .nil)
    (by kernel_rfl) (by kernel_rfl) (by kernel_rfl)
end Go.Proofs.YtfbahcfojiaeaaaGreatDoor


set_option linter.unusedVariables false
set_option maxRecDepth 100000
namespace Go.Proofs.YtfbahcfojiaeaaaGreatDoor
open Go Th Go.Proofs
def ann76 : Ann := { loops := [], cuts := [], frz := [], rm := [.id] }
noncomputable abbrev env76 (n : Nat) : Env := fun i => bif Nat.beq i 91 then some (fs91 n) else (fun _ => none) i
theorem envok76 (n : Nat) : EnvOK Tryz.prog GI (env76 n) := EnvOK.cons (EnvOK.nil) (ok91 n)
noncomputable def p76 {R : Type} (n : Nat) (x1 : ByteArray) (k0 : Bool → Option R) : Option R :=
  bif (eqS x1 (⟨#[]⟩ : ByteArray)) then (bif true then (bif true then (bif true then (bif true then (bif true then (bif true then (bif true then (bif true then (bif true then (bif true then (k0 false) else none) else none) else none) else none) else none) else none) else none) else none) else none) else none) else (bif false then none else (bif false then none else (bif (bif false then true else (decide (((x1).size : Int) > 400))) then (bif true then (bif true then (bif true then (bif true then (bif true then (bif true then (k0 false) else none) else none) else none) else none) else none) else none) else (bif false then none else (bif (inR 0 (x1).size) then (bif false then none else (bif false then none else (bif (byteAt x1 0 == 48) then (bif true then (bif true then (bif false then none else (bif (bif false then true else (bif true then (decide (((x1).size : Int) > 1)) else false)) then (k0 false) else (bif (trimOK x1 (⟨#[48, 49, 50, 51, 52, 53, 54, 55, 56, 57]⟩ : ByteArray)) then (k0 (eqS (trimB x1 (⟨#[48, 49, 50, 51, 52, 53, 54, 55, 56, 57]⟩ : ByteArray)) (⟨#[]⟩ : ByteArray))) else none))) else none) else none) else (bif false then none else (bif false then none else (bif false then none else (bif false then none else (bif false then none else (bif (trimOK x1 (⟨#[48, 49, 50, 51, 52, 53, 54, 55, 56, 57]⟩ : ByteArray)) then (k0 (eqS (trimB x1 (⟨#[48, 49, 50, 51, 52, 53, 54, 55, 56, 57]⟩ : ByteArray)) (⟨#[]⟩ : ByteArray))) else none))))))))) else none)))))
noncomputable abbrev lo76 {R : Type} (n : Nat) : Orc R := fun i vs K => none
noncomputable abbrev cu76 {R : Type} (n : Nat) : Orc R := fun i vs K => none
section
variable {R : Type}
abbrev K76 (R : Type) (n : Nat) := PartOK (R := R) Tryz.prog (env76 n) ann76 n (23, []) (lo76 n) (cu76 n)
theorem pa76 (n : Nat) : allP (K76 R n) (partsOf ann76 (bodyOf Tryz.f76)) := by
  rw [show partsOf ann76 (bodyOf Tryz.f76) = [] from by kernel_rfl]; exact trivial
end
abbrev t76 : Sl (List SV) := (.c (sP sStr) .n)
noncomputable abbrev f76 (n : Nat) {R : Type} (K : List SV → Option R) : t76.T (Option R) := fun x1 => p76 n x1 (fun y1 => K [.p (.v (.bool y1))])
theorem ep76 {R : Type} (n : Nat) (K : List SV → Option R) (x1 : ByteArray) : evFn Tryz.prog (env76 n) ann76 n Tryz.f76 [.p (.v (.string x1))] K = f76 n K x1 := by
  rw [evFn_evOi (c := bodyOf Tryz.f76) (by kernel_rfl) (pa76 n)]; kernel_rfl
noncomputable abbrev fs76 (n : Nat) : FS := { om := [false], run := fun args K => oget (t76.ap args (f76 n K)) none }
theorem ok76 (n : Nat) : FSound Tryz.prog GI 76 (fs76 n) :=
  FSound.good (envok76 n) (ann := ann76) (n := n) Tryz.func76
    (.cons (envok76 n) t76 (f76 n) (fun K x1 => ep76 n K x1) .nil)
    (by kernel_rfl) (by kernel_rfl) (by kernel_rfl)
end Go.Proofs.YtfbahcfojiaeaaaGreatDoor


set_option linter.unusedVariables false
set_option maxRecDepth 100000
namespace Go.Proofs.YtfbahcfojiaeaaaGreatDoor
open Go Th Go.Proofs
def ann44 : Ann := { loops := [], cuts := [], frz := [], rm := [.id, .id, .id] }
noncomputable abbrev env44 (n : Nat) : Env := fun i => bif Nat.beq i 76 then some (fs76 n) else (fun i => bif Nat.beq i 75 then some (fs75 n) else (fun _ => none) i) i
theorem envok44 (n : Nat) : EnvOK Tryz.prog GI (env44 n) := EnvOK.cons (EnvOK.cons (EnvOK.nil) (ok75 n)) (ok76 n)
noncomputable def p44 {R : Type} (n : Nat) (x1 : ByteArray) (k0 : Bool → ByteArray → Bool → Option R) : Option R :=
  p75 n x1 ⟨#[45]⟩ (fun y2 y3 => p76 n y2 (fun y4 => bif y4 then (bif true then (bif y3 then (bif true then (bif true then (bif true then (k0 y3 y2 (bif true then (!(bif true then eqS y2 (⟨#[48]⟩ : ByteArray) else false)) else false)) else none) else none) else none) else (bif false then none else (bif true then (bif false then none else (bif true then (k0 y3 y2 true) else none)) else none))) else none) else (bif false then none else (bif false then none else (bif false then none else (bif false then none else (k0 y3 y2 false)))))))
noncomputable abbrev lo44 {R : Type} (n : Nat) : Orc R := fun i vs K => none
noncomputable abbrev cu44 {R : Type} (n : Nat) : Orc R := fun i vs K => none
section
variable {R : Type}
abbrev K44 (R : Type) (n : Nat) := PartOK (R := R) Tryz.prog (env44 n) ann44 n (24, []) (lo44 n) (cu44 n)
theorem pa44 (n : Nat) : allP (K44 R n) (partsOf ann44 (bodyOf Tryz.f44)) := by
  rw [show partsOf ann44 (bodyOf Tryz.f44) = [] from by kernel_rfl]; exact trivial
end
abbrev t44 : Sl (List SV) := (.c (sP sStr) .n)
noncomputable abbrev f44 (n : Nat) {R : Type} (K : List SV → Option R) : t44.T (Option R) := fun x1 => p44 n x1 (fun y1 y2 y3 => K [.p (.v (.bool y1)), .p (.v (.string y2)), .p (.v (.bool y3))])
theorem ep44 {R : Type} (n : Nat) (K : List SV → Option R) (x1 : ByteArray) : evFn Tryz.prog (env44 n) ann44 n Tryz.f44 [.p (.v (.string x1))] K = f44 n K x1 := by
  rw [evFn_evOi (c := bodyOf Tryz.f44) (by kernel_rfl) (pa44 n)]; kernel_rfl
noncomputable abbrev fs44 (n : Nat) : FS := { om := [false], run := fun args K => oget (t44.ap args (f44 n K)) none }
theorem ok44 (n : Nat) : FSound Tryz.prog GI 44 (fs44 n) :=
  FSound.good (envok44 n) (ann := ann44) (n := n) Tryz.func44
    (.cons (envok44 n) t44 (f44 n) (fun K x1 => ep44 n K x1) .nil)
    (by kernel_rfl) (by kernel_rfl) (by kernel_rfl)
end Go.Proofs.YtfbahcfojiaeaaaGreatDoor


set_option linter.unusedVariables false
set_option maxRecDepth 100000
namespace Go.Proofs.YtfbahcfojiaeaaaGreatDoor
open Go Th Go.Proofs
def ann12 : Ann := { loops := [], cuts := [(5, [(6, .id), (7, .id), (9, .id), (10, .id)], [(4, .id), (5, .id)])], frz := [], rm := [.id, .id] }
noncomputable abbrev env12 (n : Nat) : Env := fun i => bif Nat.beq i 46 then some (fs46 n) else (fun i => bif Nat.beq i 45 then some (fs45 n) else (fun i => bif Nat.beq i 44 then some (fs44 n) else (fun _ => none) i) i) i
theorem envok12 (n : Nat) : EnvOK Tryz.prog GI (env12 n) := EnvOK.cons (EnvOK.cons (EnvOK.cons (EnvOK.nil) (ok44 n)) (ok45 n)) (ok46 n)
noncomputable def p12_c5 {R : Type} (n : Nat) (x1 : Bool) (x2 : ByteArray) (x3 : Bool) (x4 : ByteArray) (k0 : ByteArray → Int → Option R) : Option R :=
  bif (eqS x4 (⟨#[48]⟩ : ByteArray)) then (k0 ⟨#[]⟩ 24) else (p45 n x2 (fun y5 => p45 n x4 (fun y6 => p46 n (!(x1 == x3)) y5 y6 (fun y7 y8 => k0 y7 y8))))
noncomputable def p12 {R : Type} (n : Nat) (x1 x2 : ByteArray) (k0 : ByteArray → Int → Option R) : Option R :=
  p44 n x1 (fun y3 y4 y5 => p44 n x2 (fun y6 y7 y8 => bif (!y5) then (bif true then (bif true then (bif true then (k0 ⟨#[]⟩ 3) else none) else none) else none) else (bif false then none else (bif (bif false then true else (!y8)) then (k0 ⟨#[]⟩ 3) else (p12_c5 n y3 y4 y6 y7 (fun y9 y10 => k0 y9 y10))))))
noncomputable abbrev E12 {R : Type} (n : Nat) (c : Code) : Fr → Kc R → Option R := evC Tryz.prog (env12 n) ann12 n (43, []) c
noncomputable def c12_c5 : Code := subC (bodyOf Tryz.f12) [1, 1, 1, 1]
abbrev t12_c5 : Sl (List SV) := (.c (sP sBool) (.c (sP sStr) (.c (sP sBool) (.c (sP sStr) .n))))
noncomputable abbrev f12_c5 {R : Type} (n : Nat) (K : Kc R) : t12_c5.T (Option R) := fun x1 x2 x3 x4 => p12_c5 n x1 x2 x3 x4 (fun y1 y2 => K .ret (lk (outA ann12.cuts 5) [.p (.v (.string y1)), .p (.v (.int .i64 y2))]))
noncomputable abbrev o12_c5 {R : Type} (n : Nat) (vs : List SV) (K : Kc R) : Option R := oget (t12_c5.ap vs (f12_c5 n K)) (cutE ann12 5 (E12 n c12_c5) vs K)
noncomputable abbrev lo12 {R : Type} (n : Nat) : Orc R := fun i vs K => none
noncomputable abbrev cu12 {R : Type} (n : Nat) : Orc R := fun i vs K => dcnd (Nat.beq i 5) (o12_c5 n vs K) (none)
section
variable {R : Type}
abbrev K12 (R : Type) (n : Nat) := PartOK (R := R) Tryz.prog (env12 n) ann12 n (43, []) (lo12 n) (cu12 n)
theorem pa12_c5 (n : Nat) : allP (K12 R n) (partsOf ann12 c12_c5) := by
  rw [show partsOf ann12 c12_c5 = [] from by kernel_rfl]; exact trivial
theorem q12_c5 (n : Nat) : K12 R n (true, 5, c12_c5) := part_cut (pa12_c5 n) t12_c5 (f12_c5 n) (fun K x1 x2 x3 x4 => by show cutE _ _ _ _ _ = _; kernel_rfl) fun _ _ => rfl
theorem pa12 (n : Nat) : allP (K12 R n) (partsOf ann12 (bodyOf Tryz.f12)) := by
  rw [show partsOf ann12 (bodyOf Tryz.f12) = [(true, 5, c12_c5)] from by kernel_rfl]; exact ⟨q12_c5 n, trivial⟩
end
abbrev t12 : Sl (List SV) := (.c (sP sStr) (.c (sP sStr) .n))
noncomputable abbrev f12 (n : Nat) {R : Type} (K : List SV → Option R) : t12.T (Option R) := fun x1 x2 => p12 n x1 x2 (fun y1 y2 => K [.p (.v (.string y1)), .p (.v (.int .i64 y2))])
theorem ep12 {R : Type} (n : Nat) (K : List SV → Option R) (x1 x2 : ByteArray) : evFn Tryz.prog (env12 n) ann12 n Tryz.f12 [.p (.v (.string x1)), .p (.v (.string x2))] K = f12 n K x1 x2 := by
  rw [evFn_evOi (c := bodyOf Tryz.f12) (by kernel_rfl) (pa12 n)]; kernel_rfl
noncomputable abbrev fs12 (n : Nat) : FS := { om := [false, false], run := fun args K => oget (t12.ap args (f12 n K)) none }
theorem ok12 (n : Nat) : FSound Tryz.prog GI 12 (fs12 n) :=
  FSound.good (envok12 n) (ann := ann12) (n := n) Tryz.func12
    (.cons (envok12 n) t12 (f12 n) (fun K x1 x2 => ep12 n K x1 x2) .nil)
    (by kernel_rfl) (by kernel_rfl) (by kernel_rfl)
end Go.Proofs.YtfbahcfojiaeaaaGreatDoor


set_option linter.unusedVariables false
set_option linter.unusedSimpArgs false
namespace Go.Proofs.YtfbahcfojiaeaaaGreatDoor
open Go Th Go.Proofs
variable {R : Type}
def zs (neg : Bool) (a : Nat) : Int := if neg then -(a : Int) else a
theorem zs_natAbs (neg : Bool) (a : Nat) : (zs neg a).natAbs = a := by cases neg <;> simp [zs]
theorem zs_self (z : Int) : zs (decide (z < 0)) z.natAbs = z := by
  unfold zs; split <;> rename_i h <;> simp at h <;> omega
theorem zs_zero (neg : Bool) : zs neg 0 = 0 := by cases neg <;> rfl
theorem itoa_zs (neg : Bool) {a : Nat} (h : a ≠ 0) : Lib.itoa (zs neg a) = (if neg then [45] else []) ++ dec a := by
  unfold Lib.itoa
  cases neg
  · rw [if_neg (by simp [zs])]; simp [zs]
  · rw [if_pos (by simp [zs]; omega)]; simp [zs]
theorem itoa_pos (a : Nat) : Lib.itoa (a : Int) = dec a := by unfold Lib.itoa; rw [if_neg (by omega), Int.toNat_natCast]
theorem mk_num (neg : Bool) (a b : Nat) (hb : b ≠ 0) : (mkRat (zs neg a) b).num = zs neg (a / Nat.gcd b a) := by
  rw [Rat.num_mkRat, if_neg hb, zs_natAbs]
  cases neg
  · simp [zs]
  · simp only [zs, if_true]
    rw [Int.neg_ediv_of_dvd (Int.natCast_dvd_natCast.2 (Nat.gcd_dvd_right b a))]
    rfl
theorem mk_den (neg : Bool) (a b : Nat) (hb : b ≠ 0) : (mkRat (zs neg a) b).den = b / Nat.gcd b a := by
  rw [Rat.den_mkRat, if_neg hb, zs_natAbs]
def rtxt (q : Rat) : List UInt8 := Lib.itoa q.num ++ if q.den = 1 then [] else 47 :: dec q.den
def fits (q : Rat) : Prop := q.num.natAbs < 10 ^ 400 ∧ q.den < 10 ^ 400
instance (q : Rat) : Decidable (fits q) := by unfold fits; infer_instance
theorem rtxt_zero : rtxt 0 = [48] := by
  unfold rtxt
  rw [show (0 : Rat).num = ((0 : Nat) : Int) from rfl, itoa_pos, dec_zero]; rfl
theorem NN_zero : NN 0 = [] := by unfold NN; rw [toL_zero]; rfl
theorem NN_len (a : Nat) : (NN a).length = (toL 1000000000 a).length := by unfold NN; rw [nl_len]
theorem NN_small {a : Nat} (h0 : a ≠ 0) (h : a < 1000000000) : NN a = [PV.v (.int .u32 (a : Int))] := by unfold NN; rw [toL_one hB2 h0 h, nl_one]
theorem NN_one : NN 1 = [PV.v (.int .u32 1)] := NN_small (by omega) (by omega)
theorem lenB {a k : Nat} (h : a < 1000000000 ^ k) : (toL 1000000000 a).length ≤ k := (toL_len hB2 a k).2 h
theorem lenB_mono {a b k : Nat} (h : (toL 1000000000 b).length ≤ k) (hab : a ≤ b) : (toL 1000000000 a).length ≤ k := (toL_len hB2 a k).2 (Nat.lt_of_le_of_lt hab ((toL_len hB2 b k).1 h))
theorem reduce_eq (n : Nat) (neg t : Bool) (a b g : Nat) (hg : g ≠ 0) (ht : t = false → g = 1) (ha : (toL 1000000000 a).length < 2 ^ 18) (hb : (toL 1000000000 b).length < 2 ^ 18) (hgl : (toL 1000000000 g).length < 2 ^ 18) (hn : 2 ^ 20 < n) (k0 : Bool → List PV → List PV → Option R) :
    p46_c5 n neg (NN a) (NN b) (NN g) t k0 = k0 neg (NN (a / g)) (NN (b / g)) := by
  unfold p46_c5
  cases t
  · rw [ht rfl, Nat.div_one, Nat.div_one]; rfl
  · have d1 := fun k0 => div_eq (R := R) n a g (by omega) (by omega) (by omega) (by omega) k0
    have d2 := fun k0 => div_eq (R := R) n b g (by omega) (by omega) (by omega) (by omega) k0
    simp only [cond_true, d1, d2]
theorem ratText_eq (n : Nat) (neg : Bool) (a b : Nat) (hb0 : b ≠ 0) (ha : (toL 1000000000 a).length < 2 ^ 18) (hb : (toL 1000000000 b).length < 2 ^ 18) (hn : 2 ^ 20 < n) (hbn : b < n) (k0 : ByteArray → Int → Option R) :
    p46 n neg (NN a) (NN b) k0 = if fits (mkRat (zs neg a) b) then k0 (bs (rtxt (mkRat (zs neg a) b))) 0 else k0 (bs []) 5 := by
  unfold p46
  by_cases h0 : a = 0
  · subst h0
    rw [zs_zero, Rat.zero_mkRat]
    rw [if_pos (by decide +kernel), NN_zero, rtxt_zero]
    rfl
  have hg := fun k0 => gcd_eq (R := R) n a b hbn (by omega) (by omega) (by omega) (by omega) k0
  have hg0 : Nat.gcd b a ≠ 0 := fun e => h0 (Nat.gcd_eq_zero_iff.1 e).2
  have hgl : (toL 1000000000 (Nat.gcd b a)).length ≤ (toL 1000000000 a).length := lenB_mono (Nat.le_refl _) (Nat.le_of_dvd (by omega) (Nat.gcd_dvd_right b a))
  obtain ⟨g, hge⟩ : ∃ g, Nat.gcd b a = g := ⟨_, rfl⟩
  have hal : ¬ (toL 1000000000 a).length = 0 := fun e => h0 ((toL_eq_nil hB2).1 (List.eq_nil_of_length_eq_zero e))
  have hda : g ∣ a := by rw [← hge]; exact Nat.gcd_dvd_right b a
  have hdb : g ∣ b := by rw [← hge]; exact Nat.gcd_dvd_left b a
  have hag : a / g ≠ 0 := by
    have := Nat.div_mul_cancel hda
    intro e; rw [e] at this; omega
  have hbg : b / g ≠ 0 := by
    have := Nat.div_mul_cancel hdb
    intro e; rw [e] at this; omega
  have hla : (toL 1000000000 (a / g)).length < 2 ^ 18 := Nat.lt_of_le_of_lt (lenB_mono (Nat.le_refl _) (Nat.div_le_self a g)) ha
  have hlb : (toL 1000000000 (b / g)).length < 2 ^ 18 := Nat.lt_of_le_of_lt (lenB_mono (Nat.le_refl _) (Nat.div_le_self b g)) hb
  have e0 : (((toL 1000000000 a).length : Int) == 0) = false := by rw [beqInt0]; simpa using hal
  have key : ∀ t : Bool, (t = false → g = 1) → p46_c5 n neg (NN a) (NN b) (NN g) t (fun (y5 : Bool) (y6 : List PV) (y7 : List PV) => p46_c7 n y5 y6 y7 (fun (y8 : ByteArray) (y9 : Int) => k0 y8 y9)) = if fits (mkRat (zs neg a) b) then k0 (bs (rtxt (mkRat (zs neg a) b))) 0 else k0 (bs []) 5 := by
    intro t ht
    rw [reduce_eq n neg t a b g (by omega) ht ha hb (by rw [← hge]; omega) hn]
    unfold p46_c7
    have t1 := fun k0 => text_eq (R := R) n (a / g) (by omega) (by omega) k0
    have t2 := fun k0 => text_eq (R := R) n (b / g) (by omega) (by omega) k0
    simp only [t1, t2]
    have hf : fits (mkRat (zs neg a) b) ↔ ((dec (a / g)).length ≤ 400 ∧ (dec (b / g)).length ≤ 400) := by
      unfold fits
      rw [mk_num neg a b hb0, mk_den neg a b hb0, zs_natAbs, hge, dec_len _ _ (by omega), dec_len _ _ (by omega)]
    have hr : rtxt (mkRat (zs neg a) b) = (if neg then [45] else []) ++ dec (a / g) ++ if b / g = 1 then [] else 47 :: dec (b / g) := by
      unfold rtxt
      rw [mk_num neg a b hb0, mk_den neg a b hb0, hge, itoa_zs neg hag]
    by_cases c1 : 400 < (dec (a / g)).length
    · rw [if_neg (by rw [hf]; omega)]
      simp (disch := (first | omega | (simp only [List.length_append, List.length_cons, List.length_nil, List.length_replicate, List.length_take, List.length_drop]; omega))) only [↓c_pos, ↓c_neg, dec_t, dec_f, Bool.and_true, Bool.true_and, Bool.and_false, Bool.false_and, Bool.not_true, Bool.not_false, cond_true, cond_false, inR_t, cutR_t, roomB_t, lenOK_t, w64, bs_size, List.length_append, List.length_cons, List.length_nil, bs_extract, bs_append, bs_push, bs_data, bs_empty, bs_lit, catS_bs, eqS_bs, ite_pos', ite_neg', decide_true, decide_false, if_true, if_false, toNatC, getI_nl, nl_len, nl_set, nl_set0, nl_take, nl_drop, nl_rep, nl_app, hdSz_nl, drop0, wu32, wu64, wu8, List.length_set, List.length_replicate]
    by_cases c2 : 400 < (dec (b / g)).length
    · rw [if_neg (by rw [hf]; omega)]
      simp (disch := (first | omega | (simp only [List.length_append, List.length_cons, List.length_nil, List.length_replicate, List.length_take, List.length_drop]; omega))) only [↓c_pos, ↓c_neg, dec_t, dec_f, Bool.and_true, Bool.true_and, Bool.and_false, Bool.false_and, Bool.not_true, Bool.not_false, cond_true, cond_false, inR_t, cutR_t, roomB_t, lenOK_t, w64, bs_size, List.length_append, List.length_cons, List.length_nil, bs_extract, bs_append, bs_push, bs_data, bs_empty, bs_lit, catS_bs, eqS_bs, ite_pos', ite_neg', decide_true, decide_false, if_true, if_false, toNatC, getI_nl, nl_len, nl_set, nl_set0, nl_take, nl_drop, nl_rep, nl_app, hdSz_nl, drop0, wu32, wu64, wu8, List.length_set, List.length_replicate]
    rw [if_pos (by rw [hf]; omega), hr]
    have e1 : (dec (b / g) == [49]) = decide (b / g = 1) := by
      rw [Bool.eq_iff_iff, beq_iff_eq, decide_eq_true_iff]
      constructor
      · intro e; exact dec_inj (e.trans (dec_small (by omega : 1 < 10)).symm)
      · intro e; rw [e, dec_small (by omega)]; rfl
    simp only [p46_c10, p46_c12, p46_c14]
    cases neg
    · by_cases c3 : b / g = 1
      · have e2 : (dec (b / g) == [49]) = true := by rw [e1]; simpa using c3
        rw [if_pos c3]
        simp (disch := (first | omega | (simp only [List.length_append, List.length_cons, List.length_nil, List.length_replicate, List.length_take, List.length_drop]; omega))) only [↓c_pos, ↓c_neg, dec_t, dec_f, Bool.and_true, Bool.true_and, Bool.and_false, Bool.false_and, Bool.not_true, Bool.not_false, cond_true, cond_false, inR_t, cutR_t, roomB_t, lenOK_t, w64, bs_size, List.length_append, List.length_cons, List.length_nil, bs_extract, bs_append, bs_push, bs_data, bs_empty, bs_lit, catS_bs, eqS_bs, ite_pos', ite_neg', decide_true, decide_false, if_true, if_false, toNatC, getI_nl, nl_len, nl_set, nl_set0, nl_take, nl_drop, nl_rep, nl_app, hdSz_nl, drop0, wu32, wu64, wu8, List.length_set, List.length_replicate, e2]
        simp
      · have e2 : (dec (b / g) == [49]) = false := by rw [e1]; simpa using c3
        rw [if_neg c3]
        simp (disch := (first | omega | (simp only [List.length_append, List.length_cons, List.length_nil, List.length_replicate, List.length_take, List.length_drop]; omega))) only [↓c_pos, ↓c_neg, dec_t, dec_f, Bool.and_true, Bool.true_and, Bool.and_false, Bool.false_and, Bool.not_true, Bool.not_false, cond_true, cond_false, inR_t, cutR_t, roomB_t, lenOK_t, w64, bs_size, List.length_append, List.length_cons, List.length_nil, bs_extract, bs_append, bs_push, bs_data, bs_empty, bs_lit, catS_bs, eqS_bs, ite_pos', ite_neg', decide_true, decide_false, if_true, if_false, toNatC, getI_nl, nl_len, nl_set, nl_set0, nl_take, nl_drop, nl_rep, nl_app, hdSz_nl, drop0, wu32, wu64, wu8, List.length_set, List.length_replicate, e2]
        simp
    · by_cases c3 : b / g = 1
      · have e2 : (dec (b / g) == [49]) = true := by rw [e1]; simpa using c3
        rw [if_pos c3]
        simp (disch := (first | omega | (simp only [List.length_append, List.length_cons, List.length_nil, List.length_replicate, List.length_take, List.length_drop]; omega))) only [↓c_pos, ↓c_neg, dec_t, dec_f, Bool.and_true, Bool.true_and, Bool.and_false, Bool.false_and, Bool.not_true, Bool.not_false, cond_true, cond_false, inR_t, cutR_t, roomB_t, lenOK_t, w64, bs_size, List.length_append, List.length_cons, List.length_nil, bs_extract, bs_append, bs_push, bs_data, bs_empty, bs_lit, catS_bs, eqS_bs, ite_pos', ite_neg', decide_true, decide_false, if_true, if_false, toNatC, getI_nl, nl_len, nl_set, nl_set0, nl_take, nl_drop, nl_rep, nl_app, hdSz_nl, drop0, wu32, wu64, wu8, List.length_set, List.length_replicate, e2]
        simp
      · have e2 : (dec (b / g) == [49]) = false := by rw [e1]; simpa using c3
        rw [if_neg c3]
        simp (disch := (first | omega | (simp only [List.length_append, List.length_cons, List.length_nil, List.length_replicate, List.length_take, List.length_drop]; omega))) only [↓c_pos, ↓c_neg, dec_t, dec_f, Bool.and_true, Bool.true_and, Bool.and_false, Bool.false_and, Bool.not_true, Bool.not_false, cond_true, cond_false, inR_t, cutR_t, roomB_t, lenOK_t, w64, bs_size, List.length_append, List.length_cons, List.length_nil, bs_extract, bs_append, bs_push, bs_data, bs_empty, bs_lit, catS_bs, eqS_bs, ite_pos', ite_neg', decide_true, decide_false, if_true, if_false, toNatC, getI_nl, nl_len, nl_set, nl_set0, nl_take, nl_drop, nl_rep, nl_app, hdSz_nl, drop0, wu32, wu64, wu8, List.length_set, List.length_replicate, e2]
        simp
  simp only [hg, hge, NN_len]
  by_cases c : 1 < (toL 1000000000 g).length
  · have : 1000000000 ^ 1 ≤ g := toL_len_lt hB2 c
    simp (disch := (first | omega | (simp only [List.length_append, List.length_cons, List.length_nil, List.length_replicate, List.length_take, List.length_drop]; omega))) only [↓c_pos, ↓c_neg, dec_t, dec_f, Bool.and_true, Bool.true_and, Bool.and_false, Bool.false_and, Bool.not_true, Bool.not_false, cond_true, cond_false, inR_t, cutR_t, roomB_t, lenOK_t, w64, bs_size, List.length_append, List.length_cons, List.length_nil, bs_extract, bs_append, bs_push, bs_data, bs_empty, bs_lit, catS_bs, eqS_bs, ite_pos', ite_neg', decide_true, decide_false, if_true, if_false, toNatC, getI_nl, nl_len, nl_set, nl_set0, nl_take, nl_drop, nl_rep, nl_app, hdSz_nl, drop0, wu32, wu64, wu8, List.length_set, List.length_replicate, e0, key true (fun h => by cases h)]
  · have hg1 : g < 1000000000 := by
      have := (toL_len hB2 g 1).1 (by omega)
      rwa [Nat.pow_one] at this
    have hgl1 : (toL 1000000000 g).length = 1 := by rw [toL_one hB2 (by omega) hg1]; rfl
    have hgi : ∀ (K : Int → Option R), getI .u32 ((NN g).getD (0 : Int).toNat (PV.v (Value.bool false))) K = K (g : Int) := fun K => by rw [NN_small (by omega) hg1]; rfl
    have e3 : decide ((g : Int) > 1) = false → g = 1 := by intro h; simp at h; omega
    simp (disch := (first | omega | (simp only [List.length_append, List.length_cons, List.length_nil, List.length_replicate, List.length_take, List.length_drop]; omega))) only [↓c_pos, ↓c_neg, dec_t, dec_f, Bool.and_true, Bool.true_and, Bool.and_false, Bool.false_and, Bool.not_true, Bool.not_false, cond_true, cond_false, inR_t, cutR_t, roomB_t, lenOK_t, w64, bs_size, List.length_append, List.length_cons, List.length_nil, bs_extract, bs_append, bs_push, bs_data, bs_empty, bs_lit, catS_bs, eqS_bs, ite_pos', ite_neg', decide_true, decide_false, if_true, if_false, toNatC, getI_nl, nl_len, nl_set, nl_set0, nl_take, nl_drop, nl_rep, nl_app, hdSz_nl, drop0, wu32, wu64, wu8, List.length_set, List.length_replicate, e0, hgi, hgl1]
    exact key _ e3
def digs (s : List UInt8) : Bool := !s.isEmpty && decide (s.length ≤ 400) && !(s.head? == some 48 && decide (1 < s.length)) && s.all isD
theorem contains_dig (c : UInt8) : ([48, 49, 50, 51, 52, 53, 54, 55, 56, 57] : List UInt8).contains c = isD c := by
  rw [Bool.eq_iff_iff, isD_iff]
  simp only [List.contains_eq_mem, List.mem_cons, List.not_mem_nil, or_false, decide_eq_true_eq, ← UInt8.toNat_inj]
  have e : ∀ k : Nat, k < 256 → (UInt8.ofNat k).toNat = k := fun k h => by rw [UInt8.toNat_ofNat']; omega
  show (c.toNat = 48 ∨ c.toNat = 49 ∨ c.toNat = 50 ∨ c.toNat = 51 ∨ c.toNat = 52 ∨ c.toNat = 53 ∨ c.toNat = 54 ∨ c.toNat = 55 ∨ c.toNat = 56 ∨ c.toNat = 57) ↔ _
  omega
theorem mem_take_drop {α : Type} (p : α → Bool) (l : List α) {x : α} (h : x ∈ l) : p x = true ∨ x ∈ l.dropWhile p := by
  induction l with
  | nil => cases h
  | cons a r ih =>
    rw [List.dropWhile_cons]
    by_cases ha : p a = true
    · rw [if_pos ha]
      rcases List.mem_cons.1 h with rfl | h
      · exact Or.inl ha
      · exact ih h
    · rw [if_neg ha]; exact Or.inr h
theorem dropWhile_nil {α : Type} (p : α → Bool) (l : List α) : l.dropWhile p = [] ↔ ∀ x ∈ l, p x = true := by
  constructor
  · intro h x hx
    rcases mem_take_drop p l hx with h1 | h1
    · exact h1
    · rw [h] at h1; cases h1
  · intro h
    induction l with
    | nil => rfl
    | cons a r ih => rw [List.dropWhile_cons, if_pos (h a (List.mem_cons_self ..)), ih fun x hx => h x (List.mem_cons_of_mem _ hx)]
theorem trim_dig (s : List UInt8) : ((Lib.trimS s [48, 49, 50, 51, 52, 53, 54, 55, 56, 57]) == []) = s.all isD := by
  have hp : (([48, 49, 50, 51, 52, 53, 54, 55, 56, 57] : List UInt8).contains ·) = isD := funext contains_dig
  unfold Lib.trimS Lib.trimLeftS Lib.trimRightS
  rw [hp, Bool.eq_iff_iff, beq_iff_eq, dropWhile_nil, List.all_eq_true]
  constructor
  · intro h c hc
    rcases mem_take_drop isD s.reverse (List.mem_reverse.2 hc) with h1 | h1
    · exact h1
    · exact h c (List.mem_reverse.2 h1)
  · intro h c hc
    have : c ∈ s.reverse := (List.dropWhile_sublist _).subset (List.mem_reverse.1 hc)
    exact h c (List.mem_reverse.1 this)
theorem trimB_bs (s : List UInt8) : eqS (trimB (bs s) (bs [48, 49, 50, 51, 52, 53, 54, 55, 56, 57])) (bs []) = s.all isD := by
  rw [← trim_dig]; rfl
theorem trimOK_bs (s : List UInt8) (h : s.length ≤ 400) : trimOK (bs s) (bs [48, 49, 50, 51, 52, 53, 54, 55, 56, 57]) = true := by
  unfold trimOK
  rw [bs_size, decide_eq_true (by omega)]; rfl
theorem byteAt0 (c : UInt8) (r : List UInt8) : byteAt (bs (c :: r)) 0 = (c.toNat : Int) := rfl
theorem beqB (c d : UInt8) : (((c.toNat : Nat) : Int) == ((d.toNat : Nat) : Int)) = (c == d) := u8_eq
theorem digits_eq (n : Nat) (s : List UInt8) (hs : s.length < 2 ^ 40) (k0 : Bool → Option R) : p76 n (bs s) k0 = k0 (digs s) := by
  unfold p76
  cases s with
  | nil => rfl
  | cons c r =>
    have e0 : eqS (bs (c :: r)) (⟨#[]⟩ : ByteArray) = false := rfl
    rw [List.length_cons] at hs
    by_cases h4 : 400 < r.length + 1
    · have e1 : digs (c :: r) = false := by
        unfold digs
        rw [List.length_cons, decide_eq_false (by omega)]; simp
      have e0' : ((c :: r) == ([] : List UInt8)) = false := rfl
      simp (disch := (first | omega | (simp only [List.length_append, List.length_cons, List.length_nil, List.length_replicate, List.length_take, List.length_drop]; omega))) only [↓c_pos, ↓c_neg, dec_t, dec_f, Bool.and_true, Bool.true_and, Bool.and_false, Bool.false_and, Bool.not_true, Bool.not_false, cond_true, cond_false, inR_t, cutR_t, roomB_t, lenOK_t, w64, bs_size, List.length_append, List.length_cons, List.length_nil, bs_extract, bs_append, bs_push, bs_data, bs_empty, bs_lit, catS_bs, eqS_bs, ite_pos', ite_neg', decide_true, decide_false, if_true, if_false, toNatC, getI_nl, nl_len, nl_set, nl_set0, nl_take, nl_drop, nl_rep, nl_app, hdSz_nl, drop0, wu32, wu64, wu8, List.length_set, List.length_replicate, e0, e1, List.length_cons, e0']
    have e0' : ((c :: r) == ([] : List UInt8)) = false := rfl
    have t1 := trimOK_bs (c :: r) (by rw [List.length_cons]; omega)
    have t2 := trimB_bs (c :: r)
    by_cases hc : c = 48
    · subst hc
      have e2 : (byteAt (bs (48 :: r)) 0 == 48) = true := rfl
      by_cases h5 : 1 < r.length + 1
      · have e1 : digs (48 :: r) = false := by
          unfold digs
          rw [List.length_cons, decide_eq_true h5]; simp
        simp (disch := (first | omega | (simp only [List.length_append, List.length_cons, List.length_nil, List.length_replicate, List.length_take, List.length_drop]; omega))) only [↓c_pos, ↓c_neg, dec_t, dec_f, Bool.and_true, Bool.true_and, Bool.and_false, Bool.false_and, Bool.not_true, Bool.not_false, cond_true, cond_false, inR_t, cutR_t, roomB_t, lenOK_t, w64, bs_size, List.length_append, List.length_cons, List.length_nil, bs_extract, bs_append, bs_push, bs_data, bs_empty, bs_lit, catS_bs, eqS_bs, ite_pos', ite_neg', decide_true, decide_false, if_true, if_false, toNatC, getI_nl, nl_len, nl_set, nl_set0, nl_take, nl_drop, nl_rep, nl_app, hdSz_nl, drop0, wu32, wu64, wu8, List.length_set, List.length_replicate, e0, e1, e2, List.length_cons, e0']
      · have e1 : digs (48 :: r) = (48 :: r).all isD := by
          unfold digs
          rw [List.length_cons, decide_eq_false h5, decide_eq_true (by omega)]; simp
        simp (disch := (first | omega | (simp only [List.length_append, List.length_cons, List.length_nil, List.length_replicate, List.length_take, List.length_drop]; omega))) only [↓c_pos, ↓c_neg, dec_t, dec_f, Bool.and_true, Bool.true_and, Bool.and_false, Bool.false_and, Bool.not_true, Bool.not_false, cond_true, cond_false, inR_t, cutR_t, roomB_t, lenOK_t, w64, bs_size, List.length_append, List.length_cons, List.length_nil, bs_extract, bs_append, bs_push, bs_data, bs_empty, bs_lit, catS_bs, eqS_bs, ite_pos', ite_neg', decide_true, decide_false, if_true, if_false, toNatC, getI_nl, nl_len, nl_set, nl_set0, nl_take, nl_drop, nl_rep, nl_app, hdSz_nl, drop0, wu32, wu64, wu8, List.length_set, List.length_replicate, e0, e1, e2, List.length_cons, e0', t1, t2]
    · have e2 : (byteAt (bs (c :: r)) 0 == 48) = false := by
        rw [byteAt0]
        have := beqB c 48
        rw [show ((48 : UInt8).toNat : Int) = 48 from rfl] at this
        rw [this]; simpa using hc
      have e1 : digs (c :: r) = (c :: r).all isD := by
        unfold digs
        rw [List.length_cons, decide_eq_true (by omega : r.length + 1 ≤ 400)]
        simp [hc]
      simp (disch := (first | omega | (simp only [List.length_append, List.length_cons, List.length_nil, List.length_replicate, List.length_take, List.length_drop]; omega))) only [↓c_pos, ↓c_neg, dec_t, dec_f, Bool.and_true, Bool.true_and, Bool.and_false, Bool.false_and, Bool.not_true, Bool.not_false, cond_true, cond_false, inR_t, cutR_t, roomB_t, lenOK_t, w64, bs_size, List.length_append, List.length_cons, List.length_nil, bs_extract, bs_append, bs_push, bs_data, bs_empty, bs_lit, catS_bs, eqS_bs, ite_pos', ite_neg', decide_true, decide_false, if_true, if_false, toNatC, getI_nl, nl_len, nl_set, nl_set0, nl_take, nl_drop, nl_rep, nl_app, hdSz_nl, drop0, wu32, wu64, wu8, List.length_set, List.length_replicate, e0, e1, e2, List.length_cons, e0', t1, t2]
def cutN (s : List UInt8) : Bool × List UInt8 := match s with
  | 45 :: r => (true, r)
  | s => (false, s)
theorem cutN_len (s : List UInt8) : (cutN s).2.length ≤ s.length := by
  unfold cutN; split <;> simp
theorem cutN_cons (c : UInt8) (r : List UInt8) : cutN (c :: r) = if c = 45 then (true, r) else (false, c :: r) := by
  unfold cutN
  by_cases h : c = 45
  · subst h; rfl
  · rw [if_neg h]
    split
    · rename_i e; injection e with e1 _; exact absurd e1 h
    · rfl
theorem cutPrefix_eq (n : Nat) (s : List UInt8) (hs : s.length < 2 ^ 40) (k0 : ByteArray → Bool → Option R) : p75 n (bs s) ⟨#[45]⟩ k0 = k0 (bs (cutN s).2) (cutN s).1 := by
  unfold p75 p90 p105
  cases s with
  | nil => rfl
  | cons c r =>
    rw [List.length_cons] at hs
    have hz : ((⟨#[45]⟩ : ByteArray)).size = 1 := rfl
    have e1 : List.take (0 + 1) (c :: r) = [c] := rfl
    have e3 : List.drop (0 + 1) (c :: List.take r.length r) = r := by rw [List.take_length]; rfl
    have e2 : ([c] == [45]) = decide (c = 45) := by
      rw [Bool.eq_iff_iff]; simp
    rw [cutN_cons]
    by_cases hc : c = 45
    · rw [if_pos hc]
      simp (disch := (first | omega | (simp only [List.length_append, List.length_cons, List.length_nil, List.length_replicate, List.length_take, List.length_drop]; omega))) only [↓c_pos, ↓c_neg, dec_t, dec_f, Bool.and_true, Bool.true_and, Bool.and_false, Bool.false_and, Bool.not_true, Bool.not_false, cond_true, cond_false, inR_t, cutR_t, roomB_t, lenOK_t, w64, bs_size, List.length_append, List.length_cons, List.length_nil, bs_extract, bs_append, bs_push, bs_data, bs_empty, bs_lit, catS_bs, eqS_bs, ite_pos', ite_neg', decide_true, decide_false, if_true, if_false, toNatC, getI_nl, nl_len, nl_set, nl_set0, nl_take, nl_drop, nl_rep, nl_app, hdSz_nl, drop0, wu32, wu64, wu8, List.length_set, List.length_replicate, hz, List.length_cons, e1, e2, List.length_nil, List.take_succ_cons, e3]
    · rw [if_neg hc]
      simp (disch := (first | omega | (simp only [List.length_append, List.length_cons, List.length_nil, List.length_replicate, List.length_take, List.length_drop]; omega))) only [↓c_pos, ↓c_neg, dec_t, dec_f, Bool.and_true, Bool.true_and, Bool.and_false, Bool.false_and, Bool.not_true, Bool.not_false, cond_true, cond_false, inR_t, cutR_t, roomB_t, lenOK_t, w64, bs_size, List.length_append, List.length_cons, List.length_nil, bs_extract, bs_append, bs_push, bs_data, bs_empty, bs_lit, catS_bs, eqS_bs, ite_pos', ite_neg', decide_true, decide_false, if_true, if_false, toNatC, getI_nl, nl_len, nl_set, nl_set0, nl_take, nl_drop, nl_rep, nl_app, hdSz_nl, drop0, wu32, wu64, wu8, List.length_set, List.length_replicate, hz, List.length_cons, e1, e2, List.length_nil, List.take_succ_cons, e3]
def intB (s : List UInt8) : Bool := digs (cutN s).2 && !((cutN s).1 && (cutN s).2 == [48])
theorem integer_eq (n : Nat) (s : List UInt8) (hs : s.length < 2 ^ 40) (k0 : Bool → ByteArray → Bool → Option R) : p44 n (bs s) k0 = k0 (cutN s).1 (bs (cutN s).2) (intB s) := by
  have hl := cutN_len s
  have h1 := fun k0 => cutPrefix_eq (R := R) n s hs k0
  have h2 := fun k0 => digits_eq (R := R) n (cutN s).2 (by omega) k0
  unfold p44
  simp only [h1, h2, intB]
  generalize (cutN s).1 = neg
  generalize (cutN s).2 = r
  cases digs r
  · rfl
  · cases neg
    · rfl
    · rfl
theorem digs_dec {a : Nat} (h : a < 10 ^ 400) : digs (dec a) = true := by
  have h1 := (dec_len a 400 (by omega)).2 h
  have h2 := dec_ne a
  have h3 := dec_head a
  unfold digs
  rw [decide_eq_true h1]
  have e1 : (dec a).isEmpty = false := by simpa using h2
  have e2 : (dec a).all isD = true := List.all_eq_true.2 (dec_isD a)
  have e3 : ((dec a).head? == some 48 && decide (1 < (dec a).length)) = false := by
    rcases h3 with h3 | h3
    · have : ((dec a).head? == some 48) = false := by simpa using h3
      rw [this]; rfl
    · rw [h3]; simp
  rw [e1, e2, e3]; rfl
theorem digs_out {s : List UInt8} (h : digs s = true) : ofD s < 10 ^ 400 ∧ s = dec (ofD s) := by
  unfold digs at h
  simp only [Bool.and_eq_true, Bool.not_eq_true', List.isEmpty_eq_false_iff, decide_eq_true_eq] at h
  obtain ⟨⟨⟨h1, h2⟩, h3⟩, h4⟩ := h
  have h4' : ∀ c ∈ s, isD c = true := List.all_eq_true.1 h4
  have e : dec (ofD s) = s := dec_ofD h4' h1 (by
    by_cases h5 : s.head? = some 48
    · right
      rw [h5] at h3
      simp at h3
      have := List.length_pos_iff.2 h1
      omega
    · exact Or.inl h5)
  refine ⟨(dec_len (ofD s) 400 (by omega)).1 ?_, e.symm⟩
  rw [e]; exact h2
theorem cutN_dec (a : Nat) : cutN (dec a) = (false, dec a) := by
  have h := dec_isD a
  cases hd : dec a with
  | nil => rfl
  | cons c r =>
    rw [cutN_cons, if_neg]
    intro e
    rw [hd] at h
    have := h c (List.mem_cons_self ..)
    rw [e] at this
    exact absurd this (by decide)
theorem cutN_itoa (z : Int) : cutN (Lib.itoa z) = (decide (z < 0), dec z.natAbs) := by
  unfold Lib.itoa
  by_cases h : z < 0
  · rw [if_pos h, decide_eq_true h]; rfl
  · rw [if_neg h, decide_eq_false h]
    have : z.toNat = z.natAbs := by omega
    rw [this]; exact cutN_dec _
theorem intB_itoa {z : Int} (h : z.natAbs < 10 ^ 400) : intB (Lib.itoa z) = true := by
  unfold intB
  rw [cutN_itoa]
  simp only [digs_dec h, Bool.true_and]
  by_cases hz : z < 0
  · have : (dec z.natAbs == [48]) = false := by
      simp only [beq_eq_false_iff_ne, ne_eq]
      intro e
      have := dec_inj (e.trans dec_zero.symm)
      omega
    rw [this]; simp
  · simp [hz]
theorem cutN_in (s : List UInt8) : s = (if (cutN s).1 then [45] else []) ++ (cutN s).2 := by
  cases s with
  | nil => rfl
  | cons c r =>
    rw [cutN_cons]
    by_cases h : c = 45
    · rw [if_pos h, h]; rfl
    · rw [if_neg h]; rfl
theorem intB_out {s : List UInt8} (h : intB s = true) : ∃ z : Int, z.natAbs < 10 ^ 400 ∧ s = Lib.itoa z := by
  unfold intB at h
  simp only [Bool.and_eq_true, Bool.not_eq_true'] at h
  obtain ⟨h1, h2⟩ := h
  obtain ⟨h3, h4⟩ := digs_out h1
  have h5 := cutN_in s
  refine ⟨zs (cutN s).1 (ofD (cutN s).2), by rw [zs_natAbs]; exact h3, ?_⟩
  by_cases h0 : ofD (cutN s).2 = 0
  · rw [h0] at h4
    have e : (cutN s).1 = false := by
      rw [h4, dec_zero] at h2
      simpa using h2
    rw [h0, e]
    rw [e, h4] at h5
    rw [h5]
    exact (itoa_pos 0).symm
  · rw [itoa_zs _ h0, ← h4]; exact h5
theorem divInt_mk (z w : Int) : Rat.divInt z w = mkRat (zs (!(decide (z < 0) == decide (w < 0))) z.natAbs) w.natAbs := by
  by_cases hw : w < 0
  · obtain ⟨b, rfl⟩ : ∃ b : Nat, w = -(b : Int) := ⟨w.natAbs, by omega⟩
    rw [Rat.divInt_neg', Rat.divInt_ofNat, Int.natAbs_neg, Int.natAbs_natCast]
    congr 1
    rw [decide_eq_true hw]
    by_cases hz : z < 0
    · simp [hz, zs]; omega
    · simp [hz, zs]; omega
  · obtain ⟨b, rfl⟩ : ∃ b : Nat, w = (b : Int) := ⟨w.natAbs, by omega⟩
    rw [Rat.divInt_ofNat, Int.natAbs_natCast]
    congr 1
    rw [decide_eq_false hw]
    by_cases hz : z < 0
    · simp [hz, zs]; omega
    · simp [hz, zs]; omega
theorem lim_len {a : Nat} (h : a < 10 ^ 400) : (toL 1000000000 a).length ≤ 45 :=
  lenB (Nat.lt_of_lt_of_le h (by decide +kernel))
theorem dec_lim {a : Nat} (h : a < 10 ^ 400) : (dec a).length ≤ 400 := (dec_len a 400 (by omega)).2 h
end Go.Proofs.YtfbahcfojiaeaaaGreatDoor


set_option linter.unusedVariables false
set_option linter.unusedSimpArgs false
namespace Go.Proofs.YtfbahcfojiaeaaaGreatDoor
open Go Th Go.Proofs
variable {R : Type}
end Go.Proofs.YtfbahcfojiaeaaaGreatDoor


set_option linter.unusedVariables false
set_option maxRecDepth 100000
namespace Go.Proofs.YtfbahcfojiaeaaaGreatDoor
open Go Th Go.Proofs
section
variable {R : Type}
end
end Go.Proofs.YtfbahcfojiaeaaaGreatDoor


set_option linter.unusedVariables false
set_option maxRecDepth 100000
namespace Go.Proofs.YtfbahcfojiaeaaaGreatDoor
open Go Th Go.Proofs
section
variable {R : Type}
end
end Go.Proofs.YtfbahcfojiaeaaaGreatDoor


set_option linter.unusedVariables false
set_option maxRecDepth 100000
namespace Go.Proofs.YtfbahcfojiaeaaaGreatDoor
open Go Th Go.Proofs
section
variable {R : Type}
end
end Go.Proofs.YtfbahcfojiaeaaaGreatDoor


set_option linter.unusedVariables false
set_option maxRecDepth 100000
namespace Go.Proofs.YtfbahcfojiaeaaaGreatDoor
open Go Th Go.Proofs
section
variable {R : Type}
end
end Go.Proofs.YtfbahcfojiaeaaaGreatDoor


set_option linter.unusedVariables false
set_option maxRecDepth 100000
namespace Go.Proofs.YtfbahcfojiaeaaaGreatDoor
open Go Th Go.Proofs
section
variable {R : Type}
end
end Go.Proofs.YtfbahcfojiaeaaaGreatDoor


set_option linter.unusedVariables false
set_option maxRecDepth 100000
namespace Go.Proofs.YtfbahcfojiaeaaaGreatDoor
open Go Th Go.Proofs
section
variable {R : Type}
end
end Go.Proofs.YtfbahcfojiaeaaaGreatDoor


set_option linter.unusedVariables false
set_option linter.unusedSimpArgs false
namespace Go.Proofs.YtfbahcfojiaeaaaGreatDoor
open Go Th Go.Proofs
variable {R : Type}
end Go.Proofs.YtfbahcfojiaeaaaGreatDoor


set_option linter.unusedVariables false
set_option maxRecDepth 100000
namespace Go.Proofs.YtfbahcfojiaeaaaGreatDoor
open Go Th Go.Proofs
noncomputable def p10_l2B {R : Type} (n : Nat) (l0 : List PV → Int → Option R) (x1 : List PV) (x2 : Int) (k0 : Bool → Option R) (k1 : Option R) : Option R :=
  bif (decide (x2 < ((x1).length : Int))) then (bif (inR x2 ((x1).length)) then (getS ((x1).getD ((x2 : Int).toNat) (.v (.bool false))) fun e3 => bif (decide (((e3).size : Int) > 300)) then (k0 false) else (l0 x1 (IntKind.i64.wrap (x2 + 1)))) else none) else (k1)
noncomputable def p10_l2L {R : Type} (n : Nat) : Nat → List PV → Int → (Bool → Option R) → (Option R) → Option R
  | 0, _, _, _, _ => none
  | m + 1, x1, x2, k0, k1 => p10_l2B n (fun x1 x2 => p10_l2L n m x1 x2 k0 k1) x1 x2 k0 k1
noncomputable def p10_l2 {R : Type} (n : Nat) (x1 : List PV) (x2 : Int) (k0 : Bool → Option R) (k1 : Option R) : Option R := p10_l2L n n x1 x2 k0 k1
noncomputable def p10 {R : Type} (n : Nat) (x1 : List PV) (k0 : Bool → Option R) : Option R :=
  p10_l2 n x1 0 (fun y2 => k0 y2) (k0 true)
section
variable {R : Type}
end
abbrev t10 : Sl (List SV) := (.c (sP sSh) .n)
noncomputable abbrev f10 (n : Nat) {R : Type} (K : List SV → Option R) : t10.T (Option R) := fun x1 => p10 n x1 (fun y1 => K [.p (.v (.bool y1))])
end Go.Proofs.YtfbahcfojiaeaaaGreatDoor


set_option linter.unusedVariables false
set_option maxRecDepth 100000
namespace Go.Proofs.YtfbahcfojiaeaaaGreatDoor
open Go Th Go.Proofs
def ann56 : Ann := { loops := [(9, [(4, .id), (5, .id), (6, .id), (37, .id), (38, .id)], [(2, .id), (3, .id), (4, .id), (6, .id)])], cuts := [(2, [(0, .id), (4, .id)], [(2, .id), (3, .id)]), (5, [(0, .id), (4, .id), (5, .id)], [(2, .id), (3, .id)]), (7, [(4, .id), (5, .id)], [(2, .id), (3, .id)]), (17, [(6, .id)], [(2, .id), (3, .id)])], frz := [], rm := [.id, .id] }
noncomputable abbrev env56 (n : Nat) : Env := fun _ => none
theorem envok56 (n : Nat) : EnvOK Tryz.prog GI (env56 n) := EnvOK.nil
noncomputable def p56_l9B {R : Type} (n : Nat) (l0 : Bool → ByteArray → Int → Int → Int → Option R) (x1 : Bool) (x2 : ByteArray) (x3 x4 x5 : Int) (k0 : Int → Bool → Bool → Int → Option R) (k1 : Bool → Int → Option R) : Option R :=
  bif (decide (x5 < x4)) then (bif (inR x5 (x2).size) then (bif (decide (byteAt x2 x5 < 48)) then (bif true then (bif true then (bif true then (bif true then (bif true then (k0 0 false x1 x3) else none) else none) else none) else none) else none) else (bif false then none else (bif false then none else (bif (inR x5 (x2).size) then (bif false then none else (bif (bif false then true else (decide (byteAt x2 x5 > 57))) then (k0 0 false x1 x3) else (bif (inR x5 (x2).size) then (let v6 := IntKind.u8.wrap ((byteAt x2 x5) - 48); let v7 := IntKind.i64.wrap ((IntKind.i64.wrap (10 * x3)) + (IntKind.i64.wrap (v6))); l0 x1 x2 v7 x4 (IntKind.i64.wrap (x5 + 1))) else none))) else none)))) else none) else (k1 x1 x3)
noncomputable def p56_l9L {R : Type} (n : Nat) : Nat → Bool → ByteArray → Int → Int → Int → (Int → Bool → Bool → Int → Option R) → (Bool → Int → Option R) → Option R
  | 0, _, _, _, _, _, _, _ => none
  | m + 1, x1, x2, x3, x4, x5, k0, k1 => p56_l9B n (fun x1 x2 x3 x4 x5 => p56_l9L n m x1 x2 x3 x4 x5 k0 k1) x1 x2 x3 x4 x5 k0 k1
noncomputable def p56_l9 {R : Type} (n : Nat) (x1 : Bool) (x2 : ByteArray) (x3 x4 x5 : Int) (k0 : Int → Bool → Bool → Int → Option R) (k1 : Bool → Int → Option R) : Option R := p56_l9L n n x1 x2 x3 x4 x5 k0 k1
noncomputable def p56_c17 {R : Type} (n : Nat) (x1 : Int) (k0 : Int → Bool → Option R) : Option R :=
  k0 x1 true
noncomputable def p56_c7 {R : Type} (n : Nat) (x1 : Bool) (x2 : ByteArray) (k0 : Int → Bool → Option R) : Option R :=
  p56_l9 n x1 x2 0 ((x2).size : Int) 0 (fun y3 y4 y5 y6 => k0 y3 y4) (fun y7 y8 => bif y7 then (p56_c17 n (IntKind.i64.wrap (0 - y8)) (fun y9 y10 => k0 y9 y10)) else (p56_c17 n y8 (fun y11 y12 => k0 y11 y12)))
noncomputable def p56_c5 {R : Type} (n : Nat) (x1 : ByteArray) (x2 : Bool) (x3 : ByteArray) (k0 : Int → Bool → Option R) : Option R :=
  bif (eqS x3 (⟨#[]⟩ : ByteArray)) then (bif true then (bif true then (bif true then (bif true then (bif true then (bif true then (bif true then (bif true then (bif true then (bif true then (k0 0 false) else none) else none) else none) else none) else none) else none) else none) else none) else none) else none) else (bif false then none else (bif false then none else (bif (bif false then true else (decide (((x3).size : Int) > 9))) then (bif true then (bif true then (bif true then (bif true then (bif true then (bif true then (k0 0 false) else none) else none) else none) else none) else none) else none) else (bif false then none else (bif (inR 0 (x3).size) then (bif false then none else (bif false then none else (bif (byteAt x3 0 == 48) then (bif true then (bif true then (bif false then none else (bif (bif false then true else (bif true then (decide (((x1).size : Int) > 1)) else false)) then (k0 0 false) else (p56_c7 n x2 x3 (fun y4 y5 => k0 y4 y5)))) else none) else none) else (bif false then none else (bif false then none else (bif false then none else (bif false then none else (bif false then none else (p56_c7 n x2 x3 (fun y6 y7 => k0 y6 y7)))))))))) else none)))))
noncomputable def p56_c2 {R : Type} (n : Nat) (x1 : ByteArray) (x2 : Bool) (k0 : Int → Bool → Option R) : Option R :=
  bif x2 then (bif (cutR 1 ((x1).size : Int) (x1).size) then (p56_c5 n x1 x2 (ByteArray.extract x1 (1 : Int).toNat (((x1).size : Int) : Int).toNat) (fun y3 y4 => k0 y3 y4)) else none) else (p56_c5 n x1 x2 x1 (fun y5 y6 => k0 y5 y6))
noncomputable def p56 {R : Type} (n : Nat) (x1 : ByteArray) (k0 : Int → Bool → Option R) : Option R :=
  bif (!eqS x1 (⟨#[]⟩ : ByteArray)) then (bif true then (bif (inR 0 (x1).size) then (bif true then (p56_c2 n x1 (bif true then (byteAt x1 0 == 45) else false) (fun y2 y3 => k0 y2 y3)) else none) else none) else none) else (bif false then none else (bif false then none else (bif false then none else (p56_c2 n x1 false (fun y4 y5 => k0 y4 y5)))))
noncomputable abbrev E56 {R : Type} (n : Nat) (c : Code) : Fr → Kc R → Option R := evC Tryz.prog (env56 n) ann56 n (64, []) c
noncomputable def c56_c2 : Code := subC (bodyOf Tryz.f56) [1, 1]
abbrev t56_c2 : Sl (List SV) := (.c (sP sStr) (.c (sP sBool) .n))
noncomputable abbrev f56_c2 {R : Type} (n : Nat) (K : Kc R) : t56_c2.T (Option R) := fun x1 x2 => p56_c2 n x1 x2 (fun y1 y2 => K .ret (lk (outA ann56.cuts 2) [.p (.v (.int .i64 y1)), .p (.v (.bool y2))]))
noncomputable abbrev o56_c2 {R : Type} (n : Nat) (vs : List SV) (K : Kc R) : Option R := oget (t56_c2.ap vs (f56_c2 n K)) (cutE ann56 2 (E56 n c56_c2) vs K)
noncomputable def c56_c5 : Code := subC (bodyOf Tryz.f56) [1, 1, 1, 1]
abbrev t56_c5 : Sl (List SV) := (.c (sP sStr) (.c (sP sBool) (.c (sP sStr) .n)))
noncomputable abbrev f56_c5 {R : Type} (n : Nat) (K : Kc R) : t56_c5.T (Option R) := fun x1 x2 x3 => p56_c5 n x1 x2 x3 (fun y1 y2 => K .ret (lk (outA ann56.cuts 5) [.p (.v (.int .i64 y1)), .p (.v (.bool y2))]))
noncomputable abbrev o56_c5 {R : Type} (n : Nat) (vs : List SV) (K : Kc R) : Option R := oget (t56_c5.ap vs (f56_c5 n K)) (cutE ann56 5 (E56 n c56_c5) vs K)
noncomputable def c56_c7 : Code := subC (bodyOf Tryz.f56) [1, 1, 1, 1, 1]
abbrev t56_c7 : Sl (List SV) := (.c (sP sBool) (.c (sP sStr) .n))
noncomputable abbrev f56_c7 {R : Type} (n : Nat) (K : Kc R) : t56_c7.T (Option R) := fun x1 x2 => p56_c7 n x1 x2 (fun y1 y2 => K .ret (lk (outA ann56.cuts 7) [.p (.v (.int .i64 y1)), .p (.v (.bool y2))]))
noncomputable abbrev o56_c7 {R : Type} (n : Nat) (vs : List SV) (K : Kc R) : Option R := oget (t56_c7.ap vs (f56_c7 n K)) (cutE ann56 7 (E56 n c56_c7) vs K)
noncomputable def c56_c17 : Code := subC (bodyOf Tryz.f56) [1, 1, 1, 1, 1, 1, 1, 1]
abbrev t56_c17 : Sl (List SV) := (.c (sP (sInt .i64)) .n)
noncomputable abbrev f56_c17 {R : Type} (n : Nat) (K : Kc R) : t56_c17.T (Option R) := fun x1 => p56_c17 n x1 (fun y1 y2 => K .ret (lk (outA ann56.cuts 17) [.p (.v (.int .i64 y1)), .p (.v (.bool y2))]))
noncomputable abbrev o56_c17 {R : Type} (n : Nat) (vs : List SV) (K : Kc R) : Option R := oget (t56_c17.ap vs (f56_c17 n K)) (cutE ann56 17 (E56 n c56_c17) vs K)
noncomputable def c56_l9 : Code := subC (bodyOf Tryz.f56) [1, 1, 1, 1, 1, 1, 0, 1, 0, 0]
abbrev t56_l9 : Sl (List SV) := (.c (sP sBool) (.c (sP sStr) (.c (sP (sInt .i64)) (.c (sP (sInt .i64)) (.c (sP (sInt .i64)) .n)))))
noncomputable abbrev f56_l9 {R : Type} (n m : Nat) (K : Kc R) : t56_l9.T (Option R) := fun x1 x2 x3 x4 x5 => p56_l9L n m x1 x2 x3 x4 x5 (fun y1 y2 y3 y4 => K .ret (lk (outA ann56.loops 9) [.p (.v (.int .i64 y1)), .p (.v (.bool y2)), .p (.v (.bool y3)), .p (.v (.int .i64 y4))])) (fun y1 y2 => K (.exit 0) (lk (outA ann56.loops 9) [.dead, .dead, .p (.v (.bool y1)), .p (.v (.int .i64 y2))]))
noncomputable abbrev o56_l9 {R : Type} (n : Nat) (vs : List SV) (K : Kc R) : Option R := oget (t56_l9.ap vs (f56_l9 n n K)) (loopE ann56 9 (E56 n c56_l9) n vs K)
noncomputable abbrev lo56 {R : Type} (n : Nat) : Orc R := fun i vs K => dcnd (Nat.beq i 9) (o56_l9 n vs K) (none)
noncomputable abbrev cu56 {R : Type} (n : Nat) : Orc R := fun i vs K => dcnd (Nat.beq i 17) (o56_c17 n vs K) (dcnd (Nat.beq i 7) (o56_c7 n vs K) (dcnd (Nat.beq i 5) (o56_c5 n vs K) (dcnd (Nat.beq i 2) (o56_c2 n vs K) (none))))
section
variable {R : Type}
noncomputable abbrev V56 (n : Nat) (c : Code) : Fr → Kc R → Option R := evOi Tryz.prog (env56 n) ann56 (64, []) (lo56 n) (cu56 n) c
abbrev K56 (R : Type) (n : Nat) := PartOK (R := R) Tryz.prog (env56 n) ann56 n (64, []) (lo56 n) (cu56 n)
theorem pa56_l9 (n : Nat) : allP (K56 R n) (partsOf ann56 c56_l9) := by
  rw [show partsOf ann56 c56_l9 = [] from by kernel_rfl]; exact trivial
theorem sp56_l9 (n m : Nat) (x1 : Bool) (x2 : ByteArray) (x3 x4 x5 : Int) (K : Kc R) : loopE ann56 9 (V56 n c56_l9) (m + 1) [.p (.v (.bool x1)), .p (.v (.string x2)), .p (.v (.int .i64 x3)), .p (.v (.int .i64 x4)), .p (.v (.int .i64 x5))] K = p56_l9B n (fun x1 x2 x3 x4 x5 => loopE ann56 9 (V56 n c56_l9) m [.p (.v (.bool x1)), .p (.v (.string x2)), .p (.v (.int .i64 x3)), .p (.v (.int .i64 x4)), .p (.v (.int .i64 x5))] K) x1 x2 x3 x4 x5 (fun y1 y2 y3 y4 => K .ret (lk (outA ann56.loops 9) [.p (.v (.int .i64 y1)), .p (.v (.bool y2)), .p (.v (.bool y3)), .p (.v (.int .i64 y4))])) (fun y1 y2 => K (.exit 0) (lk (outA ann56.loops 9) [.dead, .dead, .p (.v (.bool y1)), .p (.v (.int .i64 y2))])) := by kernel_rfl
theorem ep56_l9 (n : Nat) (K : Kc R) : ∀ (m : Nat) (x1 : Bool) (x2 : ByteArray) (x3 x4 x5 : Int), loopE ann56 9 (V56 n c56_l9) m [.p (.v (.bool x1)), .p (.v (.string x2)), .p (.v (.int .i64 x3)), .p (.v (.int .i64 x4)), .p (.v (.int .i64 x5))] K = f56_l9 n m K x1 x2 x3 x4 x5
  | 0, _, _, _, _, _ => rfl
  | m + 1, x1, x2, x3, x4, x5 => (sp56_l9 n m x1 x2 x3 x4 x5 K).trans (congrArg (fun l0 => p56_l9B n l0 x1 x2 x3 x4 x5 (fun y1 y2 y3 y4 => K .ret (lk (outA ann56.loops 9) [.p (.v (.int .i64 y1)), .p (.v (.bool y2)), .p (.v (.bool y3)), .p (.v (.int .i64 y4))])) (fun y1 y2 => K (.exit 0) (lk (outA ann56.loops 9) [.dead, .dead, .p (.v (.bool y1)), .p (.v (.int .i64 y2))]))) (funext fun z0 => funext fun z1 => funext fun z2 => funext fun z3 => funext fun z4 => ep56_l9 n K m z0 z1 z2 z3 z4))
theorem q56_l9 (n : Nat) : K56 R n (false, 9, c56_l9) := part_loop (pa56_l9 n) t56_l9 (f56_l9 n n) (fun K x1 x2 x3 x4 x5 => ep56_l9 n K n x1 x2 x3 x4 x5) fun _ _ => rfl
theorem pa56_c17 (n : Nat) : allP (K56 R n) (partsOf ann56 c56_c17) := by
  rw [show partsOf ann56 c56_c17 = [] from by kernel_rfl]; exact trivial
theorem q56_c17 (n : Nat) : K56 R n (true, 17, c56_c17) := part_cut (pa56_c17 n) t56_c17 (f56_c17 n) (fun K x1 => by show cutE _ _ _ _ _ = _; kernel_rfl) fun _ _ => rfl
theorem pa56_c7 (n : Nat) : allP (K56 R n) (partsOf ann56 c56_c7) := by
  rw [show partsOf ann56 c56_c7 = [(false, 9, c56_l9), (true, 17, c56_c17)] from by kernel_rfl]; exact ⟨q56_l9 n, q56_c17 n, trivial⟩
theorem q56_c7 (n : Nat) : K56 R n (true, 7, c56_c7) := part_cut (pa56_c7 n) t56_c7 (f56_c7 n) (fun K x1 x2 => by show cutE _ _ _ _ _ = _; kernel_rfl) fun _ _ => rfl
theorem pa56_c5 (n : Nat) : allP (K56 R n) (partsOf ann56 c56_c5) := by
  rw [show partsOf ann56 c56_c5 = [(true, 7, c56_c7)] from by kernel_rfl]; exact ⟨q56_c7 n, trivial⟩
theorem q56_c5 (n : Nat) : K56 R n (true, 5, c56_c5) := part_cut (pa56_c5 n) t56_c5 (f56_c5 n) (fun K x1 x2 x3 => by show cutE _ _ _ _ _ = _; kernel_rfl) fun _ _ => rfl
theorem pa56_c2 (n : Nat) : allP (K56 R n) (partsOf ann56 c56_c2) := by
  rw [show partsOf ann56 c56_c2 = [(true, 5, c56_c5)] from by kernel_rfl]; exact ⟨q56_c5 n, trivial⟩
theorem q56_c2 (n : Nat) : K56 R n (true, 2, c56_c2) := part_cut (pa56_c2 n) t56_c2 (f56_c2 n) (fun K x1 x2 => by show cutE _ _ _ _ _ = _; kernel_rfl) fun _ _ => rfl
theorem pa56 (n : Nat) : allP (K56 R n) (partsOf ann56 (bodyOf Tryz.f56)) := by
  rw [show partsOf ann56 (bodyOf Tryz.f56) = [(true, 2, c56_c2)] from by kernel_rfl]; exact ⟨q56_c2 n, trivial⟩
end
abbrev t56 : Sl (List SV) := (.c (sP sStr) .n)
noncomputable abbrev f56 (n : Nat) {R : Type} (K : List SV → Option R) : t56.T (Option R) := fun x1 => p56 n x1 (fun y1 y2 => K [.p (.v (.int .i64 y1)), .p (.v (.bool y2))])
theorem ep56 {R : Type} (n : Nat) (K : List SV → Option R) (x1 : ByteArray) : evFn Tryz.prog (env56 n) ann56 n Tryz.f56 [.p (.v (.string x1))] K = f56 n K x1 := by
  rw [evFn_evOi (c := bodyOf Tryz.f56) (by kernel_rfl) (pa56 n)]; kernel_rfl
noncomputable abbrev fs56 (n : Nat) : FS := { om := [false], run := fun args K => oget (t56.ap args (f56 n K)) none }
theorem ok56 (n : Nat) : FSound Tryz.prog GI 56 (fs56 n) :=
  FSound.good (envok56 n) (ann := ann56) (n := n) Tryz.func56
    (.cons (envok56 n) t56 (f56 n) (fun K x1 => ep56 n K x1) .nil)
    (by kernel_rfl) (by kernel_rfl) (by kernel_rfl)
end Go.Proofs.YtfbahcfojiaeaaaGreatDoor


set_option linter.unusedVariables false
set_option maxRecDepth 100000
namespace Go.Proofs.YtfbahcfojiaeaaaGreatDoor
open Go Th Go.Proofs
def ann86 : Ann := { loops := [], cuts := [], frz := [], rm := [.id, .id, .id] }
noncomputable abbrev env86 (n : Nat) : Env := fun i => bif Nat.beq i 100 then some (fs100 n) else (fun _ => none) i
theorem envok86 (n : Nat) : EnvOK Tryz.prog GI (env86 n) := EnvOK.cons (EnvOK.nil) (ok100 n)
noncomputable def p86 {R : Type} (n : Nat) (x1 : ByteArray) (k0 : ByteArray → ByteArray → Bool → Option R) : Option R :=
  let v2 := Lib.indexByte (x1).data.toList (((⟨#[47]⟩ : ByteArray)).data.toList.headD 0); bif (decide (v2 ≥ 0)) then (bif (cutR 0 v2 (x1).size) then (let v3 := IntKind.i64.wrap (v2 + ((⟨#[47]⟩ : ByteArray).size : Int)); bif (cutR v3 ((x1).size : Int) (x1).size) then (k0 (ByteArray.extract x1 (0 : Int).toNat (v2 : Int).toNat) (ByteArray.extract x1 (v3 : Int).toNat (((x1).size : Int) : Int).toNat) true) else none) else none) else (k0 x1 ⟨#[]⟩ false)
noncomputable abbrev lo86 {R : Type} (n : Nat) : Orc R := fun i vs K => none
noncomputable abbrev cu86 {R : Type} (n : Nat) : Orc R := fun i vs K => none
section
variable {R : Type}
abbrev K86 (R : Type) (n : Nat) := PartOK (R := R) Tryz.prog (env86 n) ann86 n (23, []) (lo86 n) (cu86 n)
theorem pa86 (n : Nat) : allP (K86 R n) (partsOf ann86 (bodyOf Tryz.f86)) := by
  rw [show partsOf ann86 (bodyOf Tryz.f86) = [] from by kernel_rfl]; exact trivial
end
abbrev t86 : Sl (List SV) := (.c (sP sStr) (.c (sP (sStrC (⟨#[47]⟩ : ByteArray))) .n))
noncomputable abbrev f86 (n : Nat) {R : Type} (K : List SV → Option R) : t86.T (Option R) := fun x1 => p86 n x1 (fun y1 y2 y3 => K [.p (.v (.string y1)), .p (.v (.string y2)), .p (.v (.bool y3))])
theorem ep86 {R : Type} (n : Nat) (K : List SV → Option R) (x1 : ByteArray) : evFn Tryz.prog (env86 n) ann86 n Tryz.f86 [.p (.v (.string x1)), .p (.v (.string ⟨#[47]⟩))] K = f86 n K x1 := by
  rw [evFn_evOi (c := bodyOf Tryz.f86) (by kernel_rfl) (pa86 n)]; kernel_rfl
noncomputable abbrev fs86 (n : Nat) : FS := { om := [false, false], run := fun args K => oget (t86.ap args (f86 n K)) none }
theorem ok86 (n : Nat) : FSound Tryz.prog GI 86 (fs86 n) :=
  FSound.good (envok86 n) (ann := ann86) (n := n) Tryz.func86
    (.cons (envok86 n) t86 (f86 n) (fun K x1 => ep86 n K x1) .nil)
    (by kernel_rfl) (by kernel_rfl) (by kernel_rfl)
end Go.Proofs.YtfbahcfojiaeaaaGreatDoor


set_option linter.unusedVariables false
set_option maxRecDepth 100000
namespace Go.Proofs.YtfbahcfojiaeaaaGreatDoor
open Go Th Go.Proofs
def ann55 : Ann := { loops := [], cuts := [], frz := [], rm := [.id, .id, .id] }
noncomputable abbrev env55 (n : Nat) : Env := fun i => bif Nat.beq i 86 then some (fs86 n) else (fun _ => none) i
theorem envok55 (n : Nat) : EnvOK Tryz.prog GI (env55 n) := EnvOK.cons (EnvOK.nil) (ok86 n)
noncomputable def p55 {R : Type} (n : Nat) (x1 : ByteArray) (k0 : ByteArray → ByteArray → Bool → Option R) : Option R :=
  p86 n x1 (fun y2 y3 y4 => k0 y2 y3 y4)
noncomputable abbrev lo55 {R : Type} (n : Nat) : Orc R := fun i vs K => none
noncomputable abbrev cu55 {R : Type} (n : Nat) : Orc R := fun i vs K => none
section
variable {R : Type}
abbrev K55 (R : Type) (n : Nat) := PartOK (R := R) Tryz.prog (env55 n) ann55 n (13, []) (lo55 n) (cu55 n)
theorem pa55 (n : Nat) : allP (K55 R n) (partsOf ann55 (bodyOf Tryz.f55)) := by
  rw [show partsOf ann55 (bodyOf Tryz.f55) = [] from by kernel_rfl]; exact trivial
end
abbrev t55 : Sl (List SV) := (.c (sP sStr) (.c (sP (sStrC (⟨#[47]⟩ : ByteArray))) .n))
noncomputable abbrev f55 (n : Nat) {R : Type} (K : List SV → Option R) : t55.T (Option R) := fun x1 => p55 n x1 (fun y1 y2 y3 => K [.p (.v (.string y1)), .p (.v (.string y2)), .p (.v (.bool y3))])
theorem ep55 {R : Type} (n : Nat) (K : List SV → Option R) (x1 : ByteArray) : evFn Tryz.prog (env55 n) ann55 n Tryz.f55 [.p (.v (.string x1)), .p (.v (.string ⟨#[47]⟩))] K = f55 n K x1 := by
  rw [evFn_evOi (c := bodyOf Tryz.f55) (by kernel_rfl) (pa55 n)]; kernel_rfl
noncomputable abbrev fs55 (n : Nat) : FS := { om := [false, false], run := fun args K => oget (t55.ap args (f55 n K)) none }
theorem ok55 (n : Nat) : FSound Tryz.prog GI 55 (fs55 n) :=
  FSound.good (envok55 n) (ann := ann55) (n := n) Tryz.func55
    (.cons (envok55 n) t55 (f55 n) (fun K x1 => ep55 n K x1) .nil)
    (by kernel_rfl) (by kernel_rfl) (by kernel_rfl)
end Go.Proofs.YtfbahcfojiaeaaaGreatDoor


set_option linter.unusedVariables false
set_option maxRecDepth 100000
namespace Go.Proofs.YtfbahcfojiaeaaaGreatDoor
open Go Th Go.Proofs
def ann57 : Ann := { loops := [], cuts := [(10, [(2, .id), (5, .id), (10, .id)], [(2, .id), (3, .id)])], frz := [], rm := [.id, .id] }
noncomputable abbrev env57 (n : Nat) : Env := fun i => bif Nat.beq i 79 then some (fs79 n) else (fun i => bif Nat.beq i 76 then some (fs76 n) else (fun i => bif Nat.beq i 55 then some (fs55 n) else (fun i => bif Nat.beq i 45 then some (fs45 n) else (fun i => bif Nat.beq i 44 then some (fs44 n) else (fun _ => none) i) i) i) i) i
theorem envok57 (n : Nat) : EnvOK Tryz.prog GI (env57 n) := EnvOK.cons (EnvOK.cons (EnvOK.cons (EnvOK.cons (EnvOK.cons (EnvOK.nil) (ok44 n)) (ok45 n)) (ok55 n)) (ok76 n)) (ok79 n)
noncomputable def p57_c10 {R : Type} (n : Nat) (x1 : Bool) (x2 : ByteArray) (x3 : Bool) (x4 x5 : List PV) (k0 : Bool → List PV → List PV → Bool → Option R) : Option R :=
  p45 n x2 (fun y6 => p79 n x4 y6 (fun y7 => bif (((y7).length : Int) == 1) then (bif true then (bif (inR 0 ((y7).length)) then (getI .u32 ((y7).getD ((0 : Int).toNat) (.v (.bool false))) fun e8 => bif true then (bif true then (k0 x3 x4 y6 (bif true then (e8 == 1) else false)) else none) else none) else none) else none) else (bif false then none else (bif false then none else (bif false then none else (bif false then none else (k0 x3 x4 y6 false)))))))
noncomputable def p57 {R : Type} (n : Nat) (x1 : ByteArray) (k0 : Bool → List PV → List PV → Bool → Option R) : Option R :=
  p55 n x1 (fun y2 y3 y4 => p44 n y2 (fun y5 y6 y7 => bif (!y7) then (k0 false [] [] false) else (p45 n y6 (fun y8 => bif (!y4) then (k0 y5 y8 ([.v (.int .u32 1)] : List PV) true) else (p76 n y3 (fun y9 => bif (!y9) then (bif true then (bif true then (bif true then (bif true then (bif true then (bif true then (k0 false [] [] false) else none) else none) else none) else none) else none) else none) else (bif false then none else (bif (bif false then true else eqS y3 (⟨#[48]⟩ : ByteArray)) then (bif true then (bif true then (bif true then (k0 false [] [] false) else none) else none) else none) else (bif false then none else (bif (bif false then true else eqS y3 (⟨#[49]⟩ : ByteArray)) then (k0 false [] [] false) else (p57_c10 n false y3 y5 y8 ([.v (.int .u32 1)] : List PV) (fun y10 y11 y12 y13 => k0 y10 y11 y12 y13))))))))))))
noncomputable abbrev E57 {R : Type} (n : Nat) (c : Code) : Fr → Kc R → Option R := evC Tryz.prog (env57 n) ann57 n (65, []) c
noncomputable def c57_c10 : Code := subC (bodyOf Tryz.f57) [1, 1, 1, 1, 1, 1, 1]
abbrev t57_c10 : Sl (List SV) := (.c (sBx 65 (.c (sP sBool) (.c sNl (.c sNl .n)))) (.c (sP sStr) (.c (sBx 65 (.c (sP sBool) (.c (sP sSh) (.c (sP sSh) .n)))) .n)))
noncomputable abbrev f57_c10 {R : Type} (n : Nat) (K : Kc R) : t57_c10.T (Option R) := fun x1 x2 x3 x4 x5 => p57_c10 n x1 x2 x3 x4 x5 (fun y1 y2 y3 y4 => K .ret (lk (outA ann57.cuts 10) [.bx 65 [.p (.v (.bool y1)), .p (.sh y2), .p (.sh y3)], .p (.v (.bool y4))]))
noncomputable abbrev o57_c10 {R : Type} (n : Nat) (vs : List SV) (K : Kc R) : Option R := oget (t57_c10.ap vs (f57_c10 n K)) (cutE ann57 10 (E57 n c57_c10) vs K)
noncomputable abbrev lo57 {R : Type} (n : Nat) : Orc R := fun i vs K => none
noncomputable abbrev cu57 {R : Type} (n : Nat) : Orc R := fun i vs K => dcnd (Nat.beq i 10) (o57_c10 n vs K) (none)
section
variable {R : Type}
abbrev K57 (R : Type) (n : Nat) := PartOK (R := R) Tryz.prog (env57 n) ann57 n (65, []) (lo57 n) (cu57 n)
theorem pa57_c10 (n : Nat) : allP (K57 R n) (partsOf ann57 c57_c10) := by
  rw [show partsOf ann57 c57_c10 = [] from by kernel_rfl]; exact trivial
theorem q57_c10 (n : Nat) : K57 R n (true, 10, c57_c10) := part_cut (pa57_c10 n) t57_c10 (f57_c10 n) (fun K x1 x2 x3 x4 x5 => by show cutE _ _ _ _ _ = _; kernel_rfl) fun _ _ => rfl
theorem pa57 (n : Nat) : allP (K57 R n) (partsOf ann57 (bodyOf Tryz.f57)) := by
  rw [show partsOf ann57 (bodyOf Tryz.f57) = [(true, 10, c57_c10)] from by kernel_rfl]; exact ⟨q57_c10 n, trivial⟩
end
abbrev t57 : Sl (List SV) := (.c (sP sStr) .n)
noncomputable abbrev f57 (n : Nat) {R : Type} (K : List SV → Option R) : t57.T (Option R) := fun x1 => p57 n x1 (fun y1 y2 y3 y4 => K [.p (.agg [.v (.bool y1), .sh y2, .sh y3]), .p (.v (.bool y4))])
theorem ep57 {R : Type} (n : Nat) (K : List SV → Option R) (x1 : ByteArray) : evFn Tryz.prog (env57 n) ann57 n Tryz.f57 [.p (.v (.string x1))] K = f57 n K x1 := by
  rw [evFn_evOi (c := bodyOf Tryz.f57) (by kernel_rfl) (pa57 n)]; kernel_rfl
noncomputable abbrev fs57 (n : Nat) : FS := { om := [false], run := fun args K => oget (t57.ap args (f57 n K)) none }
theorem ok57 (n : Nat) : FSound Tryz.prog GI 57 (fs57 n) :=
  FSound.good (envok57 n) (ann := ann57) (n := n) Tryz.func57
    (.cons (envok57 n) t57 (f57 n) (fun K x1 => ep57 n K x1) .nil)
    (by kernel_rfl) (by kernel_rfl) (by kernel_rfl)
end Go.Proofs.YtfbahcfojiaeaaaGreatDoor


set_option linter.unusedVariables false
set_option maxRecDepth 100000
namespace Go.Proofs.YtfbahcfojiaeaaaGreatDoor
open Go Th Go.Proofs
def ann19 : Ann := { loops := [], cuts := [], frz := [], rm := [.id] }
noncomputable abbrev env19 (n : Nat) : Env := fun i => bif Nat.beq i 57 then some (fs57 n) else (fun i => bif Nat.beq i 56 then some (fs56 n) else (fun _ => none) i) i
theorem envok19 (n : Nat) : EnvOK Tryz.prog GI (env19 n) := EnvOK.cons (EnvOK.cons (EnvOK.nil) (ok56 n)) (ok57 n)
noncomputable def p19 {R : Type} (n : Nat) (x1 : ByteArray) (k0 : Bool → Option R) : Option R :=
  p56 n x1 (fun y2 y3 => bif y3 then (k0 true) else (p57 n x1 (fun y4 y5 y6 y7 => k0 y7)))
noncomputable abbrev lo19 {R : Type} (n : Nat) : Orc R := fun i vs K => none
noncomputable abbrev cu19 {R : Type} (n : Nat) : Orc R := fun i vs K => none
section
variable {R : Type}
abbrev K19 (R : Type) (n : Nat) := PartOK (R := R) Tryz.prog (env19 n) ann19 n (19, []) (lo19 n) (cu19 n)
theorem pa19 (n : Nat) : allP (K19 R n) (partsOf ann19 (bodyOf Tryz.f19)) := by
  rw [show partsOf ann19 (bodyOf Tryz.f19) = [] from by kernel_rfl]; exact trivial
end
abbrev t19 : Sl (List SV) := (.c (sP sStr) .n)
noncomputable abbrev f19 (n : Nat) {R : Type} (K : List SV → Option R) : t19.T (Option R) := fun x1 => p19 n x1 (fun y1 => K [.p (.v (.bool y1))])
theorem ep19 {R : Type} (n : Nat) (K : List SV → Option R) (x1 : ByteArray) : evFn Tryz.prog (env19 n) ann19 n Tryz.f19 [.p (.v (.string x1))] K = f19 n K x1 := by
  rw [evFn_evOi (c := bodyOf Tryz.f19) (by kernel_rfl) (pa19 n)]; kernel_rfl
noncomputable abbrev fs19 (n : Nat) : FS := { om := [false], run := fun args K => oget (t19.ap args (f19 n K)) none }
theorem ok19 (n : Nat) : FSound Tryz.prog GI 19 (fs19 n) :=
  FSound.good (envok19 n) (ann := ann19) (n := n) Tryz.func19
    (.cons (envok19 n) t19 (f19 n) (fun K x1 => ep19 n K x1) .nil)
    (by kernel_rfl) (by kernel_rfl) (by kernel_rfl)
end Go.Proofs.YtfbahcfojiaeaaaGreatDoor


set_option linter.unusedVariables false
set_option maxRecDepth 100000
namespace Go.Proofs.YtfbahcfojiaeaaaGreatDoor
open Go Th Go.Proofs
def ann62 : Ann := { loops := [], cuts := [], frz := [], rm := [.id, .id, .id] }
noncomputable abbrev env62 (n : Nat) : Env := fun i => bif Nat.beq i 56 then some (fs56 n) else (fun _ => none) i
theorem envok62 (n : Nat) : EnvOK Tryz.prog GI (env62 n) := EnvOK.cons (EnvOK.nil) (ok56 n)
noncomputable def p62 {R : Type} (n : Nat) (x1 x2 : ByteArray) (k0 : Int → Int → Bool → Option R) : Option R :=
  p56 n x1 (fun y3 y4 => p56 n x2 (fun y5 y6 => bif y4 then (k0 y3 y5 (bif true then y6 else false)) else (bif false then none else (k0 y3 y5 false))))
noncomputable abbrev lo62 {R : Type} (n : Nat) : Orc R := fun i vs K => none
noncomputable abbrev cu62 {R : Type} (n : Nat) : Orc R := fun i vs K => none
section
variable {R : Type}
abbrev K62 (R : Type) (n : Nat) := PartOK (R := R) Tryz.prog (env62 n) ann62 n (27, []) (lo62 n) (cu62 n)
theorem pa62 (n : Nat) : allP (K62 R n) (partsOf ann62 (bodyOf Tryz.f62)) := by
  rw [show partsOf ann62 (bodyOf Tryz.f62) = [] from by kernel_rfl]; exact trivial
end
abbrev t62 : Sl (List SV) := (.c (sP sStr) (.c (sP sStr) .n))
noncomputable abbrev f62 (n : Nat) {R : Type} (K : List SV → Option R) : t62.T (Option R) := fun x1 x2 => p62 n x1 x2 (fun y1 y2 y3 => K [.p (.v (.int .i64 y1)), .p (.v (.int .i64 y2)), .p (.v (.bool y3))])
theorem ep62 {R : Type} (n : Nat) (K : List SV → Option R) (x1 x2 : ByteArray) : evFn Tryz.prog (env62 n) ann62 n Tryz.f62 [.p (.v (.string x1)), .p (.v (.string x2))] K = f62 n K x1 x2 := by
  rw [evFn_evOi (c := bodyOf Tryz.f62) (by kernel_rfl) (pa62 n)]; kernel_rfl
noncomputable abbrev fs62 (n : Nat) : FS := { om := [false, false], run := fun args K => oget (t62.ap args (f62 n K)) none }
theorem ok62 (n : Nat) : FSound Tryz.prog GI 62 (fs62 n) :=
  FSound.good (envok62 n) (ann := ann62) (n := n) Tryz.func62
    (.cons (envok62 n) t62 (f62 n) (fun K x1 x2 => ep62 n K x1 x2) .nil)
    (by kernel_rfl) (by kernel_rfl) (by kernel_rfl)
end Go.Proofs.YtfbahcfojiaeaaaGreatDoor


set_option linter.unusedVariables false
set_option maxRecDepth 100000
namespace Go.Proofs.YtfbahcfojiaeaaaGreatDoor
open Go Th Go.Proofs
def ann66 : Ann := { loops := [], cuts := [], frz := [], rm := [.id] }
noncomputable abbrev env66 (n : Nat) : Env := fun i => bif Nat.beq i 89 then some (fs89 n) else (fun i => bif Nat.beq i 88 then some (fs88 n) else (fun i => bif Nat.beq i 73 then some (fs73 n) else (fun i => bif Nat.beq i 70 then some (fs70 n) else (fun _ => none) i) i) i) i
theorem envok66 (n : Nat) : EnvOK Tryz.prog GI (env66 n) := EnvOK.cons (EnvOK.cons (EnvOK.cons (EnvOK.cons (EnvOK.nil) (ok70 n)) (ok73 n)) (ok88 n)) (ok89 n)
noncomputable def p66 {R : Type} (n : Nat) (x1 : Bool) (x2 x3 : List PV) (x4 : Bool) (x5 x6 : List PV) (k0 : Bool → List PV → List PV → Option R) : Option R :=
  p70 n x2 x6 (fun y7 => p70 n x5 x3 (fun y8 => p70 n x3 x6 (fun y9 => bif (x1 == x4) then (p88 n y7 y8 (fun y10 => k0 x1 y10 y9)) else (p73 n y7 y8 (fun y11 => bif (decide (y11 < 0)) then (p89 n y8 y7 (fun y12 => k0 x4 y12 y9)) else (p89 n y7 y8 (fun y13 => k0 x1 y13 y9)))))))
noncomputable abbrev lo66 {R : Type} (n : Nat) : Orc R := fun i vs K => none
noncomputable abbrev cu66 {R : Type} (n : Nat) : Orc R := fun i vs K => none
section
variable {R : Type}
abbrev K66 (R : Type) (n : Nat) := PartOK (R := R) Tryz.prog (env66 n) ann66 n (53, []) (lo66 n) (cu66 n)
theorem pa66 (n : Nat) : allP (K66 R n) (partsOf ann66 (bodyOf Tryz.f66)) := by
  rw [show partsOf ann66 (bodyOf Tryz.f66) = [] from by kernel_rfl]; exact trivial
end
abbrev t66 : Sl (List SV) := (.c (sP (sAgg (.c sBool (.c sSh (.c sSh .n))))) (.c (sP (sAgg (.c sBool (.c sSh (.c sSh .n))))) .n))
noncomputable abbrev f66 (n : Nat) {R : Type} (K : List SV → Option R) : t66.T (Option R) := fun x1 x2 x3 x4 x5 x6 => p66 n x1 x2 x3 x4 x5 x6 (fun y1 y2 y3 => K [.p (.agg [.v (.bool y1), .sh y2, .sh y3])])
theorem ep66 {R : Type} (n : Nat) (K : List SV → Option R) (x1 : Bool) (x2 x3 : List PV) (x4 : Bool) (x5 x6 : List PV) : evFn Tryz.prog (env66 n) ann66 n Tryz.f66 [.p (.agg [.v (.bool x1), .sh x2, .sh x3]), .p (.agg [.v (.bool x4), .sh x5, .sh x6])] K = f66 n K x1 x2 x3 x4 x5 x6 := by
  rw [evFn_evOi (c := bodyOf Tryz.f66) (by kernel_rfl) (pa66 n)]; kernel_rfl
noncomputable abbrev fs66 (n : Nat) : FS := { om := [false, false], run := fun args K => oget (t66.ap args (f66 n K)) none }
theorem ok66 (n : Nat) : FSound Tryz.prog GI 66 (fs66 n) :=
  FSound.good (envok66 n) (ann := ann66) (n := n) Tryz.func66
    (.cons (envok66 n) t66 (f66 n) (fun K x1 x2 x3 x4 x5 x6 => ep66 n K x1 x2 x3 x4 x5 x6) .nil)
    (by kernel_rfl) (by kernel_rfl) (by kernel_rfl)
end Go.Proofs.YtfbahcfojiaeaaaGreatDoor


set_option linter.unusedVariables false
set_option maxRecDepth 100000
namespace Go.Proofs.YtfbahcfojiaeaaaGreatDoor
open Go Th Go.Proofs
def ann65 : Ann := { loops := [], cuts := [], frz := [], rm := [.id, .id] }
noncomputable abbrev env65 (n : Nat) : Env := fun i => bif Nat.beq i 66 then some (fs66 n) else (fun _ => none) i
theorem envok65 (n : Nat) : EnvOK Tryz.prog GI (env65 n) := EnvOK.cons (EnvOK.nil) (ok66 n)
noncomputable def p65 {R : Type} (n : Nat) (x1 : Bool) (x2 x3 : List PV) (x4 : Bool) (x5 x6 : List PV) (k0 : Bool → List PV → List PV → Int → Option R) : Option R :=
  p66 n x1 x2 x3 x4 x5 x6 (fun y7 y8 y9 => k0 y7 y8 y9 0)
noncomputable abbrev lo65 {R : Type} (n : Nat) : Orc R := fun i vs K => none
noncomputable abbrev cu65 {R : Type} (n : Nat) : Orc R := fun i vs K => none
section
variable {R : Type}
abbrev K65 (R : Type) (n : Nat) := PartOK (R := R) Tryz.prog (env65 n) ann65 n (9, []) (lo65 n) (cu65 n)
theorem pa65 (n : Nat) : allP (K65 R n) (partsOf ann65 (bodyOf Tryz.f65)) := by
  rw [show partsOf ann65 (bodyOf Tryz.f65) = [] from by kernel_rfl]; exact trivial
end
abbrev t65 : Sl (List SV) := (.c (sP (sAgg (.c sBool (.c sSh (.c sSh .n))))) (.c (sP (sAgg (.c sBool (.c sSh (.c sSh .n))))) .n))
noncomputable abbrev f65 (n : Nat) {R : Type} (K : List SV → Option R) : t65.T (Option R) := fun x1 x2 x3 x4 x5 x6 => p65 n x1 x2 x3 x4 x5 x6 (fun y1 y2 y3 y4 => K [.p (.agg [.v (.bool y1), .sh y2, .sh y3]), .p (.v (.int .i64 y4))])
theorem ep65 {R : Type} (n : Nat) (K : List SV → Option R) (x1 : Bool) (x2 x3 : List PV) (x4 : Bool) (x5 x6 : List PV) : evFn Tryz.prog (env65 n) ann65 n Tryz.f65 [.p (.agg [.v (.bool x1), .sh x2, .sh x3]), .p (.agg [.v (.bool x4), .sh x5, .sh x6])] K = f65 n K x1 x2 x3 x4 x5 x6 := by
  rw [evFn_evOi (c := bodyOf Tryz.f65) (by kernel_rfl) (pa65 n)]; kernel_rfl
noncomputable abbrev fs65 (n : Nat) : FS := { om := [false, false], run := fun args K => oget (t65.ap args (f65 n K)) none }
theorem ok65 (n : Nat) : FSound Tryz.prog GI 65 (fs65 n) :=
  FSound.good (envok65 n) (ann := ann65) (n := n) Tryz.func65
    (.cons (envok65 n) t65 (f65 n) (fun K x1 x2 x3 x4 x5 x6 => ep65 n K x1 x2 x3 x4 x5 x6) .nil)
    (by kernel_rfl) (by kernel_rfl) (by kernel_rfl)
end Go.Proofs.YtfbahcfojiaeaaaGreatDoor


set_option linter.unusedVariables false
set_option maxRecDepth 100000
namespace Go.Proofs.YtfbahcfojiaeaaaGreatDoor
open Go Th Go.Proofs
def ann68 : Ann := { loops := [], cuts := [], frz := [], rm := [.id] }
noncomputable abbrev env68 (n : Nat) : Env := fun _ => none
theorem envok68 (n : Nat) : EnvOK Tryz.prog GI (env68 n) := EnvOK.nil
noncomputable def p68 {R : Type} (n : Nat) (x1 : Bool) (x2 x3 : List PV) (k0 : Bool → List PV → List PV → Option R) : Option R :=
  bif (!x1) then (bif true then (bif true then (bif true then (k0 (bif true then (decide (((x2).length : Int) > 0)) else false) x2 x3) else none) else none) else none) else (bif false then none else (bif false then none else (bif false then none else (bif false then none else (k0 false x2 x3)))))
noncomputable abbrev lo68 {R : Type} (n : Nat) : Orc R := fun i vs K => none
noncomputable abbrev cu68 {R : Type} (n : Nat) : Orc R := fun i vs K => none
section
variable {R : Type}
abbrev K68 (R : Type) (n : Nat) := PartOK (R := R) Tryz.prog (env68 n) ann68 n (14, []) (lo68 n) (cu68 n)
theorem pa68 (n : Nat) : allP (K68 R n) (partsOf ann68 (bodyOf Tryz.f68)) := by
  rw [show partsOf ann68 (bodyOf Tryz.f68) = [] from by kernel_rfl]; exact trivial
end
abbrev t68 : Sl (List SV) := (.c (sP (sAgg (.c sBool (.c sSh (.c sSh .n))))) .n)
noncomputable abbrev f68 (n : Nat) {R : Type} (K : List SV → Option R) : t68.T (Option R) := fun x1 x2 x3 => p68 n x1 x2 x3 (fun y1 y2 y3 => K [.p (.agg [.v (.bool y1), .sh y2, .sh y3])])
theorem ep68 {R : Type} (n : Nat) (K : List SV → Option R) (x1 : Bool) (x2 x3 : List PV) : evFn Tryz.prog (env68 n) ann68 n Tryz.f68 [.p (.agg [.v (.bool x1), .sh x2, .sh x3])] K = f68 n K x1 x2 x3 := by
  rw [evFn_evOi (c := bodyOf Tryz.f68) (by kernel_rfl) (pa68 n)]; kernel_rfl
noncomputable abbrev fs68 (n : Nat) : FS := { om := [false], run := fun args K => oget (t68.ap args (f68 n K)) none }
theorem ok68 (n : Nat) : FSound Tryz.prog GI 68 (fs68 n) :=
  FSound.good (envok68 n) (ann := ann68) (n := n) Tryz.func68
    (.cons (envok68 n) t68 (f68 n) (fun K x1 x2 x3 => ep68 n K x1 x2 x3) .nil)
    (by kernel_rfl) (by kernel_rfl) (by kernel_rfl)
end Go.Proofs.YtfbahcfojiaeaaaGreatDoor


set_option linter.unusedVariables false
set_option maxRecDepth 100000
namespace Go.Proofs.YtfbahcfojiaeaaaGreatDoor
open Go Th Go.Proofs
def ann67 : Ann := { loops := [], cuts := [], frz := [], rm := [.id, .id] }
noncomputable abbrev env67 (n : Nat) : Env := fun i => bif Nat.beq i 68 then some (fs68 n) else (fun i => bif Nat.beq i 66 then some (fs66 n) else (fun _ => none) i) i
theorem envok67 (n : Nat) : EnvOK Tryz.prog GI (env67 n) := EnvOK.cons (EnvOK.cons (EnvOK.nil) (ok66 n)) (ok68 n)
noncomputable def p67 {R : Type} (n : Nat) (x1 : Bool) (x2 x3 : List PV) (x4 : Bool) (x5 x6 : List PV) (k0 : Bool → List PV → List PV → Int → Option R) : Option R :=
  p68 n x4 x5 x6 (fun y7 y8 y9 => p66 n x1 x2 x3 y7 y8 y9 (fun y10 y11 y12 => k0 y10 y11 y12 0))
noncomputable abbrev lo67 {R : Type} (n : Nat) : Orc R := fun i vs K => none
noncomputable abbrev cu67 {R : Type} (n : Nat) : Orc R := fun i vs K => none
section
variable {R : Type}
abbrev K67 (R : Type) (n : Nat) := PartOK (R := R) Tryz.prog (env67 n) ann67 n (10, []) (lo67 n) (cu67 n)
theorem pa67 (n : Nat) : allP (K67 R n) (partsOf ann67 (bodyOf Tryz.f67)) := by
  rw [show partsOf ann67 (bodyOf Tryz.f67) = [] from by kernel_rfl]; exact trivial
end
abbrev t67 : Sl (List SV) := (.c (sP (sAgg (.c sBool (.c sSh (.c sSh .n))))) (.c (sP (sAgg (.c sBool (.c sSh (.c sSh .n))))) .n))
noncomputable abbrev f67 (n : Nat) {R : Type} (K : List SV → Option R) : t67.T (Option R) := fun x1 x2 x3 x4 x5 x6 => p67 n x1 x2 x3 x4 x5 x6 (fun y1 y2 y3 y4 => K [.p (.agg [.v (.bool y1), .sh y2, .sh y3]), .p (.v (.int .i64 y4))])
theorem ep67 {R : Type} (n : Nat) (K : List SV → Option R) (x1 : Bool) (x2 x3 : List PV) (x4 : Bool) (x5 x6 : List PV) : evFn Tryz.prog (env67 n) ann67 n Tryz.f67 [.p (.agg [.v (.bool x1), .sh x2, .sh x3]), .p (.agg [.v (.bool x4), .sh x5, .sh x6])] K = f67 n K x1 x2 x3 x4 x5 x6 := by
  rw [evFn_evOi (c := bodyOf Tryz.f67) (by kernel_rfl) (pa67 n)]; kernel_rfl
noncomputable abbrev fs67 (n : Nat) : FS := { om := [false, false], run := fun args K => oget (t67.ap args (f67 n K)) none }
theorem ok67 (n : Nat) : FSound Tryz.prog GI 67 (fs67 n) :=
  FSound.good (envok67 n) (ann := ann67) (n := n) Tryz.func67
    (.cons (envok67 n) t67 (f67 n) (fun K x1 x2 x3 x4 x5 x6 => ep67 n K x1 x2 x3 x4 x5 x6) .nil)
    (by kernel_rfl) (by kernel_rfl) (by kernel_rfl)
end Go.Proofs.YtfbahcfojiaeaaaGreatDoor


set_option linter.unusedVariables false
set_option maxRecDepth 100000
namespace Go.Proofs.YtfbahcfojiaeaaaGreatDoor
open Go Th Go.Proofs
def ann69 : Ann := { loops := [], cuts := [], frz := [], rm := [.id, .id] }
noncomputable abbrev env69 (n : Nat) : Env := fun i => bif Nat.beq i 70 then some (fs70 n) else (fun _ => none) i
theorem envok69 (n : Nat) : EnvOK Tryz.prog GI (env69 n) := EnvOK.cons (EnvOK.nil) (ok70 n)
noncomputable def p69 {R : Type} (n : Nat) (x1 : Bool) (x2 x3 : List PV) (x4 : Bool) (x5 x6 : List PV) (k0 : Bool → List PV → List PV → Int → Option R) : Option R :=
  p70 n x2 x5 (fun y7 => p70 n x3 x6 (fun y8 => k0 (!(x1 == x4)) y7 y8 0))
noncomputable abbrev lo69 {R : Type} (n : Nat) : Orc R := fun i vs K => none
noncomputable abbrev cu69 {R : Type} (n : Nat) : Orc R := fun i vs K => none
section
variable {R : Type}
abbrev K69 (R : Type) (n : Nat) := PartOK (R := R) Tryz.prog (env69 n) ann69 n (22, []) (lo69 n) (cu69 n)
theorem pa69 (n : Nat) : allP (K69 R n) (partsOf ann69 (bodyOf Tryz.f69)) := by
  rw [show partsOf ann69 (bodyOf Tryz.f69) = [] from by kernel_rfl]; exact trivial
end
abbrev t69 : Sl (List SV) := (.c (sP (sAgg (.c sBool (.c sSh (.c sSh .n))))) (.c (sP (sAgg (.c sBool (.c sSh (.c sSh .n))))) .n))
noncomputable abbrev f69 (n : Nat) {R : Type} (K : List SV → Option R) : t69.T (Option R) := fun x1 x2 x3 x4 x5 x6 => p69 n x1 x2 x3 x4 x5 x6 (fun y1 y2 y3 y4 => K [.p (.agg [.v (.bool y1), .sh y2, .sh y3]), .p (.v (.int .i64 y4))])
theorem ep69 {R : Type} (n : Nat) (K : List SV → Option R) (x1 : Bool) (x2 x3 : List PV) (x4 : Bool) (x5 x6 : List PV) : evFn Tryz.prog (env69 n) ann69 n Tryz.f69 [.p (.agg [.v (.bool x1), .sh x2, .sh x3]), .p (.agg [.v (.bool x4), .sh x5, .sh x6])] K = f69 n K x1 x2 x3 x4 x5 x6 := by
  rw [evFn_evOi (c := bodyOf Tryz.f69) (by kernel_rfl) (pa69 n)]; kernel_rfl
noncomputable abbrev fs69 (n : Nat) : FS := { om := [false, false], run := fun args K => oget (t69.ap args (f69 n K)) none }
theorem ok69 (n : Nat) : FSound Tryz.prog GI 69 (fs69 n) :=
  FSound.good (envok69 n) (ann := ann69) (n := n) Tryz.func69
    (.cons (envok69 n) t69 (f69 n) (fun K x1 x2 x3 x4 x5 x6 => ep69 n K x1 x2 x3 x4 x5 x6) .nil)
    (by kernel_rfl) (by kernel_rfl) (by kernel_rfl)
end Go.Proofs.YtfbahcfojiaeaaaGreatDoor


set_option linter.unusedVariables false
set_option maxRecDepth 100000
namespace Go.Proofs.YtfbahcfojiaeaaaGreatDoor
open Go Th Go.Proofs
def ann71 : Ann := { loops := [], cuts := [], frz := [], rm := [.id, .id] }
noncomputable abbrev env71 (n : Nat) : Env := fun i => bif Nat.beq i 70 then some (fs70 n) else (fun _ => none) i
theorem envok71 (n : Nat) : EnvOK Tryz.prog GI (env71 n) := EnvOK.cons (EnvOK.nil) (ok70 n)
noncomputable def p71 {R : Type} (n : Nat) (x1 : Bool) (x2 x3 : List PV) (x4 : Bool) (x5 x6 : List PV) (k0 : Bool → List PV → List PV → Int → Option R) : Option R :=
  bif (((x5).length : Int) == 0) then (k0 false [] [] 24) else (p70 n x2 x6 (fun y7 => p70 n x3 x5 (fun y8 => k0 (!(x1 == x4)) y7 y8 0)))
noncomputable abbrev lo71 {R : Type} (n : Nat) : Orc R := fun i vs K => none
noncomputable abbrev cu71 {R : Type} (n : Nat) : Orc R := fun i vs K => none
section
variable {R : Type}
abbrev K71 (R : Type) (n : Nat) := PartOK (R := R) Tryz.prog (env71 n) ann71 n (27, []) (lo71 n) (cu71 n)
theorem pa71 (n : Nat) : allP (K71 R n) (partsOf ann71 (bodyOf Tryz.f71)) := by
  rw [show partsOf ann71 (bodyOf Tryz.f71) = [] from by kernel_rfl]; exact trivial
end
abbrev t71 : Sl (List SV) := (.c (sP (sAgg (.c sBool (.c sSh (.c sSh .n))))) (.c (sP (sAgg (.c sBool (.c sSh (.c sSh .n))))) .n))
noncomputable abbrev f71 (n : Nat) {R : Type} (K : List SV → Option R) : t71.T (Option R) := fun x1 x2 x3 x4 x5 x6 => p71 n x1 x2 x3 x4 x5 x6 (fun y1 y2 y3 y4 => K [.p (.agg [.v (.bool y1), .sh y2, .sh y3]), .p (.v (.int .i64 y4))])
theorem ep71 {R : Type} (n : Nat) (K : List SV → Option R) (x1 : Bool) (x2 x3 : List PV) (x4 : Bool) (x5 x6 : List PV) : evFn Tryz.prog (env71 n) ann71 n Tryz.f71 [.p (.agg [.v (.bool x1), .sh x2, .sh x3]), .p (.agg [.v (.bool x4), .sh x5, .sh x6])] K = f71 n K x1 x2 x3 x4 x5 x6 := by
  rw [evFn_evOi (c := bodyOf Tryz.f71) (by kernel_rfl) (pa71 n)]; kernel_rfl
noncomputable abbrev fs71 (n : Nat) : FS := { om := [false, false], run := fun args K => oget (t71.ap args (f71 n K)) none }
theorem ok71 (n : Nat) : FSound Tryz.prog GI 71 (fs71 n) :=
  FSound.good (envok71 n) (ann := ann71) (n := n) Tryz.func71
    (.cons (envok71 n) t71 (f71 n) (fun K x1 x2 x3 x4 x5 x6 => ep71 n K x1 x2 x3 x4 x5 x6) .nil)
    (by kernel_rfl) (by kernel_rfl) (by kernel_rfl)
end Go.Proofs.YtfbahcfojiaeaaaGreatDoor


set_option linter.unusedVariables false
set_option maxRecDepth 100000
namespace Go.Proofs.YtfbahcfojiaeaaaGreatDoor
open Go Th Go.Proofs
def ann64 : Ann := { loops := [], cuts := [(5, [(2, .id), (8, .id), (10, .id)], [(6, .id), (7, .id)])], frz := [], rm := [.id, .id] }
noncomputable abbrev env64 (n : Nat) : Env := fun i => bif Nat.beq i 71 then some (fs71 n) else (fun i => bif Nat.beq i 69 then some (fs69 n) else (fun i => bif Nat.beq i 67 then some (fs67 n) else (fun i => bif Nat.beq i 65 then some (fs65 n) else (fun i => bif Nat.beq i 57 then some (fs57 n) else (fun i => bif Nat.beq i 46 then some (fs46 n) else (fun _ => none) i) i) i) i) i) i
theorem envok64 (n : Nat) : EnvOK Tryz.prog GI (env64 n) := EnvOK.cons (EnvOK.cons (EnvOK.cons (EnvOK.cons (EnvOK.cons (EnvOK.cons (EnvOK.nil) (ok46 n)) (ok57 n)) (ok65 n)) (ok67 n)) (ok69 n)) (ok71 n)
noncomputable def p64_c5 {R : Type} (n : Nat) (x1 : Bool) (x2 x3 : List PV) (x4 : Bool) (x5 x6 : List PV) (k0 : ByteArray → Int → Option R) : Option R :=
  p65 n x1 x2 x3 x4 x5 x6 (fun y7 y8 y9 y10 => bif (y10 != 0) then (k0 ⟨#[]⟩ y10) else (p46 n y7 y8 y9 (fun y11 y12 => k0 y11 y12)))
noncomputable def p64 {R : Type} (n : Nat) (x1 x2 : ByteArray) (k0 : ByteArray → Int → Option R) : Option R :=
  p57 n x1 (fun y3 y4 y5 y6 => p57 n x2 (fun y7 y8 y9 y10 => bif (!y6) then (bif true then (bif true then (bif true then (k0 ⟨#[]⟩ 3) else none) else none) else none) else (bif false then none else (bif (bif false then true else (!y10)) then (k0 ⟨#[]⟩ 3) else (p64_c5 n y3 y4 y5 y7 y8 y9 (fun y11 y12 => k0 y11 y12))))))
noncomputable def p64_c5v1 {R : Type} (n : Nat) (x1 : Bool) (x2 x3 : List PV) (x4 : Bool) (x5 x6 : List PV) (k0 : ByteArray → Int → Option R) : Option R :=
  p71 n x1 x2 x3 x4 x5 x6 (fun y7 y8 y9 y10 => bif (y10 != 0) then (k0 ⟨#[]⟩ y10) else (p46 n y7 y8 y9 (fun y11 y12 => k0 y11 y12)))
noncomputable def p64v1 {R : Type} (n : Nat) (x1 x2 : ByteArray) (k0 : ByteArray → Int → Option R) : Option R :=
  p57 n x1 (fun y3 y4 y5 y6 => p57 n x2 (fun y7 y8 y9 y10 => bif (!y6) then (bif true then (bif true then (bif true then (k0 ⟨#[]⟩ 3) else none) else none) else none) else (bif false then none else (bif (bif false then true else (!y10)) then (k0 ⟨#[]⟩ 3) else (p64_c5v1 n y3 y4 y5 y7 y8 y9 (fun y11 y12 => k0 y11 y12))))))
noncomputable def p64_c5v2 {R : Type} (n : Nat) (x1 : Bool) (x2 x3 : List PV) (x4 : Bool) (x5 x6 : List PV) (k0 : ByteArray → Int → Option R) : Option R :=
  p67 n x1 x2 x3 x4 x5 x6 (fun y7 y8 y9 y10 => bif (y10 != 0) then (k0 ⟨#[]⟩ y10) else (p46 n y7 y8 y9 (fun y11 y12 => k0 y11 y12)))
noncomputable def p64v2 {R : Type} (n : Nat) (x1 x2 : ByteArray) (k0 : ByteArray → Int → Option R) : Option R :=
  p57 n x1 (fun y3 y4 y5 y6 => p57 n x2 (fun y7 y8 y9 y10 => bif (!y6) then (bif true then (bif true then (bif true then (k0 ⟨#[]⟩ 3) else none) else none) else none) else (bif false then none else (bif (bif false then true else (!y10)) then (k0 ⟨#[]⟩ 3) else (p64_c5v2 n y3 y4 y5 y7 y8 y9 (fun y11 y12 => k0 y11 y12))))))
noncomputable def p64_c5v3 {R : Type} (n : Nat) (x1 : Bool) (x2 x3 : List PV) (x4 : Bool) (x5 x6 : List PV) (k0 : ByteArray → Int → Option R) : Option R :=
  p69 n x1 x2 x3 x4 x5 x6 (fun y7 y8 y9 y10 => bif (y10 != 0) then (k0 ⟨#[]⟩ y10) else (p46 n y7 y8 y9 (fun y11 y12 => k0 y11 y12)))
noncomputable def p64v3 {R : Type} (n : Nat) (x1 x2 : ByteArray) (k0 : ByteArray → Int → Option R) : Option R :=
  p57 n x1 (fun y3 y4 y5 y6 => p57 n x2 (fun y7 y8 y9 y10 => bif (!y6) then (bif true then (bif true then (bif true then (k0 ⟨#[]⟩ 3) else none) else none) else none) else (bif false then none else (bif (bif false then true else (!y10)) then (k0 ⟨#[]⟩ 3) else (p64_c5v3 n y3 y4 y5 y7 y8 y9 (fun y11 y12 => k0 y11 y12))))))
noncomputable abbrev E64 {R : Type} (n : Nat) (c : Code) : Fr → Kc R → Option R := evC Tryz.prog (env64 n) ann64 n (44, []) c
noncomputable def c64_c5 : Code := subC (bodyOf Tryz.f64) [1, 1, 1, 1]
abbrev t64_c5a : Sl (List SV) := (.c (sP (sFn 65)) (.c (sBx 65 (.c (sP sBool) (.c (sP sSh) (.c (sP sSh) .n)))) (.c (sBx 65 (.c (sP sBool) (.c (sP sSh) (.c (sP sSh) .n)))) .n)))
noncomputable abbrev f64_c5a {R : Type} (n : Nat) (K : Kc R) : t64_c5a.T (Option R) := fun x1 x2 x3 x4 x5 x6 => p64_c5 n x1 x2 x3 x4 x5 x6 (fun y1 y2 => K .ret (lk (outA ann64.cuts 5) [.p (.v (.string y1)), .p (.v (.int .i64 y2))]))
abbrev t64_c5b : Sl (List SV) := (.c (sP (sFn 71)) (.c (sBx 65 (.c (sP sBool) (.c (sP sSh) (.c (sP sSh) .n)))) (.c (sBx 65 (.c (sP sBool) (.c (sP sSh) (.c (sP sSh) .n)))) .n)))
noncomputable abbrev f64_c5b {R : Type} (n : Nat) (K : Kc R) : t64_c5b.T (Option R) := fun x1 x2 x3 x4 x5 x6 => p64_c5v1 n x1 x2 x3 x4 x5 x6 (fun y1 y2 => K .ret (lk (outA ann64.cuts 5) [.p (.v (.string y1)), .p (.v (.int .i64 y2))]))
abbrev t64_c5c : Sl (List SV) := (.c (sP (sFn 67)) (.c (sBx 65 (.c (sP sBool) (.c (sP sSh) (.c (sP sSh) .n)))) (.c (sBx 65 (.c (sP sBool) (.c (sP sSh) (.c (sP sSh) .n)))) .n)))
noncomputable abbrev f64_c5c {R : Type} (n : Nat) (K : Kc R) : t64_c5c.T (Option R) := fun x1 x2 x3 x4 x5 x6 => p64_c5v2 n x1 x2 x3 x4 x5 x6 (fun y1 y2 => K .ret (lk (outA ann64.cuts 5) [.p (.v (.string y1)), .p (.v (.int .i64 y2))]))
abbrev t64_c5d : Sl (List SV) := (.c (sP (sFn 69)) (.c (sBx 65 (.c (sP sBool) (.c (sP sSh) (.c (sP sSh) .n)))) (.c (sBx 65 (.c (sP sBool) (.c (sP sSh) (.c (sP sSh) .n)))) .n)))
noncomputable abbrev f64_c5d {R : Type} (n : Nat) (K : Kc R) : t64_c5d.T (Option R) := fun x1 x2 x3 x4 x5 x6 => p64_c5v3 n x1 x2 x3 x4 x5 x6 (fun y1 y2 => K .ret (lk (outA ann64.cuts 5) [.p (.v (.string y1)), .p (.v (.int .i64 y2))]))
noncomputable abbrev o64_c5 {R : Type} (n : Nat) (vs : List SV) (K : Kc R) : Option R := oget (t64_c5a.ap vs (f64_c5a n K)) (oget (t64_c5b.ap vs (f64_c5b n K)) (oget (t64_c5c.ap vs (f64_c5c n K)) (oget (t64_c5d.ap vs (f64_c5d n K)) (cutE ann64 5 (E64 n c64_c5) vs K))))
noncomputable abbrev lo64 {R : Type} (n : Nat) : Orc R := fun i vs K => none
noncomputable abbrev cu64 {R : Type} (n : Nat) : Orc R := fun i vs K => dcnd (Nat.beq i 5) (o64_c5 n vs K) (none)
section
variable {R : Type}
abbrev K64 (R : Type) (n : Nat) := PartOK (R := R) Tryz.prog (env64 n) ann64 n (44, []) (lo64 n) (cu64 n)
theorem pa64_c5 (n : Nat) : allP (K64 R n) (partsOf ann64 c64_c5) := by
  rw [show partsOf ann64 c64_c5 = [] from by kernel_rfl]; exact trivial
theorem q64_c5 (n : Nat) : K64 R n (true, 5, c64_c5) := part_cut (pa64_c5 n) t64_c5a (f64_c5a n) (fun K x1 x2 x3 x4 x5 x6 => by show cutE _ _ _ _ _ = _; kernel_rfl) (part_cut (pa64_c5 n) t64_c5b (f64_c5b n) (fun K x1 x2 x3 x4 x5 x6 => by show cutE _ _ _ _ _ = _; kernel_rfl) (part_cut (pa64_c5 n) t64_c5c (f64_c5c n) (fun K x1 x2 x3 x4 x5 x6 => by show cutE _ _ _ _ _ = _; kernel_rfl) (part_cut (pa64_c5 n) t64_c5d (f64_c5d n) (fun K x1 x2 x3 x4 x5 x6 => by show cutE _ _ _ _ _ = _; kernel_rfl) fun _ _ => rfl)))
theorem pa64 (n : Nat) : allP (K64 R n) (partsOf ann64 (bodyOf Tryz.f64)) := by
  rw [show partsOf ann64 (bodyOf Tryz.f64) = [(true, 5, c64_c5)] from by kernel_rfl]; exact ⟨q64_c5 n, trivial⟩
end
abbrev t64a : Sl (List SV) := (.c (sP sStr) (.c (sP sStr) (.c (sP (sFn 65)) .n)))
noncomputable abbrev f64a (n : Nat) {R : Type} (K : List SV → Option R) : t64a.T (Option R) := fun x1 x2 => p64 n x1 x2 (fun y1 y2 => K [.p (.v (.string y1)), .p (.v (.int .i64 y2))])
theorem ep64 {R : Type} (n : Nat) (K : List SV → Option R) (x1 x2 : ByteArray) : evFn Tryz.prog (env64 n) ann64 n Tryz.f64 [.p (.v (.string x1)), .p (.v (.string x2)), .p (.v (.func (.func 65) #[] #[]))] K = f64a n K x1 x2 := by
  rw [evFn_evOi (c := bodyOf Tryz.f64) (by kernel_rfl) (pa64 n)]; kernel_rfl
abbrev t64b : Sl (List SV) := (.c (sP sStr) (.c (sP sStr) (.c (sP (sFn 71)) .n)))
noncomputable abbrev f64b (n : Nat) {R : Type} (K : List SV → Option R) : t64b.T (Option R) := fun x1 x2 => p64v1 n x1 x2 (fun y1 y2 => K [.p (.v (.string y1)), .p (.v (.int .i64 y2))])
theorem ep64v1 {R : Type} (n : Nat) (K : List SV → Option R) (x1 x2 : ByteArray) : evFn Tryz.prog (env64 n) ann64 n Tryz.f64 [.p (.v (.string x1)), .p (.v (.string x2)), .p (.v (.func (.func 71) #[] #[]))] K = f64b n K x1 x2 := by
  rw [evFn_evOi (c := bodyOf Tryz.f64) (by kernel_rfl) (pa64 n)]; kernel_rfl
abbrev t64c : Sl (List SV) := (.c (sP sStr) (.c (sP sStr) (.c (sP (sFn 67)) .n)))
noncomputable abbrev f64c (n : Nat) {R : Type} (K : List SV → Option R) : t64c.T (Option R) := fun x1 x2 => p64v2 n x1 x2 (fun y1 y2 => K [.p (.v (.string y1)), .p (.v (.int .i64 y2))])
theorem ep64v2 {R : Type} (n : Nat) (K : List SV → Option R) (x1 x2 : ByteArray) : evFn Tryz.prog (env64 n) ann64 n Tryz.f64 [.p (.v (.string x1)), .p (.v (.string x2)), .p (.v (.func (.func 67) #[] #[]))] K = f64c n K x1 x2 := by
  rw [evFn_evOi (c := bodyOf Tryz.f64) (by kernel_rfl) (pa64 n)]; kernel_rfl
abbrev t64d : Sl (List SV) := (.c (sP sStr) (.c (sP sStr) (.c (sP (sFn 69)) .n)))
noncomputable abbrev f64d (n : Nat) {R : Type} (K : List SV → Option R) : t64d.T (Option R) := fun x1 x2 => p64v3 n x1 x2 (fun y1 y2 => K [.p (.v (.string y1)), .p (.v (.int .i64 y2))])
theorem ep64v3 {R : Type} (n : Nat) (K : List SV → Option R) (x1 x2 : ByteArray) : evFn Tryz.prog (env64 n) ann64 n Tryz.f64 [.p (.v (.string x1)), .p (.v (.string x2)), .p (.v (.func (.func 69) #[] #[]))] K = f64d n K x1 x2 := by
  rw [evFn_evOi (c := bodyOf Tryz.f64) (by kernel_rfl) (pa64 n)]; kernel_rfl
noncomputable abbrev fs64 (n : Nat) : FS := { om := [false, false, false], run := fun args K => oget (t64a.ap args (f64a n K)) (oget (t64b.ap args (f64b n K)) (oget (t64c.ap args (f64c n K)) (oget (t64d.ap args (f64d n K)) none))) }
theorem ok64 (n : Nat) : FSound Tryz.prog GI 64 (fs64 n) :=
  FSound.good (envok64 n) (ann := ann64) (n := n) Tryz.func64
    (.cons (envok64 n) t64a (f64a n) (fun K x1 x2 => ep64 n K x1 x2) (.cons (envok64 n) t64b (f64b n) (fun K x1 x2 => ep64v1 n K x1 x2) (.cons (envok64 n) t64c (f64c n) (fun K x1 x2 => ep64v2 n K x1 x2) (.cons (envok64 n) t64d (f64d n) (fun K x1 x2 => ep64v3 n K x1 x2) .nil))))
    (by kernel_rfl) (by kernel_rfl) (by kernel_rfl)
end Go.Proofs.YtfbahcfojiaeaaaGreatDoor


set_option linter.unusedVariables false
set_option maxRecDepth 100000
namespace Go.Proofs.YtfbahcfojiaeaaaGreatDoor
open Go Th Go.Proofs
def ann27 : Ann := { loops := [], cuts := [], frz := [], rm := [.id, .id] }
noncomputable abbrev env27 (n : Nat) : Env := fun i => bif Nat.beq i 64 then some (fs64 n) else (fun i => bif Nat.beq i 63 then some (fs63 n) else (fun i => bif Nat.beq i 62 then some (fs62 n) else (fun _ => none) i) i) i
theorem envok27 (n : Nat) : EnvOK Tryz.prog GI (env27 n) := EnvOK.cons (EnvOK.cons (EnvOK.cons (EnvOK.nil) (ok62 n)) (ok63 n)) (ok64 n)
noncomputable def p27 {R : Type} (n : Nat) (x1 x2 : ByteArray) (k0 : ByteArray → Int → Option R) : Option R :=
  p62 n x1 x2 (fun y3 y4 y5 => bif y5 then (bif (i64R (IntKind.i64.wrap (y3 + y4))) then (k0 (itoaB (IntKind.i64.wrap (y3 + y4))) 0) else none) else (p64 n x1 x2 (fun y6 y7 => k0 y6 y7)))
noncomputable abbrev lo27 {R : Type} (n : Nat) : Orc R := fun i vs K => none
noncomputable abbrev cu27 {R : Type} (n : Nat) : Orc R := fun i vs K => none
section
variable {R : Type}
abbrev K27 (R : Type) (n : Nat) := PartOK (R := R) Tryz.prog (env27 n) ann27 n (26, []) (lo27 n) (cu27 n)
theorem pa27 (n : Nat) : allP (K27 R n) (partsOf ann27 (bodyOf Tryz.f27)) := by
  rw [show partsOf ann27 (bodyOf Tryz.f27) = [] from by kernel_rfl]; exact trivial
end
abbrev t27 : Sl (List SV) := (.c (sP sStr) (.c (sP sStr) .n))
noncomputable abbrev f27 (n : Nat) {R : Type} (K : List SV → Option R) : t27.T (Option R) := fun x1 x2 => p27 n x1 x2 (fun y1 y2 => K [.p (.v (.string y1)), .p (.v (.int .i64 y2))])
theorem ep27 {R : Type} (n : Nat) (K : List SV → Option R) (x1 x2 : ByteArray) : evFn Tryz.prog (env27 n) ann27 n Tryz.f27 [.p (.v (.string x1)), .p (.v (.string x2))] K = f27 n K x1 x2 := by
  rw [evFn_evOi (c := bodyOf Tryz.f27) (by kernel_rfl) (pa27 n)]; kernel_rfl
noncomputable abbrev fs27 (n : Nat) : FS := { om := [false, false], run := fun args K => oget (t27.ap args (f27 n K)) none }
theorem ok27 (n : Nat) : FSound Tryz.prog GI 27 (fs27 n) :=
  FSound.good (envok27 n) (ann := ann27) (n := n) Tryz.func27
    (.cons (envok27 n) t27 (f27 n) (fun K x1 x2 => ep27 n K x1 x2) .nil)
    (by kernel_rfl) (by kernel_rfl) (by kernel_rfl)
end Go.Proofs.YtfbahcfojiaeaaaGreatDoor


set_option linter.unusedVariables false
set_option maxRecDepth 100000
namespace Go.Proofs.YtfbahcfojiaeaaaGreatDoor
open Go Th Go.Proofs
def ann30 : Ann := { loops := [], cuts := [], frz := [], rm := [.id, .id] }
noncomputable abbrev env30 (n : Nat) : Env := fun i => bif Nat.beq i 64 then some (fs64 n) else (fun _ => none) i
theorem envok30 (n : Nat) : EnvOK Tryz.prog GI (env30 n) := EnvOK.cons (EnvOK.nil) (ok64 n)
noncomputable def p30 {R : Type} (n : Nat) (x1 x2 : ByteArray) (k0 : ByteArray → Int → Option R) : Option R :=
  p64v1 n x1 x2 (fun y3 y4 => k0 y3 y4)
noncomputable abbrev lo30 {R : Type} (n : Nat) : Orc R := fun i vs K => none
noncomputable abbrev cu30 {R : Type} (n : Nat) : Orc R := fun i vs K => none
section
variable {R : Type}
abbrev K30 (R : Type) (n : Nat) := PartOK (R := R) Tryz.prog (env30 n) ann30 n (11, []) (lo30 n) (cu30 n)
theorem pa30 (n : Nat) : allP (K30 R n) (partsOf ann30 (bodyOf Tryz.f30)) := by
  rw [show partsOf ann30 (bodyOf Tryz.f30) = [] from by kernel_rfl]; exact trivial
end
abbrev t30 : Sl (List SV) := (.c (sP sStr) (.c (sP sStr) .n))
noncomputable abbrev f30 (n : Nat) {R : Type} (K : List SV → Option R) : t30.T (Option R) := fun x1 x2 => p30 n x1 x2 (fun y1 y2 => K [.p (.v (.string y1)), .p (.v (.int .i64 y2))])
theorem ep30 {R : Type} (n : Nat) (K : List SV → Option R) (x1 x2 : ByteArray) : evFn Tryz.prog (env30 n) ann30 n Tryz.f30 [.p (.v (.string x1)), .p (.v (.string x2))] K = f30 n K x1 x2 := by
  rw [evFn_evOi (c := bodyOf Tryz.f30) (by kernel_rfl) (pa30 n)]; kernel_rfl
noncomputable abbrev fs30 (n : Nat) : FS := { om := [false, false], run := fun args K => oget (t30.ap args (f30 n K)) none }
theorem ok30 (n : Nat) : FSound Tryz.prog GI 30 (fs30 n) :=
  FSound.good (envok30 n) (ann := ann30) (n := n) Tryz.func30
    (.cons (envok30 n) t30 (f30 n) (fun K x1 x2 => ep30 n K x1 x2) .nil)
    (by kernel_rfl) (by kernel_rfl) (by kernel_rfl)
end Go.Proofs.YtfbahcfojiaeaaaGreatDoor


set_option linter.unusedVariables false
set_option maxRecDepth 100000
namespace Go.Proofs.YtfbahcfojiaeaaaGreatDoor
open Go Th Go.Proofs
def ann72 : Ann := { loops := [], cuts := [], frz := [], rm := [.id] }
noncomputable abbrev env72 (n : Nat) : Env := fun _ => none
theorem envok72 (n : Nat) : EnvOK Tryz.prog GI (env72 n) := EnvOK.nil
noncomputable def p72 {R : Type} (n : Nat) (x1 x2 : Int) (k0 : Int → Option R) : Option R :=
  bif (decide (x1 < x2)) then (k0 (-1)) else (bif (decide (x1 > x2)) then (k0 1) else (k0 0))
noncomputable abbrev lo72 {R : Type} (n : Nat) : Orc R := fun i vs K => none
noncomputable abbrev cu72 {R : Type} (n : Nat) : Orc R := fun i vs K => none
section
variable {R : Type}
abbrev K72 (R : Type) (n : Nat) := PartOK (R := R) Tryz.prog (env72 n) ann72 n (13, []) (lo72 n) (cu72 n)
theorem pa72 (n : Nat) : allP (K72 R n) (partsOf ann72 (bodyOf Tryz.f72)) := by
  rw [show partsOf ann72 (bodyOf Tryz.f72) = [] from by kernel_rfl]; exact trivial
end
abbrev t72 : Sl (List SV) := (.c (sP (sInt .i64)) (.c (sP (sInt .i64)) .n))
noncomputable abbrev f72 (n : Nat) {R : Type} (K : List SV → Option R) : t72.T (Option R) := fun x1 x2 => p72 n x1 x2 (fun y1 => K [.p (.v (.int .i64 y1))])
theorem ep72 {R : Type} (n : Nat) (K : List SV → Option R) (x1 x2 : Int) : evFn Tryz.prog (env72 n) ann72 n Tryz.f72 [.p (.v (.int .i64 x1)), .p (.v (.int .i64 x2))] K = f72 n K x1 x2 := by
  rw [evFn_evOi (c := bodyOf Tryz.f72) (by kernel_rfl) (pa72 n)]; kernel_rfl
noncomputable abbrev fs72 (n : Nat) : FS := { om := [false, false], run := fun args K => oget (t72.ap args (f72 n K)) none }
theorem ok72 (n : Nat) : FSound Tryz.prog GI 72 (fs72 n) :=
  FSound.good (envok72 n) (ann := ann72) (n := n) Tryz.func72
    (.cons (envok72 n) t72 (f72 n) (fun K x1 x2 => ep72 n K x1 x2) .nil)
    (by kernel_rfl) (by kernel_rfl) (by kernel_rfl)
end Go.Proofs.YtfbahcfojiaeaaaGreatDoor


set_option linter.unusedVariables false
set_option maxRecDepth 100000
namespace Go.Proofs.YtfbahcfojiaeaaaGreatDoor
open Go Th Go.Proofs
def ann36 : Ann := { loops := [], cuts := [(8, [(8, .id), (10, .id)], [(4, .id)]), (12, [(8, .id), (10, .id)], [(4, .id)])], frz := [], rm := [.id] }
noncomputable abbrev env36 (n : Nat) : Env := fun i => bif Nat.beq i 73 then some (fs73 n) else (fun i => bif Nat.beq i 72 then some (fs72 n) else (fun i => bif Nat.beq i 70 then some (fs70 n) else (fun i => bif Nat.beq i 62 then some (fs62 n) else (fun i => bif Nat.beq i 57 then some (fs57 n) else (fun _ => none) i) i) i) i) i
theorem envok36 (n : Nat) : EnvOK Tryz.prog GI (env36 n) := EnvOK.cons (EnvOK.cons (EnvOK.cons (EnvOK.cons (EnvOK.cons (EnvOK.nil) (ok57 n)) (ok62 n)) (ok70 n)) (ok72 n)) (ok73 n)
noncomputable def p36_c12 {R : Type} (n : Nat) (x1 : Bool) (x2 x3 : List PV) (x4 : Bool) (x5 x6 : List PV) (k0 : Int → Option R) : Option R :=
  p70 n x2 x6 (fun y7 => p70 n x5 x3 (fun y8 => p73 n y7 y8 (fun y9 => bif x1 then (k0 (IntKind.i64.wrap (0 - y9))) else (k0 y9))))
noncomputable def p36_c8 {R : Type} (n : Nat) (x1 : Bool) (x2 x3 : List PV) (x4 : Bool) (x5 x6 : List PV) (k0 : Int → Option R) : Option R :=
  bif x1 then (bif true then (bif true then (bif (bif true then (!x4) else false) then (k0 (-1)) else (bif x4 then (bif true then (bif true then (bif (bif true then (!x1) else false) then (k0 1) else (p36_c12 n x1 x2 x3 x4 x5 x6 (fun y7 => k0 y7))) else none) else none) else (bif false then none else (bif false then none else (bif false then none else (bif false then none else (p36_c12 n x1 x2 x3 x4 x5 x6 (fun y8 => k0 y8)))))))) else none) else none) else (bif false then none else (bif false then none else (bif false then none else (bif false then none else (bif x4 then (bif true then (bif true then (bif (bif true then (!x1) else false) then (k0 1) else (p36_c12 n x1 x2 x3 x4 x5 x6 (fun y9 => k0 y9))) else none) else none) else (bif false then none else (bif false then none else (bif false then none else (bif false then none else (p36_c12 n x1 x2 x3 x4 x5 x6 (fun y10 => k0 y10)))))))))))
noncomputable def p36 {R : Type} (n : Nat) (x1 x2 : ByteArray) (k0 : Int → Option R) : Option R :=
  p62 n x1 x2 (fun y3 y4 y5 => bif y5 then (p72 n y3 y4 (fun y6 => k0 y6)) else (p57 n x1 (fun y7 y8 y9 y10 => p57 n x2 (fun y11 y12 y13 y14 => bif (!y10) then (bif true then (bif true then (bif true then (k0 0) else none) else none) else none) else (bif false then none else (bif (bif false then true else (!y14)) then (k0 0) else (p36_c8 n y7 y8 y9 y11 y12 y13 (fun y15 => k0 y15))))))))
noncomputable abbrev E36 {R : Type} (n : Nat) (c : Code) : Fr → Kc R → Option R := evC Tryz.prog (env36 n) ann36 n (72, []) c
noncomputable def c36_c8 : Code := subC (bodyOf Tryz.f36) [1, 1, 1, 1, 1]
abbrev t36_c8 : Sl (List SV) := (.c (sBx 65 (.c (sP sBool) (.c (sP sSh) (.c (sP sSh) .n)))) (.c (sBx 65 (.c (sP sBool) (.c (sP sSh) (.c (sP sSh) .n)))) .n))
noncomputable abbrev f36_c8 {R : Type} (n : Nat) (K : Kc R) : t36_c8.T (Option R) := fun x1 x2 x3 x4 x5 x6 => p36_c8 n x1 x2 x3 x4 x5 x6 (fun y1 => K .ret (lk (outA ann36.cuts 8) [.p (.v (.int .i64 y1))]))
noncomputable abbrev o36_c8 {R : Type} (n : Nat) (vs : List SV) (K : Kc R) : Option R := oget (t36_c8.ap vs (f36_c8 n K)) (cutE ann36 8 (E36 n c36_c8) vs K)
noncomputable def c36_c12 : Code := subC (bodyOf Tryz.f36) [1, 1, 1, 1, 1, 1]
abbrev t36_c12 : Sl (List SV) := (.c (sBx 65 (.c (sP sBool) (.c (sP sSh) (.c (sP sSh) .n)))) (.c (sBx 65 (.c (sP sBool) (.c (sP sSh) (.c (sP sSh) .n)))) .n))
noncomputable abbrev f36_c12 {R : Type} (n : Nat) (K : Kc R) : t36_c12.T (Option R) := fun x1 x2 x3 x4 x5 x6 => p36_c12 n x1 x2 x3 x4 x5 x6 (fun y1 => K .ret (lk (outA ann36.cuts 12) [.p (.v (.int .i64 y1))]))
noncomputable abbrev o36_c12 {R : Type} (n : Nat) (vs : List SV) (K : Kc R) : Option R := oget (t36_c12.ap vs (f36_c12 n K)) (cutE ann36 12 (E36 n c36_c12) vs K)
noncomputable abbrev lo36 {R : Type} (n : Nat) : Orc R := fun i vs K => none
noncomputable abbrev cu36 {R : Type} (n : Nat) : Orc R := fun i vs K => dcnd (Nat.beq i 12) (o36_c12 n vs K) (dcnd (Nat.beq i 8) (o36_c8 n vs K) (none))
section
variable {R : Type}
abbrev K36 (R : Type) (n : Nat) := PartOK (R := R) Tryz.prog (env36 n) ann36 n (72, []) (lo36 n) (cu36 n)
theorem pa36_c12 (n : Nat) : allP (K36 R n) (partsOf ann36 c36_c12) := by
  rw [show partsOf ann36 c36_c12 = [] from by kernel_rfl]; exact trivial
theorem q36_c12 (n : Nat) : K36 R n (true, 12, c36_c12) := part_cut (pa36_c12 n) t36_c12 (f36_c12 n) (fun K x1 x2 x3 x4 x5 x6 => by show cutE _ _ _ _ _ = _; kernel_rfl) fun _ _ => rfl
theorem pa36_c8 (n : Nat) : allP (K36 R n) (partsOf ann36 c36_c8) := by
  rw [show partsOf ann36 c36_c8 = [(true, 12, c36_c12)] from by kernel_rfl]; exact ⟨q36_c12 n, trivial⟩
theorem q36_c8 (n : Nat) : K36 R n (true, 8, c36_c8) := part_cut (pa36_c8 n) t36_c8 (f36_c8 n) (fun K x1 x2 x3 x4 x5 x6 => by show cutE _ _ _ _ _ = _; kernel_rfl) fun _ _ => rfl
theorem pa36 (n : Nat) : allP (K36 R n) (partsOf ann36 (bodyOf Tryz.f36)) := by
  rw [show partsOf ann36 (bodyOf Tryz.f36) = [(true, 8, c36_c8)] from by kernel_rfl]; exact ⟨q36_c8 n, trivial⟩
end
abbrev t36 : Sl (List SV) := (.c (sP sStr) (.c (sP sStr) .n))
noncomputable abbrev f36 (n : Nat) {R : Type} (K : List SV → Option R) : t36.T (Option R) := fun x1 x2 => p36 n x1 x2 (fun y1 => K [.p (.v (.int .i64 y1))])
theorem ep36 {R : Type} (n : Nat) (K : List SV → Option R) (x1 x2 : ByteArray) : evFn Tryz.prog (env36 n) ann36 n Tryz.f36 [.p (.v (.string x1)), .p (.v (.string x2))] K = f36 n K x1 x2 := by
  rw [evFn_evOi (c := bodyOf Tryz.f36) (by kernel_rfl) (pa36 n)]; kernel_rfl
noncomputable abbrev fs36 (n : Nat) : FS := { om := [false, false], run := fun args K => oget (t36.ap args (f36 n K)) none }
theorem ok36 (n : Nat) : FSound Tryz.prog GI 36 (fs36 n) :=
  FSound.good (envok36 n) (ann := ann36) (n := n) Tryz.func36
    (.cons (envok36 n) t36 (f36 n) (fun K x1 x2 => ep36 n K x1 x2) .nil)
    (by kernel_rfl) (by kernel_rfl) (by kernel_rfl)
end Go.Proofs.YtfbahcfojiaeaaaGreatDoor


set_option linter.unusedVariables false
set_option maxRecDepth 100000
namespace Go.Proofs.YtfbahcfojiaeaaaGreatDoor
open Go Th Go.Proofs
def ann74 : Ann := { loops := [], cuts := [(4, [(1, .id), (2, .id), (3, .id)], [(2, .id)])], frz := [], rm := [.id] }
noncomputable abbrev env74 (n : Nat) : Env := fun i => bif Nat.beq i 88 then some (fs88 n) else (fun i => bif Nat.beq i 80 then some (fs80 n) else (fun _ => none) i) i
theorem envok74 (n : Nat) : EnvOK Tryz.prog GI (env74 n) := EnvOK.cons (EnvOK.cons (EnvOK.nil) (ok80 n)) (ok88 n)
noncomputable def p74_c4 {R : Type} (n : Nat) (x1 : Bool) (x2 x3 : List PV) (x4 : Bool) (x5 : List PV) (k0 : Bool → List PV → List PV → Option R) : Option R :=
  bif x1 then (bif true then (bif true then (k0 (bif true then (decide (((x5).length : Int) > 0)) else false) x5 ([.v (.int .u32 1)] : List PV)) else none) else none) else (bif false then none else (bif false then none else (bif false then none else (k0 false x5 ([.v (.int .u32 1)] : List PV)))))
noncomputable def p74 {R : Type} (n : Nat) (x1 : Bool) (x2 x3 : List PV) (k0 : Bool → List PV → List PV → Option R) : Option R :=
  p80 n x2 x3 (fun y4 y5 => bif x1 then (bif true then (bif true then (bif (bif true then (decide (((y5).length : Int) > 0)) else false) then (p88 n y4 ([.v (.int .u32 1)] : List PV) (fun y6 => p74_c4 n x1 x2 x3 false y6 (fun y7 y8 y9 => k0 y7 y8 y9))) else (p74_c4 n x1 x2 x3 false y4 (fun y10 y11 y12 => k0 y10 y11 y12))) else none) else none) else (bif false then none else (bif false then none else (bif false then none else (bif false then none else (p74_c4 n x1 x2 x3 false y4 (fun y13 y14 y15 => k0 y13 y14 y15)))))))
noncomputable abbrev E74 {R : Type} (n : Nat) (c : Code) : Fr → Kc R → Option R := evC Tryz.prog (env74 n) ann74 n (33, []) c
noncomputable def c74_c4 : Code := subC (bodyOf Tryz.f74) [1, 1, 1]
abbrev t74_c4 : Sl (List SV) := (.c (sBx 65 (.c (sP sBool) (.c (sP sSh) (.c (sP sSh) .n)))) (.c (sBx 65 (.c (sP sBool) (.c sNl (.c sNl .n)))) (.c (sP sSh) .n)))
noncomputable abbrev f74_c4 {R : Type} (n : Nat) (K : Kc R) : t74_c4.T (Option R) := fun x1 x2 x3 x4 x5 => p74_c4 n x1 x2 x3 x4 x5 (fun y1 y2 y3 => K .ret (lk (outA ann74.cuts 4) [.bx 65 [.p (.v (.bool y1)), .p (.sh y2), .p (.sh y3)]]))
noncomputable abbrev o74_c4 {R : Type} (n : Nat) (vs : List SV) (K : Kc R) : Option R := oget (t74_c4.ap vs (f74_c4 n K)) (cutE ann74 4 (E74 n c74_c4) vs K)
noncomputable abbrev lo74 {R : Type} (n : Nat) : Orc R := fun i vs K => none
noncomputable abbrev cu74 {R : Type} (n : Nat) : Orc R := fun i vs K => dcnd (Nat.beq i 4) (o74_c4 n vs K) (none)
section
variable {R : Type}
abbrev K74 (R : Type) (n : Nat) := PartOK (R := R) Tryz.prog (env74 n) ann74 n (33, []) (lo74 n) (cu74 n)
theorem pa74_c4 (n : Nat) : allP (K74 R n) (partsOf ann74 c74_c4) := by
  rw [show partsOf ann74 c74_c4 = [] from by kernel_rfl]; exact trivial
theorem q74_c4 (n : Nat) : K74 R n (true, 4, c74_c4) := part_cut (pa74_c4 n) t74_c4 (f74_c4 n) (fun K x1 x2 x3 x4 x5 => by show cutE _ _ _ _ _ = _; kernel_rfl) fun _ _ => rfl
theorem pa74 (n : Nat) : allP (K74 R n) (partsOf ann74 (bodyOf Tryz.f74)) := by
  rw [show partsOf ann74 (bodyOf Tryz.f74) = [(true, 4, c74_c4)] from by kernel_rfl]; exact ⟨q74_c4 n, trivial⟩
end
abbrev t74 : Sl (List SV) := (.c (sP (sAgg (.c sBool (.c sSh (.c sSh .n))))) .n)
noncomputable abbrev f74 (n : Nat) {R : Type} (K : List SV → Option R) : t74.T (Option R) := fun x1 x2 x3 => p74 n x1 x2 x3 (fun y1 y2 y3 => K [.p (.agg [.v (.bool y1), .sh y2, .sh y3])])
theorem ep74 {R : Type} (n : Nat) (K : List SV → Option R) (x1 : Bool) (x2 x3 : List PV) : evFn Tryz.prog (env74 n) ann74 n Tryz.f74 [.p (.agg [.v (.bool x1), .sh x2, .sh x3])] K = f74 n K x1 x2 x3 := by
  rw [evFn_evOi (c := bodyOf Tryz.f74) (by kernel_rfl) (pa74 n)]; kernel_rfl
noncomputable abbrev fs74 (n : Nat) : FS := { om := [false], run := fun args K => oget (t74.ap args (f74 n K)) none }
theorem ok74 (n : Nat) : FSound Tryz.prog GI 74 (fs74 n) :=
  FSound.good (envok74 n) (ann := ann74) (n := n) Tryz.func74
    (.cons (envok74 n) t74 (f74 n) (fun K x1 x2 x3 => ep74 n K x1 x2 x3) .nil)
    (by kernel_rfl) (by kernel_rfl) (by kernel_rfl)
end Go.Proofs.YtfbahcfojiaeaaaGreatDoor


set_option linter.unusedVariables false
set_option maxRecDepth 100000
namespace Go.Proofs.YtfbahcfojiaeaaaGreatDoor
open Go Th Go.Proofs
def ann38 : Ann := { loops := [], cuts := [], frz := [], rm := [.id, .id] }
noncomputable abbrev env38 (n : Nat) : Env := fun i => bif Nat.beq i 74 then some (fs74 n) else (fun i => bif Nat.beq i 57 then some (fs57 n) else (fun i => bif Nat.beq i 46 then some (fs46 n) else (fun _ => none) i) i) i
theorem envok38 (n : Nat) : EnvOK Tryz.prog GI (env38 n) := EnvOK.cons (EnvOK.cons (EnvOK.cons (EnvOK.nil) (ok46 n)) (ok57 n)) (ok74 n)
noncomputable def p38 {R : Type} (n : Nat) (x1 : ByteArray) (k0 : ByteArray → Int → Option R) : Option R :=
  p57 n x1 (fun y2 y3 y4 y5 => bif (!y5) then (k0 ⟨#[]⟩ 3) else (p74 n y2 y3 y4 (fun y6 y7 y8 => p46 n y6 y7 y8 (fun y9 y10 => k0 y9 y10))))
noncomputable abbrev lo38 {R : Type} (n : Nat) : Orc R := fun i vs K => none
noncomputable abbrev cu38 {R : Type} (n : Nat) : Orc R := fun i vs K => none
section
variable {R : Type}
abbrev K38 (R : Type) (n : Nat) := PartOK (R := R) Tryz.prog (env38 n) ann38 n (18, []) (lo38 n) (cu38 n)
theorem pa38 (n : Nat) : allP (K38 R n) (partsOf ann38 (bodyOf Tryz.f38)) := by
  rw [show partsOf ann38 (bodyOf Tryz.f38) = [] from by kernel_rfl]; exact trivial
end
abbrev t38 : Sl (List SV) := (.c (sP sStr) .n)
noncomputable abbrev f38 (n : Nat) {R : Type} (K : List SV → Option R) : t38.T (Option R) := fun x1 => p38 n x1 (fun y1 y2 => K [.p (.v (.string y1)), .p (.v (.int .i64 y2))])
theorem ep38 {R : Type} (n : Nat) (K : List SV → Option R) (x1 : ByteArray) : evFn Tryz.prog (env38 n) ann38 n Tryz.f38 [.p (.v (.string x1))] K = f38 n K x1 := by
  rw [evFn_evOi (c := bodyOf Tryz.f38) (by kernel_rfl) (pa38 n)]; kernel_rfl
noncomputable abbrev fs38 (n : Nat) : FS := { om := [false], run := fun args K => oget (t38.ap args (f38 n K)) none }
theorem ok38 (n : Nat) : FSound Tryz.prog GI 38 (fs38 n) :=
  FSound.good (envok38 n) (ann := ann38) (n := n) Tryz.func38
    (.cons (envok38 n) t38 (f38 n) (fun K x1 => ep38 n K x1) .nil)
    (by kernel_rfl) (by kernel_rfl) (by kernel_rfl)
end Go.Proofs.YtfbahcfojiaeaaaGreatDoor


set_option linter.unusedVariables false
set_option maxRecDepth 100000
namespace Go.Proofs.YtfbahcfojiaeaaaGreatDoor
open Go Th Go.Proofs
def ann11 : Ann := { loops := [], cuts := [], frz := [], rm := [.id] }
noncomputable abbrev env11 (n : Nat) : Env := fun i => bif Nat.beq i 38 then some (fs38 n) else (fun i => bif Nat.beq i 36 then some (fs36 n) else (fun i => bif Nat.beq i 30 then some (fs30 n) else (fun i => bif Nat.beq i 27 then some (fs27 n) else (fun i => bif Nat.beq i 19 then some (fs19 n) else (fun i => bif Nat.beq i 12 then some (fs12 n) else (fun _ => none) i) i) i) i) i) i
theorem envok11 (n : Nat) : EnvOK Tryz.prog GI (env11 n) := EnvOK.cons (EnvOK.cons (EnvOK.cons (EnvOK.cons (EnvOK.cons (EnvOK.cons (EnvOK.nil) (ok12 n)) (ok19 n)) (ok27 n)) (ok30 n)) (ok36 n)) (ok38 n)
noncomputable def p11 {R : Type} (n : Nat)  (k0 : Bool → Option R) : Option R :=
  p12 n ⟨#[54]⟩ ⟨#[45, 52]⟩ (fun y1 y2 => p27 n ⟨#[49, 47, 50]⟩ ⟨#[49, 47, 51]⟩ (fun y3 y4 => p38 n ⟨#[45, 49, 47, 50]⟩ (fun y5 y6 => p30 n ⟨#[49]⟩ ⟨#[48]⟩ (fun y7 y8 => bif (y2 == 0) then (bif true then (bif (bif true then eqS y1 (⟨#[45, 51, 47, 50]⟩ : ByteArray) else false) then (bif true then (bif (bif true then (y4 == 0) else false) then (bif true then (bif (bif true then eqS y3 (⟨#[53, 47, 54]⟩ : ByteArray) else false) then (bif true then (bif (bif true then (y6 == 0) else false) then (bif true then (bif (bif true then eqS y5 (⟨#[45, 49]⟩ : ByteArray) else false) then (bif true then (bif (bif true then (y8 == 24) else false) then (p36 n ⟨#[49, 47, 51]⟩ ⟨#[49, 47, 50]⟩ (fun y9 => bif true then (bif (bif true then (y9 == (-1)) else false) then (p19 n ⟨#[52, 47, 50]⟩ (fun y10 => bif true then (k0 (bif true then (!y10) else false)) else none)) else (bif false then none else (bif false then none else (k0 false)))) else none)) else (bif false then none else (bif false then none else (bif false then none else (bif false then none else (bif false then none else (k0 false))))))) else none) else (bif false then none else (bif false then none else (bif false then none else (bif false then none else (bif false then none else (bif false then none else (bif false then none else (bif false then none else (k0 false)))))))))) else none) else (bif false then none else (bif false then none else (bif false then none else (bif false then none else (bif false then none else (bif false then none else (bif false then none else (bif false then none else (bif false then none else (bif false then none else (bif false then none else (k0 false))))))))))))) else none) else (bif false then none else (bif false then none else (bif false then none else (bif false then none else (bif false then none else (bif false then none else (bif false then none else (bif false then none else (bif false then none else (bif false then none else (bif false then none else (bif false then none else (bif false then none else (bif false then none else (k0 false)))))))))))))))) else none) else (bif false then none else (bif false then none else (bif false then none else (bif false then none else (bif false then none else (bif false then none else (bif false then none else (bif false then none else (bif false then none else (bif false then none else (bif false then none else (bif false then none else (bif false then none else (bif false then none else (bif false then none else (bif false then none else (bif false then none else (k0 false))))))))))))))))))) else none) else (bif false then none else (bif false then none else (bif false then none else (bif false then none else (bif false then none else (bif false then none else (bif false then none else (bif false then none else (bif false then none else (bif false then none else (bif false then none else (bif false then none else (bif false then none else (bif false then none else (bif false then none else (bif false then none else (bif false then none else (bif false then none else (bif false then none else (bif false then none else (k0 false)))))))))))))))))))))) else none) else (bif false then none else (bif false then none else (bif false then none else (bif false then none else (bif false then none else (bif false then none else (bif false then none else (bif false then none else (bif false then none else (bif false then none else (bif false then none else (bif false then none else (bif false then none else (bif false then none else (bif false then none else (bif false then none else (bif false then none else (bif false then none else (bif false then none else (bif false then none else (bif false then none else (bif false then none else (bif false then none else (k0 false))))))))))))))))))))))))))))
noncomputable abbrev lo11 {R : Type} (n : Nat) : Orc R := fun i vs K => none
noncomputable abbrev cu11 {R : Type} (n : Nat) : Orc R := fun i vs K => none
section
variable {R : Type}
abbrev K11 (R : Type) (n : Nat) := PartOK (R := R) Tryz.prog (env11 n) ann11 n (59, []) (lo11 n) (cu11 n)
theorem pa11 (n : Nat) : allP (K11 R n) (partsOf ann11 (bodyOf Tryz.f11)) := by
  rw [show partsOf ann11 (bodyOf Tryz.f11) = [] from by kernel_rfl]; exact trivial
end
abbrev t11 : Sl (List SV) := .n
noncomputable abbrev f11 (n : Nat) {R : Type} (K : List SV → Option R) : t11.T (Option R) := p11 n  (fun y1 => K [.p (.v (.bool y1))])
theorem ep11 {R : Type} (n : Nat) (K : List SV → Option R)  : evFn Tryz.prog (env11 n) ann11 n Tryz.f11 [] K = f11 n K  := by
  rw [evFn_evOi (c := bodyOf Tryz.f11) (by kernel_rfl) (pa11 n)]; kernel_rfl
noncomputable abbrev fs11 (n : Nat) : FS := { om := [], run := fun args K => oget (t11.ap args (f11 n K)) none }
theorem ok11 (n : Nat) : FSound Tryz.prog GI 11 (fs11 n) :=
  FSound.good (envok11 n) (ann := ann11) (n := n) Tryz.func11
    (.cons (envok11 n) t11 (f11 n) (fun K  => ep11 n K ) .nil)
    (by kernel_rfl) (by kernel_rfl) (by kernel_rfl)
end Go.Proofs.YtfbahcfojiaeaaaGreatDoor


namespace Go.Proofs.YtfbahcfojiaeaaaGreatDoor
open Go Th Go.Proofs
theorem p11_eq {R : Type} (m : Nat) (k0 : Bool → Option R) : p11 (m + 40) k0 = k0 true := by kernel_rfl
theorem p11_run {R : Type} (n : Nat) (h : 40 ≤ n) (k0 : Bool → Option R) : p11 n k0 = k0 true := by
  rw [show n = (n - 40) + 40 from by omega]; exact p11_eq _ k0
end Go.Proofs.YtfbahcfojiaeaaaGreatDoor


set_option linter.unusedVariables false
set_option linter.unusedSimpArgs false
namespace Go.Proofs.YtfbahcfojiaeaaaGreatDoor
open Go Th Go.Proofs
variable {R : Type}
theorem condT {α : Type} (a b : α) : (bif true then a else b) = a := (Eq.refl _).trans (Eq.refl _)
theorem condF {α : Type} (a b : α) : (bif false then a else b) = b := (Eq.refl _).trans (Eq.refl _)
theorem notF : (!false) = true := (Eq.refl _).trans (Eq.refl _)
end Go.Proofs.YtfbahcfojiaeaaaGreatDoor


set_option linter.unusedVariables false
set_option linter.unusedSimpArgs false
namespace Go.Proofs.YtfbahcfojiaeaaaGreatDoor
open Go Th Go.Proofs
variable {R : Type}
theorem quick_loop (n : Nat) (neg : Bool) (t : List UInt8) (ht : t.length ≤ 9) : ∀ (d m i acc : Nat), d + i = t.length → d < m → acc < 10 ^ i →
    (∀ c ∈ t.drop i, isD c = true) → ∀ (k0 : Int → Bool → Bool → Int → Option R) (k1 : Bool → Int → Option R), p56_l9L n m neg (bs t) acc t.length i k0 k1 = k1 neg ((acc * 10 ^ (t.length - i) + ofD (t.drop i) : Nat) : Int)
  | 0, m + 1, i, acc, hd, hm, ha, hs, k0, k1 => by
    rw [List.drop_eq_nil_of_le (by omega), show t.length - i = 0 from by omega, Nat.pow_zero, Nat.mul_one, show ofD [] = 0 from rfl, Nat.add_zero]
    simp only [p56_l9L, p56_l9B]
    simp (disch := (first | omega | (simp only [List.length_append, List.length_cons, List.length_nil, List.length_replicate, List.length_take, List.length_drop]; omega))) only [↓c_pos, ↓c_neg, dec_t, dec_f, Bool.and_true, Bool.true_and, Bool.and_false, Bool.false_and, Bool.not_true, Bool.not_false, cond_true, cond_false, inR_t, cutR_t, roomB_t, lenOK_t, w64, bs_size, List.length_append, List.length_cons, List.length_nil, bs_extract, bs_append, bs_push, bs_data, bs_empty, bs_lit, catS_bs, eqS_bs, ite_pos', ite_neg', decide_true, decide_false, if_true, if_false]
    rfl
  | d + 1, m + 1, i, acc, hd, hm, ha, hs, k0, k1 => by
    have hi : i < t.length := by omega
    have hdr : t.drop i = t[i] :: t.drop (i + 1) := List.drop_eq_getElem_cons hi
    rw [hdr] at hs ⊢
    have hc := isD_iff.1 (hs _ (List.mem_cons_self ..))
    have hp : (10 : Nat) ^ i ≤ 10 ^ 9 := Nat.pow_le_pow_right (by omega) (by omega)
    have ih := quick_loop n neg t ht d m (i + 1) (10 * acc + (t[i].toNat - 48)) (by omega) (by omega) (by rw [Nat.pow_succ]; omega) (fun c h => hs c (List.mem_cons_of_mem _ h)) k0 k1
    have e1 : (i : Int) + 1 = ((i + 1 : Nat) : Int) := by omega
    have e2 : byteAt (bs t) (i : Int) = (t[i].toNat : Int) := byteAt_nat hi
    have e4 : (t[i].toNat : Int) - 48 = ((t[i].toNat - 48 : Nat) : Int) := by omega
    have e5 : (10 : Int) * (acc : Int) + ((t[i].toNat - 48 : Nat) : Int) = ((10 * acc + (t[i].toNat - 48) : Nat) : Int) := by omega
    have hdl : (t.drop (i + 1)).length = t.length - (i + 1) := List.length_drop
    have e6 : acc * 10 ^ (t.length - i) + ofD (t[i] :: t.drop (i + 1)) = (10 * acc + (t[i].toNat - 48)) * 10 ^ (t.length - (i + 1)) + ofD (t.drop (i + 1)) := by
      have : ofD (t[i] :: t.drop (i + 1)) = (t[i].toNat - 48) * 10 ^ (t.length - (i + 1)) + ofD (t.drop (i + 1)) := by
        unfold ofD dg; rw [List.map_cons, vb_cons, List.length_map, hdl]
      rw [this, show t.length - i = (t.length - (i + 1)) + 1 from by omega, Nat.pow_succ]
      grind
    rw [e6, ← ih]
    simp only [p56_l9L, p56_l9B]
    simp (disch := (first | omega | (simp only [List.length_append, List.length_cons, List.length_nil, List.length_replicate, List.length_take, List.length_drop]; omega))) only [↓c_pos, ↓c_neg, dec_t, dec_f, Bool.and_true, Bool.true_and, Bool.and_false, Bool.false_and, Bool.not_true, Bool.not_false, cond_true, cond_false, inR_t, cutR_t, roomB_t, lenOK_t, w64, bs_size, List.length_append, List.length_cons, List.length_nil, bs_extract, bs_append, bs_push, bs_data, bs_empty, bs_lit, catS_bs, eqS_bs, ite_pos', ite_neg', decide_true, decide_false, if_true, if_false, e1, e2, e4, e5, wu8]
theorem quick_loop_bad (n : Nat) (neg : Bool) (t : List UInt8) (ht : t.length ≤ 9) : ∀ (d m i acc : Nat), d + i = t.length → d < m → acc < 10 ^ i →
    ¬ (∀ c ∈ t.drop i, isD c = true) → ∃ y : Int, ∀ (k0 : Int → Bool → Bool → Int → Option R) (k1 : Bool → Int → Option R), p56_l9L n m neg (bs t) acc t.length i k0 k1 = k0 0 false neg y
  | 0, m + 1, i, acc, hd, hm, ha, hs => by
    rw [List.drop_eq_nil_of_le (by omega)] at hs
    exact absurd (fun c h => by cases h) hs
  | d + 1, m + 1, i, acc, hd, hm, ha, hs => by
    have hi : i < t.length := by omega
    have hdr : t.drop i = t[i] :: t.drop (i + 1) := List.drop_eq_getElem_cons hi
    rw [hdr] at hs
    have hp : (10 : Nat) ^ i ≤ 10 ^ 9 := Nat.pow_le_pow_right (by omega) (by omega)
    have e1 : (i : Int) + 1 = ((i + 1 : Nat) : Int) := by omega
    have e2 : byteAt (bs t) (i : Int) = (t[i].toNat : Int) := byteAt_nat hi
    by_cases h : isD t[i] = true
    · have hc := isD_iff.1 h
      have hs' : ¬ ∀ c ∈ t.drop (i + 1), isD c = true := fun q => hs (by
        intro c hc
        rcases List.mem_cons.1 hc with rfl | hc
        · exact h
        · exact q c hc)
      obtain ⟨y, ih⟩ := quick_loop_bad n neg t ht d m (i + 1) (10 * acc + (t[i].toNat - 48)) (by omega) (by omega) (by rw [Nat.pow_succ]; omega) hs'
      refine ⟨y, fun k0 k1 => ?_⟩
      have e4 : (t[i].toNat : Int) - 48 = ((t[i].toNat - 48 : Nat) : Int) := by omega
      have e5 : (10 : Int) * (acc : Int) + ((t[i].toNat - 48 : Nat) : Int) = ((10 * acc + (t[i].toNat - 48) : Nat) : Int) := by omega
      rw [← ih k0 k1]
      simp only [p56_l9L, p56_l9B]
      simp (disch := (first | omega | (simp only [List.length_append, List.length_cons, List.length_nil, List.length_replicate, List.length_take, List.length_drop]; omega))) only [↓c_pos, ↓c_neg, dec_t, dec_f, Bool.and_true, Bool.true_and, Bool.and_false, Bool.false_and, Bool.not_true, Bool.not_false, cond_true, cond_false, inR_t, cutR_t, roomB_t, lenOK_t, w64, bs_size, List.length_append, List.length_cons, List.length_nil, bs_extract, bs_append, bs_push, bs_data, bs_empty, bs_lit, catS_bs, eqS_bs, ite_pos', ite_neg', decide_true, decide_false, if_true, if_false, e1, e2, e4, e5, wu8]
    · have hc : ¬ (48 ≤ t[i].toNat ∧ t[i].toNat ≤ 57) := fun q => h (isD_iff.2 q)
      refine ⟨acc, fun k0 k1 => ?_⟩
      simp only [p56_l9L, p56_l9B]
      by_cases h1 : t[i].toNat < 48
      · simp (disch := (first | omega | (simp only [List.length_append, List.length_cons, List.length_nil, List.length_replicate, List.length_take, List.length_drop]; omega))) only [↓c_pos, ↓c_neg, dec_t, dec_f, Bool.and_true, Bool.true_and, Bool.and_false, Bool.false_and, Bool.not_true, Bool.not_false, cond_true, cond_false, inR_t, cutR_t, roomB_t, lenOK_t, w64, bs_size, List.length_append, List.length_cons, List.length_nil, bs_extract, bs_append, bs_push, bs_data, bs_empty, bs_lit, catS_bs, eqS_bs, ite_pos', ite_neg', decide_true, decide_false, if_true, if_false, e1, e2]
      · simp (disch := (first | omega | (simp only [List.length_append, List.length_cons, List.length_nil, List.length_replicate, List.length_take, List.length_drop]; omega))) only [↓c_pos, ↓c_neg, dec_t, dec_f, Bool.and_true, Bool.true_and, Bool.and_false, Bool.false_and, Bool.not_true, Bool.not_false, cond_true, cond_false, inR_t, cutR_t, roomB_t, lenOK_t, w64, bs_size, List.length_append, List.length_cons, List.length_nil, bs_extract, bs_append, bs_push, bs_data, bs_empty, bs_lit, catS_bs, eqS_bs, ite_pos', ite_neg', decide_true, decide_false, if_true, if_false, e1, e2]
theorem quickC_ok (n : Nat) (hn : 20 ≤ n) (s t : List UInt8) (neg : Bool) (hsl : s.length < 2 ^ 40) (h0 : t ≠ []) (ht : t.length ≤ 9) (hd : ∀ c ∈ t, isD c = true) (hz : t.head? = some 48 → s.length ≤ 1) (k0 : Int → Bool → Option R) :
    p56_c5 n (bs s) neg (bs t) k0 = k0 (zs neg (ofD t)) true := by
  have hlt := ofD_lt hd
  have hp : (10 : Nat) ^ t.length ≤ 10 ^ 9 := Nat.pow_le_pow_right (by omega) ht
  have hlp := fun (k0 : Int → Bool → Bool → Int → Option R) (k1 : Bool → Int → Option R) => quick_loop (R := R) n neg t ht t.length n 0 0 (by omega) (by omega) (by simp) (by rw [List.drop_zero]; exact hd) k0 k1
  rw [Nat.zero_mul, List.drop_zero, Nat.zero_add, show ((0 : Nat) : Int) = 0 from rfl] at hlp
  cases t with
  | nil => exact absurd rfl h0
  | cons c r =>
    have e0 : ((c :: r) == ([] : List UInt8)) = false := rfl
    have e1 : byteAt (bs (c :: r)) 0 = (c.toNat : Int) := rfl
    have hb := beqB c 48
    rw [show ((48 : UInt8).toNat : Int) = 48 from rfl] at hb
    rw [List.length_cons] at ht
    simp only [List.length_cons] at hlp
    generalize hv : ofD (c :: r) = v at *
    by_cases hc : c = 48
    · have e2 : (c == 48) = true := by simpa using hc
      have hs1 := hz (by rw [hc]; rfl)
      simp only [p56_c5, p56_c7, p56_c17, p56_l9]
      cases neg
      · simp (disch := (first | omega | (simp only [List.length_append, List.length_cons, List.length_nil, List.length_replicate, List.length_take, List.length_drop]; omega))) only [↓c_pos, ↓c_neg, dec_t, dec_f, Bool.and_true, Bool.true_and, Bool.and_false, Bool.false_and, Bool.not_true, Bool.not_false, cond_true, cond_false, inR_t, cutR_t, roomB_t, lenOK_t, w64, bs_size, List.length_append, List.length_cons, List.length_nil, bs_extract, bs_append, bs_push, bs_data, bs_empty, bs_lit, catS_bs, eqS_bs, ite_pos', ite_neg', decide_true, decide_false, if_true, if_false, List.length_cons, e0, e1, hb, e2, hlp]
        rfl
      · simp (disch := (first | omega | (simp only [List.length_append, List.length_cons, List.length_nil, List.length_replicate, List.length_take, List.length_drop]; omega))) only [↓c_pos, ↓c_neg, dec_t, dec_f, Bool.and_true, Bool.true_and, Bool.and_false, Bool.false_and, Bool.not_true, Bool.not_false, cond_true, cond_false, inR_t, cutR_t, roomB_t, lenOK_t, w64, bs_size, List.length_append, List.length_cons, List.length_nil, bs_extract, bs_append, bs_push, bs_data, bs_empty, bs_lit, catS_bs, eqS_bs, ite_pos', ite_neg', decide_true, decide_false, if_true, if_false, List.length_cons, e0, e1, hb, e2, hlp, Int.zero_sub]
        rfl
    · have e2 : (c == 48) = false := by simpa using hc
      simp only [p56_c5, p56_c7, p56_c17, p56_l9]
      cases neg
      · simp (disch := (first | omega | (simp only [List.length_append, List.length_cons, List.length_nil, List.length_replicate, List.length_take, List.length_drop]; omega))) only [↓c_pos, ↓c_neg, dec_t, dec_f, Bool.and_true, Bool.true_and, Bool.and_false, Bool.false_and, Bool.not_true, Bool.not_false, cond_true, cond_false, inR_t, cutR_t, roomB_t, lenOK_t, w64, bs_size, List.length_append, List.length_cons, List.length_nil, bs_extract, bs_append, bs_push, bs_data, bs_empty, bs_lit, catS_bs, eqS_bs, ite_pos', ite_neg', decide_true, decide_false, if_true, if_false, List.length_cons, e0, e1, hb, e2, hlp]
        rfl
      · simp (disch := (first | omega | (simp only [List.length_append, List.length_cons, List.length_nil, List.length_replicate, List.length_take, List.length_drop]; omega))) only [↓c_pos, ↓c_neg, dec_t, dec_f, Bool.and_true, Bool.true_and, Bool.and_false, Bool.false_and, Bool.not_true, Bool.not_false, cond_true, cond_false, inR_t, cutR_t, roomB_t, lenOK_t, w64, bs_size, List.length_append, List.length_cons, List.length_nil, bs_extract, bs_append, bs_push, bs_data, bs_empty, bs_lit, catS_bs, eqS_bs, ite_pos', ite_neg', decide_true, decide_false, if_true, if_false, List.length_cons, e0, e1, hb, e2, hlp, Int.zero_sub]
        rfl
theorem quickC_bad (n : Nat) (hn : 20 ≤ n) (s t : List UInt8) (neg : Bool) (hsl : s.length < 2 ^ 40) (htl : t.length < 2 ^ 40) (h : ¬ (t ≠ [] ∧ t.length ≤ 9 ∧ (∀ c ∈ t, isD c = true) ∧ (t.head? = some 48 → s.length ≤ 1))) :
    ∀ k0 : Int → Bool → Option R, p56_c5 n (bs s) neg (bs t) k0 = k0 0 false := by
  intro k0
  cases t with
  | nil => rfl
  | cons c r =>
    have e0 : ((c :: r) == ([] : List UInt8)) = false := rfl
    have e1 : byteAt (bs (c :: r)) 0 = (c.toNat : Int) := rfl
    have hb := beqB c 48
    rw [show ((48 : UInt8).toNat : Int) = 48 from rfl] at hb
    rw [List.length_cons] at htl
    simp only [p56_c5, p56_c7, p56_c17, p56_l9]
    by_cases h9 : 9 < r.length + 1
    · simp (disch := (first | omega | (simp only [List.length_append, List.length_cons, List.length_nil, List.length_replicate, List.length_take, List.length_drop]; omega))) only [↓c_pos, ↓c_neg, dec_t, dec_f, Bool.and_true, Bool.true_and, Bool.and_false, Bool.false_and, Bool.not_true, Bool.not_false, cond_true, cond_false, inR_t, cutR_t, roomB_t, lenOK_t, w64, bs_size, List.length_append, List.length_cons, List.length_nil, bs_extract, bs_append, bs_push, bs_data, bs_empty, bs_lit, catS_bs, eqS_bs, ite_pos', ite_neg', decide_true, decide_false, if_true, if_false, List.length_cons, e0]
    · by_cases hd : ∀ x ∈ c :: r, isD x = true
      · have hs : c = 48 ∧ 1 < s.length := by
          by_cases hc : c = 48
          · refine ⟨hc, ?_⟩
            apply Nat.lt_of_not_le
            intro q
            exact h ⟨by simp, by rw [List.length_cons]; omega, hd, fun _ => q⟩
          · exact absurd ⟨by simp, by rw [List.length_cons]; omega, hd, fun q => absurd (by simpa using q) hc⟩ h
        have e2 : (c == 48) = true := by simpa using hs.1
        have hs1 := hs.2
        simp (disch := (first | omega | (simp only [List.length_append, List.length_cons, List.length_nil, List.length_replicate, List.length_take, List.length_drop]; omega))) only [↓c_pos, ↓c_neg, dec_t, dec_f, Bool.and_true, Bool.true_and, Bool.and_false, Bool.false_and, Bool.not_true, Bool.not_false, cond_true, cond_false, inR_t, cutR_t, roomB_t, lenOK_t, w64, bs_size, List.length_append, List.length_cons, List.length_nil, bs_extract, bs_append, bs_push, bs_data, bs_empty, bs_lit, catS_bs, eqS_bs, ite_pos', ite_neg', decide_true, decide_false, if_true, if_false, List.length_cons, e0, e1, hb, e2]
      · obtain ⟨y, hlp⟩ := quick_loop_bad (R := R) n neg (c :: r) (by rw [List.length_cons]; omega) (r.length + 1) n 0 0 (by rw [List.length_cons]) (by omega) (by simp) (by rw [List.drop_zero]; exact hd)
        rw [show ((0 : Nat) : Int) = 0 from rfl] at hlp
        simp only [List.length_cons] at hlp
        by_cases hc : c = 48
        · have e2 : (c == 48) = true := by simpa using hc
          by_cases hs1 : 1 < s.length
          · simp (disch := (first | omega | (simp only [List.length_append, List.length_cons, List.length_nil, List.length_replicate, List.length_take, List.length_drop]; omega))) only [↓c_pos, ↓c_neg, dec_t, dec_f, Bool.and_true, Bool.true_and, Bool.and_false, Bool.false_and, Bool.not_true, Bool.not_false, cond_true, cond_false, inR_t, cutR_t, roomB_t, lenOK_t, w64, bs_size, List.length_append, List.length_cons, List.length_nil, bs_extract, bs_append, bs_push, bs_data, bs_empty, bs_lit, catS_bs, eqS_bs, ite_pos', ite_neg', decide_true, decide_false, if_true, if_false, List.length_cons, e0, e1, hb, e2]
          · simp (disch := (first | omega | (simp only [List.length_append, List.length_cons, List.length_nil, List.length_replicate, List.length_take, List.length_drop]; omega))) only [↓c_pos, ↓c_neg, dec_t, dec_f, Bool.and_true, Bool.true_and, Bool.and_false, Bool.false_and, Bool.not_true, Bool.not_false, cond_true, cond_false, inR_t, cutR_t, roomB_t, lenOK_t, w64, bs_size, List.length_append, List.length_cons, List.length_nil, bs_extract, bs_append, bs_push, bs_data, bs_empty, bs_lit, catS_bs, eqS_bs, ite_pos', ite_neg', decide_true, decide_false, if_true, if_false, List.length_cons, e0, e1, hb, e2, hlp]
        · have e2 : (c == 48) = false := by simpa using hc
          simp (disch := (first | omega | (simp only [List.length_append, List.length_cons, List.length_nil, List.length_replicate, List.length_take, List.length_drop]; omega))) only [↓c_pos, ↓c_neg, dec_t, dec_f, Bool.and_true, Bool.true_and, Bool.and_false, Bool.false_and, Bool.not_true, Bool.not_false, cond_true, cond_false, inR_t, cutR_t, roomB_t, lenOK_t, w64, bs_size, List.length_append, List.length_cons, List.length_nil, bs_extract, bs_append, bs_push, bs_data, bs_empty, bs_lit, catS_bs, eqS_bs, ite_pos', ite_neg', decide_true, decide_false, if_true, if_false, List.length_cons, e0, e1, hb, e2, hlp]
theorem quick_split (n : Nat) (s : List UInt8) (hs : s.length < 2 ^ 40) (k0 : Int → Bool → Option R) : p56 n (bs s) k0 = p56_c5 n (bs s) (cutN s).1 (bs (cutN s).2) k0 := by
  unfold p56
  cases s with
  | nil => rfl
  | cons c r =>
    rw [List.length_cons] at hs
    have e0 : ((c :: r) == ([] : List UInt8)) = false := rfl
    have e1 : byteAt (bs (c :: r)) 0 = (c.toNat : Int) := rfl
    have hb := beqB c 45
    rw [show ((45 : UInt8).toNat : Int) = 45 from rfl] at hb
    have e3 : List.drop (1 : Int).toNat (List.take (r.length + 1) (c :: r)) = r := by
      show List.drop 1 (c :: List.take r.length r) = r
      rw [List.take_length]; rfl
    rw [cutN_cons]
    by_cases hc : c = 45
    · have e2 : (c == 45) = true := by simpa using hc
      rw [if_pos hc]
      simp (disch := (first | omega | (simp only [List.length_append, List.length_cons, List.length_nil, List.length_replicate, List.length_take, List.length_drop]; omega))) only [↓c_pos, ↓c_neg, dec_t, dec_f, Bool.and_true, Bool.true_and, Bool.and_false, Bool.false_and, Bool.not_true, Bool.not_false, cond_true, cond_false, inR_t, cutR_t, roomB_t, lenOK_t, w64, bs_size, List.length_append, List.length_cons, List.length_nil, bs_extract, bs_append, bs_push, bs_data, bs_empty, bs_lit, catS_bs, eqS_bs, ite_pos', ite_neg', decide_true, decide_false, if_true, if_false, List.length_cons, e0, e1, hb, e2, p56_c2, toNatC, e3]
    · have e2 : (c == 45) = false := by simpa using hc
      rw [if_neg hc]
      simp (disch := (first | omega | (simp only [List.length_append, List.length_cons, List.length_nil, List.length_replicate, List.length_take, List.length_drop]; omega))) only [↓c_pos, ↓c_neg, dec_t, dec_f, Bool.and_true, Bool.true_and, Bool.and_false, Bool.false_and, Bool.not_true, Bool.not_false, cond_true, cond_false, inR_t, cutR_t, roomB_t, lenOK_t, w64, bs_size, List.length_append, List.length_cons, List.length_nil, bs_extract, bs_append, bs_push, bs_data, bs_empty, bs_lit, catS_bs, eqS_bs, ite_pos', ite_neg', decide_true, decide_false, if_true, if_false, List.length_cons, e0, e1, hb, e2, p56_c2]
theorem quick_ok (n : Nat) (hn : 20 ≤ n) (v : Int) (hv : v.natAbs < 10 ^ 9) (k0 : Int → Bool → Option R) : p56 n (bs (Lib.itoa v)) k0 = k0 v true := by
  have hl := (dec_len v.natAbs 9 (by omega)).2 hv
  have hin := cutN_in (Lib.itoa v)
  rw [cutN_itoa] at hin
  have hls : (Lib.itoa v).length ≤ 10 := by
    rw [hin, List.length_append]
    split <;> simp <;> omega
  rw [quick_split n _ (by omega), cutN_itoa, quickC_ok n hn _ _ _ (by omega) (dec_ne _) hl (dec_isD _) ?_, ofD_dec, zs_self]
  intro h48
  rcases dec_head v.natAbs with h | h
  · exact absurd h48 h
  · by_cases hv0 : v < 0
    · exfalso
      have h1 := dec_isD v.natAbs
      cases hd : dec v.natAbs with
      | nil => exact dec_ne _ hd
      | cons c r =>
        rw [hd] at h48 h
        simp at h48 h
        have : dec v.natAbs = dec 0 := by rw [hd, h48, h, dec_zero]
        have := dec_inj this
        omega
    · rw [hin, decide_eq_false hv0]
      simp only [Bool.false_eq_true, if_false, List.nil_append]
      omega
theorem quick_bad (n : Nat) (hn : 20 ≤ n) (s : List UInt8) (hs : s.length < 2 ^ 40) (h : ¬ ∃ v : Int, v.natAbs < 10 ^ 9 ∧ s = Lib.itoa v) (k0 : Int → Bool → Option R) : p56 n (bs s) k0 = k0 0 false := by
  have hl := cutN_len s
  rw [quick_split n s hs]
  refine quickC_bad n hn s _ _ hs (by omega) ?_ k0
  rintro ⟨h1, h2, h3, h4⟩
  apply h
  have hin := cutN_in s
  have hd : dec (ofD (cutN s).2) = (cutN s).2 := dec_ofD h3 h1 (by
    by_cases hz : (cutN s).2.head? = some 48
    · right
      have := h4 hz
      have := List.length_pos_iff.2 h1
      omega
    · exact Or.inl hz)
  have hlt : ofD (cutN s).2 < 10 ^ 9 := (dec_len _ 9 (by omega)).1 (by rw [hd]; exact h2)
  refine ⟨zs (cutN s).1 (ofD (cutN s).2), by rw [zs_natAbs]; exact hlt, ?_⟩
  by_cases h0 : ofD (cutN s).2 = 0
  · have e : (cutN s).1 = false := by
      cases hb : (cutN s).1 with
      | false => rfl
      | true =>
        exfalso
        rw [h0, dec_zero] at hd
        have h5 := h4 (by rw [← hd]; rfl)
        rw [hb, ← hd] at hin
        rw [hin] at h5
        simp at h5
    rw [h0, e]
    rw [e, ← hd, h0] at hin
    rw [hin]
    exact (itoa_pos 0).symm
  · rw [itoa_zs _ h0, hd]; exact hin
end Go.Proofs.YtfbahcfojiaeaaaGreatDoor


set_option linter.unusedVariables false
set_option maxRecDepth 100000
namespace Go.Proofs.YtfbahcfojiaeaaaGreatDoor
open Go Th Go.Proofs
section
variable {R : Type}
end
end Go.Proofs.YtfbahcfojiaeaaaGreatDoor


set_option linter.unusedVariables false
set_option maxRecDepth 100000
namespace Go.Proofs.YtfbahcfojiaeaaaGreatDoor
open Go Th Go.Proofs
section
variable {R : Type}
end
end Go.Proofs.YtfbahcfojiaeaaaGreatDoor


set_option linter.unusedVariables false
set_option linter.unusedSimpArgs false
namespace Go.Proofs.YtfbahcfojiaeaaaGreatDoor
open Go Th Go.Proofs
variable {R : Type}
theorem eq_self (s : List UInt8) : (s == s) = true := by simp
def idx (s : List UInt8) : Nat := (s.takeWhile (· != 47)).length
theorem idx_nil : idx [] = 0 := rfl
theorem idx_cons (c : UInt8) (r : List UInt8) : idx (c :: r) = if c = 47 then 0 else idx r + 1 := by
  unfold idx
  rw [List.takeWhile_cons]
  by_cases h : c = 47 <;> simp [h]
theorem idx_none : ∀ {s : List UInt8}, (∀ c ∈ s, c ≠ 47) → idx s = s.length
  | [], _ => rfl
  | c :: r, h => by rw [idx_cons, if_neg (h c (List.mem_cons_self ..)), idx_none fun x hx => h x (List.mem_cons_of_mem _ hx), List.length_cons]
theorem idx_at : ∀ {a : List UInt8} (b : List UInt8), (∀ c ∈ a, c ≠ 47) → idx (a ++ 47 :: b) = a.length
  | [], b, _ => by rw [List.nil_append, idx_cons, if_pos rfl]; rfl
  | c :: r, b, h => by rw [List.cons_append, idx_cons, if_neg (h c (List.mem_cons_self ..)), idx_at b fun x hx => h x (List.mem_cons_of_mem _ hx), List.length_cons]
theorem idx_slash : ∀ {s : List UInt8}, idx s < s.length → s = s.take (idx s) ++ 47 :: s.drop (idx s + 1)
  | [], h => by simp [idx_nil] at h
  | c :: r, h => by
    rw [idx_cons, List.length_cons] at *
    by_cases hc : c = 47
    · rw [if_pos hc] at *; rw [hc]; rfl
    · rw [if_neg hc] at *
      have ih := idx_slash (s := r) (by omega)
      rw [List.take_succ_cons, List.drop_succ_cons, List.cons_append, ← ih]
theorem indexByte_idx : ∀ (s : List UInt8), Lib.indexByte s 47 = if idx s < s.length then (idx s : Int) else -1
  | [] => rfl
  | c :: r => by
    have ih := indexByte_idx r
    simp only [Lib.indexByte, idx_cons, List.length_cons]
    by_cases hc : c = 47
    · subst hc; simp
    · rw [if_neg (by simpa using hc), ih, if_neg hc]
      by_cases h : idx r < r.length
      · simp only [if_pos h]
        rw [if_neg (by simp), if_pos (by omega)]; omega
      · simp only [if_neg h]
        rw [if_pos (by decide), if_neg (by omega)]
theorem cut_eq (n : Nat) (s : List UInt8) (hs : s.length < 2 ^ 40) (k0 : ByteArray → ByteArray → Bool → Option R) :
    p55 n (bs s) k0 = if idx s < s.length then k0 (bs (s.take (idx s))) (bs (s.drop (idx s + 1))) true else k0 (bs s) (bs []) false := by
  unfold p55 p86
  have e : ((⟨#[47]⟩ : ByteArray).data.toList.headD 0) = 47 := rfl
  have hz : (⟨#[47]⟩ : ByteArray).size = 1 := rfl
  rw [bs_data, e, indexByte_idx]
  by_cases h : idx s < s.length
  · rw [if_pos h, if_pos h]
    have e1 : (idx s : Int) + ((1 : Nat) : Int) = ((idx s + 1 : Nat) : Int) := by omega
    have e2 : List.drop (0 : Int).toNat (List.take (idx s) s) = s.take (idx s) := rfl
    have e3 : List.drop 0 (List.take (idx s) s) = s.take (idx s) := rfl
    have e4 : List.drop (idx s + 1) (List.take s.length s) = s.drop (idx s + 1) := by rw [List.take_length]
    have hz2 : (bs [47]).size = 1 := rfl
    simp (disch := (first | omega | (simp only [List.length_append, List.length_cons, List.length_nil, List.length_replicate, List.length_take, List.length_drop]; omega))) only [↓c_pos, ↓c_neg, dec_t, dec_f, Bool.and_true, Bool.true_and, Bool.and_false, Bool.false_and, Bool.not_true, Bool.not_false, cond_true, cond_false, inR_t, cutR_t, roomB_t, lenOK_t, w64, bs_size, List.length_append, List.length_cons, List.length_nil, bs_extract, bs_append, bs_push, bs_data, bs_empty, bs_lit, catS_bs, eqS_bs, ite_pos', ite_neg', decide_true, decide_false, if_true, if_false, hz, hz2, e1, toNatC, e2, e3, e4, List.length_nil]
  · rw [if_neg h, if_neg h]
    simp (disch := (first | omega | (simp only [List.length_append, List.length_cons, List.length_nil, List.length_replicate, List.length_take, List.length_drop]; omega))) only [↓c_pos, ↓c_neg, dec_t, dec_f, Bool.and_true, Bool.true_and, Bool.and_false, Bool.false_and, Bool.not_true, Bool.not_false, cond_true, cond_false, inR_t, cutR_t, roomB_t, lenOK_t, w64, bs_size, List.length_append, List.length_cons, List.length_nil, bs_extract, bs_append, bs_push, bs_data, bs_empty, bs_lit, catS_bs, eqS_bs, ite_pos', ite_neg', decide_true, decide_false, if_true, if_false]
theorem no47_dec (a : Nat) : ∀ c ∈ dec a, c ≠ 47 := by
  intro c hc h
  have := isD_iff.1 (dec_isD a c hc)
  rw [h] at this
  exact absurd this.1 (by decide)
theorem no47_itoa (z : Int) : ∀ c ∈ Lib.itoa z, c ≠ 47 := by
  have h := cutN_in (Lib.itoa z)
  rw [cutN_itoa] at h
  rw [h]
  intro c hc
  rcases List.mem_append.1 hc with h1 | h1
  · split at h1
    · rw [List.mem_singleton.1 h1]; decide
    · cases h1
  · exact no47_dec _ c h1
theorem itoa_len {z : Int} (h : z.natAbs < 10 ^ 400) : (Lib.itoa z).length ≤ 401 := by
  have h1 := dec_lim h
  have h2 := cutN_in (Lib.itoa z)
  rw [cutN_itoa] at h2
  rw [h2, List.length_append]
  split <;> simp <;> omega
theorem rtxt_len {q : Rat} (h : fits q) : (rtxt q).length ≤ 802 := by
  unfold rtxt
  have h1 := itoa_len h.1
  have h2 := dec_lim h.2
  rw [List.length_append]
  split <;> simp <;> omega
theorem dec_one : dec 1 = [49] := dec_small (by omega)
theorem rtxt_parts (q : Rat) : (rtxt q).take (idx (rtxt q)) = Lib.itoa q.num ∧ (idx (rtxt q) < (rtxt q).length ↔ q.den ≠ 1) ∧ (q.den ≠ 1 → (rtxt q).drop (idx (rtxt q) + 1) = dec q.den) := by
  unfold rtxt
  by_cases h : q.den = 1
  · rw [if_pos h, List.append_nil, idx_none (no47_itoa _), List.take_length]
    exact ⟨rfl, by simp [h], fun q => absurd h q⟩
  · rw [if_neg h, idx_at _ (no47_itoa _), List.take_left]
    refine ⟨rfl, by simp [h], fun _ => ?_⟩
    rw [List.drop_append, List.drop_of_length_le (by omega), show (Lib.itoa q.num).length + 1 - (Lib.itoa q.num).length = 1 from by omega]
    rfl
theorem rtxt_inj {p q : Rat} (h : rtxt p = rtxt q) : p = q := by
  obtain ⟨a1, a2, a3⟩ := rtxt_parts p
  obtain ⟨b1, b2, b3⟩ := rtxt_parts q
  rw [h] at a1 a2 a3
  have hn : Lib.itoa p.num = Lib.itoa q.num := a1.symm.trans b1
  have hc := congrArg cutN hn
  rw [cutN_itoa, cutN_itoa] at hc
  have h1 := dec_inj (Prod.mk.inj hc).2
  have h2 : (p.num < 0) = (q.num < 0) := by simpa using (Prod.mk.inj hc).1
  have hnum : p.num = q.num := by
    have : p.num < 0 ↔ q.num < 0 := by rw [h2]
    omega
  by_cases hd : q.den = 1
  · have : p.den = 1 := by
      apply Classical.byContradiction
      intro hp
      exact (b2.1 (a2.2 hp)) hd
    exact Rat.ext hnum (this.trans hd.symm)
  · have hp : p.den ≠ 1 := a2.1 (b2.2 hd)
    exact Rat.ext hnum (dec_inj ((a3 hp).symm.trans (b3 hd)))
def isQ (s : List UInt8) : Prop := ∃ q : Rat, fits q ∧ s = rtxt q
theorem gcd1_eq (n : Nat) (z w : Nat) (hz : z < 10 ^ 400) (hw : w < 10 ^ 400) (hw0 : w ≠ 0) (hn : 10 ^ 400 ≤ n) (x1 x3 : Bool) (x5 : List PV) (k0 : Bool → List PV → List PV → Bool → Option R) :
    p57_c10 n x1 (bs (dec w)) x3 (NN z) x5 k0 = k0 x3 (NN z) (NN w) (Nat.gcd w z == 1) := by
  have hN := Nat.le_trans (by decide +kernel : 2 ^ 20 ≤ 10 ^ 400) hn
  have m1 := lim_len hz
  have m2 := lim_len hw
  have lw := dec_lim hw
  have q2 := fun k0 => parse_eq (R := R) n (dec w) (dec_isD _) (by omega) (by omega) k0
  rw [ofD_dec] at q2
  have hg := fun k0 => gcd_eq (R := R) n z w (by omega) (by omega) (by omega) (by omega) (by omega) k0
  obtain ⟨g, hge⟩ : ∃ g, Nat.gcd w z = g := ⟨_, rfl⟩
  have hg0 : g ≠ 0 := by rw [← hge]; intro e; exact hw0 (Nat.gcd_eq_zero_iff.1 e).1
  rw [hge] at hg ⊢
  have hgl : (toL 1000000000 g).length ≤ 45 := lenB_mono m2 (by rw [← hge]; exact Nat.le_of_dvd (by omega) (Nat.gcd_dvd_left _ _))
  unfold p57_c10
  clear hz hw hn
  simp only [q2, hg, NN_len]
  by_cases c : (toL 1000000000 g).length = 1
  · have hg1 : g < 1000000000 := by
      have := (toL_len hB2 g 1).1 (by omega)
      rwa [Nat.pow_one] at this
    have hgi : ∀ (K : Int → Option R), getI .u32 ((NN g).getD (0 : Int).toNat (PV.v (Value.bool false))) K = K (g : Int) := fun K => by rw [NN_small hg0 hg1]; rfl
    have e1 : (((toL 1000000000 g).length : Int) == 1) = true := by rw [c]; rfl
    have e2 : ((g : Int) == 1) = (g == 1) := beqInt_nat g 1
    simp (disch := (first | omega | (simp only [List.length_append, List.length_cons, List.length_nil, List.length_replicate, List.length_take, List.length_drop]; omega))) only [↓c_pos, ↓c_neg, dec_t, dec_f, Bool.and_true, Bool.true_and, Bool.and_false, Bool.false_and, Bool.not_true, Bool.not_false, cond_true, cond_false, inR_t, cutR_t, roomB_t, lenOK_t, w64, bs_size, List.length_append, List.length_cons, List.length_nil, bs_extract, bs_append, bs_push, bs_data, bs_empty, bs_lit, catS_bs, eqS_bs, ite_pos', ite_neg', decide_true, decide_false, if_true, if_false, toNatC, getI_nl, nl_len, nl_set, nl_set0, nl_take, nl_drop, nl_rep, nl_app, hdSz_nl, drop0, wu32, wu64, wu8, List.length_set, List.length_replicate, e1, hgi, e2]
  · have e1 : (((toL 1000000000 g).length : Int) == 1) = false := by
      simp only [beq_eq_false_iff_ne, ne_eq]; omega
    have e2 : (g == 1) = false := by
      simp only [beq_eq_false_iff_ne, ne_eq]
      intro e
      rw [e, toL_one hB2 (by omega) (by omega)] at c
      exact c rfl
    rw [e2]
    simp (disch := (first | omega | (simp only [List.length_append, List.length_cons, List.length_nil, List.length_replicate, List.length_take, List.length_drop]; omega))) only [↓c_pos, ↓c_neg, dec_t, dec_f, Bool.and_true, Bool.true_and, Bool.and_false, Bool.false_and, Bool.not_true, Bool.not_false, cond_true, cond_false, inR_t, cutR_t, roomB_t, lenOK_t, w64, bs_size, List.length_append, List.length_cons, List.length_nil, bs_extract, bs_append, bs_push, bs_data, bs_empty, bs_lit, catS_bs, eqS_bs, ite_pos', ite_neg', decide_true, decide_false, if_true, if_false, toNatC, getI_nl, nl_len, nl_set, nl_set0, nl_take, nl_drop, nl_rep, nl_app, hdSz_nl, drop0, wu32, wu64, wu8, List.length_set, List.length_replicate, e1]
theorem coprime_num (q : Rat) : Nat.gcd q.den q.num.natAbs = 1 := by rw [Nat.gcd_comm]; exact q.reduced
theorem eqS48 {s : List UInt8} : eqS (bs s) (⟨#[48]⟩ : ByteArray) = (s == [48]) := rfl
theorem eqS49 {s : List UInt8} : eqS (bs s) (⟨#[49]⟩ : ByteArray) = (s == [49]) := rfl
theorem isQ_div (z : Int) (w : Nat) (hz : z.natAbs < 10 ^ 400) (hw : w < 10 ^ 400) (h0 : w ≠ 0) (hc : Nat.gcd w z.natAbs = 1) : ∃ q : Rat, fits q ∧ q.num = z ∧ q.den = w :=
  ⟨⟨z, w, h0, by rw [Nat.gcd_comm] at hc; exact hc⟩, ⟨hz, hw⟩, rfl, rfl⟩
theorem read_ok (n : Nat) (hn : 10 ^ 400 ≤ n) (q : Rat) (hq : fits q) (k0 : Bool → List PV → List PV → Bool → Option R) :
    p57 n (bs (rtxt q)) k0 = k0 (sg q.num) (NN q.num.natAbs) (NN q.den) true := by
  have hN := Nat.le_trans (by decide +kernel : 2 ^ 20 ≤ 10 ^ 400) hn
  have hl := rtxt_len hq
  obtain ⟨a1, a2, a3⟩ := rtxt_parts q
  have c1 := fun k0 => cut_eq (R := R) n (rtxt q) (by omega) k0
  have li := itoa_len hq.1
  have i1 := fun k0 => integer_eq (R := R) n (Lib.itoa q.num) (by omega) k0
  rw [cutN_itoa, intB_itoa hq.1] at i1
  have ln := dec_lim hq.1
  have q1 := fun k0 => parse_eq (R := R) n (dec q.num.natAbs) (dec_isD _) (by omega) (by omega) k0
  rw [ofD_dec] at q1
  unfold p57
  by_cases hd : q.den = 1
  · have e1 : rtxt q = Lib.itoa q.num := by unfold rtxt; rw [if_pos hd, List.append_nil]
    simp only [if_neg (fun h => a2.1 h hd)] at c1
    rw [e1] at c1 ⊢
    simp only [c1, i1, q1, Bool.not_true, Bool.not_false, condT, condF]
    rw [hd, NN_one]
  · simp only [if_pos (a2.2 hd), a1, a3 hd] at c1
    have d1 := fun k0 => digits_eq (R := R) n (dec q.den) (by have := dec_lim hq.2; omega) k0
    rw [digs_dec hq.2] at d1
    have g1 := fun x1 x3 x5 k0 => gcd1_eq (R := R) n q.num.natAbs q.den hq.1 hq.2 q.den_nz hn x1 x3 x5 k0
    rw [coprime_num] at g1
    have e48 : (dec q.den == [48]) = false := by
      simp only [beq_eq_false_iff_ne, ne_eq]
      intro e; exact q.den_nz (dec_inj (e.trans dec_zero.symm))
    have e49 : (dec q.den == [49]) = false := by
      simp only [beq_eq_false_iff_ne, ne_eq]
      intro e; exact hd (dec_inj (e.trans dec_one.symm))
    simp only [c1, i1, q1, d1, eqS48, eqS49, e48, e49, g1, Bool.not_true, Bool.not_false, condT, condF, show ((1 : Nat) == 1) = true from rfl]
theorem read_or (n : Nat) (hn : 10 ^ 400 ≤ n) (s : List UInt8) (hs : s.length < 2 ^ 20) :
    isQ s ∨ ∃ a b c, ∀ k0 : Bool → List PV → List PV → Bool → Option R, p57 n (bs s) k0 = k0 a b c false := by
  have hN := Nat.le_trans (by decide +kernel : 2 ^ 20 ≤ 10 ^ 400) hn
  have c1 := fun k0 => cut_eq (R := R) n s (by omega) k0
  by_cases hsl : idx s < s.length
  · simp only [if_pos hsl] at c1
    have hspl := idx_slash hsl
    have lt : (s.take (idx s)).length < 2 ^ 20 := by rw [List.length_take]; omega
    have lb : (s.drop (idx s + 1)).length < 2 ^ 20 := by rw [List.length_drop]; omega
    generalize s.take (idx s) = t at *
    generalize s.drop (idx s + 1) = b at *
    have i1 := fun k0 => integer_eq (R := R) n t (by omega) k0
    have d1 := fun k0 => digits_eq (R := R) n b (by omega) k0
    cases hI : intB t with
    | false =>
      rw [hI] at i1
      exact Or.inr ⟨false, [], [], fun k0 => by unfold p57; simp only [c1, i1, Bool.not_false, condT]⟩
    | true =>
      rw [hI] at i1
      obtain ⟨z, hz, rfl⟩ := intB_out hI
      rw [cutN_itoa] at i1
      have ln := dec_lim hz
      have q1 := fun k0 => parse_eq (R := R) n (dec z.natAbs) (dec_isD _) (by omega) (by omega) k0
      rw [ofD_dec] at q1
      cases hD : digs b with
      | false =>
        rw [hD] at d1
        exact Or.inr ⟨false, [], [], fun k0 => by unfold p57; simp only [c1, i1, q1, d1, Bool.not_true, Bool.not_false, condT, condF]⟩
      | true =>
        rw [hD] at d1
        obtain ⟨hw, hb⟩ := digs_out hD
        by_cases h48 : b = [48]
        · have e48 : (b == [48]) = true := by simpa using h48
          exact Or.inr ⟨false, [], [], fun k0 => by unfold p57; simp only [c1, i1, q1, d1, eqS48, e48, Bool.not_true, Bool.not_false, condT, condF]⟩
        have e48 : (b == [48]) = false := by simpa using h48
        by_cases h49 : b = [49]
        · have e49 : (b == [49]) = true := by simpa using h49
          exact Or.inr ⟨false, [], [], fun k0 => by unfold p57; simp only [c1, i1, q1, d1, eqS48, eqS49, e48, e49, Bool.not_true, Bool.not_false, condT, condF]⟩
        have e49 : (b == [49]) = false := by simpa using h49
        have hw0 : ofD b ≠ 0 := fun e => h48 (by rw [hb, e, dec_zero])
        have hw1 : ofD b ≠ 1 := fun e => h49 (by rw [hb, e, dec_one])
        have g1 := fun x1 x3 x5 k0 => gcd1_eq (R := R) n z.natAbs (ofD b) hz hw hw0 hn x1 x3 x5 k0
        rw [← hb] at g1
        by_cases hg : Nat.gcd (ofD b) z.natAbs = 1
        · obtain ⟨q, f1, f2, f3⟩ := isQ_div z (ofD b) hz hw hw0 hg
          refine Or.inl ⟨q, f1, ?_⟩
          unfold rtxt
          rw [f2, f3, if_neg hw1, ← hb]
          exact hspl
        · rw [show (Nat.gcd (ofD b) z.natAbs == 1) = false from by simpa using hg] at g1
          exact Or.inr ⟨decide (z < 0), NN z.natAbs, NN (ofD b), fun k0 => by unfold p57; simp only [c1, i1, q1, d1, eqS48, eqS49, e48, e49, g1, Bool.not_true, Bool.not_false, condT, condF]⟩
  · simp only [if_neg hsl] at c1
    have i1 := fun k0 => integer_eq (R := R) n s (by omega) k0
    cases hI : intB s with
    | false =>
      rw [hI] at i1
      exact Or.inr ⟨false, [], [], fun k0 => by unfold p57; simp only [c1, i1, Bool.not_false, condT]⟩
    | true =>
      obtain ⟨z, hz, rfl⟩ := intB_out hI
      obtain ⟨q, f1, f2, f3⟩ := isQ_div z 1 hz (by decide +kernel) (by omega) (Nat.gcd_one_left _)
      refine Or.inl ⟨q, f1, ?_⟩
      unfold rtxt
      rw [f2, f3, if_pos rfl, List.append_nil]
theorem read_bad (n : Nat) (hn : 10 ^ 400 ≤ n) (s : List UInt8) (hs : s.length < 2 ^ 20) (h : ¬ isQ s) : ∃ a b c, ∀ k0 : Bool → List PV → List PV → Bool → Option R, p57 n (bs s) k0 = k0 a b c false :=
  (read_or n hn s hs).resolve_left h
theorem itoa_rtxt (v : Int) : Lib.itoa v = rtxt (v : Rat) := by
  unfold rtxt
  rw [Rat.num_intCast, Rat.den_intCast, if_pos rfl, List.append_nil]
theorem fits_int {v : Int} (h : v.natAbs < 10 ^ 400) : fits (v : Rat) := by
  unfold fits
  rw [Rat.num_intCast, Rat.den_intCast]
  exact ⟨h, by decide +kernel⟩
theorem ValidR_eq (n : Nat) (hn : 10 ^ 400 ≤ n) (s : List UInt8) (hs : s.length < 2 ^ 20) (k0 : Bool → Option R) [Decidable (isQ s)] : p19 n (bs s) k0 = k0 (decide (isQ s)) := by
  have hN := Nat.le_trans (by decide +kernel : 2 ^ 20 ≤ 10 ^ 400) hn
  unfold p19
  by_cases hv : ∃ v : Int, v.natAbs < 10 ^ 9 ∧ s = Lib.itoa v
  · obtain ⟨v, h1, rfl⟩ := hv
    have hq : isQ (Lib.itoa v) := ⟨(v : Rat), fits_int (Nat.lt_trans h1 (by decide +kernel)), itoa_rtxt v⟩
    rw [quick_ok n (by omega) v h1, decide_eq_true hq]; rfl
  · rw [quick_bad n (by omega) s (by omega) hv, condF]
    by_cases hq : isQ s
    · obtain ⟨q, h1, rfl⟩ := hq
      rw [read_ok n hn q h1, decide_eq_true ⟨q, h1, rfl⟩]
    · obtain ⟨a, b, c, h⟩ := read_bad (R := R) n hn s hs hq
      rw [h, decide_eq_false hq]
end Go.Proofs.YtfbahcfojiaeaaaGreatDoor


set_option linter.unusedVariables false
set_option maxRecDepth 100000
namespace Go.Proofs.YtfbahcfojiaeaaaGreatDoor
open Go Th Go.Proofs
def ann28 : Ann := { loops := [], cuts := [], frz := [], rm := [.id, .id] }
noncomputable abbrev env28 (n : Nat) : Env := fun i => bif Nat.beq i 64 then some (fs64 n) else (fun i => bif Nat.beq i 63 then some (fs63 n) else (fun i => bif Nat.beq i 62 then some (fs62 n) else (fun _ => none) i) i) i
theorem envok28 (n : Nat) : EnvOK Tryz.prog GI (env28 n) := EnvOK.cons (EnvOK.cons (EnvOK.cons (EnvOK.nil) (ok62 n)) (ok63 n)) (ok64 n)
noncomputable def p28 {R : Type} (n : Nat) (x1 x2 : ByteArray) (k0 : ByteArray → Int → Option R) : Option R :=
  p62 n x1 x2 (fun y3 y4 y5 => bif y5 then (bif (i64R (IntKind.i64.wrap (y3 - y4))) then (k0 (itoaB (IntKind.i64.wrap (y3 - y4))) 0) else none) else (p64v2 n x1 x2 (fun y6 y7 => k0 y6 y7)))
noncomputable abbrev lo28 {R : Type} (n : Nat) : Orc R := fun i vs K => none
noncomputable abbrev cu28 {R : Type} (n : Nat) : Orc R := fun i vs K => none
section
variable {R : Type}
abbrev K28 (R : Type) (n : Nat) := PartOK (R := R) Tryz.prog (env28 n) ann28 n (26, []) (lo28 n) (cu28 n)
theorem pa28 (n : Nat) : allP (K28 R n) (partsOf ann28 (bodyOf Tryz.f28)) := by
  rw [show partsOf ann28 (bodyOf Tryz.f28) = [] from by kernel_rfl]; exact trivial
end
abbrev t28 : Sl (List SV) := (.c (sP sStr) (.c (sP sStr) .n))
noncomputable abbrev f28 (n : Nat) {R : Type} (K : List SV → Option R) : t28.T (Option R) := fun x1 x2 => p28 n x1 x2 (fun y1 y2 => K [.p (.v (.string y1)), .p (.v (.int .i64 y2))])
theorem ep28 {R : Type} (n : Nat) (K : List SV → Option R) (x1 x2 : ByteArray) : evFn Tryz.prog (env28 n) ann28 n Tryz.f28 [.p (.v (.string x1)), .p (.v (.string x2))] K = f28 n K x1 x2 := by
  rw [evFn_evOi (c := bodyOf Tryz.f28) (by kernel_rfl) (pa28 n)]; kernel_rfl
noncomputable abbrev fs28 (n : Nat) : FS := { om := [false, false], run := fun args K => oget (t28.ap args (f28 n K)) none }
theorem ok28 (n : Nat) : FSound Tryz.prog GI 28 (fs28 n) :=
  FSound.good (envok28 n) (ann := ann28) (n := n) Tryz.func28
    (.cons (envok28 n) t28 (f28 n) (fun K x1 x2 => ep28 n K x1 x2) .nil)
    (by kernel_rfl) (by kernel_rfl) (by kernel_rfl)
end Go.Proofs.YtfbahcfojiaeaaaGreatDoor


set_option linter.unusedVariables false
set_option maxRecDepth 100000
namespace Go.Proofs.YtfbahcfojiaeaaaGreatDoor
open Go Th Go.Proofs
def ann29 : Ann := { loops := [], cuts := [], frz := [], rm := [.id, .id] }
noncomputable abbrev env29 (n : Nat) : Env := fun i => bif Nat.beq i 64 then some (fs64 n) else (fun i => bif Nat.beq i 63 then some (fs63 n) else (fun i => bif Nat.beq i 62 then some (fs62 n) else (fun _ => none) i) i) i
theorem envok29 (n : Nat) : EnvOK Tryz.prog GI (env29 n) := EnvOK.cons (EnvOK.cons (EnvOK.cons (EnvOK.nil) (ok62 n)) (ok63 n)) (ok64 n)
noncomputable def p29 {R : Type} (n : Nat) (x1 x2 : ByteArray) (k0 : ByteArray → Int → Option R) : Option R :=
  p62 n x1 x2 (fun y3 y4 y5 => bif y5 then (bif (i64R (IntKind.i64.wrap (y3 * y4))) then (k0 (itoaB (IntKind.i64.wrap (y3 * y4))) 0) else none) else (p64v3 n x1 x2 (fun y6 y7 => k0 y6 y7)))
noncomputable abbrev lo29 {R : Type} (n : Nat) : Orc R := fun i vs K => none
noncomputable abbrev cu29 {R : Type} (n : Nat) : Orc R := fun i vs K => none
section
variable {R : Type}
abbrev K29 (R : Type) (n : Nat) := PartOK (R := R) Tryz.prog (env29 n) ann29 n (26, []) (lo29 n) (cu29 n)
theorem pa29 (n : Nat) : allP (K29 R n) (partsOf ann29 (bodyOf Tryz.f29)) := by
  rw [show partsOf ann29 (bodyOf Tryz.f29) = [] from by kernel_rfl]; exact trivial
end
abbrev t29 : Sl (List SV) := (.c (sP sStr) (.c (sP sStr) .n))
noncomputable abbrev f29 (n : Nat) {R : Type} (K : List SV → Option R) : t29.T (Option R) := fun x1 x2 => p29 n x1 x2 (fun y1 y2 => K [.p (.v (.string y1)), .p (.v (.int .i64 y2))])
theorem ep29 {R : Type} (n : Nat) (K : List SV → Option R) (x1 x2 : ByteArray) : evFn Tryz.prog (env29 n) ann29 n Tryz.f29 [.p (.v (.string x1)), .p (.v (.string x2))] K = f29 n K x1 x2 := by
  rw [evFn_evOi (c := bodyOf Tryz.f29) (by kernel_rfl) (pa29 n)]; kernel_rfl
noncomputable abbrev fs29 (n : Nat) : FS := { om := [false, false], run := fun args K => oget (t29.ap args (f29 n K)) none }
theorem ok29 (n : Nat) : FSound Tryz.prog GI 29 (fs29 n) :=
  FSound.good (envok29 n) (ann := ann29) (n := n) Tryz.func29
    (.cons (envok29 n) t29 (f29 n) (fun K x1 x2 => ep29 n K x1 x2) .nil)
    (by kernel_rfl) (by kernel_rfl) (by kernel_rfl)
end Go.Proofs.YtfbahcfojiaeaaaGreatDoor


set_option linter.unusedVariables false
set_option maxRecDepth 100000
namespace Go.Proofs.YtfbahcfojiaeaaaGreatDoor
open Go Th Go.Proofs
section
variable {R : Type}
end
end Go.Proofs.YtfbahcfojiaeaaaGreatDoor


set_option linter.unusedVariables false
set_option maxRecDepth 100000
namespace Go.Proofs.YtfbahcfojiaeaaaGreatDoor
open Go Th Go.Proofs
section
variable {R : Type}
end
end Go.Proofs.YtfbahcfojiaeaaaGreatDoor


set_option linter.unusedVariables false
set_option linter.unusedSimpArgs false
namespace Go.Proofs.YtfbahcfojiaeaaaGreatDoor
open Go Th Go.Proofs
variable {R : Type}
def resK (q : Rat) (k0 : ByteArray → Int → Option R) : Option R := if fits q then k0 (bs (rtxt q)) 0 else k0 (bs []) 5
theorem tl_mul {a b i j : Nat} (ha : (toL 1000000000 a).length ≤ i) (hb : (toL 1000000000 b).length ≤ j) : (toL 1000000000 (a * b)).length ≤ i + j := by
  rw [toL_len hB2] at *
  rw [Nat.pow_add]
  exact Nat.mul_lt_mul_of_lt_of_lt ha hb
theorem tl_add {a b i : Nat} (ha : (toL 1000000000 a).length ≤ i) (hb : (toL 1000000000 b).length ≤ i) : (toL 1000000000 (a + b)).length ≤ i + 1 := by
  rw [toL_len hB2] at *
  rw [Nat.pow_succ]; omega
theorem tl_mono {a b i : Nat} (h : a ≤ b) (hb : (toL 1000000000 b).length ≤ i) : (toL 1000000000 a).length ≤ i := lenB_mono hb h
theorem lt_mulP {a b i j : Nat} (ha : a < 10 ^ i) (hb : b < 10 ^ j) : a * b < 10 ^ (i + j) := by
  rw [Nat.pow_add]; exact Nat.mul_lt_mul_of_lt_of_lt ha hb
theorem lt_mul400 {a b : Nat} (ha : a < 10 ^ 400) (hb : b < 10 ^ 400) : a * b < 10 ^ 800 := by
  have h := lt_mulP ha hb
  have e : 400 + 400 = 800 := rfl
  rw [e] at h; exact h
theorem sum_eq (n : Nat) (hn : 2 ^ 20 ≤ n) (neg neg2 : Bool) (a b c d : Nat) (ha : (toL 1000000000 a).length ≤ 100) (hb : (toL 1000000000 b).length ≤ 100) (hc : (toL 1000000000 c).length ≤ 100) (hd : (toL 1000000000 d).length ≤ 100) :
    ∃ (ng : Bool) (e : Nat), (∀ k0 : Bool → List PV → List PV → Option R, p66 n neg (NN a) (NN b) neg2 (NN c) (NN d) k0 = k0 ng (NN e) (NN (b * d))) ∧ zs ng e = zs neg a * d + zs neg2 c * b ∧ (toL 1000000000 e).length ≤ 201 := by
  have l1 := tl_mul ha hd
  have l2 := tl_mul hc hb
  have m1 := fun k0 => times_eq (R := R) n a d (by omega) (by omega) (by omega) k0
  have m2 := fun k0 => times_eq (R := R) n c b (by omega) (by omega) (by omega) k0
  have m3 := fun k0 => times_eq (R := R) n b d (by omega) (by omega) (by omega) k0
  have z1 : zs neg a * (d : Int) = zs neg (a * d) := by cases neg <;> simp [zs, Int.neg_mul]
  have z2 : zs neg2 c * (b : Int) = zs neg2 (c * b) := by cases neg2 <;> simp [zs, Int.neg_mul]
  rw [z1, z2]
  by_cases hs : neg = neg2
  · subst hs
    have p1 := fun k0 => plus_eq (R := R) n (a * d) (c * b) (by omega) (by omega) (by omega) (by omega) k0
    refine ⟨neg, a * d + c * b, fun k0 => ?_, ?_, tl_add l1 l2⟩
    · unfold p66
      have e : (neg == neg) = true := by simp
      simp only [m1, m2, m3, e, condT, p1]
    · generalize a * d = x
      generalize c * b = y
      cases neg
      · simp only [zs, Bool.false_eq_true, if_false]; omega
      · simp only [zs, if_true]; omega
  · have e : (neg == neg2) = false := by simpa using hs
    have hneg : neg2 = !neg := by cases neg <;> cases neg2 <;> simp_all
    have c1 := fun k0 => cmp_eq (R := R) n (a * d) (c * b) (by omega) (by omega) (by omega) k0
    by_cases hlt : a * d < c * b
    · have p1 := fun k0 => minus_eq (R := R) n (c * b) (a * d) (by omega) (by omega) (by omega) k0
      have e2 : decide (cmpN (a * d) (c * b) < 0) = true := by rw [show cmpN (a * d) (c * b) = -1 from by unfold cmpN; rw [if_pos hlt]]; rfl
      refine ⟨neg2, c * b - a * d, fun k0 => ?_, ?_, tl_mono (Nat.sub_le _ _) (Nat.le_trans l2 (by omega))⟩
      · unfold p66
        simp only [m1, m2, m3, e, condF, c1, e2, condT, p1]
      · rw [hneg]
        generalize a * d = x at *
        generalize c * b = y at *
        cases neg
        · simp only [zs, Bool.not_false, if_true, Bool.false_eq_true, if_false]; omega
        · simp only [zs, Bool.not_true, if_true, Bool.false_eq_true, if_false]; omega
    · have p1 := fun k0 => minus_eq (R := R) n (a * d) (c * b) (by omega) (by omega) (by omega) k0
      have e2 : decide (cmpN (a * d) (c * b) < 0) = false := by
        apply decide_eq_false
        unfold cmpN; rw [if_neg hlt]; split <;> omega
      refine ⟨neg, a * d - c * b, fun k0 => ?_, ?_, tl_mono (Nat.sub_le _ _) (Nat.le_trans l1 (by omega))⟩
      · unfold p66
        simp only [m1, m2, m3, e, condF, c1, e2, p1]
      · rw [hneg]
        generalize a * d = x at *
        generalize c * b = y at *
        cases neg
        · simp only [zs, Bool.not_false, if_true, Bool.false_eq_true, if_false]; omega
        · simp only [zs, Bool.not_true, if_true, Bool.false_eq_true, if_false]; omega
theorem opp_eq (n : Nat) (neg : Bool) (a : Nat) (x3 : List PV) (k0 : Bool → List PV → List PV → Option R) : p68 n neg (NN a) x3 k0 = k0 (!neg && !(a == 0)) (NN a) x3 := by
  unfold p68
  have e : decide (((NN a).length : Int) > 0) = !(a == 0) := by
    rw [NN_len, Bool.eq_iff_iff]
    simp only [decide_eq_true_eq, Bool.not_eq_true', beq_eq_false_iff_ne, ne_eq]
    constructor
    · intro h h0; rw [h0, toL_zero] at h; simp at h
    · intro h
      have := (toL_top hB2 h).1
      omega
  cases neg
  · simp only [e, Bool.not_false, condT, Bool.true_and]
  · rfl
theorem zs_opp (neg : Bool) (a : Nat) : zs (!neg && !(a == 0)) a = - zs neg a := by
  by_cases h : a = 0
  · subst h; rw [zs_zero, zs_zero]; rfl
  · have e : (a == 0) = false := by simpa using h
    rw [e]; cases neg <;> simp [zs]
theorem mk_add (p q : Rat) : mkRat (p.num * q.den + q.num * p.den) (p.den * q.den) = p + q := by
  rw [← Rat.mkRat_add_mkRat _ _ p.den_nz q.den_nz, Rat.mkRat_self, Rat.mkRat_self]
theorem mk_mul (p q : Rat) : mkRat (p.num * q.num) (p.den * q.den) = p * q := by
  rw [← Rat.mkRat_mul_mkRat, Rat.mkRat_self, Rat.mkRat_self]
theorem n20 {n : Nat} (hn : 10 ^ 1000 ≤ n) : 2 ^ 20 < n := Nat.lt_of_lt_of_le (by decide +kernel) hn
theorem n400 {n : Nat} (hn : 10 ^ 1000 ≤ n) : 10 ^ 400 ≤ n := Nat.le_trans (by decide +kernel) hn
theorem n800 {n a b : Nat} (hn : 10 ^ 1000 ≤ n) (ha : a < 10 ^ 400) (hb : b < 10 ^ 400) : a * b < n := Nat.lt_of_lt_of_le (lt_mul400 ha hb) (Nat.le_trans (by decide +kernel) hn)
theorem textOf (n : Nat) (hn : 10 ^ 1000 ≤ n) (ng : Bool) (e f : Nat) (hf : f ≠ 0) (he : (toL 1000000000 e).length ≤ 300) (hfl : (toL 1000000000 f).length ≤ 300) (hfn : f < n) (q : Rat) (hq : mkRat (zs ng e) f = q) (k0 : ByteArray → Int → Option R) : p46 n ng (NN e) (NN f) k0 = resK q k0 := by
  have h20 := n20 hn
  rw [ratText_eq n ng e f hf (by omega) (by omega) h20 hfn, hq]; rfl
theorem twoAdd_ok (n : Nat) (hn : 10 ^ 1000 ≤ n) (p q : Rat) (hp : fits p) (hq : fits q) (k0 : ByteArray → Int → Option R) : p64 n (bs (rtxt p)) (bs (rtxt q)) k0 = resK (p + q) k0 := by
  have h20 := n20 hn
  have r1 := fun k0 => read_ok (R := R) n (n400 hn) p hp k0
  have r2 := fun k0 => read_ok (R := R) n (n400 hn) q hq k0
  have m1 := lim_len hp.1
  have m2 := lim_len hp.2
  have m3 := lim_len hq.1
  have m4 := lim_len hq.2
  obtain ⟨ng, e, s1, s2, s3⟩ := sum_eq (R := R) n (by omega) (sg p.num) (sg q.num) p.num.natAbs p.den q.num.natAbs q.den (by omega) (by omega) (by omega) (by omega)
  rw [show zs (sg p.num) p.num.natAbs = p.num from zs_self _, show zs (sg q.num) q.num.natAbs = q.num from zs_self _] at s2
  have t := fun k0 => textOf (R := R) n hn ng e (p.den * q.den) (Nat.mul_ne_zero p.den_nz q.den_nz) (by omega) (Nat.le_trans (tl_mul m2 m4) (by omega)) (n800 hn hp.2 hq.2) (p + q) (by rw [s2, mk_add]) k0
  have e0 : ((0 : Int) != 0) = false := rfl
  simp only [p64, p64_c5, p65, r1, r2, s1, t, e0, Bool.not_true, condF]
theorem twoSub_ok (n : Nat) (hn : 10 ^ 1000 ≤ n) (p q : Rat) (hp : fits p) (hq : fits q) (k0 : ByteArray → Int → Option R) : p64v2 n (bs (rtxt p)) (bs (rtxt q)) k0 = resK (p - q) k0 := by
  have h20 := n20 hn
  have r1 := fun k0 => read_ok (R := R) n (n400 hn) p hp k0
  have r2 := fun k0 => read_ok (R := R) n (n400 hn) q hq k0
  have m1 := lim_len hp.1
  have m2 := lim_len hp.2
  have m3 := lim_len hq.1
  have m4 := lim_len hq.2
  have o1 := fun k0 => opp_eq (R := R) n (sg q.num) q.num.natAbs (NN q.den) k0
  obtain ⟨ng, e, s1, s2, s3⟩ := sum_eq (R := R) n (by omega) (sg p.num) (!(sg q.num) && !(q.num.natAbs == 0)) p.num.natAbs p.den q.num.natAbs q.den (by omega) (by omega) (by omega) (by omega)
  rw [zs_opp, show zs (sg p.num) p.num.natAbs = p.num from zs_self _, show zs (sg q.num) q.num.natAbs = q.num from zs_self _] at s2
  have hpq : mkRat (zs ng e) (p.den * q.den) = p - q := by
    have := mk_add p (-q)
    rw [Rat.neg_num, Rat.neg_den] at this
    rw [s2, this, Rat.sub_eq_add_neg]
  have t := fun k0 => textOf (R := R) n hn ng e (p.den * q.den) (Nat.mul_ne_zero p.den_nz q.den_nz) (by omega) (Nat.le_trans (tl_mul m2 m4) (by omega)) (n800 hn hp.2 hq.2) (p - q) hpq k0
  have e0 : ((0 : Int) != 0) = false := rfl
  simp only [p64v2, p64_c5v2, p67, r1, r2, o1, s1, t, e0, Bool.not_true, condF]
theorem zs_mul (x y : Int) : zs (!(sg x == sg y)) (x.natAbs * y.natAbs) = x * y := by
  have hx := zs_self x
  have hy := zs_self y
  generalize hsx : decide (x < 0) = sx at *
  generalize hsy : decide (y < 0) = sy at *
  have e1 : sg x = sx := hsx
  have e2 : sg y = sy := hsy
  rw [e1, e2]
  conv => rhs; rw [← hx, ← hy]
  generalize x.natAbs = a
  generalize y.natAbs = b
  cases sx <;> cases sy <;> simp [zs, Int.neg_mul, Int.mul_neg]
theorem twoMul_ok (n : Nat) (hn : 10 ^ 1000 ≤ n) (p q : Rat) (hp : fits p) (hq : fits q) (k0 : ByteArray → Int → Option R) : p64v3 n (bs (rtxt p)) (bs (rtxt q)) k0 = resK (p * q) k0 := by
  have h20 := n20 hn
  have r1 := fun k0 => read_ok (R := R) n (n400 hn) p hp k0
  have r2 := fun k0 => read_ok (R := R) n (n400 hn) q hq k0
  have m1 := lim_len hp.1
  have m2 := lim_len hp.2
  have m3 := lim_len hq.1
  have m4 := lim_len hq.2
  have s1 := fun k0 => times_eq (R := R) n p.num.natAbs q.num.natAbs (by omega) (by omega) (by omega) k0
  have s2 := fun k0 => times_eq (R := R) n p.den q.den (by omega) (by omega) (by omega) k0
  have t := fun k0 => textOf (R := R) n hn (!(sg p.num == sg q.num)) (p.num.natAbs * q.num.natAbs) (p.den * q.den) (Nat.mul_ne_zero p.den_nz q.den_nz) (Nat.le_trans (tl_mul m1 m3) (by omega)) (Nat.le_trans (tl_mul m2 m4) (by omega)) (n800 hn hp.2 hq.2) (p * q) (by rw [zs_mul, mk_mul]) k0
  have e0 : ((0 : Int) != 0) = false := rfl
  simp only [p64v3, p64_c5v3, p69, r1, r2, s1, s2, t, e0, Bool.not_true, condF]
theorem mk_div (p q : Rat) (hq : q ≠ 0) : mkRat (zs (!(sg p.num == sg q.num)) (p.num.natAbs * q.den)) (p.den * q.num.natAbs) = p / q := by
  have hn : q.num ≠ 0 := fun h => hq (Rat.num_eq_zero.1 h)
  rw [Rat.div_def]
  conv => rhs; rw [← Rat.num_divInt_den p, ← Rat.num_divInt_den q, Rat.inv_divInt, Rat.divInt_mul_divInt, divInt_mk]
  have hd := q.den_nz
  have hpd := p.den_nz
  have e1 : (p.num * (q.den : Int)).natAbs = p.num.natAbs * q.den := by rw [Int.natAbs_mul, Int.natAbs_natCast]
  have e2 : ((p.den : Int) * q.num).natAbs = p.den * q.num.natAbs := by rw [Int.natAbs_mul, Int.natAbs_natCast]
  have e3 : decide (p.num * (q.den : Int) < 0) = sg p.num := by
    rw [Bool.eq_iff_iff]
    simp only [sg, decide_eq_true_eq]
    constructor
    · intro h
      apply Int.not_le.1
      intro h2
      have := Int.mul_nonneg h2 (by omega : 0 ≤ (q.den : Int))
      omega
    · intro h; exact Int.mul_neg_of_neg_of_pos h (by omega)
  have e4 : decide ((p.den : Int) * q.num < 0) = sg q.num := by
    rw [Bool.eq_iff_iff]
    simp only [sg, decide_eq_true_eq]
    constructor
    · intro h
      apply Int.not_le.1
      intro h2
      have := Int.mul_nonneg (by omega : 0 ≤ (p.den : Int)) h2
      omega
    · intro h; exact Int.mul_neg_of_pos_of_neg (by omega) h
  rw [e1, e2, e3, e4]
theorem Div_ok (n : Nat) (hn : 10 ^ 1000 ≤ n) (p q : Rat) (hp : fits p) (hq : fits q) (k0 : ByteArray → Int → Option R) : p30 n (bs (rtxt p)) (bs (rtxt q)) k0 = if q = 0 then k0 (bs []) 24 else resK (p / q) k0 := by
  have h20 := n20 hn
  have r1 := fun k0 => read_ok (R := R) n (n400 hn) p hp k0
  have r2 := fun k0 => read_ok (R := R) n (n400 hn) q hq k0
  have m1 := lim_len hp.1
  have m2 := lim_len hp.2
  have m3 := lim_len hq.1
  have m4 := lim_len hq.2
  by_cases h0 : q = 0
  · have hz : (NN q.num.natAbs).length = 0 := by rw [h0, show (0 : Rat).num.natAbs = 0 from rfl, NN_zero]; rfl
    have e1 : (((NN q.num.natAbs).length : Int) == 0) = true := by rw [hz]; rfl
    have e0 : ((24 : Int) != 0) = true := rfl
    rw [if_pos h0]
    simp only [p30, p64v1, p64_c5v1, p71, r1, r2, e1, e0, Bool.not_true, condF, condT]
    rfl
  · have hn0 : q.num.natAbs ≠ 0 := fun h => h0 (Rat.num_eq_zero.1 (by omega))
    have e1 : (((NN q.num.natAbs).length : Int) == 0) = false := by
      have := (toL_top hB2 hn0).1
      rw [NN_len, beqInt0]; simp only [beq_eq_false_iff_ne, ne_eq]; omega
    have s1 := fun k0 => times_eq (R := R) n p.num.natAbs q.den (by omega) (by omega) (by omega) k0
    have s2 := fun k0 => times_eq (R := R) n p.den q.num.natAbs (by omega) (by omega) (by omega) k0
    have t := fun k0 => textOf (R := R) n hn (!(sg p.num == sg q.num)) (p.num.natAbs * q.den) (p.den * q.num.natAbs) (Nat.mul_ne_zero p.den_nz hn0) (Nat.le_trans (tl_mul m1 m4) (by omega)) (Nat.le_trans (tl_mul m2 m3) (by omega)) (n800 hn hp.2 hq.1) (p / q) (mk_div p q h0) k0
    have e0 : ((0 : Int) != 0) = false := rfl
    rw [if_neg h0]
    simp only [p30, p64v1, p64_c5v1, p71, r1, r2, e1, s1, s2, t, e0, Bool.not_true, condF]
end Go.Proofs.YtfbahcfojiaeaaaGreatDoor


set_option linter.unusedVariables false
set_option linter.unusedSimpArgs false
namespace Go.Proofs.YtfbahcfojiaeaaaGreatDoor
open Go Th Go.Proofs
variable {R : Type}
def smallT (s : List UInt8) : Prop := ∃ v : Int, v.natAbs < 10 ^ 9 ∧ s = Lib.itoa v
theorem quick_any (n : Nat) (hn : 20 ≤ n) (s : List UInt8) (hs : s.length < 2 ^ 40) : ∃ a d, (∀ k0 : Int → Bool → Option R, p56 n (bs s) k0 = k0 a d) ∧ (¬ smallT s → d = false) := by
  by_cases h : smallT s
  · obtain ⟨v, h1, rfl⟩ := h
    exact ⟨v, true, fun k0 => quick_ok n hn v h1 k0, fun h => absurd ⟨v, h1, rfl⟩ h⟩
  · exact ⟨0, false, fun k0 => quick_bad n hn s hs h k0, fun _ => rfl⟩
theorem both_ok (n : Nat) (hn : 20 ≤ n) (v w : Int) (hv : v.natAbs < 10 ^ 9) (hw : w.natAbs < 10 ^ 9) (k0 : Int → Int → Bool → Option R) : p62 n (bs (Lib.itoa v)) (bs (Lib.itoa w)) k0 = k0 v w true := by
  have q1 := fun k0 => quick_ok (R := R) n hn v hv k0
  have q2 := fun k0 => quick_ok (R := R) n hn w hw k0
  simp only [p62, q1, q2, condT]
theorem both_bad (n : Nat) (hn : 20 ≤ n) (s t : List UInt8) (hs : s.length < 2 ^ 40) (ht : t.length < 2 ^ 40) (h : ¬ (smallT s ∧ smallT t)) : ∃ a b, ∀ k0 : Int → Int → Bool → Option R, p62 n (bs s) (bs t) k0 = k0 a b false := by
  obtain ⟨a, d, q1, f1⟩ := quick_any (R := R) n hn s hs
  obtain ⟨b, e, q2, f2⟩ := quick_any (R := R) n hn t ht
  cases d with
  | false => exact ⟨a, b, fun k0 => by simp only [p62, q1, q2, condF]⟩
  | true =>
    have hS : smallT s := Classical.byContradiction fun h => by have := f1 h; cases this
    have hT : ¬ smallT t := fun hT => h ⟨hS, hT⟩
    have e0 := f2 hT
    subst e0
    exact ⟨a, b, fun k0 => by simp only [p62, q1, q2, condT]⟩
theorem itoaB_bs (x : Int) : itoaB x = bs (Lib.itoa x) := rfl
theorem resK_int (v : Int) (h : v.natAbs < 10 ^ 400) (k0 : ByteArray → Int → Option R) : resK (v : Rat) k0 = k0 (bs (Lib.itoa v)) 0 := by
  unfold resK
  rw [if_pos (fits_int h), itoa_rtxt]
theorem small_rat {p : Rat} (h : smallT (rtxt p)) : ∃ v : Int, v.natAbs < 10 ^ 9 ∧ p = (v : Rat) := by
  obtain ⟨v, h1, h2⟩ := h
  exact ⟨v, h1, rtxt_inj (h2.trans (itoa_rtxt v))⟩
theorem i64R_t {x : Int} (h1 : -9223372036854775808 ≤ x) (h2 : x < 9223372036854775808) : i64R x = true := by
  unfold i64R; simp; omega
theorem Add_ok (n : Nat) (hn : 10 ^ 1000 ≤ n) (p q : Rat) (hp : fits p) (hq : fits q) (k0 : ByteArray → Int → Option R) : p27 n (bs (rtxt p)) (bs (rtxt q)) k0 = resK (p + q) k0 := by
  have h20 := n20 hn
  have lp := rtxt_len hp
  have lq := rtxt_len hq
  by_cases hb : smallT (rtxt p) ∧ smallT (rtxt q)
  · obtain ⟨v, hv, rfl⟩ := small_rat hb.1
    obtain ⟨w, hw, rfl⟩ := small_rat hb.2
    have b1 := fun k0 => both_ok (R := R) n (by omega) v w hv hw k0
    rw [← Rat.intCast_add, resK_int _ (Nat.lt_of_le_of_lt (by omega : (v + w).natAbs ≤ 2000000000) (by decide +kernel)), ← itoa_rtxt, ← itoa_rtxt]
    have e1 : IntKind.i64.wrap (v + w) = v + w := w64 (by omega) (by omega)
    have e2 : i64R (v + w) = true := i64R_t (by omega) (by omega)
    simp only [p27, b1, condT, e1, e2, itoaB_bs]
  · obtain ⟨a, b, b1⟩ := both_bad (R := R) n (by omega) (rtxt p) (rtxt q) (by omega) (by omega) hb
    have t := fun k0 => twoAdd_ok (R := R) n hn p q hp hq k0
    simp only [p27, b1, condF, t]
theorem Sub_ok (n : Nat) (hn : 10 ^ 1000 ≤ n) (p q : Rat) (hp : fits p) (hq : fits q) (k0 : ByteArray → Int → Option R) : p28 n (bs (rtxt p)) (bs (rtxt q)) k0 = resK (p - q) k0 := by
  have h20 := n20 hn
  have lp := rtxt_len hp
  have lq := rtxt_len hq
  by_cases hb : smallT (rtxt p) ∧ smallT (rtxt q)
  · obtain ⟨v, hv, rfl⟩ := small_rat hb.1
    obtain ⟨w, hw, rfl⟩ := small_rat hb.2
    have b1 := fun k0 => both_ok (R := R) n (by omega) v w hv hw k0
    rw [← Rat.intCast_sub, resK_int _ (Nat.lt_of_le_of_lt (by omega : (v - w).natAbs ≤ 2000000000) (by decide +kernel)), ← itoa_rtxt, ← itoa_rtxt]
    have e1 : IntKind.i64.wrap (v - w) = v - w := w64 (by omega) (by omega)
    have e2 : i64R (v - w) = true := i64R_t (by omega) (by omega)
    simp only [p28, b1, condT, e1, e2, itoaB_bs]
  · obtain ⟨a, b, b1⟩ := both_bad (R := R) n (by omega) (rtxt p) (rtxt q) (by omega) (by omega) hb
    have t := fun k0 => twoSub_ok (R := R) n hn p q hp hq k0
    simp only [p28, b1, condF, t]
theorem Mul_ok (n : Nat) (hn : 10 ^ 1000 ≤ n) (p q : Rat) (hp : fits p) (hq : fits q) (k0 : ByteArray → Int → Option R) : p29 n (bs (rtxt p)) (bs (rtxt q)) k0 = resK (p * q) k0 := by
  have h20 := n20 hn
  have lp := rtxt_len hp
  have lq := rtxt_len hq
  by_cases hb : smallT (rtxt p) ∧ smallT (rtxt q)
  · obtain ⟨v, hv, rfl⟩ := small_rat hb.1
    obtain ⟨w, hw, rfl⟩ := small_rat hb.2
    have b1 := fun k0 => both_ok (R := R) n (by omega) v w hv hw k0
    have hvw : (v * w).natAbs ≤ 10 ^ 9 * 10 ^ 9 := by
      rw [Int.natAbs_mul]; exact Nat.mul_le_mul (Nat.le_of_lt hv) (Nat.le_of_lt hw)
    rw [← Rat.intCast_mul, resK_int _ (Nat.lt_of_le_of_lt hvw (by decide +kernel)), ← itoa_rtxt, ← itoa_rtxt]
    generalize hx : v * w = x at *
    have e1 : IntKind.i64.wrap x = x := w64 (by omega) (by omega)
    have e2 : i64R x = true := i64R_t (by omega) (by omega)
    simp only [p29, b1, condT, hx, e1, e2, itoaB_bs]
  · obtain ⟨a, b, b1⟩ := both_bad (R := R) n (by omega) (rtxt p) (rtxt q) (by omega) (by omega) hb
    have t := fun k0 => twoMul_ok (R := R) n hn p q hp hq k0
    simp only [p29, b1, condF, t]
end Go.Proofs.YtfbahcfojiaeaaaGreatDoor


set_option linter.unusedVariables false
set_option linter.unusedSimpArgs false
namespace Go.Proofs.YtfbahcfojiaeaaaGreatDoor
open Go Th Go.Proofs
variable {R : Type}
theorem resK_fit {q : Rat} (h : fits q) (k0 : ByteArray → Int → Option R) : resK q k0 = k0 (bs (rtxt q)) 0 := by unfold resK; rw [if_pos h]
end Go.Proofs.YtfbahcfojiaeaaaGreatDoor


set_option linter.unusedVariables false
set_option maxRecDepth 100000
namespace Go.Proofs.YtfbahcfojiaeaaaGreatDoor
open Go Th Go.Proofs
section
variable {R : Type}
end
end Go.Proofs.YtfbahcfojiaeaaaGreatDoor


set_option linter.unusedVariables false
set_option maxRecDepth 100000
namespace Go.Proofs.YtfbahcfojiaeaaaGreatDoor
open Go Th Go.Proofs
section
variable {R : Type}
end
end Go.Proofs.YtfbahcfojiaeaaaGreatDoor


set_option linter.unusedVariables false
set_option maxRecDepth 100000
namespace Go.Proofs.YtfbahcfojiaeaaaGreatDoor
open Go Th Go.Proofs
section
variable {R : Type}
end
end Go.Proofs.YtfbahcfojiaeaaaGreatDoor


set_option linter.unusedVariables false
set_option maxRecDepth 100000
namespace Go.Proofs.YtfbahcfojiaeaaaGreatDoor
open Go Th Go.Proofs
section
variable {R : Type}
end
end Go.Proofs.YtfbahcfojiaeaaaGreatDoor


set_option linter.unusedVariables false
set_option maxRecDepth 100000
namespace Go.Proofs.YtfbahcfojiaeaaaGreatDoor
open Go Th Go.Proofs
section
variable {R : Type}
end
end Go.Proofs.YtfbahcfojiaeaaaGreatDoor


set_option linter.unusedVariables false
set_option maxRecDepth 100000
namespace Go.Proofs.YtfbahcfojiaeaaaGreatDoor
open Go Th Go.Proofs
section
variable {R : Type}
end
abbrev t37 : Sl (List SV) := (.c (sP (sAgg (.c sBool (.c sSh (.c sBool (.c sSh .n)))))) (.c (sP (sAgg (.c sBool (.c sSh (.c sBool (.c sSh .n)))))) .n))
end Go.Proofs.YtfbahcfojiaeaaaGreatDoor


set_option linter.unusedVariables false
set_option maxRecDepth 100000
namespace Go.Proofs.YtfbahcfojiaeaaaGreatDoor
open Go Th Go.Proofs
section
variable {R : Type}
end
end Go.Proofs.YtfbahcfojiaeaaaGreatDoor


set_option linter.unusedVariables false
set_option maxRecDepth 100000
namespace Go.Proofs.YtfbahcfojiaeaaaGreatDoor
open Go Th Go.Proofs
section
variable {R : Type}
end
end Go.Proofs.YtfbahcfojiaeaaaGreatDoor


set_option linter.unusedVariables false
set_option maxRecDepth 100000
namespace Go.Proofs.YtfbahcfojiaeaaaGreatDoor
open Go Th Go.Proofs
section
variable {R : Type}
end
end Go.Proofs.YtfbahcfojiaeaaaGreatDoor


set_option linter.unusedVariables false
set_option maxRecDepth 100000
namespace Go.Proofs.YtfbahcfojiaeaaaGreatDoor
open Go Th Go.Proofs
section
variable {R : Type}
end
end Go.Proofs.YtfbahcfojiaeaaaGreatDoor


set_option linter.unusedVariables false
set_option maxRecDepth 100000
namespace Go.Proofs.YtfbahcfojiaeaaaGreatDoor
open Go Th Go.Proofs
section
variable {R : Type}
end
end Go.Proofs.YtfbahcfojiaeaaaGreatDoor


set_option linter.unusedVariables false
set_option maxRecDepth 100000
namespace Go.Proofs.YtfbahcfojiaeaaaGreatDoor
open Go Th Go.Proofs
section
variable {R : Type}
end
end Go.Proofs.YtfbahcfojiaeaaaGreatDoor


set_option linter.unusedVariables false
set_option linter.unusedSimpArgs false
namespace Go.Proofs.YtfbahcfojiaeaaaGreatDoor
open Go Th Go.Proofs
variable {R : Type}
theorem div_divInt (p q : Rat) : Rat.divInt (p.num * q.den) ((p.den : Int) * q.num) = p / q := by
  rw [Rat.div_def]
  conv => rhs; rw [← Rat.num_divInt_den p, ← Rat.num_divInt_den q, Rat.inv_divInt, Rat.divInt_mul_divInt]
section
variable (n : Nat) (hn : 10 ^ 1000 ≤ n) (p q : Rat) (hp : fits p) (hq : fits q)
include hp hq
include hn
end
end Go.Proofs.YtfbahcfojiaeaaaGreatDoor


set_option linter.unusedVariables false
namespace Go.Proofs.YtfbahcfojiaeaaaGreatDoor
open Go Th Go.Proofs
abbrev laidAll7 : List (String × DataW Unit) := [("math/bits.deBruijn32tab", Rows.laid_math_bits_deBruijn32tab), ("math/bits.deBruijn64tab", Rows.laid_math_bits_deBruijn64tab), ("internal/strconv.uint64pow10", Rows.laid_internal_strconv_uint64pow10), ("unicode/utf8.acceptRanges", Rows.laid_unicode_utf8_acceptRanges), ("strconv.ErrRange", Rows.laid_strconv_ErrRange), ("strconv.ErrSyntax", Rows.laid_strconv_ErrSyntax), ("unicode/utf8.first", Rows.laid_unicode_utf8_first)]
theorem tab_laid {W : World} (h : laidMetH Tryz.prog laidAll7 W) : Lib.TabIs Tryz.prog W "internal/strconv.uint64pow10" .u64 Lib.pow10Tab := by
  rw [MakeChecks.laidMetH_plain _ _ _ (by kernel_rfl)] at h
  obtain ⟨ps, ⟨_, _, _, _, _, _, _, _, _, _, ⟨_, _, _, _, _, _, _, _, _, _, ⟨g, t, cs, f, p, q, hg, ht, hv, hd, _, _⟩, _⟩, _⟩, _⟩ := h
  obtain rfl := Option.some.inj ((show Tryz.prog.globalNamed "internal/strconv.uint64pow10" = some 1 by kernel_rfl).symm.trans hg)
  have e : (Rows.laid_internal_strconv_uint64pow10 : DataW Unit) = Lib.tabData .u64 Lib.pow10Tab := by kernel_rfl
  rw [e] at hd
  obtain rfl := Option.some.inj ((show (Tryz.prog.globals[1]?).map (·.type) = some 144 by kernel_rfl).symm.trans ht)
  have hc := Lib.cells_of_tab Tryz.underlying144 Tryz.underlying107 (by kernel_rfl) (by kernel_rfl) hd
  unfold Lib.TabIs
  rw [hv, ← hc]
theorem tab_size {P : Program} {W : World} {name : String} {k : IntKind} {zs : List Int} {g : Nat} (hg : P.globalNamed name = some g) (h : Lib.TabIs P W name k zs) : g < W.heap.size := by
  unfold Lib.TabIs World.var? at h
  rw [hg] at h
  simp only [Option.bind_some] at h
  split at h
  · rename_i hh
    exact (Array.getElem?_eq_some_iff.1 hh).1
  · cases h
theorem gi_ok {W : World} (h : Lib.TabIs Tryz.prog W "internal/strconv.uint64pow10" .u64 Lib.pow10Tab) : GI.ok (fun b => b = 1) W := ⟨rfl, h⟩
theorem gi_size {W : World} (h : Lib.TabIs Tryz.prog W "internal/strconv.uint64pow10" .u64 Lib.pow10Tab) : ∀ b, b = 1 → b < W.heap.size := by
  rintro b rfl
  exact tab_size (by kernel_rfl) h
theorem law_tab {g : Nat} {fs : FS} (hf : FSound Tryz.prog GI g fs) {cargs : Array Value} (hk : fs.run (cargs.toList.map fun x => .p (.v x)) asBoolK = some true) (W : World) (h : Lib.TabIs Tryz.prog W "internal/strconv.uint64pow10" .u64 Lib.pow10Tab) :
    Calls Tryz.prog g cargs W fun e w' => e = .returned (.bool true) ∧ RowKit.Below W.heap.size W w' :=
  law_calls hf hk W (fun b => b = 1) (gi_size h) (gi_ok h)
end Go.Proofs.YtfbahcfojiaeaaaGreatDoor


set_option linter.unusedVariables false
set_option maxRecDepth 100000
namespace Go.Proofs.YtfbahcfojiaeaaaGreatDoor
open Go Th Go.Proofs
def ann8 : Ann := { loops := [(3, [(0, .id), (1, .id), (5, .id), (20, .id), (21, .id)], [(0, .id), (1, .id), (4, .id), (5, .id)])], cuts := [], frz := [], rm := [.id] }
noncomputable abbrev env8 (n : Nat) : Env := fun i => bif Nat.beq i 30 then some (fs30 n) else (fun i => bif Nat.beq i 29 then some (fs29 n) else (fun i => bif Nat.beq i 28 then some (fs28 n) else (fun i => bif Nat.beq i 27 then some (fs27 n) else (fun i => bif Nat.beq i 19 then some (fs19 n) else (fun i => bif Nat.beq i 11 then some (fs11 n) else (fun _ => none) i) i) i) i) i) i
theorem envok8 (n : Nat) : EnvOK Tryz.prog GI (env8 n) := EnvOK.cons (EnvOK.cons (EnvOK.cons (EnvOK.cons (EnvOK.cons (EnvOK.cons (EnvOK.nil) (ok11 n)) (ok19 n)) (ok27 n)) (ok28 n)) (ok29 n)) (ok30 n)
noncomputable def p8_l3B {R : Type} (n : Nat) (l0 : Int → Int → List PV → Int → Int → Option R) (x1 x2 : Int) (x3 : List PV) (x4 x5 : Int) (k0 : Int → Int → List PV → Option R) : Option R :=
  bif (decide (x5 < x4)) then (bif (inR x5 ((x3).length)) then (getI .u8 ((x3).getD ((x5 : Int).toNat) (.v (.bool false))) fun e6 => l0 x1 x2 ((x3).set ((x5 : Int).toNat) (.v (.int .u8 57))) x4 (IntKind.i64.wrap (x5 + 1))) else none) else (k0 x1 x2 x3)
noncomputable def p8_l3L {R : Type} (n : Nat) : Nat → Int → Int → List PV → Int → Int → (Int → Int → List PV → Option R) → Option R
  | 0, _, _, _, _, _, _ => none
  | m + 1, x1, x2, x3, x4, x5, k0 => p8_l3B n (fun x1 x2 x3 x4 x5 => p8_l3L n m x1 x2 x3 x4 x5 k0) x1 x2 x3 x4 x5 k0
noncomputable def p8_l3 {R : Type} (n : Nat) (x1 x2 : Int) (x3 : List PV) (x4 x5 : Int) (k0 : Int → Int → List PV → Option R) : Option R := p8_l3L n n x1 x2 x3 x4 x5 k0
noncomputable def p8 {R : Type} (n : Nat) (x1 x2 : Int) (k0 : Bool → Option R) : Option R :=
  bif (decide ((0 : Int) ≤ 400) && decide ((400 : Int) ≤ 400) && lenOK (400 : Int).toNat 1) then (p8_l3 n x1 x2 (List.replicate (400 : Int).toNat (.v (.int .u8 0) : PV)) ((List.replicate (400 : Int).toNat (.v (.int .u8 0) : PV)).length : Int) 0 (fun y3 y4 y5 => bif decide (9 = 0) then none else (let v6 := IntKind.u8.wrap (49 + (Int.tmod y3 9)); bif (inR 0 ((y5).length)) then (getI .u8 ((y5).getD ((0 : Int).toNat) (.v (.bool false))) fun e7 => bif decide (5 = 0) then none else (let v8 := IntKind.u8.wrap (2 * (Int.tmod y4 5)); bif (inR 399 (((y5).set ((0 : Int).toNat) (.v (.int .u8 v6))).length)) then (getI .u8 (((y5).set ((0 : Int).toNat) (.v (.int .u8 v6))).getD ((399 : Int).toNat) (.v (.bool false))) fun e9 => bif (allU8 (((y5).set ((0 : Int).toNat) (.v (.int .u8 v6))).set ((399 : Int).toNat) (.v (.int .u8 (IntKind.u8.wrap (49 + v8)))))) then (p29 n (strOf (((y5).set ((0 : Int).toNat) (.v (.int .u8 v6))).set ((399 : Int).toNat) (.v (.int .u8 (IntKind.u8.wrap (49 + v8)))))) ⟨#[49, 48]⟩ (fun y10 y11 => p28 n (strOf (((y5).set ((0 : Int).toNat) (.v (.int .u8 v6))).set ((399 : Int).toNat) (.v (.int .u8 (IntKind.u8.wrap (49 + v8)))))) (strOf (((y5).set ((0 : Int).toNat) (.v (.int .u8 v6))).set ((399 : Int).toNat) (.v (.int .u8 (IntKind.u8.wrap (49 + v8)))))) (fun y12 y13 => p30 n ⟨#[49]⟩ (strOf (((y5).set ((0 : Int).toNat) (.v (.int .u8 v6))).set ((399 : Int).toNat) (.v (.int .u8 (IntKind.u8.wrap (49 + v8)))))) (fun y14 y15 => p30 n y14 ⟨#[49, 48]⟩ (fun y16 y17 => p27 n (strOf (((y5).set ((0 : Int).toNat) (.v (.int .u8 v6))).set ((399 : Int).toNat) (.v (.int .u8 (IntKind.u8.wrap (49 + v8)))))) ⟨#[48]⟩ (fun y18 y19 => p11 n (fun y20 => bif y20 then (bif true then (p19 n (strOf (((y5).set ((0 : Int).toNat) (.v (.int .u8 v6))).set ((399 : Int).toNat) (.v (.int .u8 (IntKind.u8.wrap (49 + v8)))))) (fun y21 => bif (bif true then y21 else false) then (bif true then (catS (strOf (((y5).set ((0 : Int).toNat) (.v (.int .u8 v6))).set ((399 : Int).toNat) (.v (.int .u8 (IntKind.u8.wrap (49 + v8)))))) (⟨#[48]⟩ : ByteArray) fun s22 => bif true then (p19 n s22 (fun y23 => bif true then (bif (bif true then (!y23) else false) then (bif true then (bif (bif true then (y11 == 5) else false) then (bif true then (bif (bif true then (y13 == 0) else false) then (bif true then (bif (bif true then eqS y12 (⟨#[48]⟩ : ByteArray) else false) then (bif true then (bif (bif true then (y15 == 0) else false) then (bif true then (bif true then (catS (⟨#[49, 47]⟩ : ByteArray) (strOf (((y5).set ((0 : Int).toNat) (.v (.int .u8 v6))).set ((399 : Int).toNat) (.v (.int .u8 (IntKind.u8.wrap (49 + v8)))))) fun s24 => bif true then (bif (bif true then eqS y14 s24 else false) then (bif true then (bif (bif true then (y17 == 5) else false) then (bif true then (bif (bif true then (y19 == 0) else false) then (bif true then (bif true then (k0 (bif true then eqS y18 (strOf (((y5).set ((0 : Int).toNat) (.v (.int .u8 v6))).set ((399 : Int).toNat) (.v (.int .u8 (IntKind.u8.wrap (49 + v8)))))) else false)) else none) else none) else (bif false then none else (bif false then none else (bif false then none else (k0 false))))) else none) else (bif false then none else (bif false then none else (bif false then none else (bif false then none else (bif false then none else (bif false then none else (k0 false)))))))) else none) else (bif false then none else (bif false then none else (bif false then none else (bif false then none else (bif false then none else (bif false then none else (bif false then none else (bif false then none else (bif false then none else (k0 false))))))))))) else none) else none) else none) else (bif false then none else (bif false then none else (bif false then none else (bif false then none else (bif false then none else (bif false then none else (bif false then none else (bif false then none else (bif false then none else (bif false then none else (bif false then none else (bif false then none else (bif false then none else (bif false then none else (k0 false)))))))))))))))) else none) else (bif false then none else (bif false then none else (bif false then none else (bif false then none else (bif false then none else (bif false then none else (bif false then none else (bif false then none else (bif false then none else (bif false then none else (bif false then none else (bif false then none else (bif false then none else (bif false then none else (bif false then none else (bif false then none else (bif false then none else (k0 false))))))))))))))))))) else none) else (bif false then none else (bif false then none else (bif false then none else (bif false then none else (bif false then none else (bif false then none else (bif false then none else (bif false then none else (bif false then none else (bif false then none else (bif false then none else (bif false then none else (bif false then none else (bif false then none else (bif false then none else (bif false then none else (bif false then none else (bif false then none else (bif false then none else (bif false then none else (k0 false)))))))))))))))))))))) else none) else (bif false then none else (bif false then none else (bif false then none else (bif false then none else (bif false then none else (bif false then none else (bif false then none else (bif false then none else (bif false then none else (bif false then none else (bif false then none else (bif false then none else (bif false then none else (bif false then none else (bif false then none else (bif false then none else (bif false then none else (bif false then none else (bif false then none else (bif false then none else (bif false then none else (bif false then none else (bif false then none else (k0 false))))))))))))))))))))))))) else none) else (bif false then none else (bif false then none else (bif false then none else (bif false then none else (bif false then none else (bif false then none else (bif false then none else (bif false then none else (bif false then none else (bif false then none else (bif false then none else (bif false then none else (bif false then none else (bif false then none else (bif false then none else (bif false then none else (bif false then none else (bif false then none else (bif false then none else (bif false then none else (bif false then none else (bif false then none else (bif false then none else (bif false then none else (bif false then none else (bif false then none else (k0 false)))))))))))))))))))))))))))) else none)) else none) else none) else (bif false then none else (bif false then none else (bif false then none else (bif false then none else (bif false then none else (bif false then none else (bif false then none else (bif false then none else (bif false then none else (bif false then none else (bif false then none else (bif false then none else (bif false then none else (bif false then none else (bif false then none else (bif false then none else (bif false then none else (bif false then none else (bif false then none else (bif false then none else (bif false then none else (bif false then none else (bif false then none else (bif false then none else (bif false then none else (bif false then none else (bif false then none else (bif false then none else (bif false then none else (bif false then none else (bif false then none else (k0 false)))))))))))))))))))))))))))))))))) else none) else (bif false then none else (bif false then none else (bif false then none else (bif false then none else (bif false then none else (bif false then none else (bif false then none else (bif false then none else (bif false then none else (bif false then none else (bif false then none else (bif false then none else (bif false then none else (bif false then none else (bif false then none else (bif false then none else (bif false then none else (bif false then none else (bif false then none else (bif false then none else (bif false then none else (bif false then none else (bif false then none else (bif false then none else (bif false then none else (bif false then none else (bif false then none else (bif false then none else (bif false then none else (bif false then none else (bif false then none else (bif false then none else (bif false then none else (bif false then none else (k0 false)))))))))))))))))))))))))))))))))))))))))) else none) else none)) else none))) else none
noncomputable abbrev E8 {R : Type} (n : Nat) (c : Code) : Fr → Kc R → Option R := evC Tryz.prog (env8 n) ann8 n (113, []) c
noncomputable def c8_l3 : Code := subC (bodyOf Tryz.f8) [1, 1, 0, 1, 0, 0]
abbrev t8_l3 : Sl (List SV) := (.c (sP (sInt .u8)) (.c (sP (sInt .u8)) (.c (sOwn 5) (.c (sP (sInt .i64)) (.c (sP (sInt .i64)) .n)))))
noncomputable abbrev f8_l3 {R : Type} (n m : Nat) (K : Kc R) : t8_l3.T (Option R) := fun x1 x2 x3 x4 x5 => p8_l3L n m x1 x2 x3 x4 x5 (fun y1 y2 y3 => K (.exit 0) (lk (outA ann8.loops 3) [.p (.v (.int .u8 y1)), .p (.v (.int .u8 y2)), .dead, .own 5 y3]))
noncomputable abbrev o8_l3 {R : Type} (n : Nat) (vs : List SV) (K : Kc R) : Option R := oget (t8_l3.ap vs (f8_l3 n n K)) (loopE ann8 3 (E8 n c8_l3) n vs K)
noncomputable abbrev lo8 {R : Type} (n : Nat) : Orc R := fun i vs K => dcnd (Nat.beq i 3) (o8_l3 n vs K) (none)
noncomputable abbrev cu8 {R : Type} (n : Nat) : Orc R := fun i vs K => none
section
variable {R : Type}
noncomputable abbrev V8 (n : Nat) (c : Code) : Fr → Kc R → Option R := evOi Tryz.prog (env8 n) ann8 (113, []) (lo8 n) (cu8 n) c
abbrev K8 (R : Type) (n : Nat) := PartOK (R := R) Tryz.prog (env8 n) ann8 n (113, []) (lo8 n) (cu8 n)
theorem pa8_l3 (n : Nat) : allP (K8 R n) (partsOf ann8 c8_l3) := by
  rw [show partsOf ann8 c8_l3 = [] from by kernel_rfl]; exact trivial
theorem sp8_l3 (n m : Nat) (x1 x2 : Int) (x3 : List PV) (x4 x5 : Int) (K : Kc R) : loopE ann8 3 (V8 n c8_l3) (m + 1) [.p (.v (.int .u8 x1)), .p (.v (.int .u8 x2)), .own 5 x3, .p (.v (.int .i64 x4)), .p (.v (.int .i64 x5))] K = p8_l3B n (fun x1 x2 x3 x4 x5 => loopE ann8 3 (V8 n c8_l3) m [.p (.v (.int .u8 x1)), .p (.v (.int .u8 x2)), .own 5 x3, .p (.v (.int .i64 x4)), .p (.v (.int .i64 x5))] K) x1 x2 x3 x4 x5 (fun y1 y2 y3 => K (.exit 0) (lk (outA ann8.loops 3) [.p (.v (.int .u8 y1)), .p (.v (.int .u8 y2)), .dead, .own 5 y3])) := by kernel_rfl
theorem ep8_l3 (n : Nat) (K : Kc R) : ∀ (m : Nat) (x1 x2 : Int) (x3 : List PV) (x4 x5 : Int), loopE ann8 3 (V8 n c8_l3) m [.p (.v (.int .u8 x1)), .p (.v (.int .u8 x2)), .own 5 x3, .p (.v (.int .i64 x4)), .p (.v (.int .i64 x5))] K = f8_l3 n m K x1 x2 x3 x4 x5
  | 0, _, _, _, _, _ => rfl
  | m + 1, x1, x2, x3, x4, x5 => (sp8_l3 n m x1 x2 x3 x4 x5 K).trans (congrArg (fun l0 => p8_l3B n l0 x1 x2 x3 x4 x5 (fun y1 y2 y3 => K (.exit 0) (lk (outA ann8.loops 3) [.p (.v (.int .u8 y1)), .p (.v (.int .u8 y2)), .dead, .own 5 y3]))) (funext fun z0 => funext fun z1 => funext fun z2 => funext fun z3 => funext fun z4 => ep8_l3 n K m z0 z1 z2 z3 z4))
theorem q8_l3 (n : Nat) : K8 R n (false, 3, c8_l3) := part_loop (pa8_l3 n) t8_l3 (f8_l3 n n) (fun K x1 x2 x3 x4 x5 => ep8_l3 n K n x1 x2 x3 x4 x5) fun _ _ => rfl
theorem pa8 (n : Nat) : allP (K8 R n) (partsOf ann8 (bodyOf Tryz.f8)) := by
  rw [show partsOf ann8 (bodyOf Tryz.f8) = [(false, 3, c8_l3)] from by kernel_rfl]; exact ⟨q8_l3 n, trivial⟩
end
abbrev t8 : Sl (List SV) := (.c (sP (sInt .u8)) (.c (sP (sInt .u8)) .n))
noncomputable abbrev f8 (n : Nat) {R : Type} (K : List SV → Option R) : t8.T (Option R) := fun x1 x2 => p8 n x1 x2 (fun y1 => K [.p (.v (.bool y1))])
theorem ep8 {R : Type} (n : Nat) (K : List SV → Option R) (x1 x2 : Int) : evFn Tryz.prog (env8 n) ann8 n Tryz.f8 [.p (.v (.int .u8 x1)), .p (.v (.int .u8 x2))] K = f8 n K x1 x2 := by
  rw [evFn_evOi (c := bodyOf Tryz.f8) (by kernel_rfl) (pa8 n)]; kernel_rfl
noncomputable abbrev fs8 (n : Nat) : FS := { om := [false, false], run := fun args K => oget (t8.ap args (f8 n K)) none }
theorem ok8 (n : Nat) : FSound Tryz.prog GI 8 (fs8 n) :=
  FSound.good (envok8 n) (ann := ann8) (n := n) Tryz.func8
    (.cons (envok8 n) t8 (f8 n) (fun K x1 x2 => ep8 n K x1 x2) .nil)
    (by kernel_rfl) (by kernel_rfl) (by kernel_rfl)
end Go.Proofs.YtfbahcfojiaeaaaGreatDoor


set_option linter.unusedVariables false
set_option linter.unusedSimpArgs false
namespace Go.Proofs.YtfbahcfojiaeaaaGreatDoor
open Go Th Go.Proofs
variable {R : Type}
theorem nines (n : Nat) (x1 x2 : Int) (N : Nat) (hN : N < 2 ^ 30) (k0 : Int → Int → List PV → Option R) : ∀ (d m i : Nat), d + i = N → d < m →
    p8_l3L n m x1 x2 (nl .u8 (List.replicate i 57 ++ List.replicate (N - i) 0)) N i k0 = k0 x1 x2 (nl .u8 (List.replicate N 57))
  | 0, m + 1, i, hd, hm => by
    have e : i = N := by omega
    subst e
    rw [Nat.sub_self, List.replicate_zero, List.append_nil]
    simp only [p8_l3L, p8_l3B]
    simp (disch := (first | omega | (simp only [List.length_append, List.length_cons, List.length_nil, List.length_replicate, List.length_take, List.length_drop]; omega))) only [↓c_pos, ↓c_neg, dec_t, dec_f, Bool.and_true, Bool.true_and, Bool.and_false, Bool.false_and, Bool.not_true, Bool.not_false, cond_true, cond_false, inR_t, cutR_t, roomB_t, lenOK_t, w64, bs_size, List.length_append, List.length_cons, List.length_nil, bs_extract, bs_append, bs_push, bs_data, bs_empty, bs_lit, catS_bs, eqS_bs, ite_pos', ite_neg', decide_true, decide_false, if_true, if_false, toNatC, getI_nl, nl_len, nl_set, nl_set0, nl_take, nl_drop, nl_rep, nl_app, hdSz_nl, drop0, wu32, wu64, wu8, List.length_set, List.length_replicate]
  | d + 1, m + 1, i, hd, hm => by
    have ih := nines n x1 x2 N hN k0 d m (i + 1) (by omega) (by omega)
    have e1 : (i : Int) + 1 = ((i + 1 : Nat) : Int) := by omega
    have hl : (List.replicate i 57 ++ List.replicate (N - i) 0).length = N := by rw [List.length_append, List.length_replicate, List.length_replicate]; omega
    have e2 : (List.replicate i 57 ++ List.replicate (N - i) 0).set i 57 = List.replicate (i + 1) 57 ++ List.replicate (N - (i + 1)) 0 := by
      rw [List.set_append_right _ _ (by rw [List.length_replicate]; omega), List.length_replicate, Nat.sub_self, show N - i = (N - (i + 1)) + 1 from by omega, List.replicate_succ, List.set_cons_zero, List.replicate_succ', List.append_assoc]
      rfl
    generalize hL : List.replicate i 57 ++ List.replicate (N - i) 0 = L at *
    have e3 : (nl .u8 L).set i (.v (.int .u8 57)) = nl .u8 (L.set i 57) := nl_set .u8 L i 57
    rw [← ih, ← e2]
    simp only [p8_l3L, p8_l3B]
    simp (disch := (first | omega | (simp only [List.length_append, List.length_cons, List.length_nil, List.length_replicate, List.length_take, List.length_drop]; omega))) only [↓c_pos, ↓c_neg, dec_t, dec_f, Bool.and_true, Bool.true_and, Bool.and_false, Bool.false_and, Bool.not_true, Bool.not_false, cond_true, cond_false, inR_t, cutR_t, roomB_t, lenOK_t, w64, bs_size, List.length_append, List.length_cons, List.length_nil, bs_extract, bs_append, bs_push, bs_data, bs_empty, bs_lit, catS_bs, eqS_bs, ite_pos', ite_neg', decide_true, decide_false, if_true, if_false, toNatC, getI_nl, nl_len, nl_set, nl_set0, nl_take, nl_drop, nl_rep, nl_app, hdSz_nl, drop0, wu32, wu64, wu8, List.length_set, List.length_replicate, e1, hl, e3]
theorem allU8_nl : ∀ (l : List Nat), (∀ x ∈ l, x < 256) → allU8 (nl .u8 l) = true
  | [], _ => rfl
  | x :: l, h => by
    have h1 := h x (List.mem_cons_self ..)
    have ih := allU8_nl l fun y hy => h y (List.mem_cons_of_mem _ hy)
    show (isU8 (PV.v (.int .u8 (x : Int))) && allU8 (nl .u8 l)) = true
    rw [ih, Bool.and_true]
    simp [isU8]
theorem strOf_nl (l : List Nat) : strOf (nl .u8 l) = bs (l.map UInt8.ofNat) := by
  unfold strOf bs nl
  rw [List.map_map]
  congr 2
theorem big_text (f l : Nat) (hf : f < 9) (hl : l < 5) : ∃ A : Nat, ((List.replicate 400 57).set 0 (49 + f)).set 399 (49 + 2 * l) = (49 + f) :: (List.replicate 398 57 ++ [49 + 2 * l]) ∧ ((49 + f) :: (List.replicate 398 57 ++ [49 + 2 * l])).map UInt8.ofNat = dec A ∧ A < 10 ^ 400 ∧ 10 ^ 399 ≤ A := by
  obtain ⟨s, hs⟩ : ∃ s, s = ((49 + f) :: (List.replicate 398 57 ++ [49 + 2 * l])).map UInt8.ofNat := ⟨_, rfl⟩
  have hd : ∀ c ∈ s, isD c = true := by
    intro c hc
    rw [hs, List.mem_map] at hc
    obtain ⟨x, hx, rfl⟩ := hc
    have : 48 ≤ x ∧ x ≤ 57 := by
      rcases List.mem_cons.1 hx with rfl | hx
      · omega
      · rcases List.mem_append.1 hx with hx | hx
        · rw [(List.mem_replicate.1 hx).2]; omega
        · rw [List.mem_singleton.1 hx]; omega
    rw [isD_iff, UInt8.toNat_ofNat']; omega
  have hlen : s.length = 400 := by rw [hs, List.length_map, List.length_cons, List.length_append, List.length_replicate]; rfl
  have hh : s.head? ≠ some 48 := by
    rw [hs, List.map_cons, List.head?_cons]
    intro e
    have h := congrArg UInt8.toNat (Option.some.inj e)
    rw [UInt8.toNat_ofNat'] at h
    have : (48 : UInt8).toNat = 48 := rfl
    omega
  have he := dec_ofD hd (by intro e; rw [e] at hlen; cases hlen) (Or.inl hh)
  refine ⟨ofD s, ?_, by rw [he, hs], ?_, ?_⟩
  · rw [show (400 : Nat) = 398 + 1 + 1 from rfl, List.replicate_succ, List.set_cons_zero, List.set_cons_succ, List.replicate_succ', List.set_append_right _ _ (by rw [List.length_replicate]; exact Nat.le_refl _), List.length_replicate]
    rfl
  · have := ofD_lt hd
    rwa [hlen] at this
  · apply Nat.le_of_not_lt
    intro h
    have := (dec_len (ofD s) 399 (by omega)).2 h
    rw [he, hlen] at this
    omega
theorem one_div (A : Nat) (hA : A ≠ 0) : (1 / (A : Rat)).num = 1 ∧ (1 / (A : Rat)).den = A := by
  have e := div_divInt (1 : Rat) (A : Rat)
  have e1 : ((A : Rat)).num = (A : Int) := Rat.num_intCast (A : Int)
  have e2 : ((A : Rat)).den = 1 := Rat.den_intCast (A : Int)
  rw [e1, e2, show (1 : Rat).num = 1 from rfl, show (1 : Rat).den = 1 from rfl, show (1 : Int) * ((1 : Nat) : Int) = zs false 1 from rfl, show ((1 : Nat) : Int) * (A : Int) = (A : Int) from by omega, Rat.divInt_ofNat] at e
  rw [← e, mk_num _ _ _ hA, mk_den _ _ _ hA, Nat.gcd_one_right, Nat.div_one, Nat.div_one]
  exact ⟨rfl, rfl⟩
theorem natQ (A : Nat) : rtxt (A : Rat) = dec A := by
  have := itoa_rtxt (A : Int)
  rw [itoa_pos] at this
  exact this.symm
theorem fitsN {A : Nat} : fits (A : Rat) ↔ A < 10 ^ 400 := by
  unfold fits
  rw [show ((A : Rat)).num = (A : Int) from Rat.num_intCast (A : Int), show ((A : Rat)).den = 1 from Rat.den_intCast (A : Int), Int.natAbs_natCast]
  exact ⟨fun h => h.1, fun h => ⟨h, by decide +kernel⟩⟩
theorem resK_not {q : Rat} (h : ¬ fits q) (k0 : ByteArray → Int → Option R) : resK q k0 = k0 (bs []) 5 := by unfold resK; rw [if_neg h]
theorem pow_times {A k : Nat} (h : 10 ^ k ≤ A) : 10 ^ (k + 1) ≤ A * 10 := by
  rw [Nat.pow_succ]; exact Nat.mul_le_mul_right _ h
theorem limits_run (n : Nat) (hn : 10 ^ 1000 ≤ n) (f l : Nat) (k : Bool → Option R) : p8 n (f : Int) (l : Int) k = k true := by
  classical
  have h20 := n20 hn
  have h4 := n400 hn
  have hA := fun k => p11_run (R := R) n (by omega) k
  have hf9 : f % 9 < 9 := Nat.mod_lt _ (by omega)
  have hl5 : l % 5 < 5 := Nat.mod_lt _ (by omega)
  obtain ⟨A, b1, b2, b3, b4⟩ := big_text (f % 9) (l % 5) hf9 hl5
  have hrep : List.replicate (400 : Int).toNat (PV.v (.int .u8 0)) = nl .u8 (List.replicate 400 0) := nl_rep .u8 400
  have hlen : ((nl .u8 (List.replicate 400 0)).length : Int) = ((400 : Nat) : Int) := by rw [nl_len, List.length_replicate]
  have lp := fun k0 => nines (R := R) n (f : Int) (l : Int) 400 (by omega) k0 400 n 0 (by omega) (by omega)
  rw [List.replicate_zero, List.nil_append, Nat.sub_zero, show ((0 : Nat) : Int) = 0 from rfl] at lp
  have t1 : Int.tmod (f : Int) 9 = ((f % 9 : Nat) : Int) := tmodN f 9
  have t2 : Int.tmod (l : Int) 5 = ((l % 5 : Nat) : Int) := tmodN l 5
  have w1 : IntKind.u8.wrap (49 + ((f % 9 : Nat) : Int)) = ((49 + f % 9 : Nat) : Int) := by rw [wu8 (by omega) (by omega)]; omega
  have w2 : IntKind.u8.wrap (2 * ((l % 5 : Nat) : Int)) = ((2 * (l % 5) : Nat) : Int) := by rw [wu8 (by omega) (by omega)]; omega
  have w3 : IntKind.u8.wrap (49 + ((2 * (l % 5) : Nat) : Int)) = ((49 + 2 * (l % 5) : Nat) : Int) := by rw [wu8 (by omega) (by omega)]; omega
  have g1 : ∀ K : Int → Option R, getI .u8 ((nl .u8 (List.replicate 400 57)).getD (0 : Int).toNat (PV.v (Value.bool false))) K = K (((List.replicate 400 57).getD 0 0 : Nat) : Int) := fun K => getI_nl (l := List.replicate 400 57) (i := 0) (by rw [List.length_replicate]; omega)
  have s1 : (nl .u8 (List.replicate 400 57)).set (0 : Int).toNat (PV.v (.int .u8 ((49 + f % 9 : Nat) : Int))) = nl .u8 ((List.replicate 400 57).set 0 (49 + f % 9)) := nl_set .u8 _ 0 _
  have g2 : ∀ K : Int → Option R, getI .u8 ((nl .u8 ((List.replicate 400 57).set 0 (49 + f % 9))).getD (399 : Int).toNat (PV.v (Value.bool false))) K = K ((((List.replicate 400 57).set 0 (49 + f % 9)).getD 399 0 : Nat) : Int) := fun K => getI_nl (i := 399) (by rw [List.length_set, List.length_replicate]; omega)
  have s2 : (nl .u8 ((List.replicate 400 57).set 0 (49 + f % 9))).set (399 : Int).toNat (PV.v (.int .u8 ((49 + 2 * (l % 5) : Nat) : Int))) = nl .u8 (((List.replicate 400 57).set 0 (49 + f % 9)).set 399 (49 + 2 * (l % 5))) := nl_set .u8 _ 399 _
  have i1 : inR 0 (nl .u8 (List.replicate 400 57)).length = true := by rw [nl_len, List.length_replicate]; exact inR_t (by omega) (by omega)
  have i2 : inR 399 (nl .u8 ((List.replicate 400 57).set 0 (49 + f % 9))).length = true := by rw [nl_len, List.length_set, List.length_replicate]; exact inR_t (by omega) (by omega)
  have a1 : allU8 (nl .u8 (((List.replicate 400 57).set 0 (49 + f % 9)).set 399 (49 + 2 * (l % 5)))) = true := by
    apply allU8_nl
    intro x hx
    rw [b1] at hx
    rcases List.mem_cons.1 hx with rfl | hx
    · omega
    · rcases List.mem_append.1 hx with hx | hx
      · rw [(List.mem_replicate.1 hx).2]; omega
      · rw [List.mem_singleton.1 hx]; omega
  have st : strOf (nl .u8 (((List.replicate 400 57).set 0 (49 + f % 9)).set 399 (49 + 2 * (l % 5)))) = bs (dec A) := by rw [strOf_nl, b1, b2]
  have p9 : (1 : Nat) ≤ 10 ^ 399 := by decide +kernel
  have hA0 : A ≠ 0 := by omega
  have c0 : (decide ((0 : Int) ≤ 400) && decide ((400 : Int) ≤ 400) && lenOK (400 : Int).toNat 1) = true := rfl
  have d9 : decide ((9 : Nat) = 0) = false := rfl
  have d5 : decide ((5 : Nat) = 0) = false := rfl
  unfold p8 p8_l3
  rw [c0, condT, hrep, hlen, lp, d9, condF]
  simp only [t1, w1, i1, condT, g1, d5, condF, t2, w2, s1, i2, g2, w3, s2, a1, st]
  clear lp g1 g2 s1 s2 i1 i2 a1 st b1 b2 t1 t2 w1 w2 w3
  have f1 : fits (A : Rat) := fitsN.2 b3
  have f10 : fits ((10 : Nat) : Rat) := fitsN.2 (by decide +kernel)
  have fo : fits ((1 : Nat) : Rat) := fitsN.2 (by decide +kernel)
  have fz : fits ((0 : Nat) : Rat) := fitsN.2 (by decide +kernel)
  have x10 : (⟨#[49, 48]⟩ : ByteArray) = bs (rtxt ((10 : Nat) : Rat)) := by rw [natQ, dec_big (by omega), show 10 / 10 = 1 from rfl, show 10 % 10 = 0 from rfl, dec_one]; rfl
  have x1 : (⟨#[49]⟩ : ByteArray) = bs (rtxt ((1 : Nat) : Rat)) := by rw [natQ, dec_one]; rfl
  have x0 : (⟨#[48]⟩ : ByteArray) = bs (rtxt ((0 : Nat) : Rat)) := by rw [natQ, dec_zero]; rfl
  have p400 := pow_times (k := 399) b4
  have e400 : 399 + 1 = 400 := rfl
  rw [e400] at p400
  obtain ⟨o1, o2⟩ := one_div A hA0
  have fd : fits (1 / (A : Rat)) := by
    unfold fits; rw [o1, o2]; exact ⟨by decide +kernel, b3⟩
  have hAq : (A : Rat) ≠ 0 := by
    intro e
    have := congrArg Rat.num e
    rw [show ((A : Rat)).num = (A : Int) from Rat.num_intCast (A : Int), show (0 : Rat).num = 0 from rfl] at this
    omega
  have m1 : ∀ k0 : ByteArray → Int → Option R, p29 n (bs (dec A)) ⟨#[49, 48]⟩ k0 = k0 (bs []) 5 := fun k0 => by
    rw [x10, ← natQ, Mul_ok n hn _ _ f1 f10, resK_not]
    have : (A : Rat) * ((10 : Nat) : Rat) = ((A * 10 : Nat) : Rat) := by
      have := Rat.intCast_mul (A : Int) (10 : Int)
      rw [show (A : Int) * 10 = ((A * 10 : Nat) : Int) from by omega] at this
      exact this.symm
    rw [this, fitsN]; omega
  have m2 : ∀ k0 : ByteArray → Int → Option R, p28 n (bs (dec A)) (bs (dec A)) k0 = k0 (bs [48]) 0 := fun k0 => by
    rw [← natQ, Sub_ok n hn _ _ f1 f1, show (A : Rat) - (A : Rat) = 0 from by rw [Rat.sub_eq_add_neg, Rat.add_neg_cancel], resK_fit (by decide +kernel : fits 0), rtxt_zero]
  have m3 : ∀ k0 : ByteArray → Int → Option R, p30 n ⟨#[49]⟩ (bs (dec A)) k0 = k0 (bs (rtxt (1 / (A : Rat)))) 0 := fun k0 => by
    rw [x1, ← natQ, Div_ok n hn _ _ fo f1, if_neg hAq]
    exact resK_fit fd k0
  have m4 : ∀ k0 : ByteArray → Int → Option R, p30 n (bs (rtxt (1 / (A : Rat)))) ⟨#[49, 48]⟩ k0 = k0 (bs []) 5 := fun k0 => by
    rw [x10, Div_ok n hn _ _ fd f10, if_neg (by decide +kernel), resK_not]
    have e : 1 / (A : Rat) / ((10 : Nat) : Rat) = 1 / ((A * 10 : Nat) : Rat) := by
      rw [← div_divInt (1 / (A : Rat)), o1, o2, ← div_divInt 1 ((A * 10 : Nat) : Rat)]
      rw [show (((10 : Nat) : Rat)).num = 10 from rfl, show (((10 : Nat) : Rat)).den = 1 from rfl, show (((A * 10 : Nat) : Rat)).num = ((A * 10 : Nat) : Int) from Rat.num_intCast _, show (((A * 10 : Nat) : Rat)).den = 1 from Rat.den_intCast ((A * 10 : Nat) : Int), show (1 : Rat).num = 1 from rfl, show (1 : Rat).den = 1 from rfl]
      congr 1
      omega
    rw [e]
    intro hfit
    obtain ⟨_, q2⟩ := one_div (A * 10) (by omega)
    have := hfit.2
    rw [q2] at this
    omega
  have m5 : ∀ k0 : ByteArray → Int → Option R, p27 n (bs (dec A)) ⟨#[48]⟩ k0 = k0 (bs (dec A)) 0 := fun k0 => by
    rw [x0, ← natQ, Add_ok n hn _ _ f1 fz, show (A : Rat) + ((0 : Nat) : Rat) = (A : Rat) from Rat.add_zero _, resK_fit f1]
  have l1 := dec_lim b3
  have v1 : ∀ k0 : Bool → Option R, p19 n (bs (dec A)) k0 = k0 true := fun k0 => by
    have hQ : isQ (dec A) := ⟨(A : Rat), f1, (natQ A).symm⟩
    rw [ValidR_eq n h4 _ (by omega), decide_eq_true hQ]
  have hlong : dec (A * 10) = dec A ++ [48] := by
    rw [dec_big (by omega), Nat.mul_div_cancel _ (by omega), Nat.mul_mod_left]; rfl
  have v2 : ∀ k0 : Bool → Option R, p19 n (bs (dec A ++ [48])) k0 = k0 false := fun k0 => by
    rw [ValidR_eq n h4 _ (by rw [List.length_append]; simp; omega), decide_eq_false]
    rintro ⟨q, hq, e⟩
    rw [← hlong, ← natQ] at e
    rw [← rtxt_inj e, fitsN] at hq
    omega
  have k1 : ∀ K : ByteArray → Option R, catS (bs (dec A)) (⟨#[48]⟩ : ByteArray) K = K (bs (dec A ++ [48])) := fun K => catS_bs (b := [48]) (by simp; omega) K
  have k2 : ∀ K : ByteArray → Option R, catS (⟨#[49, 47]⟩ : ByteArray) (bs (dec A)) K = K (bs (49 :: 47 :: dec A)) := fun K => catS_bs (a := [49, 47]) (by simp; omega) K
  have hA1 : A ≠ 1 := by
    intro e
    have h9 : 10 ≤ 10 ^ 399 := by decide +kernel
    omega
  have rt : rtxt (1 / (A : Rat)) = 49 :: 47 :: dec A := by
    unfold rtxt
    rw [o1, o2, if_neg hA1, show (1 : Int) = ((1 : Nat) : Int) from rfl, itoa_pos, dec_one]; rfl
  have e48 : eqS (bs [48]) (⟨#[48]⟩ : ByteArray) = true := rfl
  have ee : ∀ s : List UInt8, eqS (bs s) (bs s) = true := fun s => by rw [eqS_bs]; exact eq_self _
  rw [m1, m2, m3, m4, m5, hA]
  simp only [condT, v1, k1, v2, notF, e48, k2, rt, ee, show ((5 : Int) == 5) = true from rfl, show ((0 : Int) == 0) = true from rfl]
theorem fsr_RationalLimits (n : Nat) (a0 a1 : Int) (K : List SV → Option R) : (fs8 n).run ((#[.int .u8 a0, .int .u8 a1] : Array Value).toList.map fun x => SV.p (.v x)) K = p8 n a0 a1 (fun y => K [.p (.v (.bool y))]) := rfl
theorem law_RationalLimits (W : World) (a0 a1 : Int) (w0 : (Lit.int .u8 a0).wf = true) (w1 : (Lit.int .u8 a1).wf = true) (h : Lib.TabIs Tryz.prog W "internal/strconv.uint64pow10" .u64 Lib.pow10Tab) : Calls Tryz.prog 8 #[.int .u8 a0, .int .u8 a1] W fun e w' => e = .returned (.bool true) ∧ RowKit.Below W.heap.size W w' :=
  law_tab (ok8 (10 ^ 1000)) (by
    have h0 : 0 ≤ a0 := by
      simp only [Lit.wf, Bool.and_eq_true, decide_eq_true_eq] at w0
      exact w0.1
    have h1 : 0 ≤ a1 := by
      simp only [Lit.wf, Bool.and_eq_true, decide_eq_true_eq] at w1
      exact w1.1
    obtain ⟨f, rfl⟩ := Int.eq_ofNat_of_zero_le h0
    obtain ⟨l, rfl⟩ := Int.eq_ofNat_of_zero_le h1
    rw [fsr_RationalLimits, limits_run (10 ^ 1000) (Nat.le_refl _) f l]; rfl) W h
end Go.Proofs.YtfbahcfojiaeaaaGreatDoor


namespace Go.Proofs.YtfbahcfojiaeaaaGreatDoor.rationalLimits
open Go.ChangeShapes Go.WideShapes Go.ChangeAt Go.RowKit
open Go.ChangeMaps (open_string shut_string)
theorem own : ownKnob Tryz.prog.godebug = none := by kernel_rfl
set_option maxRecDepth 100000 in
theorem lifted (os : Os) (started : os.Started) (H : Type) (enc : TypeId × Value → H) :
    ReturnsInHanded {} Tryz.checked os 8 .any (fun w args => (Rows.rationalLimitsSpec.pre enc Tryz.prog Tryz.f8 Rows.rationalLimitsRow.domain false w args ∧ laidMetH Tryz.prog laidAll7 w) ∧ sizedMet enc Tryz.prog Tryz.f8 (OpenSpec.ofChange Rows.rationalLimitsSpec) false w args)
      (Rows.rationalLimitsSpec.post enc Tryz.prog Tryz.f8 false true false false) := by
  refine returnsInHanded_of_change_and (C := Tryz.checked) (X := fun w _ => laidMetH Tryz.prog laidAll7 w) (fun _ _ _ hh h => h.of_heap hh) own started (by kernel_rfl) Tryz.func8
    (ChangeSpec.witness_shaped (enc := enc) (C := Tryz.checked) (os := os) (X := fun w _ => laidMetH Tryz.prog laidAll7 w) false (World.laidAll Tryz.prog os laidAll7) #[.int .u8 0, .int .u8 0] 8 (World.laidAll_os _ _ _)
      (World.shaped_of_ZipB (by kernel_rfl) (by kernel_rfl)) (by kernel_rfl) (by kernel_rfl) (by kernel_rfl)
      (by rw [MakeChecks.laidMetH_plain _ _ _ (by kernel_rfl)]; exact laidMet_laidAll _ (by kernel_rfl) (by kernel_rfl))) ?_
  intro W base args ds gs before hval0 hW hcnd hsz0 hL _
  have hval : ∀ (j : Nat) t v, Tryz.f8.params[j]? = some t → args[j]? = some v → Value.okWide Tryz.prog W .any base t v := hval0
  have hW' := hW
  obtain ⟨p, q, hA0, hV, rfl, hfz, hnd⟩ := hW
  have hA : DataW.TrodAll enc Tryz.prog W 0 (fun _ => true) true Tryz.f8.params.toList args.toList ds p := hA0
  rw [Tryz.params8] at hA hval
  obtain ⟨v0, vs0, d0, ds0, p0, q0, hargs, rfl, rfl, h0, r0⟩ := trodAll_cons hA
  obtain ⟨v1, vs1, d1, ds1, p1, q1, rfl, rfl, rfl, h1, r1⟩ := trodAll_cons r0
  obtain ⟨rfl, rfl, rfl⟩ := trodAll_nil r1
  obtain rfl : args = #[v0, v1] := by cases args; simp_all
  obtain ⟨rfl, rfl⟩ := trodVars_none hV
  obtain ⟨a0, rfl, rfl, rfl, w0⟩ := open_int Tryz.underlying5 (hval 0 5 v0 rfl rfl) h0
  obtain ⟨a1, rfl, rfl, rfl, w1⟩ := open_int Tryz.underlying5 (hval 1 5 v1 rfl rfl) h1
  clear hA0 hval0 hsz0
  refine (law_RationalLimits W a0 a1 w0 w1 (tab_laid hL)).mono fun e W' ⟨he, bel⟩ => ?_
  subst he
  exact ⟨_, rfl, _, _, _, [], _, [], hW', trodAll_mk1 (shut_bool Tryz.underlying4 _), (trodAll_cons_mk (shut_int Tryz.underlying5 w0) (trodAll_cons_mk (shut_int Tryz.underlying5 w1) trodAll_mk0)), rfl, bel.frame _, fun h => by cases h⟩
theorem over : Rows.RationalLimitsSaid :=
  OpenClaim.holds_of_wide 8 Tryz.f8 rfl rfl rfl rfl rfl rfl rfl ⟨rfl, rfl, rfl, rfl, rfl⟩ rfl rfl rfl rfl rfl (by kernel_rfl) Tryz.func8 (by kernel_rfl)
    (of_decide_eq_true (by kernel_rfl)) (by unfold Func.isWrapper; first | (rw [if_pos (by decide +kernel)]; kernel_rfl) | (rw [if_neg (by decide +kernel)]; exact ⟨rfl, rfl⟩))
    (fun os started H enc _ => lifted os started H enc)
theorem proved : Rows.RationalLimitsCardSaid :=
  Claim7.holds_tied_plain_at .later [] [.data, .data, .data, .data, .sentinel, .sentinel, .pinned] true (true, "e1703cb6245dd261b21fe25032f5445bf19e41f6bf4459650c8c4d0a33e9d8c0") true over (fun _ h => by cases h) (by kernel_rfl) (fun _ h => by cases h) rationalLimits_row_tie rfl ⟨rfl, rfl⟩ (by kernel_rfl) rfl
    (fun f fn hf hfn => by
      obtain rfl : f = 8 := Option.some.inj ((show Tryz.prog.funcNamed "cellarer/cellarerlaw03.RationalLimits" = some 8 by kernel_rfl).symm.trans hf) |>.symm
      obtain rfl : fn = Tryz.f8 := (Option.some.inj (Tryz.func8.symm.trans hfn)).symm
      exact ⟨by kernel_rfl, fun j t ht => by
        rw [Tryz.params8] at ht
        have hm : t ∈ [5, 5] := by simpa using Array.mem_of_getElem? ht
        have hall : ([5, 5].all fun u => !Tryz.prog.wantsStandIn u) = true := by kernel_rfl
        exact (show Tryz.prog.wantsStandIn t = false by simpa using List.all_eq_true.1 hall t hm)⟩)
    (by kernel_rfl)
end Go.Proofs.YtfbahcfojiaeaaaGreatDoor.rationalLimits
namespace Go.Proofs.YtfbahcfojiaeaaaGreatDoor
theorem rationalLimits_holds : Rows.RationalLimitsCardSaid := rationalLimits.proved
end Go.Proofs.YtfbahcfojiaeaaaGreatDoor
