/- Proved: part 5 of the proof that the law CertifyFarkas returns true at all its arguments (no further conditions). -/
import Derived.Test.YtmgfmlhdnadglaaGreatDoorMCertifyFarkas0
set_option linter.unusedVariables false
set_option linter.unusedSimpArgs false
namespace Go.Proofs.YtmgfmlhdnadglaaGreatDoor
open Go Th Go.Proofs
variable {R : Type}
theorem Uo3 (n : Nat) (xs q : List PV) (lv : List Nat) (hv : ∀ d ∈ lv, d < 1000000000) (g i : Nat) (hg : g < 1000000000) (hi : i < 2 ^ 40) (hlv : lv.length < 2 ^ 40) :
    ∀ (d m j : Nat) (o : List Nat) (c s : Nat), d + j = lv.length → d < m → i + lv.length ≤ o.length → o.length < 2 ^ 41 → (∀ x ∈ o, x < 1000000000) → c < 1000000000 → s ≤ 1 →
      ∃ (o' : List Nat) (c' s' : Nat), (∀ k0 : List PV → List PV → List PV → Int → List PV → Int → Int → Int → Int → Option R, UaP n m xs (nl .u32 o) (nl .u32 lv) lv.length q i g c s lv.length j k0 = k0 xs (nl .u32 o') (nl .u32 lv) lv.length q i g c' s') ∧
        o'.length = o.length ∧ (∀ x ∈ o', x < 1000000000) ∧ c' < 1000000000 ∧ s' ≤ 1 ∧ o'.drop (i + lv.length) = o.drop (i + lv.length) ∧
        val 1000000000 o' + 1000000000 ^ (i + j) * (c + s) + g * (1000000000 ^ (i + j) * val 1000000000 (lv.drop j)) = val 1000000000 o + 1000000000 ^ (i + lv.length) * (c' + s')
  | 0, m + 1, j, o, c, s, hd, hm, ho, ho2, hlt, hc, hs => by
    have hk : j = lv.length := by omega
    subst hk
    refine ⟨o, c, s, fun k0 => ?_, rfl, hlt, hc, hs, rfl, ?_⟩
    · simp only [UaP, Ud]
      simp (disch := (first | omega | (simp only [JlL]; omega))) only [↓JlO, JlM, JlN]
    · rw [List.drop_length]; simp [val]
  | d + 1, m + 1, j, o, c, s, hd, hm, ho, ho2, hlt, hc, hs => by
    have hx := Uac hB2 hv j
    have hz := Uac hB2 hlt (i + j)
    have hxy : g * lv.getD j 0 ≤ 999999999 * 999999999 := Nat.mul_le_mul (by omega) (by omega)
    obtain ⟨t, ht⟩ : ∃ t, t = c + g * lv.getD j 0 := ⟨_, rfl⟩
    have ht2 : t / 1000000000 < 1000000000 := by omega
    have htm : t % 1000000000 < 1000000000 := Nat.mod_lt _ (by omega)
    obtain ⟨b, hb⟩ : ∃ b : Nat, b = if o.getD (i + j) 0 < t % 1000000000 + s then 1 else 0 := ⟨_, rfl⟩
    obtain ⟨r, hr⟩ : ∃ r : Nat, r + (t % 1000000000 + s) = o.getD (i + j) 0 + 1000000000 * b := ⟨o.getD (i + j) 0 + 1000000000 * b - (t % 1000000000 + s), by split at hb <;> omega⟩
    have hr2 : r < 1000000000 := by split at hb <;> omega
    have hb1 : b ≤ 1 := by split at hb <;> omega
    obtain ⟨o', c', s', h1, h2, h3, h4, h5, h6, h7⟩ := Uo3 n xs q lv hv g i hg hi hlv d m (j + 1) (o.set (i + j) r) (t / 1000000000) b (by omega) (by omega) (by rw [List.length_set]; exact ho) (by rw [List.length_set]; exact ho2) (Ubi hlt hr2 _) ht2 hb1
    refine ⟨o', c', s', fun k0 => ?_, by rw [h2, List.length_set], h3, h4, h5, by rw [h6, List.drop_set_of_lt (by omega)], ?_⟩
    · rw [← h1 k0]
      have e1 : (i : Int) + (j : Int) = ((i + j : Nat) : Int) := by omega
      have e2 : (j : Int) + 1 = ((j + 1 : Nat) : Int) := by omega
      have e4 : (g : Int) * ((lv.getD j 0 : Nat) : Int) = ((g * lv.getD j 0 : Nat) : Int) := by rw [Int.natCast_mul]
      generalize g * lv.getD j 0 = xy at *
      have e3 : (c : Int) + (xy : Int) = (t : Int) := by omega
      have e5 : ((o.getD (i + j) 0 : Nat) : Int) - ((t % 1000000000 : Nat) : Int) - (s : Int) = (r : Int) - 1000000000 * (b : Int) := by omega
      generalize hzz : o.getD (i + j) 0 = z at *
      have hm1 : t < 2 ^ 62 := by omega
      generalize hq : t / 1000000000 = tq at *
      generalize hq2 : t % 1000000000 = tr at *
      simp only [UaP, Ud, UeU]
      by_cases hbb : z < tr + s
      · rw [if_pos hbb] at hb
        subst hb
        have e6 : (r : Int) - 1000000000 * ((1 : Nat) : Int) + 1000000000 = (r : Int) := by omega
        simp (disch := (first | omega | (simp only [JlL]; omega))) only [↓JlO, JlM, JlN, e1, e2, e4, e3, JlI, JlJ, hq, hq2, hzz, e5, e6]
        rfl
      · rw [if_neg hbb] at hb
        subst hb
        have e6 : (r : Int) - 1000000000 * ((0 : Nat) : Int) = (r : Int) := by omega
        simp (disch := (first | omega | (simp only [JlL]; omega))) only [↓JlO, JlM, JlN, e1, e2, e4, e3, JlI, JlJ, hq, hq2, hzz, e5, e6]
        rfl
    · rw [Ubq (by omega : j < lv.length)]
      have hvs := Uet 1000000000 r (l := o) (i := i + j) (by omega)
      have hmd := Nat.mod_add_div t 1000000000
      rw [show i + (j + 1) = (i + j) + 1 from by omega, Nat.pow_succ] at h7
      generalize 1000000000 ^ (i + j) = P at *
      generalize val 1000000000 (List.drop (j + 1) lv) = V at *
      generalize val 1000000000 (o.set (i + j) r) = W at *
      generalize val 1000000000 o = U at *
      generalize 1000000000 ^ (i + lv.length) = Q at *
      generalize t % 1000000000 = tr at *
      generalize t / 1000000000 = tq at *
      generalize lv.getD j 0 = y at *
      generalize o.getD (i + j) 0 = z at *
      clear h1 h3 h4 h5 hlt hv hb
      have h8 : P * r + P * (tr + s) = P * z + P * (1000000000 * b) := by rw [← Nat.mul_add, ← Nat.mul_add, hr]
      have h9 : P * tr + P * (1000000000 * tq) = P * c + P * (g * y) := by rw [← Nat.mul_add, ← Nat.mul_add, hmd, ht]
      grind
theorem UlA (n : Nat) (xs q : List PV) (lv : List Nat) (hv : ∀ d ∈ lv, d < 1000000000) (g i : Nat) (y : Int) (hi : i < 2 ^ 40) (hlv : lv.length < 2 ^ 40) :
    ∀ (d m j : Nat) (o : List Nat) (c : Nat), d + j = lv.length → d < m → i + lv.length ≤ o.length → o.length < 2 ^ 41 → (∀ x ∈ o, x < 1000000000) → c ≤ 1 →
      ∃ (o' : List Nat) (c' : Nat), (∀ k0 : List PV → List PV → List PV → Int → List PV → Int → Int → Int → Int → Option R, Ua9 n m xs (nl .u32 o) (nl .u32 lv) lv.length q i g y c lv.length j k0 = k0 xs (nl .u32 o') (nl .u32 lv) lv.length q i g y c') ∧
        o'.length = o.length ∧ (∀ x ∈ o', x < 1000000000) ∧ c' ≤ 1 ∧ o'.drop (i + lv.length) = o.drop (i + lv.length) ∧
        val 1000000000 o' + 1000000000 ^ (i + lv.length) * c' = val 1000000000 o + 1000000000 ^ (i + j) * c + 1000000000 ^ (i + j) * val 1000000000 (lv.drop j)
  | 0, m + 1, j, o, c, hd, hm, ho, ho2, hlt, hc => by
    have hk : j = lv.length := by omega
    subst hk
    refine ⟨o, c, fun k0 => ?_, rfl, hlt, hc, rfl, ?_⟩
    · simp only [Ua9, Uda]
      simp (disch := (first | omega | (simp only [JlL]; omega))) only [↓JlO, JlM, JlN]
    · rw [List.drop_length]; simp [val]
  | d + 1, m + 1, j, o, c, hd, hm, ho, ho2, hlt, hc => by
    have hx := Uac hB2 hv j
    have hz := Uac hB2 hlt (i + j)
    obtain ⟨t, ht⟩ : ∃ t, t = c + (o.getD (i + j) 0 + lv.getD j 0) := ⟨_, rfl⟩
    have ht2 : t / 1000000000 ≤ 1 := by omega
    have htm : t % 1000000000 < 1000000000 := Nat.mod_lt _ (by omega)
    obtain ⟨o', c', h1, h2, h3, h4, h5, h6⟩ := UlA n xs q lv hv g i y hi hlv d m (j + 1) (o.set (i + j) (t % 1000000000)) (t / 1000000000) (by omega) (by omega) (by rw [List.length_set]; exact ho) (by rw [List.length_set]; exact ho2) (Ubi hlt htm _) ht2
    refine ⟨o', c', fun k0 => ?_, by rw [h2, List.length_set], h3, h4, by rw [h5, List.drop_set_of_lt (by omega)], ?_⟩
    · rw [← h1 k0]
      have e1 : (i : Int) + (j : Int) = ((i + j : Nat) : Int) := by omega
      have e2 : (j : Int) + 1 = ((j + 1 : Nat) : Int) := by omega
      have e3 : (c : Int) + (((o.getD (i + j) 0 : Nat) : Int) + ((lv.getD j 0 : Nat) : Int)) = (t : Int) := by omega
      simp only [Ua9, Uda]
      simp (disch := (first | omega | (simp only [JlL]; omega))) only [↓JlO, JlM, JlN, e1, e2, e3, JlI, JlJ]
    · rw [h6, Ubq (by omega : j < lv.length)]
      have hvs := Uet 1000000000 (t % 1000000000) (l := o) (i := i + j) (by omega)
      have hmd := Nat.mod_add_div t 1000000000
      rw [show i + (j + 1) = (i + j) + 1 from by omega, Nat.pow_succ]
      generalize 1000000000 ^ (i + j) = P at *
      generalize val 1000000000 (List.drop (j + 1) lv) = V at *
      generalize val 1000000000 (o.set (i + j) (t % 1000000000)) = W at *
      generalize val 1000000000 o = U at *
      generalize 1000000000 ^ (i + lv.length) = Q at *
      generalize t % 1000000000 = tr at *
      generalize t / 1000000000 = tq at *
      generalize lv.getD j 0 = y at *
      generalize o.getD (i + j) 0 = z at *
      clear h1 h3 h4 h5 hlt hv
      have h9 : P * tr + P * (1000000000 * tq) = P * c + (P * z + P * y) := by rw [← Nat.mul_add, ← Nat.mul_add, ← Nat.mul_add, hmd, ht]
      grind
theorem UiU (n : Nat) (xs q : List PV) (lu lv : List Nat) (hu : ∀ d ∈ lu, d < 1000000000) (hv : ∀ d ∈ lv, d < 1000000000) (i : Nat) (hi : i < 2 ^ 40) (hlv : lv.length < 2 ^ 40) (h2 : 2 ≤ lv.length) (hul : i + lv.length < lu.length) (hul2 : lu.length < 2 ^ 41)
    (v1 v2 u3 U2 : Nat) (hv1 : lv.getD (lv.length - 1) 0 = v1) (hv2 : lv.getD (lv.length - 2) 0 = v2) (hu3 : lu.getD (i + lv.length - 2) 0 = u3) (hU2 : U2 < v1 * 1000000000 + 1000000000) :
    ∀ (m g r : Nat), g < 2 ^ 31 → r < 1000000000 → 1000000000 ≤ r + m * v1 → g * v1 + r = U2 → (∀ x, x < 1000000000 → x * (v1 * 1000000000 + v2) ≤ U2 * 1000000000 + u3 → x ≤ g) →
      ∃ g' : Nat, (∀ k0 : List PV → List PV → List PV → Int → List PV → Int → Int → Option R, Ua8 n m xs (nl .u32 lu) (nl .u32 lv) lv.length q i g r k0 = k0 xs (nl .u32 lu) (nl .u32 lv) lv.length q i g') ∧
        g' < 1000000000 ∧ g' * (v1 * 1000000000 + v2) ≤ U2 * 1000000000 + u3 ∧ (∀ x, x < 1000000000 → x * (v1 * 1000000000 + v2) ≤ U2 * 1000000000 + u3 → x ≤ g')
  | 0, g, r, hg, hr, hm, hinv, hmax => by omega
  | m + 1, g, r, hg, hr, hm, hinv, hmax => by
    have hb1 : v1 < 1000000000 := by rw [← hv1]; exact Uac hB2 hv _
    have hb2 : v2 < 1000000000 := by rw [← hv2]; exact Uac hB2 hv _
    have hb3 : u3 < 1000000000 := by rw [← hu3]; exact Uac hB2 hu _
    have e1 : (lv.length : Int) - 1 = ((lv.length - 1 : Nat) : Int) := by omega
    have e2 : (lv.length : Int) - 2 = ((lv.length - 2 : Nat) : Int) := by omega
    have e3 : (i : Int) + (lv.length : Int) = ((i + lv.length : Nat) : Int) := by omega
    have e4 : ((i + lv.length : Nat) : Int) - 2 = ((i + lv.length - 2 : Nat) : Int) := by omega
    have e5 : (g : Int) * (v2 : Int) = ((g * v2 : Nat) : Int) := by rw [Int.natCast_mul]
    have e6 : (r : Int) * 1000000000 = ((r * 1000000000 : Nat) : Int) := by omega
    have e7 : ((r * 1000000000 : Nat) : Int) + (u3 : Int) = ((r * 1000000000 + u3 : Nat) : Int) := by omega
    have e8 : (r : Int) + (v1 : Int) = ((r + v1 : Nat) : Int) := by omega
    have hgv : g * v2 ≤ 2 ^ 31 * 1000000000 := Nat.mul_le_mul (by omega) (by omega)
    have hkey : g * (v1 * 1000000000 + v2) + r * 1000000000 = U2 * 1000000000 + g * v2 := by rw [← hinv]; grind
    by_cases hc : 1000000000 ≤ g ∨ r * 1000000000 + u3 < g * v2
    · have hg1 : 1 ≤ g := by
        rcases Nat.eq_zero_or_pos g with h0 | h0
        · subst h0; simp at hc
        · exact h0
      obtain ⟨p, rfl⟩ : ∃ p, g = p + 1 := ⟨g - 1, by omega⟩
      have e9 : ((p + 1 : Nat) : Int) - 1 = (p : Int) := by omega
      have hinv' : p * v1 + (r + v1) = U2 := by rw [← hinv, Nat.succ_mul]; omega
      have hkey' : p * (v1 * 1000000000 + v2) + (r + v1) * 1000000000 = U2 * 1000000000 + p * v2 := by rw [← hinv']; grind
      have hmax' : ∀ x, x < 1000000000 → x * (v1 * 1000000000 + v2) ≤ U2 * 1000000000 + u3 → x ≤ p := by
        intro x hx hxu
        have := hmax x hx hxu
        by_cases hxp : x = p + 1
        · subst hxp; exfalso; omega
        · omega
      by_cases hr2 : 1000000000 ≤ r + v1
      · have hpb : p < 1000000000 := by
          apply Nat.lt_of_not_le
          intro hp
          have : 1000000000 * v1 ≤ p * v1 := Nat.mul_le_mul_right _ hp
          omega
        have hpv : p * v2 ≤ 1000000000 * 1000000000 := Nat.mul_le_mul (by omega) (by omega)
        refine ⟨p, fun k0 => ?_, hpb, by omega, hmax'⟩
        simp only [Ua8, UbR, Uc8]
        by_cases h1 : 1000000000 ≤ p + 1
        · simp (disch := (first | omega | (simp only [JlL]; omega))) only [↓JlO, JlM, JlN, e1, e2, e3, e4, hv1, hv2, hu3, e5, e6, e7, e8, e9]
        · simp (disch := (first | omega | (simp only [JlL]; omega))) only [↓JlO, JlM, JlN, e1, e2, e3, e4, hv1, hv2, hu3, e5, e6, e7, e8, e9]
      · obtain ⟨g', h1, h3, h4, h5⟩ := UiU n xs q lu lv hu hv i hi hlv h2 hul hul2 v1 v2 u3 U2 hv1 hv2 hu3 hU2 m p (r + v1) (by omega) (by omega) (by rw [Nat.succ_mul] at hm; omega) hinv' hmax'
        refine ⟨g', fun k0 => ?_, h3, h4, h5⟩
        rw [← h1 k0]
        simp only [Ua8, UbR, Uc8]
        by_cases h1 : 1000000000 ≤ p + 1
        · simp (disch := (first | omega | (simp only [JlL]; omega))) only [↓JlO, JlM, JlN, e1, e2, e3, e4, hv1, hv2, hu3, e5, e6, e7, e8, e9]
        · simp (disch := (first | omega | (simp only [JlL]; omega))) only [↓JlO, JlM, JlN, e1, e2, e3, e4, hv1, hv2, hu3, e5, e6, e7, e8, e9]
    · have hc1 : g < 1000000000 := by omega
      have hc2 : g * v2 ≤ r * 1000000000 + u3 := by omega
      refine ⟨g, fun k0 => ?_, hc1, by omega, hmax⟩
      simp only [Ua8, UbR]
      simp (disch := (first | omega | (simp only [JlL]; omega))) only [↓JlO, JlM, JlN, e1, e2, e3, e4, hv1, hv2, hu3, e5, e6, e7, e8]
end Go.Proofs.YtmgfmlhdnadglaaGreatDoor
set_option linter.unusedVariables false
namespace Go.Proofs.YtmgfmlhdnadglaaGreatDoor
theorem UGp {B D U P Vl Wl V W g : Nat} (hV : V = D * P + Vl) (hW : W = U * P + Wl) (hVl : Vl < P) (hWl : Wl < P) (hD : B ≤ D) (hg : g < B) (hgU : g * D ≤ U)
    (hmax : ∀ x, x < B → x * D ≤ U → x ≤ g) (hWV : W < B * V) : W / V ≤ g ∧ g * V < W + V := by
  have hP : 0 < P := by omega
  have hD0 : 0 < D := by omega
  have hDP : 0 < D * P := Nat.mul_pos hD0 hP
  have hV0 : 0 < V := by omega
  constructor
  · apply hmax
    · exact Nat.div_lt_of_lt_mul (by rw [Nat.mul_comm]; exact hWV)
    · have h1 : W / V * V ≤ W := Nat.div_mul_le_self W V
      generalize W / V = Q at *
      apply Nat.le_of_not_lt
      intro h
      have h2 : (U + 1) * P ≤ Q * D * P := Nat.mul_le_mul_right _ h
      rw [hV, Nat.mul_add, ← Nat.mul_assoc] at h1
      rw [Nat.succ_mul] at h2
      have h3 : 0 ≤ Q * Vl := Nat.zero_le _
      omega
  · have h1 : g * D * P ≤ U * P := Nat.mul_le_mul_right _ hgU
    have h2 : g * Vl ≤ B * P := Nat.mul_le_mul (by omega) (by omega)
    have h3 : B * P ≤ D * P := Nat.mul_le_mul_right _ hD
    have h4 : g * Vl < B * P ∨ g * Vl = 0 := by
      rcases Nat.eq_zero_or_pos Vl with h0 | h0
      · right; rw [h0, Nat.mul_zero]
      · left; exact Nat.mul_lt_mul_of_lt_of_lt hg hVl
    rw [hV, Nat.mul_add, ← Nat.mul_assoc, hW]
    rcases h4 with h4 | h4 <;> omega
theorem Uaf (b : Nat) (l : List Nat) (i : Nat) : val b (l.drop i) = l.getD i 0 + b * val b (l.drop (i + 1)) := by
  by_cases h : i < l.length
  · rw [List.drop_eq_getElem_cons h, val, List.getD_eq_getElem?_getD, List.getElem?_eq_getElem h]; rfl
  · rw [List.drop_eq_nil_of_le (by omega), List.drop_eq_nil_of_le (by omega), Ubr (by omega)]; simp [val]
theorem Udk {b : Nat} (hb : 2 ≤ b) (l : List Nat) (k : Nat) (h : val b l < b ^ k) : val b (l.drop k) = 0 := by
  by_cases hk : k ≤ l.length
  · have h1 := Uat b l k hk
    rcases Nat.eq_zero_or_pos (val b (l.drop k)) with h0 | h0
    · exact h0
    · have : b ^ k * 1 ≤ b ^ k * val b (l.drop k) := Nat.mul_le_mul_left _ h0
      omega
  · rw [List.drop_eq_nil_of_le (by omega)]; rfl
theorem Uy8 {B : Nat} (hB : 2 ≤ B) (o lv : List Nat) (ho : ∀ d ∈ o, d < B) (hv : ∀ d ∈ lv, d < B) (i : Nat) (h2 : 2 ≤ lv.length) (hi : i + lv.length < o.length) (hW : val B (o.drop i) < B * val B lv) :
    ∃ Vl Wl, val B lv = (lv.getD (lv.length - 1) 0 * B + lv.getD (lv.length - 2) 0) * B ^ (lv.length - 2) + Vl ∧ Vl < B ^ (lv.length - 2) ∧
      val B (o.drop i) = ((o.getD (i + lv.length) 0 * B + o.getD (i + lv.length - 1) 0) * B + o.getD (i + lv.length - 2) 0) * B ^ (lv.length - 2) + Wl ∧ Wl < B ^ (lv.length - 2) ∧
      o.getD (i + lv.length) 0 * B + o.getD (i + lv.length - 1) 0 < lv.getD (lv.length - 1) 0 * B + B := by
  have hVlt := Uex hB lv hv
  have hWlt : val B (o.drop i) < B ^ (lv.length + 1) := by
    rw [Nat.pow_succ, Nat.mul_comm _ B]
    exact Nat.lt_of_lt_of_le hW (Nat.mul_le_mul_left _ (Nat.le_of_lt hVlt))
  have hz := Udk hB _ _ hWlt
  rw [List.drop_drop] at hz
  have hoi : ∀ d ∈ o.drop i, d < B := fun d hd => ho d (List.mem_of_mem_drop hd)
  have a1 := Uat B lv (lv.length - 2) (by omega)
  have a2 := Uaf B lv (lv.length - 2)
  have a3 := Uaf B lv (lv.length - 1)
  rw [show lv.length - 2 + 1 = lv.length - 1 from by omega] at a2
  rw [show lv.length - 1 + 1 = lv.length from by omega, List.drop_length, show val B [] = 0 from rfl, Nat.mul_zero, Nat.add_zero] at a3
  rw [a3] at a2; rw [a2] at a1
  have b1 := Uat B (o.drop i) (lv.length - 2) (by rw [List.length_drop]; omega)
  rw [List.drop_drop] at b1
  have b2 := Uaf B o (i + (lv.length - 2))
  have b3 := Uaf B o (i + lv.length - 1)
  have b4 := Uaf B o (i + lv.length)
  rw [show i + (lv.length - 2) + 1 = i + lv.length - 1 from by omega] at b2
  rw [show i + lv.length - 1 + 1 = i + lv.length from by omega] at b3
  rw [show i + lv.length + 1 = i + (lv.length + 1) from by omega, hz, Nat.mul_zero, Nat.add_zero] at b4
  rw [show i + (lv.length - 2) = i + lv.length - 2 from by omega] at b2 b1
  rw [b4] at b3; rw [b3] at b2; rw [b2] at b1
  have c1 := Uam hB hv (i := lv.length - 2) (by omega)
  have c2 := Uam hB hoi (i := lv.length - 2) (by rw [List.length_drop]; omega)
  have hP : 0 < B ^ (lv.length - 2) := Nat.pow_pos (by omega)
  have hv2 : lv.getD (lv.length - 2) 0 < B := Uac hB hv _
  generalize B ^ (lv.length - 2) = P at *
  generalize val B (List.take (lv.length - 2) lv) = Vl at *
  generalize val B (List.take (lv.length - 2) (o.drop i)) = Wl at *
  generalize val B lv = V at *
  generalize val B (o.drop i) = W at *
  generalize lv.getD (lv.length - 1) 0 = v1 at *
  generalize lv.getD (lv.length - 2) 0 = v2 at *
  generalize o.getD (i + lv.length) 0 = z at *
  generalize o.getD (i + lv.length - 1) 0 = z1 at *
  generalize o.getD (i + lv.length - 2) 0 = z2 at *
  clear a2 a3 b2 b3 b4 hz hVlt hWlt
  refine ⟨Vl, Wl, by rw [a1]; grind, c1, by rw [b1]; grind, c2, ?_⟩
  apply Nat.lt_of_not_le
  intro h
  have d1 : (v1 * B + B) * (B * P) ≤ (z * B + z1) * (B * P) := Nat.mul_le_mul_right _ h
  have d2 : V < (v1 + 1) * (B * P) := by
    have : v2 * P + P ≤ B * P := by rw [← Nat.succ_mul]; exact Nat.mul_le_mul_right _ hv2
    rw [a1]; grind
  have d3 : B * V < B * ((v1 + 1) * (B * P)) := Nat.mul_lt_mul_of_pos_left d2 (by omega)
  grind
theorem UBq {Bi P V W g t1 z cs vo vo1 lo : Nat} (r2 : vo1 = t1 + P * z) (r3 : vo = lo + Bi * W) (r4 : lo < Bi) (r5 : t1 < P) (q7 : vo1 + g * (Bi * V) = vo + P * cs) :
    (cs ≤ z → g * V ≤ W) ∧ (z < cs → W < g * V) := by
  have e : g * (Bi * V) = Bi * (g * V) := by grind
  rw [e] at q7
  constructor
  · intro h
    have h1 : P * cs ≤ P * z := Nat.mul_le_mul_left _ h
    have h2 : Bi * (g * V) < Bi * (W + 1) := by rw [Nat.mul_succ]; omega
    exact Nat.le_of_lt_succ (Nat.lt_of_mul_lt_mul_left h2)
  · intro h
    have h1 : P * (z + 1) ≤ P * cs := Nat.mul_le_mul_left _ h
    rw [Nat.mul_succ] at h1
    have h2 : Bi * W < Bi * (g * V) := by omega
    exact Nat.lt_of_mul_lt_mul_left h2
end Go.Proofs.YtmgfmlhdnadglaaGreatDoor
set_option linter.unusedVariables false
set_option linter.unusedSimpArgs false
namespace Go.Proofs.YtmgfmlhdnadglaaGreatDoor
open Go Th Go.Proofs
variable {R : Type}
theorem ULy {B Bi BL P V W p r t2 z cs c2 vo vo1 vo2 lo : Nat} (hBi : 0 < Bi) (hP : P = Bi * BL) (r7 : vo2 = t2 + P * z) (r8 : t2 < P) (r3 : vo = lo + Bi * W) (r4 : lo < Bi) (hm1 : W = p * V + r) (hm2 : r < BL)
    (q7 : vo1 + (p + 1) * (Bi * V) = vo + P * cs) (d6 : vo2 + P * c2 = vo1 + Bi * V) : z + c2 = cs ∧ t2 + Bi * (p * V) = vo := by
  have e1 : (p + 1) * (Bi * V) = Bi * (p * V) + Bi * V := by grind
  rw [e1] at q7
  have e2 : Bi * W = Bi * (p * V) + Bi * r := by rw [hm1, Nat.mul_add]
  have e3 : Bi * r + Bi ≤ P := by rw [hP, ← Nat.mul_succ]; exact Nat.mul_le_mul_left _ hm2
  have e4 : t2 + P * z + P * c2 = lo + Bi * r + P * cs := by omega
  rw [Nat.add_assoc, ← Nat.mul_add] at e4
  have h0 : 0 < P := by omega
  have h1 : z + c2 = cs := by
    have a1 : (t2 + P * (z + c2)) / P = z + c2 := by rw [Nat.add_mul_div_left _ _ h0, Nat.div_eq_of_lt r8, Nat.zero_add]
    have a2 : (lo + Bi * r + P * cs) / P = cs := by rw [Nat.add_mul_div_left _ _ h0, Nat.div_eq_of_lt (by omega), Nat.zero_add]
    rw [← a1, e4, a2]
  refine ⟨h1, ?_⟩
  rw [h1] at e4
  omega
set_option maxHeartbeats 4000000 in
set_option maxHeartbeats 4000000 in
theorem Utz (n m : Nat) (xs : List PV) (o lv lq : List Nat) (ho : ∀ d ∈ o, d < 1000000000) (hv : ∀ d ∈ lv, d < 1000000000) (hq : ∀ d ∈ lq, d < 1000000000) (i : Nat) (h2 : 2 ≤ lv.length) (hil : i + lv.length < o.length) (hiq : i < lq.length) (hol : o.length < 2 ^ 40)
    (hn : lv.length + 2 < n) (hv1 : 500000000 ≤ lv.getD (lv.length - 1) 0) (hW : val 1000000000 (o.drop i) < 1000000000 * val 1000000000 lv) :
    ∃ o' : List Nat, (∀ k0 : List PV → List PV → List PV → Option R, UaF n (m + 1) xs (nl .u32 o) (nl .u32 lv) lv.length (nl .u32 lq) i k0 = UaF n m xs (nl .u32 o') (nl .u32 lv) lv.length (nl .u32 (lq.set i (val 1000000000 (o.drop i) / val 1000000000 lv))) ((i : Int) - 1) k0) ∧
      o'.length = o.length ∧ (∀ d ∈ o', d < 1000000000) ∧ val 1000000000 o' + 1000000000 ^ i * (val 1000000000 (o.drop i) / val 1000000000 lv * val 1000000000 lv) = val 1000000000 o := by
  obtain ⟨Vl, Wl, f1, f2, f3, f4, f5⟩ := Uy8 hB2 o lv ho hv i h2 hil hW
  have hb1 := Uac hB2 hv (lv.length - 1)
  have hb2 := Uac hB2 hv (lv.length - 2)
  have hbz := Uac hB2 ho (i + lv.length)
  have hbz1 := Uac hB2 ho (i + lv.length - 1)
  have hbz2 := Uac hB2 ho (i + lv.length - 2)
  obtain ⟨U2, hU2⟩ : ∃ U2, U2 = o.getD (i + lv.length) 0 * 1000000000 + o.getD (i + lv.length - 1) 0 := ⟨_, rfl⟩
  rw [← hU2] at f3 f5
  obtain ⟨v1, hv1e⟩ : ∃ v1, lv.getD (lv.length - 1) 0 = v1 := ⟨_, rfl⟩
  obtain ⟨v2, hv2e⟩ : ∃ v2, lv.getD (lv.length - 2) 0 = v2 := ⟨_, rfl⟩
  obtain ⟨u3, hu3e⟩ : ∃ u3, o.getD (i + lv.length - 2) 0 = u3 := ⟨_, rfl⟩
  obtain ⟨z, hze⟩ : ∃ z, o.getD (i + lv.length) 0 = z := ⟨_, rfl⟩
  obtain ⟨z1, hz1e⟩ : ∃ z1, o.getD (i + lv.length - 1) 0 = z1 := ⟨_, rfl⟩
  rw [hv1e, hv2e] at f1
  rw [hu3e] at f3
  rw [hv1e] at f5 hb1 hv1
  rw [hv2e] at hb2; rw [hze] at hbz hU2; rw [hz1e] at hbz1 hU2; rw [hu3e] at hbz2
  have hdm := Nat.div_add_mod' U2 v1
  have hmod : U2 % v1 < v1 := Nat.mod_lt _ (by omega)
  have hdv0 : U2 < v1 * 2147483648 := Nat.lt_of_lt_of_le f5 (by rw [show v1 * 2147483648 = v1 * 1000000000 + v1 * 1147483648 from by rw [← Nat.mul_add]]; exact Nat.add_le_add_left (by clear f1 f2 f3 f4 f5 hdm hmod hU2; omega) _)
  have hdv : U2 / v1 < 2147483648 := Nat.div_lt_of_lt_mul hdv0
  obtain ⟨g, hg1, hg2, hg3, hg4⟩ := UiU (R := R) n xs (nl .u32 lq) o lv ho hv i (by omega) (by omega) h2 hil (by omega) v1 v2 u3 U2 hv1e hv2e hu3e f5 n (U2 / v1) (U2 % v1) hdv (by omega)
    (by have : 3 * v1 ≤ n * v1 := Nat.mul_le_mul_right _ (by omega)
        omega) hdm
    (by intro x hx hxu
        rw [Nat.le_div_iff_mul_le (by omega)]
        apply Nat.le_of_not_lt
        intro h
        have h3 : (U2 + 1) * 1000000000 ≤ x * v1 * 1000000000 := Nat.mul_le_mul_right _ h
        rw [Nat.mul_add, ← Nat.mul_assoc] at hxu
        have : 0 ≤ x * v2 := Nat.zero_le _
        omega)
  obtain ⟨k1, k2⟩ := UGp (B := 1000000000) f1 f3 f2 f4 (by omega) hg2 hg3 hg4 hW
  obtain ⟨o1, c1, s1, q1, q2, q3, q4, q5, q6, q7⟩ := Uo3 (R := R) n xs (nl .u32 lq) lv hv g i hg2 (by omega) (by omega) lv.length n 0 o 0 0 (by omega) (by omega) (by omega) (by omega) ho (by omega) (by omega)
  have hz' : o1.getD (i + lv.length) 0 = z := by
    rw [← hze]
    have h := congrArg (fun l => l.getD 0 0) q6
    simpa [List.getD_eq_getElem?_getD] using h
  have r1 := Uat 1000000000 o (i + lv.length) (by omega)
  have r2 := Uat 1000000000 o1 (i + lv.length) (by omega)
  have r3 := Uat 1000000000 o i (by omega)
  have r4 := Uam hB2 ho (i := i) (by omega)
  have r5 := Uam hB2 q3 (i := i + lv.length) (by omega)
  rw [q6] at r2
  have r6 : val 1000000000 (o.drop (i + lv.length)) = z := by
    have hWlt : val 1000000000 (o.drop i) < 1000000000 ^ (lv.length + 1) := by
      rw [Nat.pow_succ, Nat.mul_comm _ 1000000000]
      exact Nat.lt_of_lt_of_le hW (Nat.mul_le_mul_left _ (Nat.le_of_lt (Uex hB2 lv hv)))
    have hz := Udk hB2 _ _ hWlt
    rw [List.drop_drop] at hz
    rw [Uaf, show i + lv.length + 1 = i + (lv.length + 1) from by omega, hz, hze, Nat.mul_zero, Nat.add_zero]
  rw [r6] at r1 r2
  simp only [Nat.add_zero, Nat.mul_zero, List.drop_zero] at q7
  obtain ⟨b1, b2⟩ := UBq r2 r3 r4 r5 q7
  have hV0 : 0 < val 1000000000 lv := by
    rcases Nat.eq_zero_or_pos (val 1000000000 lv) with h0 | h0
    · rw [h0] at hW; omega
    · exact h0
  by_cases hcs : c1 + s1 ≤ z
  · have hQ : val 1000000000 (o.drop i) / val 1000000000 lv = g := Nat.le_antisymm k1 ((Nat.le_div_iff_mul_le hV0).2 (b1 hcs))
    rw [hQ]
    have hgu : g < 4294967296 := by omega
    have w1 : (i : Int) + (lv.length : Int) = ((i + lv.length : Nat) : Int) := by omega
    have w2 : ((i + lv.length : Nat) : Int) - 1 = ((i + lv.length - 1 : Nat) : Int) := by omega
    have w3 : (lv.length : Int) - 1 = ((lv.length - 1 : Nat) : Int) := by omega
    have w4 : (z : Int) * 1000000000 + (z1 : Int) = (U2 : Int) := by omega
    have w5 : (z : Int) - (c1 : Int) - (s1 : Int) = ((z - (c1 + s1) : Nat) : Int) := by omega
    refine ⟨o1.set (i + lv.length) (z - (c1 + s1)), fun k0 => ?_, by rw [List.length_set, q2], Ubi q3 (by omega) _, ?_⟩
    · clear f1 f2 f3 f4 f5 hg3 hg4 q7 r1 r2 r3 r4 r5 r6 b1 b2 hQ hW k1 k2 hdm q6 q3 hq ho hv
      have q1' : ∀ k0 : List PV → List PV → List PV → Int → List PV → Int → Int → Int → Int → Option R, UaP n n xs (nl .u32 o) (nl .u32 lv) lv.length (nl .u32 lq) i g 0 0 lv.length 0 k0 = k0 xs (nl .u32 o1) (nl .u32 lv) lv.length (nl .u32 lq) i g c1 s1 := q1
      have t1 : Int.tdiv (U2 : Int) (v1 : Int) = ((U2 / v1 : Nat) : Int) := Jlq _ _
      have t2 : Int.tmod (U2 : Int) (v1 : Int) = ((U2 % v1 : Nat) : Int) := Jlr _ _
      generalize U2 / v1 = g0 at *
      generalize U2 % v1 = r0 at *
      clear q1
      simp only [UaF, UbQ, Uht, Uhu, Uc9, Uc7]
      simp (disch := (first | omega | (simp only [JlL]; omega))) only [↓JlO, JlM, JlN, w1, w2, w3, hze, hz1e, hv1e, w4, t1, t2, hg1, q1', hz', w5, q2]
    · have hs := Uet 1000000000 (z - (c1 + s1)) (l := o1) (i := i + lv.length) (by omega)
      rw [hz'] at hs
      have e2 : 1000000000 ^ (i + lv.length) * z = 1000000000 ^ (i + lv.length) * (z - (c1 + s1)) + 1000000000 ^ (i + lv.length) * (c1 + s1) := by rw [← Nat.mul_add]; congr 1; omega
      have e3 : g * (1000000000 ^ i * val 1000000000 lv) = 1000000000 ^ i * (g * val 1000000000 lv) := by grind
      rw [e3] at q7
      generalize 1000000000 ^ (i + lv.length) * z = A1 at *
      omega
  · have hQ : val 1000000000 (o.drop i) / val 1000000000 lv + 1 = g := by
      have h1 := b2 (Nat.lt_of_not_le hcs)
      have h3 : val 1000000000 (o.drop i) / val 1000000000 lv < g := (Nat.div_lt_iff_lt_mul hV0).2 h1
      obtain ⟨p, rfl⟩ : ∃ p, g = p + 1 := ⟨g - 1, (Nat.succ_pred_eq_of_pos (Nat.lt_of_le_of_lt (Nat.zero_le _) h3)).symm⟩
      have h4 : p ≤ val 1000000000 (o.drop i) / val 1000000000 lv := (Nat.le_div_iff_mul_le hV0).2 (by rw [Nat.succ_mul] at k2; omega)
      omega
    obtain ⟨p, rfl⟩ : ∃ p, g = p + 1 := ⟨val 1000000000 (o.drop i) / val 1000000000 lv, hQ.symm⟩
    have hQ' : val 1000000000 (o.drop i) / val 1000000000 lv = p := by omega
    rw [hQ']
    obtain ⟨o2, c2, d1, d2, d3, d4, d5, d6⟩ := UlA (R := R) n xs (nl .u32 lq) lv hv p i ((z : Int) - (c1 : Int) - (s1 : Int)) (by omega) (by omega) lv.length n 0 o1 0 (by omega) (by omega) (by omega) (by omega) q3 (by omega)
    simp only [Nat.add_zero, Nat.mul_zero, List.drop_zero] at d6
    have hz2 : o2.getD (i + lv.length) 0 = z := by
      rw [← hz']
      have h := congrArg (fun l => l.getD 0 0) d5
      simpa [List.getD_eq_getElem?_getD] using h
    have r7 := Uat 1000000000 o2 (i + lv.length) (by omega)
    have r8 := Uam hB2 d3 (i := i + lv.length) (by omega)
    rw [d5, q6, r6] at r7
    have hm1 : val 1000000000 (o.drop i) = p * val 1000000000 lv + val 1000000000 (o.drop i) % val 1000000000 lv := by
      rw [← hQ', Nat.div_add_mod']
    have hm2 : val 1000000000 (o.drop i) % val 1000000000 lv < 1000000000 ^ lv.length := Nat.lt_trans (Nat.mod_lt _ hV0) (Uex hB2 lv hv)
    obtain ⟨top, low⟩ := ULy (B := 1000000000) (Nat.pow_pos (by omega) : 0 < 1000000000 ^ i) (by rw [Nat.pow_add]) r7 r8 r3 r4 hm1 hm2 q7 d6
    have hs := Uet 1000000000 0 (l := o2) (i := i + lv.length) (by omega)
    rw [hz2, Nat.mul_zero, Nat.add_zero] at hs
    refine ⟨o2.set (i + lv.length) 0, fun k0 => ?_, by rw [List.length_set, d2, q2], Ubi d3 (by omega) _, ?_⟩
    · have w1 : (i : Int) + (lv.length : Int) = ((i + lv.length : Nat) : Int) := by omega
      have w2 : ((i + lv.length : Nat) : Int) - 1 = ((i + lv.length - 1 : Nat) : Int) := by omega
      have w3 : (lv.length : Int) - 1 = ((lv.length - 1 : Nat) : Int) := by omega
      have w4 : (z : Int) * 1000000000 + (z1 : Int) = (U2 : Int) := by omega
      have w5 : ((p + 1 : Nat) : Int) - 1 = (p : Int) := by omega
      have w6 : (z : Int) - (c1 : Int) - (s1 : Int) + (c2 : Int) = ((0 : Nat) : Int) := by omega
      have hgu : p + 1 < 4294967296 := by omega
      clear f1 f2 f3 f4 f5 hg3 hg4 q7 r1 r2 r3 r4 r5 r6 b1 b2 hQ hQ' hW k1 k2 hdm q6 q3 hq ho hv r7 r8 hm1 hm2 low hs d3 d5 d6
      have q1' : ∀ k0 : List PV → List PV → List PV → Int → List PV → Int → Int → Int → Int → Option R, UaP n n xs (nl .u32 o) (nl .u32 lv) lv.length (nl .u32 lq) i ((p + 1 : Nat) : Int) 0 0 lv.length 0 k0 = k0 xs (nl .u32 o1) (nl .u32 lv) lv.length (nl .u32 lq) i ((p + 1 : Nat) : Int) c1 s1 := q1
      have d1' : ∀ k0 : List PV → List PV → List PV → Int → List PV → Int → Int → Int → Int → Option R, Ua9 n n xs (nl .u32 o1) (nl .u32 lv) lv.length (nl .u32 lq) i p ((z : Int) - (c1 : Int) - (s1 : Int)) 0 lv.length 0 k0 = k0 xs (nl .u32 o2) (nl .u32 lv) lv.length (nl .u32 lq) i p ((z : Int) - (c1 : Int) - (s1 : Int)) c2 := d1
      have t1 : Int.tdiv (U2 : Int) (v1 : Int) = ((U2 / v1 : Nat) : Int) := Jlq _ _
      have t2 : Int.tmod (U2 : Int) (v1 : Int) = ((U2 % v1 : Nat) : Int) := Jlr _ _
      generalize U2 / v1 = g0 at *
      generalize U2 % v1 = r0 at *
      clear q1 d1
      simp only [UaF, UbQ, Uht, Uhu, UmQ, Uc9, Uc7]
      simp (disch := (first | omega | (simp only [JlL]; omega))) only [↓JlO, JlM, JlN, w1, w2, w3, hze, hz1e, hv1e, w4, t1, t2, hg1, q1', hz', w5, d1', w6, q2, d2]
    · generalize 1000000000 ^ (i + lv.length) * z = A1 at *
      generalize 1000000000 ^ i * (p * val 1000000000 lv) = A2 at *
      omega
theorem UlB (n : Nat) (xs : List PV) (lv : List Nat) (hv : ∀ d ∈ lv, d < 1000000000) (h2 : 2 ≤ lv.length) (hn : lv.length + 2 < n) (hv1 : 500000000 ≤ lv.getD (lv.length - 1) 0) (U : Nat) :
    ∀ (d m : Nat) (o lq : List Nat), (∀ x ∈ o, x < 1000000000) → (∀ x ∈ lq, x < 1000000000) → lq.length + lv.length = o.length → d ≤ lq.length → d < m → o.length < 2 ^ 40 → val 1000000000 (o.drop d) < val 1000000000 lv →
      val 1000000000 o + 1000000000 ^ d * (val 1000000000 lv * val 1000000000 (lq.drop d)) = U →
      ∃ o' lq' : List Nat, (∀ k0 : List PV → List PV → List PV → Option R, UaF n m xs (nl .u32 o) (nl .u32 lv) lv.length (nl .u32 lq) ((d : Int) - 1) k0 = k0 xs (nl .u32 o') (nl .u32 lq')) ∧ o'.length = o.length ∧ lq'.length = lq.length ∧
        (∀ x ∈ o', x < 1000000000) ∧ (∀ x ∈ lq', x < 1000000000) ∧ val 1000000000 o' < val 1000000000 lv ∧ val 1000000000 o' + val 1000000000 lv * val 1000000000 lq' = U
  | 0, m + 1, o, lq, ho, hq, hl, hd, hm, h40, hlt, hU => by
    rw [List.drop_zero] at hlt hU
    rw [Nat.pow_zero, Nat.one_mul] at hU
    refine ⟨o, lq, fun k0 => ?_, rfl, rfl, ho, hq, hlt, hU⟩
    simp only [UaF, UbQ]
    simp (disch := (first | omega | (simp only [JlL]; omega))) only [↓JlO, JlM, JlN]
  | d + 1, m + 1, o, lq, ho, hq, hl, hd, hm, h40, hlt, hU => by
    have hod := Uac hB2 ho d
    have hW : val 1000000000 (o.drop d) < 1000000000 * val 1000000000 lv := by
      rw [Uaf]
      have : 1000000000 * val 1000000000 (o.drop (d + 1)) + 1000000000 ≤ 1000000000 * val 1000000000 lv := by rw [← Nat.mul_succ]; exact Nat.mul_le_mul_left _ hlt
      omega
    obtain ⟨o', s1, s2, s3, s4⟩ := Utz (R := R) n m xs o lv lq ho hv hq d h2 (by omega) (by omega) h40 hn hv1 hW
    have hV0 : 0 < val 1000000000 lv := by omega
    have hpB : val 1000000000 (o.drop d) / val 1000000000 lv < 1000000000 := Nat.div_lt_of_lt_mul (by rw [Nat.mul_comm]; exact hW)
    obtain ⟨p, hp⟩ : ∃ p, val 1000000000 (o.drop d) / val 1000000000 lv = p := ⟨_, rfl⟩
    have r1 := Uat 1000000000 o d (by omega)
    have r2 := Uat 1000000000 o' d (by omega)
    have r3 := Uam hB2 ho (i := d) (by omega)
    have r4 := Uam hB2 s3 (i := d) (by omega)
    have hdm := Nat.div_add_mod' (val 1000000000 (o.drop d)) (val 1000000000 lv)
    have hmod : val 1000000000 (o.drop d) % val 1000000000 lv < val 1000000000 lv := Nat.mod_lt _ hV0
    rw [hp] at s1 s4 hpB hdm
    have hrest : val 1000000000 (o'.drop d) = val 1000000000 (o.drop d) % val 1000000000 lv := by
      have h0 : 0 < 1000000000 ^ d := Nat.pow_pos (by omega)
      generalize 1000000000 ^ d = P at *
      rw [r1, r2, ← hdm, Nat.mul_add] at s4
      have e : val 1000000000 (List.take d o') + P * val 1000000000 (List.drop d o') = val 1000000000 (List.take d o) + P * (val 1000000000 (o.drop d) % val 1000000000 lv) := by
        omega
      have a1 : (val 1000000000 (List.take d o') + P * val 1000000000 (List.drop d o')) / P = val 1000000000 (List.drop d o') := by rw [Nat.add_mul_div_left _ _ h0, Nat.div_eq_of_lt r4, Nat.zero_add]
      have a2 : (val 1000000000 (List.take d o) + P * (val 1000000000 (o.drop d) % val 1000000000 lv)) / P = val 1000000000 (o.drop d) % val 1000000000 lv := by rw [Nat.add_mul_div_left _ _ h0, Nat.div_eq_of_lt r3, Nat.zero_add]
      rw [← a1, e, a2]
    have hqv : val 1000000000 ((lq.set d p).drop d) = p + 1000000000 * val 1000000000 (lq.drop (d + 1)) := by
      rw [Uaf, List.drop_set_of_lt (by omega), List.getD_eq_getElem?_getD, List.getElem?_set_self (by omega)]; rfl
    obtain ⟨o2, lq2, t1, t2, t3, t4, t5, t6, t7⟩ := UlB n xs lv hv h2 hn hv1 U d m o' (lq.set d p) s3 (Ubi hq hpB _) (by rw [List.length_set, s2]; exact hl) (by rw [List.length_set]; omega) (by omega) (by omega) (by rw [hrest]; exact hmod)
      (by
        rw [hqv, ← hU, ← s4, Nat.pow_succ]
        generalize 1000000000 ^ d = P
        generalize val 1000000000 (lq.drop (d + 1)) = Q
        generalize val 1000000000 lv = V
        grind)
    refine ⟨o2, lq2, fun k0 => ?_, by rw [t2, s2], by rw [t3, List.length_set], t4, t5, t6, t7⟩
    rw [← t1 k0, ← s1 k0, show ((d + 1 : Nat) : Int) - 1 = (d : Int) from by omega]
theorem UtO (B t : Nat) (hB : B = 1000000000) (ht : 1 ≤ t) (htB : t < B) : 500000000 ≤ B / (t + 1) * t ∧ B / (t + 1) * (t + 1) ≤ B ∧ 1 ≤ B / (t + 1) := by
  have h1 : B / (t + 1) * (t + 1) ≤ B := Nat.div_mul_le_self _ _
  have h2 : 1 ≤ B / (t + 1) := (Nat.le_div_iff_mul_le (by omega)).2 (by omega)
  have h3 := Nat.div_add_mod' B (t + 1)
  have h4 : B % (t + 1) < t + 1 := Nat.mod_lt _ (by omega)
  refine ⟨?_, h1, h2⟩
  generalize B / (t + 1) = q at *
  generalize B % (t + 1) = r at *
  rw [Nat.mul_succ] at h3
  by_cases c1 : q = 1
  · subst c1; omega
  by_cases c2 : t = 1
  · subst c2; omega
  obtain ⟨s, rfl⟩ : ∃ s, t = s + 2 := ⟨t - 2, by omega⟩
  have h5 : 2 * (s + 1) ≤ q * (s + 1) := Nat.mul_le_mul_right _ (by omega)
  have h6 : q * (s + 2) = q * (s + 1) + q := by grind
  omega
theorem Ues {b : Nat} (hb : 2 ≤ b) {x : Nat} (h0 : x ≠ 0) (hx : x < b) : toL b x = [x] := by
  rw [UbE hb h0, Nat.mod_eq_of_lt hx, Nat.div_eq_of_lt hx, Uai]
theorem UiG {b : Nat} (hb : 2 ≤ b) {x : Nat} (h0 : x ≠ 0) : 1 ≤ (toL b x).length ∧ (toL b x).getD ((toL b x).length - 1) 0 * b ^ ((toL b x).length - 1) ≤ x ∧ x < ((toL b x).getD ((toL b x).length - 1) 0 + 1) * b ^ ((toL b x).length - 1) ∧ 1 ≤ (toL b x).getD ((toL b x).length - 1) 0 := by
  have hl : 1 ≤ (toL b x).length := by
    rcases Nat.eq_zero_or_pos (toL b x).length with h | h
    · exact absurd ((Ubl hb).1 (List.eq_nil_of_length_eq_zero h)) h0
    · exact h
  have h1 := Uat b (toL b x) ((toL b x).length - 1) (by omega)
  rw [Uaf, show (toL b x).length - 1 + 1 = (toL b x).length from by omega, List.drop_length, show val b [] = 0 from rfl, Nat.mul_zero, Nat.add_zero, Uaq hb] at h1
  have h2 := Uam hb (UaQ hb x) (i := (toL b x).length - 1) (by omega)
  have h3 := Una hb x
  rw [List.getLast?_eq_getElem?] at h3
  have h4 : 1 ≤ (toL b x).getD ((toL b x).length - 1) 0 := by
    apply Nat.one_le_iff_ne_zero.2
    intro h
    rw [List.getD_eq_getElem?_getD, List.getElem?_eq_getElem (by omega)] at h
    rw [List.getElem?_eq_getElem (by omega)] at h3
    exact h3 (congrArg some h)
  refine ⟨hl, ?_, ?_, h4⟩
  · rw [Nat.mul_comm]; omega
  · rw [Nat.succ_mul, Nat.mul_comm]; omega
theorem UnD {b : Nat} (hb : 2 ≤ b) {x k : Nat} (h : k < (toL b x).length) : b ^ k ≤ x := by
  apply Nat.le_of_not_lt
  intro q
  have := (Uah hb x k).2 q
  omega
set_option maxHeartbeats 2000000 in
theorem Uo2 (n a b : Nat) (hb : 0 < b) (hla : (toL 1000000000 a).length < 2 ^ 20) (hlb : (toL 1000000000 b).length < 2 ^ 20) (hn : (toL 1000000000 a).length + (toL 1000000000 b).length + 10 < n) (k0 : List PV → List PV → Option R) :
    UAL n (NN a) (NN b) k0 = k0 (NN (a / b)) (NN (a % b)) := by
  have hc := fun k0 => UoW (R := R) n a b (by omega) (by omega) (by omega) k0
  unfold UAL
  simp only [hc]
  by_cases hab : a < b
  · have e : Ucv a b = -1 := by unfold Ucv; rw [if_pos hab]
    have e0 : NN 0 = [] := by unfold NN; rw [Uai]; rfl
    rw [Nat.div_eq_of_lt hab, Nat.mod_eq_of_lt hab, e0]
    simp (disch := (first | omega | (simp only [JlL]; omega))) only [↓JlO, JlM, JlN, e]
  have e : 0 ≤ Ucv a b := by unfold Ucv; rw [if_neg hab]; split <;> omega
  obtain ⟨tl, t0, t1, t2⟩ := UiG hB2 (x := b) (by omega)
  have hbt := Uac hB2 (UaQ hB2 b) ((toL 1000000000 b).length - 1)
  have hN : NN b = nl .u32 (toL 1000000000 b) := rfl
  by_cases h1 : (toL 1000000000 b).length = 1
  · have hb1 : b < 1000000000 := by
      have := (Uah hB2 b 1).1 (by omega)
      rwa [Nat.pow_one] at this
    have hone := Ues hB2 (x := b) (by omega) hb1
    have hs := fun k0 => Um7 (R := R) n a b hb (by omega) (by omega) (by omega) k0
    have hmod : a % b < b := Nat.mod_lt _ hb
    have ht := fun k0 => UbW (R := R) n [a % b] (by simp; omega) (by simp; omega) (by simp) k0
    rw [show val 1000000000 [a % b] = a % b from by simp [val]] at ht
    have hN1 : NN b = nl .u32 [b] := by rw [hN, hone]
    have e1 : ([b].getD 0 0) = b := rfl
    simp only [Uhs]
    rw [hN1]
    have hcond : ((([b] : List Nat).length : Int) == 1) = true := rfl
    have hg : ∀ (K : Int → Option R), Jjf .u32 ((nl .u32 [b]).getD (0 : Int).toNat (PV.v (Value.bool false))) K = K (b : Int) := fun K => Jhr (l := [b]) (i := 0) (by simp)
    simp (disch := (first | omega | (simp only [JlL]; omega))) only [↓JlO, JlM, JlN, hcond, hg, hs, Jlu, ht]
    rfl
  obtain ⟨L, hL⟩ : ∃ L, (toL 1000000000 b).length = L := ⟨_, rfl⟩
  obtain ⟨t, htop⟩ : ∃ t, (toL 1000000000 b).getD ((toL 1000000000 b).length - 1) 0 = t := ⟨_, rfl⟩
  rw [htop] at t0 t1 t2 hbt
  rw [hL] at htop t0 t1 hlb hn tl h1
  obtain ⟨n1, n2, n3⟩ := UtO 1000000000 t rfl t2 hbt
  obtain ⟨f, hf⟩ : ∃ f, f = 1000000000 / (t + 1) := ⟨_, rfl⟩
  rw [← hf] at n1 n2 n3
  have hfB : f < 1000000000 := by
    have : f * 2 ≤ f * (t + 1) := Nat.mul_le_mul_left _ (by omega)
    omega
  have hNf : [PV.v (.int .u32 (f : Int))] = NN f := by unfold NN; rw [Ues hB2 (by omega) hfB, Jlu]
  have hfl : (toL 1000000000 f).length = 1 := by rw [Ues hB2 (by omega) hfB]; rfl
  have hPL : 1000000000 ^ L = 1000000000 ^ (L - 1) * 1000000000 := by rw [← Nat.pow_succ]; congr 1; omega
  have hvlt : b * f < 1000000000 ^ L := by
    have a1 : b * f < (t + 1) * 1000000000 ^ (L - 1) * f := Nat.mul_lt_mul_of_pos_right t1 (by omega)
    have a2 : (t + 1) * 1000000000 ^ (L - 1) * f ≤ 1000000000 ^ (L - 1) * 1000000000 := by
      have : (t + 1) * 1000000000 ^ (L - 1) * f = 1000000000 ^ (L - 1) * (f * (t + 1)) := by grind
      rw [this]; exact Nat.mul_le_mul_left _ n2
    omega
  have hvge : 500000000 * 1000000000 ^ (L - 1) ≤ b * f := by
    have a1 : t * 1000000000 ^ (L - 1) * f ≤ b * f := Nat.mul_le_mul_right _ t0
    have a2 : t * 1000000000 ^ (L - 1) * f = f * t * 1000000000 ^ (L - 1) := by grind
    have a3 : 500000000 * 1000000000 ^ (L - 1) ≤ f * t * 1000000000 ^ (L - 1) := Nat.mul_le_mul_right _ n1
    omega
  have hP0 : 0 < 1000000000 ^ (L - 1) := Nat.pow_pos (by omega)
  have hvl : (toL 1000000000 (b * f)).length = L := by
    have a1 := (Uah hB2 (b * f) L).2 hvlt
    have a2 : ¬ (toL 1000000000 (b * f)).length ≤ L - 1 := fun h => by
      have := (Uah hB2 (b * f) (L - 1)).1 h
      omega
    omega
  obtain ⟨_, _, v2, _⟩ := UiG hB2 (x := b * f) (by omega)
  rw [hvl] at v2
  have hvtop : 500000000 ≤ (toL 1000000000 (b * f)).getD (L - 1) 0 := by
    apply Nat.le_of_not_lt
    intro h
    have : ((toL 1000000000 (b * f)).getD (L - 1) 0 + 1) * 1000000000 ^ (L - 1) ≤ 500000000 * 1000000000 ^ (L - 1) := Nat.mul_le_mul_right _ h
    omega
  have hle : b * f ≤ a * f := Nat.mul_le_mul_right _ (by omega)
  obtain ⟨A, hA⟩ : ∃ A, (toL 1000000000 (a * f)).length = A := ⟨_, rfl⟩
  have hA1 : L ≤ A := by
    rw [← hvl, ← hA]
    exact (Uah hB2 (b * f) _).2 (Nat.lt_of_le_of_lt hle ((Uah hB2 (a * f) _).1 (Nat.le_refl _)))
  have hA2 : A ≤ (toL 1000000000 a).length + 1 := by
    rw [← hA]
    apply (Uah hB2 (a * f) _).2
    rw [Nat.pow_succ]
    exact Nat.mul_lt_mul_of_lt_of_lt ((Uah hB2 a _).1 (Nat.le_refl _)) hfB
  obtain ⟨o, ho⟩ : ∃ o, o = toL 1000000000 (a * f) ++ [0] := ⟨_, rfl⟩
  have hol : o.length = A + 1 := by rw [ho, List.length_append, hA]; rfl
  have hod : ∀ x ∈ o, x < 1000000000 := by
    intro x hx
    rw [ho] at hx
    rcases List.mem_append.1 hx with h | h
    · exact UaQ hB2 _ x h
    · simp at h; omega
  have hov : val 1000000000 o = a * f := by rw [ho, Udl, Uaq hB2]
  have hdrop : val 1000000000 (o.drop (A + 1 - L)) < val 1000000000 (toL 1000000000 (b * f)) := by
    rw [Uaq hB2]
    have a1 := Uat 1000000000 o (A + 1 - L) (by omega)
    have a2 : a * f < 1000000000 ^ A := by rw [← hA]; exact (Uah hB2 _ _).1 (Nat.le_refl _)
    have a3 : 1000000000 ^ A = 1000000000 ^ (A + 1 - L) * 1000000000 ^ (L - 1) := by rw [← Nat.pow_add]; congr 1; omega
    rw [hov] at a1
    have a4 : 1000000000 ^ (A + 1 - L) * val 1000000000 (o.drop (A + 1 - L)) < 1000000000 ^ (A + 1 - L) * 1000000000 ^ (L - 1) := by omega
    have a5 := Nat.lt_of_mul_lt_mul_left a4
    omega
  obtain ⟨o', lq', q1, q2, q3, q4, q5, q6, q7⟩ := UlB (R := R) n (NN f) (toL 1000000000 (b * f)) (UaQ hB2 _) (by omega) (by omega) (by rw [hvl]; exact hvtop) (a * f) (A + 1 - L) n o (List.replicate (A + 1 - L) 0) hod (Ugb hB2 _) (by rw [List.length_replicate]; omega) (by rw [List.length_replicate]; omega) (by omega) (by omega) hdrop
    (by rw [List.drop_replicate, Nat.sub_self, hov]; simp [val])
  rw [Uaq hB2] at q6 q7
  have hbf : 0 < b * f := Nat.mul_pos hb (by omega)
  have hq : val 1000000000 lq' = a / b := by
    have : a * f / (b * f) = val 1000000000 lq' := by rw [← q7, Nat.add_mul_div_left _ _ hbf, Nat.div_eq_of_lt q6, Nat.zero_add]
    rw [← this, Nat.mul_div_mul_right _ _ (by omega)]
  have hr : val 1000000000 o' = a % b * f := by
    have : a * f % (b * f) = val 1000000000 o' := by rw [← q7, Nat.add_mul_mod_self_left, Nat.mod_eq_of_lt q6]
    rw [← this, Nat.mul_mod_mul_right]
  have m1 := fun k0 => Ua0 (R := R) n a f (by omega) (by omega) (by omega) k0
  have m2 := fun k0 => Ua0 (R := R) n b f (by omega) (by omega) (by omega) k0
  have m3 := fun k0 => UbW (R := R) n o' q4 (by omega) (by omega) k0
  have m4 := fun k0 => UbW (R := R) n lq' q5 (by rw [q3, List.length_replicate]; omega) (by rw [q3, List.length_replicate]; omega) k0
  have hrl : (toL 1000000000 (a % b * f)).length ≤ L := by
    apply (Uah hB2 _ _).2
    rw [← hr]
    exact Nat.lt_trans q6 hvlt
  have m5 := fun k0 => Um7 (R := R) n (a % b * f) f (by omega) (by omega) (by omega) (by omega) k0
  rw [hr] at m3
  rw [hq] at m4
  rw [Nat.mul_div_cancel _ (by omega)] at m5
  have w1 : ((L : Int) == 1) = false := by simp; omega
  have w2 : (L : Int) - 1 = ((L - 1 : Nat) : Int) := by omega
  have w3 : (t : Int) + 1 = ((t + 1 : Nat) : Int) := by omega
  have w4 : Int.tdiv 1000000000 ((t + 1 : Nat) : Int) = (f : Int) := by rw [hf]; exact Jlq 1000000000 (t + 1)
  have w5 : ((0 + A + (0 + 1) : Nat) : Int) - (L : Int) = ((A + 1 - L : Nat) : Int) := by omega
  have w6 : nl .u32 (toL 1000000000 (a * f)) ++ ([.v (.int .u32 0)] : List PV) = nl .u32 o := by
    rw [ho, ← Jji]; rfl
  have hNa : NN (a * f) = nl .u32 (toL 1000000000 (a * f)) := rfl
  have hNb : NN (b * f) = nl .u32 (toL 1000000000 (b * f)) := rfl
  have w7 : ((A + 1 : Nat) : Int) - (L : Int) = ((A + 1 - L : Nat) : Int) := by omega
  rw [hvl] at q1
  have hg : ∀ (K : Int → Option R), Jjf .u32 ((NN f).getD (0 : Int).toNat (PV.v (Value.bool false))) K = K (f : Int) := fun K => by rw [← hNf]; rfl
  have hNl : (NN f).length = 1 := by rw [← hNf]; rfl
  simp only [Uhs, Uk, Uka, Ukb, Ukc, Uhq, Uhr, UmP]
  rw [hN]
  clear hdrop hvge hvlt n1 n2 hPL q6 q7 t0 t1 v2 hle hr hq hbf hP0 hov
  simp (disch := (first | omega | (simp only [JlL]; omega))) only [↓JlO, JlM, JlN, w1, hL, htop, w2, w3, w4, hNf, m1]
  rw [← hN]
  simp (disch := (first | omega | (simp only [JlL]; omega))) only [↓JlO, JlM, JlN, m2, hNa, hNb, hA, hvl, w5, List.nil_append, w6, hol, w7, q1, m3, hNl, hg, m5, m4]
theorem UmD (n : Nat) (k0 : List PV → Option R) : ∀ (m a b : Nat), b < m → (toL 1000000000 a).length < 2 ^ 19 → (toL 1000000000 b).length < 2 ^ 19 → (toL 1000000000 a).length + (toL 1000000000 b).length + 10 < n → (toL 1000000000 b).length + (toL 1000000000 b).length + 10 < n →
    Uc2 n m (NN a) (NN b) k0 = k0 (NN (Nat.gcd b a))
  | m + 1, a, b, hm, ha, hb, hn, hn2 => by
    simp only [Uc2, Uhl]
    have hN : (NN b).length = (toL 1000000000 b).length := by unfold NN; rw [Jjj]
    by_cases h0 : b = 0
    · subst h0
      rw [Uai] at hN
      have hN' : (NN 0).length = 0 := hN
      simp (disch := (first | omega | (simp only [JlL]; omega))) only [↓JlO, JlM, JlN, hN', Nat.gcd_zero_left]
    · have hl : 1 ≤ (toL 1000000000 b).length := (UiG hB2 h0).1
      have hd := fun k0 => Uo2 (R := R) n a b (by omega) (by omega) (by omega) (by omega) k0
      have hlt : a % b < b := Nat.mod_lt _ (by omega)
      have hlr : (toL 1000000000 (a % b)).length ≤ (toL 1000000000 b).length := (Uah hB2 _ _).2 (Nat.lt_trans hlt ((Uah hB2 _ _).1 (Nat.le_refl _)))
      have ih := UmD n k0 m b (a % b) (by omega) hb (by omega) (by omega) (by omega)
      simp (disch := (first | omega | (simp only [JlL]; omega))) only [↓JlO, JlM, JlN, hN, hd]
      rw [ih, ← Nat.gcd_rec]
theorem UvV (n a b : Nat) (hbn : b < n) (ha : (toL 1000000000 a).length < 2 ^ 19) (hb : (toL 1000000000 b).length < 2 ^ 19) (hn : (toL 1000000000 a).length + (toL 1000000000 b).length + 10 < n) (hn2 : (toL 1000000000 b).length + (toL 1000000000 b).length + 10 < n) (k0 : List PV → Option R) :
    UDo n (NN a) (NN b) k0 = k0 (NN (Nat.gcd b a)) := by
  unfold UDo UrY
  exact UmD n _ n a b hbn ha hb hn hn2
theorem UtM (l k : Nat) : Jk1 0 ((l : Int) - (k : Int)) = ((l - k : Nat) : Int) := by
  unfold Jk1; split <;> omega
theorem Un0 {s : List UInt8} (h : ∀ c ∈ s, isD c = true) (h0 : s ≠ []) (hl : s.length ≤ 18) (K : Int → Option R) : Jih (bs s) K = K (ofD s : Int) := by
  unfold Jih
  rw [Jhc, Utg s h h0 hl, Jd7, decide_eq_true (by omega)]; rfl
theorem Ug (n : Nat) : ∀ (m : Nat) (s : List UInt8) (o : List Nat), (∀ c ∈ s, isD c = true) → (∀ d ∈ o, d < 1000000000) → s.length < m → s.length + o.length < 2 ^ 30 →
    ∃ o' : List Nat, (∀ k0 : List PV → Option R, UdZ n m (bs s) (nl .u32 o) k0 = k0 (nl .u32 o')) ∧ (∀ d ∈ o', d < 1000000000) ∧ o'.length ≤ o.length + s.length ∧ val 1000000000 o' = val 1000000000 o + 1000000000 ^ o.length * ofD s
  | m + 1, s, o, hs, ho, hm, hl => by
    by_cases h0 : s = []
    · subst h0
      refine ⟨o, fun k0 => ?_, ho, by omega, by rw [show ofD [] = 0 from rfl]; simp⟩
      simp only [UdZ, Uh7]
      simp (disch := (first | omega | (simp only [JlL]; omega))) only [↓JlO, JlM, JlN]
    · have hpos : 0 < s.length := List.length_pos_iff.2 h0
      obtain ⟨k, hk⟩ : ∃ k, k = s.length - 9 := ⟨_, rfl⟩
      have h1 : ∀ c ∈ s.take k, isD c = true := fun c h => hs c (List.mem_of_mem_take h)
      have h2 : ∀ c ∈ s.drop k, isD c = true := fun c h => hs c (List.mem_of_mem_drop h)
      have h3 : (s.drop k).length ≤ 9 := by rw [List.length_drop]; omega
      have h4 : s.drop k ≠ [] := by intro e; have := congrArg List.length e; rw [List.length_drop, List.length_nil] at this; omega
      have h5 : ofD (s.drop k) < 1000000000 := Nat.lt_of_lt_of_le (UrU h2) (Nat.pow_le_pow_right (n := 10) (by omega) h3)
      have h6 : ofD s = ofD (s.take k) * 1000000000 + ofD (s.drop k) := by
        conv => lhs; rw [← List.take_append_drop k s]
        rw [Unv]
        by_cases hk0 : k = 0
        · subst hk0
          rw [List.take_zero, show ofD [] = 0 from rfl, Nat.zero_mul, Nat.zero_mul]
        · rw [List.length_drop, show s.length - k = 9 from by omega]
      obtain ⟨o', q1, q2, q3, q4⟩ := Ug n m (s.take k) (o ++ [ofD (s.drop k)]) h1 (by
        intro d hd
        rcases List.mem_append.1 hd with h | h
        · exact ho d h
        · rw [List.mem_singleton.1 h]; exact h5) (by rw [List.length_take]; omega) (by rw [List.length_take, List.length_append, List.length_singleton]; omega)
      refine ⟨o', fun k0 => ?_, q2, by rw [List.length_append, List.length_singleton, List.length_take] at q3; omega, ?_⟩
      · rw [← q1 k0]
        have w1 : Jk1 0 ((s.length : Int) - 9) = (k : Int) := by rw [hk]; exact UtM s.length 9
        have w2 : List.drop k (List.take s.length s) = s.drop k := by rw [List.take_length]
        have w3 := fun K => Un0 (R := R) h2 h4 (by omega) K
        have w4 : List.drop 0 (List.take k s) = s.take k := rfl
        simp only [UdZ, Uh7]
        simp (disch := (first | omega | (simp only [JlL]; omega))) only [↓JlO, JlM, JlN, w1, w2, w3, Jlu]
      · rw [q4, Ubc, h6, List.length_append, List.length_singleton, Nat.pow_succ]
        grind
theorem Uia (n : Nat) (s : List UInt8) (hs : ∀ c ∈ s, isD c = true) (hl : s.length < 2 ^ 20) (hn : s.length < n) (k0 : List PV → Option R) : p98 n (bs s) k0 = k0 (NN (ofD s)) := by
  obtain ⟨o', q1, q2, q3, q4⟩ := Ug (R := R) n n s [] hs (by intro d h; cases h) hn (by simp; omega)
  rw [List.length_nil] at q3
  have ht := UbW (R := R) n o' q2 (by omega) (by omega) k0
  rw [q4, show val 1000000000 [] = 0 from rfl, List.length_nil, Nat.pow_zero, Nat.one_mul, Nat.zero_add] at ht
  unfold p98 UwE
  rw [show ([] : List PV) = nl .u32 [] from rfl, q1, ht]
theorem UmI (d : Nat) (h : d < 1000000000) : JiH (d : Int) = bs (dec d) := by
  unfold JiH Lib.itoa
  rw [if_neg (by omega), Int.toNat_natCast]; rfl
theorem UmF (d : Nat) (h : d < 1000000000) : Jk0 (d : Int) = true := by
  unfold Jk0; simp; omega
theorem Uuq (k : Nat) : Lib.repeatL [48] k = List.replicate k 48 := by
  induction k with
  | zero => rfl
  | succ k ih => rw [Lib.repeatL, ih]; rfl
theorem UJz {d : Nat} (h : d < 1000000000) : (dec d).length ≤ 9 := (Ubp d 9 (by omega)).2 h
theorem Ujg (n : Nat) (l : List Nat) (hl : ∀ d ∈ l, d < 1000000000) (h30 : l.length < 2 ^ 30) (k0 : ByteArray → Option R) : ∀ (i m : Nat), i < l.length → i < m → val 1000000000 (l.drop i) ≠ 0 → (dec (val 1000000000 (l.drop i))).length ≤ 9 * (l.length - i) →
    Ua2 n m (nl .u32 l) (bs (dec (val 1000000000 (l.drop i)))) ((i : Int) - 1) k0 = k0 (bs (dec (val 1000000000 l)))
  | 0, m + 1, hi, hm, h0, hb => by
    rw [List.drop_zero] at *
    simp only [Ua2, Ub7]
    simp (disch := (first | omega | (simp only [JlL]; omega))) only [↓JlO, JlM, JlN]
  | i + 1, m + 1, hi, hm, h0, hb => by
    have hd := Uac hB2 hl i
    have hv := Uaf 1000000000 l i
    have hstep := Ulv 9 (val 1000000000 (l.drop (i + 1))) (l.getD i 0) h0 hd
    have e : val 1000000000 (l.drop (i + 1)) * 10 ^ 9 + l.getD i 0 = val 1000000000 (l.drop i) := by rw [hv]; omega
    rw [e] at hstep
    have h9 := UJz hd
    have hp := UwF 8 (l.getD i 0) hd
    have hlp : (pad 9 (l.getD i 0)).length = 9 := by rw [← hp, List.length_append, List.length_replicate]; omega
    have hlen : (dec (val 1000000000 (l.drop i))).length ≤ 9 * (l.length - i) := by rw [hstep, List.length_append, hlp]; omega
    have ih := Ujg n l hl h30 k0 i m (by omega) (by omega) (by rw [hv]; omega) hlen
    rw [hstep, ← hp] at ih
    have w1 : ((i + 1 : Nat) : Int) - 1 = (i : Int) := by omega
    have w2 := UmI _ hd
    have w3 := UmF _ hd
    have w4 : ((9 : Int) - ((dec (l.getD i 0)).length : Int)) = ((8 + 1 - (dec (l.getD i 0)).length : Nat) : Int) := by omega
    have w5 : Jlk (bs [48]) ((8 + 1 - (dec (l.getD i 0)).length : Nat) : Int) = bs (List.replicate (8 + 1 - (dec (l.getD i 0)).length) 48) := by
      rw [Jll, Int.toNat_natCast, Uuq]
    have w6 : (⟨#[48]⟩ : ByteArray).size = 1 := rfl
    simp only [Ua2, Ub7, UcB]
    simp (disch := (first | omega | (simp only [JlL]; omega))) only [↓JlO, JlM, JlN, w1, w2, w3, w4, w5, w6, ih]
theorem Us5 (n a : Nat) (hl : (toL 1000000000 a).length < 2 ^ 30) (hn : (toL 1000000000 a).length < n) (k0 : ByteArray → Option R) : UDq n (NN a) k0 = k0 (bs (dec a)) := by
  unfold UDq NN
  by_cases h0 : a = 0
  · subst h0
    rw [Uai, Uap]
    rfl
  obtain ⟨t1, t2, t3, t4⟩ := UiG hB2 h0
  have hlt := UaQ hB2 a
  have hval := Uaq hB2 a
  generalize toL 1000000000 a = l at *
  obtain ⟨m, rfl⟩ : ∃ m, n = m + 1 := ⟨n - 1, by omega⟩
  have hd := Uac hB2 hlt (l.length - 1)
  have hv := Uaf 1000000000 l (l.length - 1)
  rw [show l.length - 1 + 1 = l.length from by omega, List.drop_length, show val 1000000000 [] = 0 from rfl, Nat.mul_zero, Nat.add_zero] at hv
  have h9 := UJz hd
  have ih := Ujg (m + 1) l hlt hl k0 (l.length - 1) m (by omega) (by omega) (by omega) (by rw [hv]; omega)
  rw [hv, hval] at ih
  have w0 : ((l.length : Int) == 0) = false := by simp; intro e; rw [e] at t1; simp at t1
  have w1 : ((l.length : Int) - 1) = ((l.length - 1 : Nat) : Int) := by omega
  have w2 := UmI _ hd
  have w3 := UmF _ hd
  simp only [Ur8, UeV, Uhv, UcB]
  simp (disch := (first | omega | (simp only [JlL]; omega))) only [↓JlO, JlM, JlN, w0, w1, w2, w3, List.nil_append, ih]
def UK9 (a b : Nat) : Prop := a ≠ 0 ∧ (10 ^ 400 ≤ a / Nat.gcd a b ∨ 10 ^ 400 ≤ b / Nat.gcd a b)
instance (a b : Nat) : Decidable (UK9 a b) := by unfold UK9; infer_instance
def zs (neg : Bool) (a : Nat) : Int := if neg then -(a : Int) else a
theorem Uaz (neg : Bool) (a : Nat) : (zs neg a).natAbs = a := by cases neg <;> simp [zs]
theorem UbY (z : Int) : zs (decide (z < 0)) z.natAbs = z := by
  unfold zs; split <;> rename_i h <;> simp at h <;> omega
theorem UAx (neg : Bool) : zs neg 0 = 0 := by cases neg <;> rfl
theorem Uhk (neg : Bool) {a : Nat} (h : a ≠ 0) : Lib.itoa (zs neg a) = (if neg then [45] else []) ++ dec a := by
  unfold Lib.itoa
  cases neg
  · rw [if_neg (by simp [zs])]; simp [zs]
  · rw [if_pos (by simp [zs]; omega)]; simp [zs]
theorem Ub0 (a : Nat) : Lib.itoa (a : Int) = dec a := by unfold Lib.itoa; rw [if_neg (by omega), Int.toNat_natCast]
theorem UmM (neg : Bool) (a b : Nat) (hb : b ≠ 0) : (mkRat (zs neg a) b).num = zs neg (a / Nat.gcd b a) := by
  rw [Rat.num_mkRat, if_neg hb, Uaz]
  cases neg
  · simp [zs]
  · simp only [zs, if_true]
    rw [Int.neg_ediv_of_dvd (Int.natCast_dvd_natCast.2 (Nat.gcd_dvd_right b a))]
    rfl
theorem UmL (neg : Bool) (a b : Nat) (hb : b ≠ 0) : (mkRat (zs neg a) b).den = b / Nat.gcd b a := by
  rw [Rat.den_mkRat, if_neg hb, Uaz]
def Uag (q : Rat) : List UInt8 := Lib.itoa q.num ++ if q.den = 1 then [] else 47 :: dec q.den
def Ual (q : Rat) : Prop := q.num.natAbs < 10 ^ 400 ∧ q.den < 10 ^ 400
instance (q : Rat) : Decidable (Ual q) := by unfold Ual; infer_instance
theorem UsK : Uag 0 = [48] := by
  unfold Uag
  rw [show (0 : Rat).num = ((0 : Nat) : Int) from rfl, Ub0, Uap]; rfl
theorem UwN : NN 0 = [] := by unfold NN; rw [Uai]; rfl
theorem UuC (a : Nat) : (NN a).length = (toL 1000000000 a).length := by unfold NN; rw [Jjj]
theorem UgN {a : Nat} (h0 : a ≠ 0) (h : a < 1000000000) : NN a = [PV.v (.int .u32 (a : Int))] := by unfold NN; rw [Ues hB2 h0 h, Jlu]
theorem UAU : NN 1 = [PV.v (.int .u32 1)] := UgN (by omega) (by omega)
theorem UMe {a k : Nat} (h : a < 1000000000 ^ k) : (toL 1000000000 a).length ≤ k := (Uah hB2 a k).2 h
theorem UbO {a b k : Nat} (h : (toL 1000000000 b).length ≤ k) (hab : a ≤ b) : (toL 1000000000 a).length ≤ k := (Uah hB2 a k).2 (Nat.lt_of_le_of_lt hab ((Uah hB2 b k).1 h))
theorem UsH (n : Nat) (neg t : Bool) (a b g : Nat) (hg : g ≠ 0) (ht : t = false → g = 1) (ha : (toL 1000000000 a).length < 2 ^ 18) (hb : (toL 1000000000 b).length < 2 ^ 18) (hgl : (toL 1000000000 g).length < 2 ^ 18) (hn : 2 ^ 20 < n) (k0 : Bool → List PV → List PV → Option R) :
    Uf8 n neg (NN a) (NN b) (NN g) t k0 = k0 neg (NN (a / g)) (NN (b / g)) := by
  unfold Uf8
  cases t
  · rw [ht rfl, Nat.div_one, Nat.div_one]; rfl
  · have d1 := fun k0 => Uo2 (R := R) n a g (by omega) (by omega) (by omega) (by omega) k0
    have d2 := fun k0 => Uo2 (R := R) n b g (by omega) (by omega) (by omega) (by omega) k0
    simp only [cond_true, d1, d2]
theorem Uny (n : Nat) (neg : Bool) (a b : Nat) (hb0 : b ≠ 0) (ha : (toL 1000000000 a).length < 2 ^ 18) (hb : (toL 1000000000 b).length < 2 ^ 18) (hn : 2 ^ 20 < n) (hbn : b < n) (k0 : ByteArray → Int → Option R) :
    p79 n neg (NN a) (NN b) k0 = if Ual (mkRat (zs neg a) b) then k0 (bs (Uag (mkRat (zs neg a) b))) 0 else k0 (bs []) 5 := by
  unfold p79
  by_cases h0 : a = 0
  · subst h0
    rw [UAx, Rat.zero_mkRat]
    rw [if_pos (by decide +kernel), UwN, UsK]
    rfl
  have hg := fun k0 => UvV (R := R) n a b hbn (by omega) (by omega) (by omega) (by omega) k0
  have hg0 : Nat.gcd b a ≠ 0 := fun e => h0 (Nat.gcd_eq_zero_iff.1 e).2
  have hgl : (toL 1000000000 (Nat.gcd b a)).length ≤ (toL 1000000000 a).length := UbO (Nat.le_refl _) (Nat.le_of_dvd (by omega) (Nat.gcd_dvd_right b a))
  obtain ⟨g, hge⟩ : ∃ g, Nat.gcd b a = g := ⟨_, rfl⟩
  have hal : ¬ (toL 1000000000 a).length = 0 := fun e => h0 ((Ubl hB2).1 (List.eq_nil_of_length_eq_zero e))
  have hda : g ∣ a := by rw [← hge]; exact Nat.gcd_dvd_right b a
  have hdb : g ∣ b := by rw [← hge]; exact Nat.gcd_dvd_left b a
  have hag : a / g ≠ 0 := by
    have := Nat.div_mul_cancel hda
    intro e; rw [e] at this; omega
  have hbg : b / g ≠ 0 := by
    have := Nat.div_mul_cancel hdb
    intro e; rw [e] at this; omega
  have hla : (toL 1000000000 (a / g)).length < 2 ^ 18 := Nat.lt_of_le_of_lt (UbO (Nat.le_refl _) (Nat.div_le_self a g)) ha
  have hlb : (toL 1000000000 (b / g)).length < 2 ^ 18 := Nat.lt_of_le_of_lt (UbO (Nat.le_refl _) (Nat.div_le_self b g)) hb
  have e0 : (((toL 1000000000 a).length : Int) == 0) = false := by rw [Jk7]; simpa using hal
  have key : ∀ t : Bool, (t = false → g = 1) → Uf8 n neg (NN a) (NN b) (NN g) t (fun (y5 : Bool) (y6 : List PV) (y7 : List PV) => Ui2 n y5 y6 y7 (fun (y8 : ByteArray) (y9 : Int) => k0 y8 y9)) = if Ual (mkRat (zs neg a) b) then k0 (bs (Uag (mkRat (zs neg a) b))) 0 else k0 (bs []) 5 := by
    intro t ht
    rw [UsH n neg t a b g (by omega) ht ha hb (by rw [← hge]; omega) hn]
    unfold Ui2
    have t1 := fun k0 => Us5 (R := R) n (a / g) (by omega) (by omega) k0
    have t2 := fun k0 => Us5 (R := R) n (b / g) (by omega) (by omega) k0
    simp only [t1, t2]
    have hf : Ual (mkRat (zs neg a) b) ↔ ((dec (a / g)).length ≤ 400 ∧ (dec (b / g)).length ≤ 400) := by
      unfold Ual
      rw [UmM neg a b hb0, UmL neg a b hb0, Uaz, hge, Ubp _ _ (by omega), Ubp _ _ (by omega)]
    have hr : Uag (mkRat (zs neg a) b) = (if neg then [45] else []) ++ dec (a / g) ++ if b / g = 1 then [] else 47 :: dec (b / g) := by
      unfold Uag
      rw [UmM neg a b hb0, UmL neg a b hb0, hge, Uhk neg hag]
    by_cases c1 : 400 < (dec (a / g)).length
    · rw [if_neg (by rw [hf]; omega)]
      simp (disch := (first | omega | (simp only [JlL]; omega))) only [↓JlO, JlM, JlN]
    by_cases c2 : 400 < (dec (b / g)).length
    · rw [if_neg (by rw [hf]; omega)]
      simp (disch := (first | omega | (simp only [JlL]; omega))) only [↓JlO, JlM, JlN]
    rw [if_pos (by rw [hf]; omega), hr]
    have e1 : (dec (b / g) == [49]) = decide (b / g = 1) := by
      rw [Bool.eq_iff_iff, beq_iff_eq, decide_eq_true_iff]
      constructor
      · intro e; exact Ucx (e.trans (Ua5 (by omega : 1 < 10)).symm)
      · intro e; rw [e, Ua5 (by omega)]; rfl
    simp only [Ukn, Uh2, Uh3]
    cases neg
    · by_cases c3 : b / g = 1
      · have e2 : (dec (b / g) == [49]) = true := by rw [e1]; simpa using c3
        rw [if_pos c3]
        simp (disch := (first | omega | (simp only [JlL]; omega))) only [↓JlO, JlM, JlN, e2]
        simp
      · have e2 : (dec (b / g) == [49]) = false := by rw [e1]; simpa using c3
        rw [if_neg c3]
        simp (disch := (first | omega | (simp only [JlL]; omega))) only [↓JlO, JlM, JlN, e2]
        simp
    · by_cases c3 : b / g = 1
      · have e2 : (dec (b / g) == [49]) = true := by rw [e1]; simpa using c3
        rw [if_pos c3]
        simp (disch := (first | omega | (simp only [JlL]; omega))) only [↓JlO, JlM, JlN, e2]
        simp
      · have e2 : (dec (b / g) == [49]) = false := by rw [e1]; simpa using c3
        rw [if_neg c3]
        simp (disch := (first | omega | (simp only [JlL]; omega))) only [↓JlO, JlM, JlN, e2]
        simp
  simp only [hg, hge, UuC]
  by_cases c : 1 < (toL 1000000000 g).length
  · have : 1000000000 ^ 1 ≤ g := UnD hB2 c
    simp (disch := (first | omega | (simp only [JlL]; omega))) only [↓JlO, JlM, JlN, e0, key true (fun h => by cases h)]
  · have hg1 : g < 1000000000 := by
      have := (Uah hB2 g 1).1 (by omega)
      rwa [Nat.pow_one] at this
    have hgl1 : (toL 1000000000 g).length = 1 := by rw [Ues hB2 (by omega) hg1]; rfl
    have hgi : ∀ (K : Int → Option R), Jjf .u32 ((NN g).getD (0 : Int).toNat (PV.v (Value.bool false))) K = K (g : Int) := fun K => by rw [UgN (by omega) hg1]; rfl
    have e3 : decide ((g : Int) > 1) = false → g = 1 := by intro h; simp at h; omega
    simp (disch := (first | omega | (simp only [JlL]; omega))) only [↓JlO, JlM, JlN, e0, hgi, hgl1]
    exact key _ e3
def UiJ (s : List UInt8) : Bool := !s.isEmpty && decide (s.length ≤ 400) && !(s.head? == some 48 && decide (1 < s.length)) && s.all isD
theorem UiS (c : UInt8) : ([48, 49, 50, 51, 52, 53, 54, 55, 56, 57] : List UInt8).contains c = isD c := by
  rw [Bool.eq_iff_iff, UaB]
  simp only [List.contains_eq_mem, List.mem_cons, List.not_mem_nil, or_false, decide_eq_true_eq, ← UInt8.toNat_inj]
  have e : ∀ k : Nat, k < 256 → (UInt8.ofNat k).toNat = k := fun k h => by rw [UInt8.toNat_ofNat']; omega
  show (c.toNat = 48 ∨ c.toNat = 49 ∨ c.toNat = 50 ∨ c.toNat = 51 ∨ c.toNat = 52 ∨ c.toNat = 53 ∨ c.toNat = 54 ∨ c.toNat = 55 ∨ c.toNat = 56 ∨ c.toNat = 57) ↔ _
  omega
theorem Uc1 {α : Type} (p : α → Bool) (l : List α) {x : α} (h : x ∈ l) : p x = true ∨ x ∈ l.dropWhile p := by
  induction l with
  | nil => cases h
  | cons a r ih =>
    rw [List.dropWhile_cons]
    by_cases ha : p a = true
    · rw [if_pos ha]
      rcases List.mem_cons.1 h with rfl | h
      · exact Or.inl ha
      · exact ih h
    · rw [if_neg ha]; exact Or.inr h
theorem Ug5 {α : Type} (p : α → Bool) (l : List α) : l.dropWhile p = [] ↔ ∀ x ∈ l, p x = true := by
  constructor
  · intro h x hx
    rcases Uc1 p l hx with h1 | h1
    · exact h1
    · rw [h] at h1; cases h1
  · intro h
    induction l with
    | nil => rfl
    | cons a r ih => rw [List.dropWhile_cons, if_pos (h a (List.mem_cons_self ..)), ih fun x hx => h x (List.mem_cons_of_mem _ hx)]
theorem UuA (s : List UInt8) : ((Lib.trimS s [48, 49, 50, 51, 52, 53, 54, 55, 56, 57]) == []) = s.all isD := by
  have hp : (([48, 49, 50, 51, 52, 53, 54, 55, 56, 57] : List UInt8).contains ·) = isD := funext UiS
  unfold Lib.trimS Lib.trimLeftS Lib.trimRightS
  rw [hp, Bool.eq_iff_iff, beq_iff_eq, Ug5, List.all_eq_true]
  constructor
  · intro h c hc
    rcases Uc1 isD s.reverse (List.mem_reverse.2 hc) with h1 | h1
    · exact h1
    · exact h c (List.mem_reverse.2 h1)
  · intro h c hc
    have : c ∈ s.reverse := (List.dropWhile_sublist _).subset (List.mem_reverse.1 hc)
    exact h c (List.mem_reverse.1 this)
theorem Uuz (s : List UInt8) : eqS (JkS (bs s) (bs [48, 49, 50, 51, 52, 53, 54, 55, 56, 57])) (bs []) = s.all isD := by
  rw [← UuA]; rfl
theorem Us8 (s : List UInt8) (h : s.length ≤ 400) : Jjp (bs s) (bs [48, 49, 50, 51, 52, 53, 54, 55, 56, 57]) = true := by
  unfold Jjp
  rw [Jd7, decide_eq_true (by omega)]; rfl
theorem Ux3 (c : UInt8) (r : List UInt8) : Jc9 (bs (c :: r)) 0 = (c.toNat : Int) := rfl
theorem Ux2 (c d : UInt8) : (((c.toNat : Nat) : Int) == ((d.toNat : Nat) : Int)) = (c == d) := JlK
theorem Ufp (n : Nat) (s : List UInt8) (hs : s.length < 2 ^ 40) (k0 : Bool → Option R) : p99 n (bs s) k0 = k0 (UiJ s) := by
  unfold p99
  cases s with
  | nil => rfl
  | cons c r =>
    have e0 : eqS (bs (c :: r)) (⟨#[]⟩ : ByteArray) = false := rfl
    rw [List.length_cons] at hs
    by_cases h4 : 400 < r.length + 1
    · have e1 : UiJ (c :: r) = false := by
        unfold UiJ
        rw [List.length_cons, decide_eq_false (by omega)]; simp
      have e0' : ((c :: r) == ([] : List UInt8)) = false := rfl
      simp (disch := (first | omega | (simp only [JlL]; omega))) only [↓JlO, JlM, JlN, e0, e1, List.length_cons, e0']
    have e0' : ((c :: r) == ([] : List UInt8)) = false := rfl
    have t1 := Us8 (c :: r) (by rw [List.length_cons]; omega)
    have t2 := Uuz (c :: r)
    by_cases hc : c = 48
    · subst hc
      have e2 : (Jc9 (bs (48 :: r)) 0 == 48) = true := rfl
      by_cases h5 : 1 < r.length + 1
      · have e1 : UiJ (48 :: r) = false := by
          unfold UiJ
          rw [List.length_cons, decide_eq_true h5]; simp
        simp (disch := (first | omega | (simp only [JlL]; omega))) only [↓JlO, JlM, JlN, e0, e1, e2, List.length_cons, e0']
      · have e1 : UiJ (48 :: r) = (48 :: r).all isD := by
          unfold UiJ
          rw [List.length_cons, decide_eq_false h5, decide_eq_true (by omega)]; simp
        simp (disch := (first | omega | (simp only [JlL]; omega))) only [↓JlO, JlM, JlN, e0, e1, e2, List.length_cons, e0', t1, t2]
    · have e2 : (Jc9 (bs (c :: r)) 0 == 48) = false := by
        rw [Ux3]
        have := Ux2 c 48
        rw [show ((48 : UInt8).toNat : Int) = 48 from rfl] at this
        rw [this]; simpa using hc
      have e1 : UiJ (c :: r) = (c :: r).all isD := by
        unfold UiJ
        rw [List.length_cons, decide_eq_true (by omega : r.length + 1 ≤ 400)]
        simp [hc]
      simp (disch := (first | omega | (simp only [JlL]; omega))) only [↓JlO, JlM, JlN, e0, e1, e2, List.length_cons, e0', t1, t2]
def UbZ (s : List UInt8) : Bool × List UInt8 := match s with
  | 45 :: r => (true, r)
  | s => (false, s)
theorem Ult (s : List UInt8) : (UbZ s).2.length ≤ s.length := by
  unfold UbZ; split <;> simp
theorem Ubh (c : UInt8) (r : List UInt8) : UbZ (c :: r) = if c = 45 then (true, r) else (false, c :: r) := by
  unfold UbZ
  by_cases h : c = 45
  · subst h; rfl
  · rw [if_neg h]
    split
    · rename_i e; injection e with e1 _; exact absurd e1 h
    · rfl
theorem UiT (n : Nat) (s : List UInt8) (hs : s.length < 2 ^ 40) (k0 : ByteArray → Bool → Option R) : UFr n (bs s) ⟨#[45]⟩ k0 = k0 (bs (UbZ s).2) (UbZ s).1 := by
  unfold UFr UHx UHz
  cases s with
  | nil => rfl
  | cons c r =>
    rw [List.length_cons] at hs
    have hz : ((⟨#[45]⟩ : ByteArray)).size = 1 := rfl
    have e1 : List.take (0 + 1) (c :: r) = [c] := rfl
    have e3 : List.drop (0 + 1) (c :: List.take r.length r) = r := by rw [List.take_length]; rfl
    have e2 : ([c] == [45]) = decide (c = 45) := by
      rw [Bool.eq_iff_iff]; simp
    rw [Ubh]
    by_cases hc : c = 45
    · rw [if_pos hc]
      simp (disch := (first | omega | (simp only [JlL]; omega))) only [↓JlO, JlM, JlN, hz, List.length_cons, e1, e2, List.length_nil, List.take_succ_cons, e3]
    · rw [if_neg hc]
      simp (disch := (first | omega | (simp only [JlL]; omega))) only [↓JlO, JlM, JlN, hz, List.length_cons, e1, e2, List.length_nil, List.take_succ_cons, e3]
def Ujn (s : List UInt8) : Bool := UiJ (UbZ s).2 && !((UbZ s).1 && (UbZ s).2 == [48])
theorem Udt (n : Nat) (s : List UInt8) (hs : s.length < 2 ^ 40) (k0 : Bool → ByteArray → Bool → Option R) : p97 n (bs s) k0 = k0 (UbZ s).1 (bs (UbZ s).2) (Ujn s) := by
  have hl := Ult s
  have h1 := fun k0 => UiT (R := R) n s hs k0
  have h2 := fun k0 => Ufp (R := R) n (UbZ s).2 (by omega) k0
  unfold p97
  simp only [h1, h2, Ujn]
  generalize (UbZ s).1 = neg
  generalize (UbZ s).2 = r
  cases UiJ r
  · rfl
  · cases neg
    · rfl
    · rfl
theorem Uly {a : Nat} (h : a < 10 ^ 400) : UiJ (dec a) = true := by
  have h1 := (Ubp a 400 (by omega)).2 h
  have h2 := Uo0 a
  have h3 := Ulu a
  unfold UiJ
  rw [decide_eq_true h1]
  have e1 : (dec a).isEmpty = false := by simpa using h2
  have e2 : (dec a).all isD = true := List.all_eq_true.2 (Ua4 a)
  have e3 : ((dec a).head? == some 48 && decide (1 < (dec a).length)) = false := by
    rcases h3 with h3 | h3
    · have : ((dec a).head? == some 48) = false := by simpa using h3
      rw [this]; rfl
    · rw [h3]; simp
  rw [e1, e2, e3]; rfl
theorem Ulz {s : List UInt8} (h : UiJ s = true) : ofD s < 10 ^ 400 ∧ s = dec (ofD s) := by
  unfold UiJ at h
  simp only [Bool.and_eq_true, Bool.not_eq_true', List.isEmpty_eq_false_iff, decide_eq_true_eq] at h
  obtain ⟨⟨⟨h1, h2⟩, h3⟩, h4⟩ := h
  have h4' : ∀ c ∈ s, isD c = true := List.all_eq_true.1 h4
  have e : dec (ofD s) = s := Uo1 h4' h1 (by
    by_cases h5 : s.head? = some 48
    · right
      rw [h5] at h3
      simp at h3
      have := List.length_pos_iff.2 h1
      omega
    · exact Or.inl h5)
  refine ⟨(Ubp (ofD s) 400 (by omega)).1 ?_, e.symm⟩
  rw [e]; exact h2
theorem Uty (a : Nat) : UbZ (dec a) = (false, dec a) := by
  have h := Ua4 a
  cases hd : dec a with
  | nil => rfl
  | cons c r =>
    rw [Ubh, if_neg]
    intro e
    rw [hd] at h
    have := h c (List.mem_cons_self ..)
    rw [e] at this
    exact absurd this (by decide)
theorem Uax (z : Int) : UbZ (Lib.itoa z) = (decide (z < 0), dec z.natAbs) := by
  unfold Lib.itoa
  by_cases h : z < 0
  · rw [if_pos h, decide_eq_true h]; rfl
  · rw [if_neg h, decide_eq_false h]
    have : z.toNat = z.natAbs := by omega
    rw [this]; exact Uty _
theorem Ufv {z : Int} (h : z.natAbs < 10 ^ 400) : Ujn (Lib.itoa z) = true := by
  unfold Ujn
  rw [Uax]
  simp only [Uly h, Bool.true_and]
  by_cases hz : z < 0
  · have : (dec z.natAbs == [48]) = false := by
      simp only [beq_eq_false_iff_ne, ne_eq]
      intro e
      have := Ucx (e.trans Uap.symm)
      omega
    rw [this]; simp
  · simp [hz]
theorem Udq (s : List UInt8) : s = (if (UbZ s).1 then [45] else []) ++ (UbZ s).2 := by
  cases s with
  | nil => rfl
  | cons c r =>
    rw [Ubh]
    by_cases h : c = 45
    · rw [if_pos h, h]; rfl
    · rw [if_neg h]; rfl
theorem UeJ {s : List UInt8} (h : Ujn s = true) : ∃ z : Int, z.natAbs < 10 ^ 400 ∧ s = Lib.itoa z := by
  unfold Ujn at h
  simp only [Bool.and_eq_true, Bool.not_eq_true'] at h
  obtain ⟨h1, h2⟩ := h
  obtain ⟨h3, h4⟩ := Ulz h1
  have h5 := Udq s
  refine ⟨zs (UbZ s).1 (ofD (UbZ s).2), by rw [Uaz]; exact h3, ?_⟩
  by_cases h0 : ofD (UbZ s).2 = 0
  · rw [h0] at h4
    have e : (UbZ s).1 = false := by
      rw [h4, Uap] at h2
      simpa using h2
    rw [h0, e]
    rw [e, h4] at h5
    rw [h5]
    exact (Ub0 0).symm
  · rw [Uhk _ h0, ← h4]; exact h5
theorem UcV (z w : Int) : Rat.divInt z w = mkRat (zs (!(decide (z < 0) == decide (w < 0))) z.natAbs) w.natAbs := by
  by_cases hw : w < 0
  · obtain ⟨b, rfl⟩ : ∃ b : Nat, w = -(b : Int) := ⟨w.natAbs, by omega⟩
    rw [Rat.divInt_neg', Rat.divInt_ofNat, Int.natAbs_neg, Int.natAbs_natCast]
    congr 1
    rw [decide_eq_true hw]
    by_cases hz : z < 0
    · simp [hz, zs]; omega
    · simp [hz, zs]; omega
  · obtain ⟨b, rfl⟩ : ∃ b : Nat, w = (b : Int) := ⟨w.natAbs, by omega⟩
    rw [Rat.divInt_ofNat, Int.natAbs_natCast]
    congr 1
    rw [decide_eq_false hw]
    by_cases hz : z < 0
    · simp [hz, zs]; omega
    · simp [hz, zs]; omega
theorem UaC {a : Nat} (h : a < 10 ^ 400) : (toL 1000000000 a).length ≤ 45 :=
  UMe (Nat.lt_of_lt_of_le h (by decide +kernel))
theorem Udr {a : Nat} (h : a < 10 ^ 400) : (dec a).length ≤ 400 := (Ubp a 400 (by omega)).2 h
theorem Uza {r d k : Nat} (h : ll r ≤ k) (hd : d < 10) : ll (10 * r + d) ≤ k + 1 := by
  rw [Udv] at *
  rw [Nat.pow_succ]; omega
theorem UoZ {a k : Nat} (h : ll a ≤ k) : (dec a).length ≤ k + 1 := by
  rw [Ubp _ _ (by omega), Nat.pow_succ]
  have := Udv.1 h
  omega
theorem UBs {a b : Nat} (h : b ≤ a) : 0 ≤ Ucv a b := by unfold Ucv; rw [if_neg (by omega)]; split <;> omega
theorem UBt {a b : Nat} (h : a < b) : Ucv a b = -1 := by unfold Ucv; rw [if_pos h]
theorem UsG (n b : Nat) (hb : 0 < b) (hbl : ll b ≤ 50000) (hn : 200000 ≤ n) (x1 : Bool) (x2 : List PV) (x3 x5 x6 : Bool) (x9 : List PV) (x10 : Int) (k0 : Bool → List PV → Bool → List PV → Bool → Bool → Bool → List PV → List PV → Int → Int → Option R) :
    ∀ (m r c : Nat), r / b < m → ll r ≤ 50002 → c + r / b < 2 ^ 40 → UbS n m x1 x2 x3 (II b) x5 x6 false (II r) x9 x10 c k0 = k0 x1 x2 x3 (II b) x5 x6 false (II (r % b)) x9 x10 ((c + r / b : Nat) : Int)
  | m + 1, r, c, hm, hr, hc => by
    have h1 := fun k0 => UsF (R := R) n r b (by omega) (by omega) (by omega) k0
    simp only [UbS, UfC, h1]
    by_cases h : b ≤ r
    · have hge := UBs h
      obtain ⟨l, q1, q2, q3, q4⟩ := Ufa (R := R) n r b (-1) (Or.inr rfl) (by omega) (by omega) (by omega) (by omega)
      have e2 : vb l = r - b := by omega
      have hm0 := fun k0 => UaD (R := R) n false l q2 (by omega) (by omega) k0
      rw [e2] at hm0
      have d1 := Nat.div_eq_sub_div hb h
      have d2 := Nat.mod_eq_sub_mod h
      have ih := UsG n b hb hbl hn x1 x2 x3 x5 x6 x9 x10 k0 m (r - b) (c + 1) (by omega) (Nat.le_trans (Ua7 (Nat.sub_le _ _)) hr) (by omega)
      have e3 : (c : Int) + 1 = ((c + 1 : Nat) : Int) := by omega
      have e4 : c + 1 + (r - b) / b = c + r / b := by omega
      rw [e4, ← d2] at ih
      have hc1 : c + 1 < 2 ^ 40 := by
        rw [d1] at hc
        clear d1 d2 e4 ih hm
        generalize (r - b) / b = p at *
        omega
      clear d1 d2 e4 hc hm q3
      simp (disch := (first | omega | (simp only [JlL]; omega))) only [↓JlO, JlM, JlN, q1, hm0, e3, ih]
    · rw [Nat.div_eq_of_lt (by omega), Nat.mod_eq_of_lt (by omega), UBt (by omega)]
      rfl
theorem Uj (n b : Nat) (hb : 0 < b) (hbl : ll b ≤ 50000) (hn : 200000 ≤ n) (x1 x3 x5 x6 : Bool) (la : List Nat) (hla : ∀ d ∈ la, d < 10) (hl : la.length ≤ 50000) :
    ∀ (d m i r : Nat) (lq : List Nat), d + i = la.length → d < m → r < b → lq.length = i → (∀ x ∈ lq, x < 10) → vb (la.take i) = vb lq * b + r →
      ∃ lq' : List Nat, (∀ k0 : Bool → List PV → Bool → List PV → Bool → Bool → Bool → List PV → List PV → Option R, Ubw n m x1 (nl .i64 la) x3 (II b) x5 x6 false (II r) (nl .i64 lq) i k0 = k0 x1 (nl .i64 la) x3 (II b) x5 x6 false (II (vb la % b)) (nl .i64 lq')) ∧ (∀ x ∈ lq', x < 10) ∧ lq'.length = la.length ∧ vb lq' = vb la / b
  | 0, m + 1, i, r, lq, hd, hm, hr, hq, hqd, hv => by
    rw [List.take_of_length_le (by omega)] at hv
    have e1 : vb la % b = r := by rw [hv, Nat.mul_comm, Nat.mul_add_mod, Nat.mod_eq_of_lt hr]
    have e2 : vb la / b = vb lq := by rw [hv, Nat.mul_comm, Nat.mul_add_div hb, Nat.div_eq_of_lt hr, Nat.add_zero]
    refine ⟨lq, fun k0 => ?_, hqd, by omega, e2.symm⟩
    rw [e1]
    simp only [Ubw, Ue1]
    simp (disch := (first | omega | (simp only [JlL]; omega))) only [↓JlO, JlM, JlN]
  | d + 1, m + 1, i, r, lq, hd, hm, hr, hq, hqd, hv => by
    have hai := Uac hT2 hla i
    have hrl : ll r ≤ 50000 := Nat.le_trans (Ua7 (Nat.le_of_lt hr)) hbl
    obtain ⟨s, hs⟩ : ∃ s, s = 10 * r + la.getD i 0 := ⟨_, rfl⟩
    have hsq : s / b < 10 := Nat.div_lt_of_lt_mul (by rw [Nat.mul_comm]; omega)
    have hsm : s % b < b := Nat.mod_lt _ hb
    have hsl : ll s ≤ 50002 := by
      rw [hs]; exact Nat.le_trans (Uza hrl hai) (by omega)
    have hdm := Nat.div_add_mod s b
    have hmk := fun k0 => UaD (R := R) n false (DL r ++ [la.getD i 0]) (by
      intro x hx
      rcases List.mem_append.1 hx with h | h
      · exact Uey r x h
      · rw [List.mem_singleton.1 h]; exact hai) (by rw [List.length_append, Uaa, List.length_singleton]; omega) (by rw [List.length_append, Uaa, List.length_singleton]; omega) k0
    rw [Uk1, UfS, ← hs] at hmk
    obtain ⟨lq', q1, q2⟩ := Uj n b hb hbl hn x1 x3 x5 x6 la hla hl d m (i + 1) (s % b) (lq ++ [s / b]) (by omega) (by omega) hsm (by rw [List.length_append, hq]; rfl) (by
      intro x hx
      rcases List.mem_append.1 hx with h | h
      · exact hqd x h
      · rw [List.mem_singleton.1 h]; exact hsq) (by
      rw [UbX (by omega : i < la.length), Uk1, hv]
      generalize s / b = q at *
      generalize s % b = t at *
      generalize la.getD i 0 = x at *
      clear hmk
      grind)
    have h2 := fun k0 => UsG (R := R) n b hb hbl hn x1 (nl .i64 la) x3 x5 x6 (nl .i64 lq) i k0 n s 0 (by omega) hsl (by omega)
    rw [Nat.zero_add, show ((0 : Nat) : Int) = 0 from rfl] at h2
    refine ⟨lq', fun k0 => ?_, q2⟩
    rw [← q1 k0]
    have w1 : (i : Int) + 1 = ((i + 1 : Nat) : Int) := by omega
    have w2 : II r ++ nl .i64 [la.getD i 0] = nl .i64 (DL r ++ [la.getD i 0]) := by unfold II; rw [Jji]
    have w3 : JgD 1 (II r) = true := Jhs _ _
    simp only [Ubw, Ue1, UmT]
    simp (disch := (first | omega | (simp only [JlL]; omega))) only [↓JlO, JlM, JlN, w1, w3, Uau, Jlu, w2, hmk, h2]
theorem UtG (n : Nat) (hn : 200000 ≤ n) (k0 : Bool → List PV → Option R) : UHy n 1 k0 = k0 false (II 1) := by
  obtain ⟨m, rfl⟩ : ∃ m, n = m + 2 := ⟨n - 2, by omega⟩
  have h := fun k0 => UaD (R := R) (m + 2) false [1] (by simp) (by simp) (by simp) k0
  have e : vb [1] = 1 := rfl
  rw [e] at h
  exact h k0
theorem UbV (a : Nat) : sg (a : Int) = false := by simp [sg]
theorem UER (neg : Bool) (a : Nat) : sg (zs neg a) = (neg && !(a == 0)) := by
  cases neg
  · simp [zs, sg]
  · rw [Bool.eq_iff_iff]; simp [zs, sg]; omega
theorem UAm (n : Nat) (x : Int) (b : Nat) (hb : 0 < b) (hx : ll x.natAbs ≤ 20000) (hbl : ll b ≤ 20000) (hn : 200000 ≤ n) (k0 : Bool → List PV → Bool → List PV → Option R) :
    Uzk n (sg x) (II x.natAbs) false (II b) k0 = k0 (sg (x / b)) (II (x / b).natAbs) (sg (x % b)) (II (x % b).natAbs) := by
  have hmod : x.natAbs % b < b := Nat.mod_lt _ hb
  have hdm := Nat.div_add_mod x.natAbs b
  obtain ⟨q, hq⟩ : ∃ q, q = x.natAbs / b := ⟨_, rfl⟩
  have hql : ll q ≤ 20000 := Nat.le_trans (Ua7 (by rw [hq]; exact Nat.div_le_self _ _)) hx
  have fin : ∀ z : Int, ll z.natAbs ≤ 20001 → z = x / b → Uca n (sg x) (II x.natAbs) false (II b) false false (sg z) (II z.natAbs) k0 = k0 (sg (x / b)) (II (x / b).natAbs) (sg (x % b)) (II (x % b).natAbs) := by
    intro z hz hzx
    have m1 := fun k0 => Ud1 (R := R) n z (b : Int) (by omega) (by rw [Int.natAbs_natCast]; omega) hn k0
    rw [UbV, Int.natAbs_natCast] at m1
    have hzb : ll (z * (b : Int)).natAbs ≤ 50000 := by
      rw [Int.natAbs_mul, Int.natAbs_natCast]
      exact Nat.le_trans (UmJ _ _) (by omega)
    have m2 := fun k0 => Uku (R := R) n x (z * (b : Int)) (by omega) hzb hn k0
    unfold Uca
    simp only [m1, m2]
    rw [Int.emod_def, ← hzx, Int.mul_comm]
  obtain ⟨lq, l1, l2, l3, l4⟩ := Uj (R := R) n b hb (by omega) hn (sg x) false false false (DL x.natAbs) (Uey _) (by rw [Uaa]; omega) (ll x.natAbs) n 0 0 [] (by rw [Uaa]; omega) (by omega) hb rfl (by intro d h; cases h) (by simp [Unb])
  rw [UfS] at l1 l4
  rw [Uaa] at l3
  rw [← hq] at l4 hdm
  have hmk := fun k0 => UaD (R := R) n (!(sg x == false)) lq l2 (by omega) (by omega) k0
  have e1 : (!(sg x == false)) = sg x := by cases sg x <;> rfl
  rw [e1, l4, ← UER, ← Uaz (sg x) q] at hmk
  rw [Uaz] at hmk
  unfold Uzk Usf
  have l1' : ∀ k0 : Bool → List PV → Bool → List PV → Bool → Bool → Bool → List PV → List PV → Option R, Ubw n n (sg x) (II x.natAbs) false (II b) false false false [] [] 0 k0 = k0 (sg x) (II x.natAbs) false (II b) false false false (II (x.natAbs % b)) (nl .i64 lq) := by
    intro k0
    have h := l1 k0
    rw [show ((0 : Nat) : Int) = 0 from rfl, Jlt, UnG] at h
    exact h
  rw [l1']
  rw [e1, hmk, Uau]
  obtain ⟨z0, hz0⟩ : ∃ z0, z0 = zs (sg x) q := ⟨_, rfl⟩
  have hz0n : z0.natAbs = q := by rw [hz0, Uaz]
  rw [← hz0]
  by_cases hr : x.natAbs % b = 0
  · have e2 : ll (x.natAbs % b) = 0 := by rw [hr, Ubs]
    have hz : z0 = x / b := by
      symm
      have := (Int.ediv_emod_unique (a := x) (b := (b : Int)) (r := 0) (q := z0) (by omega)).2 ⟨by
        rw [hr, Nat.add_zero] at hdm
        have hc : (b : Int) * (q : Int) = (x.natAbs : Int) := by rw [← hdm]; push_cast; rfl
        rw [hz0]; unfold zs sg
        by_cases hx0 : x < 0
        · rw [if_pos (by simpa using hx0), Int.mul_neg, hc]; omega
        · rw [if_neg (by simpa using hx0), hc]; omega, by omega, by omega⟩
      exact this.1
    have f := fin z0 (by rw [hz0n]; omega) hz
    rw [hz0n] at f
    simp (disch := (first | omega | (simp only [JlL]; omega))) only [↓JlO, JlM, JlN, e2, f]
  · have e2 : 0 < ll (x.natAbs % b) := by
      have : ll (x.natAbs % b) ≠ 0 := fun h => hr (Uct.1 h)
      omega
    by_cases hx0 : x < 0
    · have e3 : sg x = true := by simpa [sg] using hx0
      have hz : z0 - 1 = x / b := by
        symm
        have := (Int.ediv_emod_unique (a := x) (b := (b : Int)) (r := (b : Int) - (x.natAbs % b : Nat)) (q := z0 - 1) (by omega)).2 ⟨by
          have hc : (b : Int) * (q : Int) + ((x.natAbs % b : Nat) : Int) = (x.natAbs : Int) := by
            have := congrArg (fun k : Nat => (k : Int)) hdm
            push_cast at this ⊢
            exact this
          rw [hz0]; unfold zs
          rw [if_pos e3, Int.mul_sub, Int.mul_neg]; omega, by omega, by omega⟩
        exact this.1
      have s1 := fun k0 => Uku (R := R) n z0 ((1 : Nat) : Int) (by rw [hz0n]; omega) (by rw [Int.natAbs_natCast]; unfold ll; rw [UfR (by omega) (by omega)]; decide) hn k0
      rw [UbV, Int.natAbs_natCast, hz0n] at s1
      have f := fin (z0 - 1) (by
        have : (z0 - 1).natAbs ≤ q + 1 := by omega
        exact Nat.le_trans (Ua7 this) (Uv3 hql (by unfold ll; rw [UfR (by omega) (by omega)]; decide))) hz
      have f1 := fun k0 => UtG (R := R) n hn k0
      rw [e3] at f ⊢
      have e4 : (sg z0 : Bool) = decide (z0 < 0) := rfl
      have s1' : ∀ k0 : Bool → List PV → Option R, Uzj n (sg z0) (II q) false (II 1) k0 = k0 (sg (z0 - 1)) (II (z0 - 1).natAbs) := s1
      generalize sg z0 = g0 at *
      generalize sg (z0 - 1) = g1 at *
      simp (disch := (first | omega | (simp only [JlL]; omega))) only [↓JlO, JlM, JlN, e2, f1, s1', f]
    · have e3 : sg x = false := by simpa [sg] using hx0
      have hz : z0 = x / b := by
        symm
        have := (Int.ediv_emod_unique (a := x) (b := (b : Int)) (r := (x.natAbs % b : Nat)) (q := z0) (by omega)).2 ⟨by
          have hc : (b : Int) * (q : Int) + ((x.natAbs % b : Nat) : Int) = (x.natAbs : Int) := by
            have := congrArg (fun k : Nat => (k : Int)) hdm
            push_cast at this ⊢
            exact this
          rw [hz0]; unfold zs
          rw [if_neg (by rw [e3]; simp)]; omega, by omega, by omega⟩
        exact this.1
      have f := fin z0 (by rw [hz0n]; omega) hz
      rw [hz0n] at f
      rw [e3] at f ⊢
      generalize sg z0 = g0 at *
      simp (disch := (first | omega | (simp only [JlL]; omega))) only [↓JlO, JlM, JlN, e2, f]
end Go.Proofs.YtmgfmlhdnadglaaGreatDoor
set_option linter.unusedVariables false
set_option maxRecDepth 100000
namespace Go.Proofs.YtmgfmlhdnadglaaGreatDoor
open Go Th Go.Proofs
noncomputable section
variable {R : Type}
def Ubg : Ann := { loops := [(8, ids [0, 3], ids [2])], cuts := [(5, ids [0], ids [2]), (7, ids [0], ids [2])], frz := [], rm := [.id] }
abbrev Upj (n : Nat) : Env := eN
theorem Ul4 (n : Nat) : EnvOK Tryz.prog GI (Upj n) := .nil
def UeZ (n : Nat) (l0 : ByteArray → Int → O R) (x1 : ByteArray) (x2 : Int) (k0 : Bool → O R) (k1 : O R) : O R :=
  bif (decide (x2 < ((x1).size : Int))) then (bif (inR x2 (x1).size) then (bif (decide (Jc9 x1 x2 < 48)) then (k0 false) else (bif (inR x2 (x1).size) then (bif (bif false then true else (decide (Jc9 x1 x2 > 57))) then (k0 false) else (l0 x1 (IntKind.i64.wrap (x2 + 1)))) else none)) else none) else (k1)
def Ub9 (n : Nat) : Nat → ByteArray → Int → (Bool → O R) → (O R) → O R
  | 0, _, _, _, _ => none
  | m + 1, x1, x2, k0, k1 => UeZ n (fun x1 x2 => Ub9 n m x1 x2 k0 k1) x1 x2 k0 k1
def Usb (n : Nat) (x1 : ByteArray) (x2 : Int) (k0 : Bool → O R) (k1 : O R) : O R := Ub9 n n x1 x2 k0 k1
def Ukd (n : Nat) (x1 : ByteArray) (k0 : Bool → O R) : O R :=
  Usb n x1 0 (fun y2 => k0 y2) (k0 true)
def Udx (n : Nat) (x1 : ByteArray) (k0 : Bool → O R) : O R :=
  bif (decide (((x1).size : Int) < 1)) then (k0 false) else (bif (bif false then true else (decide (((x1).size : Int) > 400))) then (k0 false) else (bif (inR 0 (x1).size) then (bif (bif false then true else (Jc9 x1 0 == 48)) then (k0 false) else (Ukd n x1 (fun y2 => k0 y2))) else none))
def UDt (n : Nat) (x1 : ByteArray) (k0 : Bool → O R) : O R :=
  bif (eqS x1 (⟨#[48]⟩ : ByteArray)) then (k0 true) else (bif (decide (((x1).size : Int) > 0)) then (bif (inR 0 (x1).size) then (bif (bif true then (Jc9 x1 0 == 45) else false) then (bif (Jfa 1 ((x1).size : Int) (x1).size) then (Udx n (ByteArray.extract x1 (1 : Int).toNat (((x1).size : Int) : Int).toNat) (fun y2 => k0 y2)) else none) else (Udx n x1 (fun y3 => k0 y3))) else none) else (Udx n x1 (fun y4 => k0 y4)))
abbrev UFx (n : Nat) : Code → Fr → Kc R → O R := evC Tryz.prog (Upj n) Ubg n (45, [])
noncomputable def Uop : Code := Jk (Jls Tryz.f136) [1, 1, 1]
abbrev UkH : Sl (List SV) := (cS .n)
abbrev UqQ (n : Nat) (K : Kc R) : UkH.T (O R) := fun x1 => Udx n x1 (fun y1 => xC Ubg 5 K .ret [vB y1])
noncomputable def Uoq : Code := Jk (Jls Tryz.f136) [1, 1, 1, 1]
abbrev UkI : Sl (List SV) := (cS .n)
abbrev UqR (n : Nat) (K : Kc R) : UkI.T (O R) := fun x1 => Ukd n x1 (fun y1 => xC Ubg 7 K .ret [vB y1])
noncomputable def Uor : Code := Jk (Jls Tryz.f136) [1, 1, 1, 1, 0, 1, 0, 0]
abbrev Uef : Sl (List SV) := (cS (cI .n))
abbrev UjT (n m : Nat) (K : Kc R) : Uef.T (O R) := fun x1 x2 => Ub9 n m x1 x2 (fun y1 => xL Ubg 8 K .ret [vB y1]) (xL Ubg 8 K (.exit 0) [dD])
abbrev UxI (n : Nat) (K : Kc R) (l0 : Uef.T (O R)) : Uef.T (O R) := fun x1 x2 => UeZ n l0 x1 x2 (fun y1 => xL Ubg 8 K .ret [vB y1]) (xL Ubg 8 K (.exit 0) [dD])
abbrev UtK (n : Nat) : Orc R := oL Ubg (UFx n) n 8 Uor Uef (UjT n n) oN
abbrev Utw (n : Nat) : Orc R := oC Ubg (UFx n) 7 Uoq UkI (UqR n) (oC Ubg (UFx n) 5 Uop UkH (UqQ n) oN)
abbrev UEW (R : Type) (n : Nat) := JcK (R := R) Tryz.prog (Upj n) Ubg n (45, []) (UtK n) (Utw n)
theorem UzS (n : Nat) : UEW R n (false, 8, Uor) := JkM (lo := UtK n) (cu := Utw n) (pO pN (by kernel_rfl)) Uef (UjT n n) (JiK (F := UjT n) Uef (UxI n) (fun K _ _ => rfl) (fun _ _ => rfl) (fun L K _ _ => by show _ = _; kernel_rfl) n) fun _ _ => rfl
theorem UzR (n : Nat) : UEW R n (true, 7, Uoq) := Jk3 (lo := UtK n) (cu := Utw n) (pO (pC (UzS n) pN) (by kernel_rfl)) UkI (UqR n) (fun K _ => by show _ = _; kernel_rfl) fun _ _ => rfl
theorem UzQ (n : Nat) : UEW R n (true, 5, Uop) := Jk3 (lo := UtK n) (cu := Utw n) (pO (pC (UzR n) pN) (by kernel_rfl)) UkH (UqQ n) (fun K _ => by show _ = _; kernel_rfl) fun _ _ => rfl
theorem UH1 (n : Nat) : Jfb (UEW R n) (JaJ Ubg (Jls Tryz.f136)) := pO (pC (UzQ n) pN) (by kernel_rfl)
abbrev UIH : Sl (List SV) := (cS .n)
abbrev f136 (n : Nat) (K : List SV → O R) : UIH.T (O R) := fun x1 => UDt n x1 (fun y1 => K [vB y1])
abbrev UCL (n : Nat) : FS := fT [false] UIH (f136 n)
theorem UG7 (n : Nat) : FSound Tryz.prog GI 136 (UCL n) := gd Ubg n (Ul4 n) Tryz.func136 (.cons (Ul4 n) UIH (f136 n) (fun K _ => (Jkx (c := Jls Tryz.f136) (by kernel_rfl) (UH1 n) K).trans (by kernel_rfl)) .nil) (by kernel_rfl)
def UnM : Ann := { loops := [], cuts := [], frz := [], rm := [.id] }
abbrev Uvs (n : Nat) : Env := eN
theorem UlM (n : Nat) : EnvOK Tryz.prog GI (Uvs n) := .nil
def UtT (n : Nat)  (k0 : Bool → LP → O R) : O R :=
  k0 false ([.v (.int .i64 1)] : LP)
abbrev UGu (n : Nat) : Orc R := oN
abbrev UFK (n : Nat) : Orc R := oN
abbrev ULm (R : Type) (n : Nat) := JcK (R := R) Tryz.prog (Uvs n) UnM n (3, []) (UGu n) (UFK n)
theorem UHJ (n : Nat) : Jfb (ULm R n) (JaJ UnM (Jls Tryz.f110)) := pO pN (by kernel_rfl)
abbrev UIp : Sl (List SV) := .n
abbrev f110 (n : Nat) (K : List SV → O R) : UIp.T (O R) := UtT n  (fun y1 y2 => K [.p (.agg [.v (.bool y1), .sh y2])])
abbrev UrD (n : Nat) : FS := fT [] UIp (f110 n)
theorem UtQ (n : Nat) : FSound Tryz.prog GI 110 (UrD n) := gd UnM n (UlM n) Tryz.func110 (.cons (UlM n) UIp (f110 n) (fun K => (Jkx (c := Jls Tryz.f110) (by kernel_rfl) (UHJ n) K).trans (by kernel_rfl)) .nil) (by kernel_rfl)
def Uxe : Ann := { loops := [], cuts := [], frz := [], rm := [.id] }
abbrev UB5 (n : Nat) : Env := eC 112 (UCz n) (eC 110 (UrD n) (eC 88 (UKm n) eN))
theorem Uqh (n : Nat) : EnvOK Tryz.prog GI (UB5 n) := .cons (.cons (.cons (.nil) (UNu n)) (UtQ n)) (UGV n)
def p73 (n : Nat) (x1 : Bool) (x2 : LP) (x3 : Bool) (x4 : LP) (k0 : ByteArray → O R) : O R :=
  UtT n (fun y5 y6 => p88 n x3 x4 y5 y6 (fun y7 => bif (y7 == 0) then (UAK n x1 x2 (fun y8 => k0 y8)) else (UAK n x1 x2 (fun y9 => Jj6 y9 (⟨#[47]⟩ : ByteArray) fun s10 => UAK n x3 x4 (fun y11 => Jj6 s10 y11 fun s12 => k0 s12)))))
abbrev UME (n : Nat) : Orc R := oN
abbrev ULY (n : Nat) : Orc R := oN
abbrev K73 (R : Type) (n : Nat) := JcK (R := R) Tryz.prog (UB5 n) Uxe n (19, []) (UME n) (ULY n)
theorem UOo (n : Nat) : Jfb (K73 R n) (JaJ Uxe (Jls Tryz.f73)) := pO pN (by kernel_rfl)
abbrev t73 : Sl (List SV) := (.c (sP (JlP (.c Jlm (.c sSh (.c Jlm (.c sSh .n)))))) .n)
abbrev f73 (n : Nat) (K : List SV → O R) : t73.T (O R) := fun x1 x2 x3 x4 => p73 n x1 x2 x3 x4 (fun y1 => K [vS y1])
abbrev UGh (n : Nat) : FS := fT [false] t73 (f73 n)
theorem UKX (n : Nat) : FSound Tryz.prog GI 73 (UGh n) := gd Uxe n (Uqh n) Tryz.func73 (.cons (Uqh n) t73 (f73 n) (fun K _ _ _ _ => (Jkx (c := Jls Tryz.f73) (by kernel_rfl) (UOo n) K).trans (by kernel_rfl)) .nil) (by kernel_rfl)
def Uxh : Ann := { loops := [], cuts := [], frz := [], rm := [.id] }
abbrev UB8 (n : Nat) : Env := eN
theorem Uql (n : Nat) : EnvOK Tryz.prog GI (UB8 n) := .nil
def p77 (n : Nat) (x1 : Bool) (x2 : LP) (k0 : Bool → O R) : O R :=
  k0 (((x2).length : Int) == 0)
abbrev UMH (n : Nat) : Orc R := oN
abbrev UL1 (n : Nat) : Orc R := oN
abbrev K77 (R : Type) (n : Nat) := JcK (R := R) Tryz.prog (UB8 n) Uxh n (7, []) (UMH n) (UL1 n)
theorem UOs (n : Nat) : Jfb (K77 R n) (JaJ Uxh (Jls Tryz.f77)) := pO pN (by kernel_rfl)
abbrev t77 : Sl (List SV) := (.c (sP (JlP (.c Jlm (.c sSh .n)))) .n)
abbrev f77 (n : Nat) (K : List SV → O R) : t77.T (O R) := fun x1 x2 => p77 n x1 x2 (fun y1 => K [vB y1])
abbrev UC1 (n : Nat) : FS := fT [false] t77 (f77 n)
theorem UFl (n : Nat) : FSound Tryz.prog GI 77 (UC1 n) := gd Uxh n (Uql n) Tryz.func77 (.cons (Uql n) t77 (f77 n) (fun K _ _ => (Jkx (c := Jls Tryz.f77) (by kernel_rfl) (UOs n) K).trans (by kernel_rfl)) .nil) (by kernel_rfl)
def UnU : Ann := { loops := [], cuts := [], frz := [], rm := [.id] }
abbrev UvA (n : Nat) : Env := eN
theorem Ul7 (n : Nat) : EnvOK Tryz.prog GI (UvA n) := .nil
def UFt (n : Nat) (x1 : Bool) (x2 : LP) (k0 : Bool → LP → O R) : O R :=
  k0 false x2
abbrev UGD (n : Nat) : Orc R := oN
abbrev UFT (n : Nat) : Orc R := oN
abbrev ULu (R : Type) (n : Nat) := JcK (R := R) Tryz.prog (UvA n) UnU n (6, []) (UGD n) (UFT n)
theorem UH4 (n : Nat) : Jfb (ULu R n) (JaJ UnU (Jls Tryz.f144)) := pO pN (by kernel_rfl)
abbrev UIK : Sl (List SV) := (.c (sP (JlP (.c Jlm (.c sSh .n)))) .n)
abbrev f144 (n : Nat) (K : List SV → O R) : UIK.T (O R) := fun x1 x2 => UFt n x1 x2 (fun y1 y2 => K [.p (.agg [.v (.bool y1), .sh y2])])
abbrev UCS (n : Nat) : FS := fT [false] UIK (f144 n)
theorem UHd (n : Nat) : FSound Tryz.prog GI 144 (UCS n) := gd UnU n (Ul7 n) Tryz.func144 (.cons (Ul7 n) UIK (f144 n) (fun K _ _ => (Jkx (c := Jls Tryz.f144) (by kernel_rfl) (UH4 n) K).trans (by kernel_rfl)) .nil) (by kernel_rfl)
def Uev : Ann := { loops := [], cuts := [(5, ids [2, 3, 4], ids [4]), (10, ids [4, 6, 8], ids [4])], frz := [], rm := [.id] }
abbrev Upg (n : Nat) : Env := eC 145 (UyZ n) (eC 144 (UCS n) (eC 143 (UCR n) (eC 110 (UrD n) (eC 90 (UGk n) (eC 77 (UC1 n) eN)))))
theorem UlX (n : Nat) : EnvOK Tryz.prog GI (Upg n) := .cons (.cons (.cons (.cons (.cons (.cons (.nil) (UFl n)) (UK0 n)) (UtQ n)) (UHc n)) (UHd n)) (UDj n)
def UeX (n : Nat) (x1 x2 x3 : Bool) (x4 : LP) (x5 : Bool) (x6 : LP) (k0 : Bool → LP → Bool → LP → O R) : O R :=
  k0 x3 x4 x5 x6
def UfA (n : Nat) (x1 : Bool) (x2 : LP) (x3 : Bool) (x4 : LP) (x5 x6 : Bool) (k0 : Bool → LP → Bool → LP → O R) : O R :=
  UFt n x1 x2 (fun y7 y8 => UFs n y7 y8 x3 x4 (fun y9 y10 => UFt n x1 x2 (fun y11 y12 => Uzk n y11 y12 y9 y10 (fun y13 y14 y15 y16 => Uzk n x3 x4 y9 y10 (fun y17 y18 y19 y20 => bif x1 then (p90 n y13 y14 (fun y21 y22 => UeX n x5 x6 y21 y22 y17 y18 (fun y23 y24 y25 y26 => k0 y23 y24 y25 y26))) else (UeX n x5 x6 y13 y14 y17 y18 (fun y27 y28 y29 y30 => k0 y27 y28 y29 y30)))))))
def Uwb (n : Nat) (x1 : Bool) (x2 : LP) (x3 : Bool) (x4 : LP) (k0 : Bool → LP → Bool → LP → O R) : O R :=
  p77 n x1 x2 (fun y5 => bif y5 then (UtT n (fun y6 y7 => k0 x1 x2 y6 y7)) else (bif x3 then (p90 n x1 x2 (fun y8 y9 => p90 n x3 x4 (fun y10 y11 => UfA n y8 y9 y10 y11 false false (fun y12 y13 y14 y15 => k0 y12 y13 y14 y15)))) else (UfA n x1 x2 x3 x4 false false (fun y16 y17 y18 y19 => k0 y16 y17 y18 y19))))
abbrev UI4 (n : Nat) : Code → Fr → Kc R → O R := evC Tryz.prog (Upg n) Uev n (45, [])
noncomputable def Uol : Code := Jk (Jls Tryz.f123) [1, 1, 1]
abbrev UkF : Sl (List SV) := (.c (sBx 55 (cB (cH .n))) (.c (sBx 55 (cB (cH .n))) (.c (sBx 57 (cB (.c sNl (cB (.c sNl .n))))) .n)))
abbrev UqO (n : Nat) (K : Kc R) : UkF.T (O R) := fun x1 x2 x3 x4 x5 x6 => UfA n x1 x2 x3 x4 x5 x6 (fun y1 y2 y3 y4 => xC Uev 5 K .ret [.bx 57 [vB y1, vH y2, vB y3, vH y4]])
noncomputable def Ull : Code := Jk (Jls Tryz.f123) [1, 1, 1, 1, 1, 1, 1]
abbrev Uiw : Sl (List SV) := (.c (sBx 57 (cB (.c sNl (cB (.c sNl .n))))) (.c (sBx 55 (cB (cH .n))) (.c (sBx 55 (cB (cH .n))) .n)))
abbrev Umt (n : Nat) (K : Kc R) : Uiw.T (O R) := fun x1 x2 x3 x4 x5 x6 => UeX n x1 x2 x3 x4 x5 x6 (fun y1 y2 y3 y4 => xC Uev 10 K .ret [.bx 57 [vB y1, vH y2, vB y3, vH y4]])
abbrev Uzc (n : Nat) : Orc R := oN
abbrev Ux9 (n : Nat) : Orc R := oC Uev (UI4 n) 10 Ull Uiw (Umt n) (oC Uev (UI4 n) 5 Uol UkF (UqO n) oN)
abbrev UFA (R : Type) (n : Nat) := JcK (R := R) Tryz.prog (Upg n) Uev n (45, []) (Uzc n) (Ux9 n)
theorem Uuh (n : Nat) : UFA R n (true, 10, Ull) := Jk3 (lo := Uzc n) (cu := Ux9 n) (pO pN (by kernel_rfl)) Uiw (Umt n) (fun K _ _ _ _ _ _ => by show _ = _; kernel_rfl) fun _ _ => rfl
theorem UzM (n : Nat) : UFA R n (true, 5, Uol) := Jk3 (lo := Uzc n) (cu := Ux9 n) (pO (pC (Uuh n) pN) (by kernel_rfl)) UkF (UqO n) (fun K _ _ _ _ _ _ => by show _ = _; kernel_rfl) fun _ _ => rfl
theorem UHU (n : Nat) : Jfb (UFA R n) (JaJ Uev (Jls Tryz.f123)) := pO (pC (UzM n) pN) (by kernel_rfl)
abbrev UIA : Sl (List SV) := (.c (sP (JlP (.c Jlm (.c sSh .n)))) (.c (sP (JlP (.c Jlm (.c sSh .n)))) .n))
abbrev f123 (n : Nat) (K : List SV → O R) : UIA.T (O R) := fun x1 x2 x3 x4 => Uwb n x1 x2 x3 x4 (fun y1 y2 y3 y4 => K [.p (.agg [.v (.bool y1), .sh y2, .v (.bool y3), .sh y4])])
abbrev UrE (n : Nat) : FS := fT [false, false] UIA (f123 n)
theorem UtR (n : Nat) : FSound Tryz.prog GI 123 (UrE n) := gd Uev n (UlX n) Tryz.func123 (.cons (UlX n) UIA (f123 n) (fun K _ _ _ _ => (Jkx (c := Jls Tryz.f123) (by kernel_rfl) (UHU n) K).trans (by kernel_rfl)) .nil) (by kernel_rfl)
end
end Go.Proofs.YtmgfmlhdnadglaaGreatDoor
set_option linter.unusedVariables false
set_option linter.unusedSimpArgs false
namespace Go.Proofs.YtmgfmlhdnadglaaGreatDoor
open Go Th Go.Proofs
variable {R : Type}
theorem Uib (n a b : Nat) (hb : 0 < b) (ha : ll a ≤ 20000) (hbl : ll b ≤ 20000) (hn : 200000 ≤ n) (k0 : Bool → List PV → Bool → List PV → Option R) :
    Uzk n false (II a) false (II b) k0 = k0 false (II (a / b)) false (II (a % b)) := by
  have h := UAm (R := R) n (a : Int) b hb (by rw [Int.natAbs_natCast]; exact ha) hbl hn k0
  have e1 : (a : Int) / (b : Int) = ((a / b : Nat) : Int) := rfl
  have e2 : (a : Int) % (b : Int) = ((a % b : Nat) : Int) := rfl
  rw [e1, e2, UbV, UbV, UbV, Int.natAbs_natCast, Int.natAbs_natCast, Int.natAbs_natCast] at h
  exact h
theorem Uja (n : Nat) (hn : 200000 ≤ n) (x5 : Bool) (k0 : Bool → List PV → Bool → Option R) : ∀ (m a b : Nat), b < m → ll a ≤ 20000 → ll b ≤ 20000 → Udc n m false (II a) false (II b) x5 k0 = k0 false (II (Nat.gcd b a)) x5
  | m + 1, a, b, hm, ha, hb => by
    simp only [Udc, Uhy]
    by_cases h0 : b = 0
    · subst h0
      simp (disch := (first | omega | (simp only [JlL]; omega))) only [↓JlO, JlM, JlN, Uau, Ubs, Nat.gcd_zero_left]
    · have hl : 0 < ll b := by
        have : ll b ≠ 0 := fun e => h0 (Uct.1 e)
        omega
      have hd := fun k0 => Uib (R := R) n a b (by omega) ha hb hn k0
      have hlt : a % b < b := Nat.mod_lt _ (by omega)
      have ih := Uja n hn x5 k0 m b (a % b) (by omega) hb (Nat.le_trans (Ua7 (Nat.le_of_lt hlt)) hb)
      simp (disch := (first | omega | (simp only [JlL]; omega))) only [↓JlO, JlM, JlN, Uau, hd]
      rw [ih, ← Nat.gcd_rec]
theorem UAp (n a b : Nat) (hbn : b < n) (ha : ll a ≤ 20000) (hb : ll b ≤ 20000) (hn : 200000 ≤ n) (k0 : Bool → List PV → Option R) : UFs n false (II a) false (II b) k0 = k0 false (II (Nat.gcd b a)) := by
  have hg : ll (Nat.gcd b a) ≤ 20000 := by
    by_cases h : b = 0
    · subst h; rw [Nat.gcd_zero_left]; exact ha
    · exact Nat.le_trans (Ua7 (Nat.gcd_le_left _ (by omega))) hb
  unfold UFs Use
  rw [Uja n hn _ _ n a b hbn ha hb]
  unfold II
  rw [UaD n _ _ (Uey _) (by rw [Uaa]; omega) (by rw [Uaa]; omega), UfS]
  rfl
theorem Unn (d : Nat) (h : d < 10) : List.drop d (List.take (d + 1) ([48, 49, 50, 51, 52, 53, 54, 55, 56, 57] : List UInt8)) = [ch d] := by
  match d, h with
  | 0, _ => rfl
  | 1, _ => rfl
  | 2, _ => rfl
  | 3, _ => rfl
  | 4, _ => rfl
  | 5, _ => rfl
  | 6, _ => rfl
  | 7, _ => rfl
  | 8, _ => rfl
  | 9, _ => rfl
theorem Uge (n : Nat) (neg : Bool) (l : List Nat) (hl : ∀ d ∈ l, d < 10) (h40 : l.length < 2 ^ 40) (k0 : ByteArray → Option R) : ∀ (d m i : Nat) (s : List UInt8), d + i = l.length → d < m → s.length < 2 ^ 41 - d →
    Ub4 n m neg (nl .i64 l) (bs s) i k0 = k0 (bs (s ++ (l.drop i).map ch))
  | 0, m + 1, i, s, hd, hm, hs => by
    rw [List.drop_eq_nil_of_le (by omega), List.map_nil, List.append_nil]
    simp only [Ub4, UeS]
    simp (disch := (first | omega | (simp only [JlL]; omega))) only [↓JlO, JlM, JlN]
  | d + 1, m + 1, i, s, hd, hm, hs => by
    have hi := Uac hT2 hl i
    have ih := Uge n neg l hl h40 k0 d m (i + 1) (s ++ [ch (l.getD i 0)]) (by omega) (by omega) (by rw [List.length_append, List.length_singleton]; omega)
    rw [UcW (by omega : i < l.length), List.map_cons]
    have e1 : (i : Int) + 1 = ((i + 1 : Nat) : Int) := by omega
    have e2 : ((l.getD i 0 : Nat) : Int) + 1 = ((l.getD i 0 + 1 : Nat) : Int) := by omega
    have e3 := Unn _ hi
    have hsz : (bs [48, 49, 50, 51, 52, 53, 54, 55, 56, 57]).size = 10 := rfl
    have hsz2 : (⟨#[48, 49, 50, 51, 52, 53, 54, 55, 56, 57]⟩ : ByteArray).size = 10 := rfl
    simp only [Ub4, UeS]
    simp (disch := (first | omega | (simp only [JlL]; omega))) only [↓JlO, JlM, JlN, e1, e2, hsz, hsz2, e3, ih, List.append_assoc, List.singleton_append]
theorem Um6 (n : Nat) (x : Int) (hx : ll x.natAbs ≤ 50000) (hn : 200000 ≤ n) (k0 : ByteArray → Option R) : UAK n (sg x) (II x.natAbs) k0 = k0 (bs (Lib.itoa x)) := by
  unfold UAK
  rw [Uau, Jk7]
  by_cases h0 : x = 0
  · subst h0
    have e : (ll (0 : Int).natAbs == 0) = true := by rw [show (0 : Int).natAbs = 0 from rfl, Ubs]; rfl
    have e2 := Ub0 0
    rw [Uap] at e2
    have e3 : Lib.itoa 0 = [48] := e2
    rw [e, e3]; rfl
  · have e : (ll x.natAbs == 0) = false := by simp only [beq_eq_false_iff_ne, ne_eq, Uct]; omega
    have hlp := fun s hs => Uge (R := R) n (sg x) (DL x.natAbs) (Uey _) (by rw [Uaa]; omega) (fun (y4 : ByteArray) => k0 y4) (ll x.natAbs) n 0 s (by rw [Uaa]; omega) (by omega) hs
    rw [List.drop_zero, ← Ucy _ (by omega : x.natAbs ≠ 0)] at hlp
    rw [e, cond_false]
    simp only [Uho, Ur5]
    have hz := Uhk (sg x) (a := x.natAbs) (by omega)
    rw [show zs (sg x) x.natAbs = x from UbY x] at hz
    rw [hz]
    cases hs : sg x
    · rw [hs] at hlp
      exact hlp [] (by simp; omega)
    · rw [hs] at hlp
      exact hlp [45] (by simp; omega)
theorem Uj8 (n : Nat) (x2 x3 : Bool) (s : List UInt8) (h40 : s.length < 2 ^ 30) (k0 : Bool → Bool → List PV → Option R) : ∀ (d m i : Nat) (l : List Nat), d + i = s.length → d < m → (∀ c ∈ s.drop i, isD c = true) → l.length ≤ i →
    Ubu n m (bs s) x2 x3 (nl .i64 l) i k0 = k0 x2 x3 (nl .i64 (l ++ dg (s.drop i)))
  | 0, m + 1, i, l, hd, hm, hs, hl => by
    rw [List.drop_eq_nil_of_le (by omega), dg, List.map_nil, List.append_nil]
    simp only [Ubu, Udb]
    simp (disch := (first | omega | (simp only [JlL]; omega))) only [↓JlO, JlM, JlN]
  | d + 1, m + 1, i, l, hd, hm, hs, hl => by
    have hi : i < s.length := by omega
    have hdr : s.drop i = s[i] :: s.drop (i + 1) := List.drop_eq_getElem_cons hi
    rw [hdr] at hs ⊢
    have hc := UaB.1 (hs _ (List.mem_cons_self ..))
    have ih := Uj8 n x2 x3 s h40 k0 d m (i + 1) (l ++ [s[i].toNat - 48]) (by omega) (by omega) (fun c h => hs c (List.mem_cons_of_mem _ h)) (by rw [List.length_append, List.length_singleton]; omega)
    have e1 : (i : Int) + 1 = ((i + 1 : Nat) : Int) := by omega
    have e2 : Jc9 (bs s) (i : Int) = (s[i].toNat : Int) := Jj5 hi
    have e3 : ((s[i].toNat : Int) == 45) = false := by simp only [beq_eq_false_iff_ne, ne_eq]; omega
    have e4 : (s[i].toNat : Int) - 48 = ((s[i].toNat - 48 : Nat) : Int) := by omega
    rw [dg, List.map_cons, ← dg, show l ++ (s[i].toNat - 48) :: dg (s.drop (i + 1)) = l ++ [s[i].toNat - 48] ++ dg (s.drop (i + 1)) from by simp, ← ih]
    simp only [Ubu, Udb, UfB]
    simp (disch := (first | omega | (simp only [JlL]; omega))) only [↓JlO, JlM, JlN, e1, e2, e3, e4, Jlu]
theorem UtP (n : Nat) (x : Int) (hx : ll x.natAbs ≤ 50000) (hn : 200000 ≤ n) (k0 : Bool → List PV → Option R) : Uwc n (bs (Lib.itoa x)) k0 = k0 (sg x) (II x.natAbs) := by
  have hdl : (dec x.natAbs).length ≤ 50001 := UoZ hx
  have hdg : (dg (dec x.natAbs)).length ≤ 50001 := by unfold dg; rw [List.length_map]; exact hdl
  have hm := fun k0 => UaD (R := R) n (sg x) (dg (dec x.natAbs)) (Uyb (Ua4 _)) (by omega) (by omega) k0
  rw [show vb (dg (dec x.natAbs)) = x.natAbs from UcA _] at hm
  have e0 : (sg x && !(x.natAbs == 0)) = sg x := by
    rw [Bool.eq_iff_iff]; simp [sg]; omega
  rw [e0] at hm
  unfold Uwc Us
  by_cases h : x < 0
  · have hs : sg x = true := by simpa [sg] using h
    have hi : Lib.itoa x = 45 :: dec x.natAbs := by unfold Lib.itoa; rw [if_pos h]
    rw [hi]
    obtain ⟨m, rfl⟩ : ∃ m, n = m + 1 := ⟨n - 1, by omega⟩
    have hlp := fun k0 => Uj8 (R := R) (m + 1) false true (45 :: dec x.natAbs) (by rw [List.length_cons]; omega) k0 (dec x.natAbs).length m 1 [] (by rw [List.length_cons]) (by omega) (Ua4 _) (by simp)
    have e2 : (Jc9 (bs (45 :: dec x.natAbs)) 0 == 45) = true := rfl
    rw [Jlt, show ((1 : Nat) : Int) = 0 + 1 from rfl] at hlp
    simp only [List.drop_succ_cons, List.drop_zero, List.nil_append] at hlp
    rw [hs] at hm ⊢
    simp only [Ubu, Udb, UfB]
    simp (disch := (first | omega | (simp only [JlL]; omega))) only [↓JlO, JlM, JlN, List.length_cons, e2, hlp, hm]
  · have hs : sg x = false := by simpa [sg] using h
    have hi : Lib.itoa x = dec x.natAbs := by
      unfold Lib.itoa; rw [if_neg h]; congr 1; omega
    rw [hi]
    have hlp := fun k0 => Uj8 (R := R) n false false (dec x.natAbs) (by omega) k0 (dec x.natAbs).length n 0 [] (by omega) (by omega) (Ua4 _) (by simp)
    rw [Jlt, show ((0 : Nat) : Int) = 0 from rfl, List.drop_zero, List.nil_append] at hlp
    rw [hs] at hm ⊢
    rw [hlp, hm]
theorem UnF : II 1 = [PV.v (.int .i64 1)] := by
  unfold II DL; rw [UfR (by omega) (by omega)]; rfl
theorem UrT (n : Nat) (z w : Int) (hw : w ≠ 0) (hz : ll z.natAbs ≤ 15000) (hwl : ll w.natAbs ≤ 15000) (hn : 200000 ≤ n) (hnw : w.natAbs < n) (k0 : Bool → List PV → Bool → List PV → Option R) :
    Uwb n (sg z) (II z.natAbs) (sg w) (II w.natAbs) k0 = k0 (sg (Rat.divInt z w).num) (II (Rat.divInt z w).num.natAbs) false (II (Rat.divInt z w).den) := by
  have hnum : (Rat.divInt z w).num = zs (!(sg z == sg w)) (z.natAbs / Nat.gcd w.natAbs z.natAbs) := by
    rw [UcV, UmM _ _ _ (by omega)]
  have hden : (Rat.divInt z w).den = w.natAbs / Nat.gcd w.natAbs z.natAbs := by
    rw [UcV, UmL _ _ _ (by omega)]
  rw [hnum, hden, Uaz, UER]
  obtain ⟨g, hg⟩ : ∃ g, g = Nat.gcd w.natAbs z.natAbs := ⟨_, rfl⟩
  rw [← hg]
  have hg0 : 0 < g := by rw [hg]; exact Nat.gcd_pos_of_pos_left _ (by omega)
  have hgw : g ≤ w.natAbs := by rw [hg]; exact Nat.gcd_le_left _ (by omega)
  have hgl : ll g ≤ 15000 := Nat.le_trans (Ua7 hgw) hwl
  simp only [Uwb, p77, Uau, Jk7]
  by_cases h0 : z = 0
  · subst h0
    have hgg : g = w.natAbs := by rw [hg, show (0 : Int).natAbs = 0 from rfl, Nat.gcd_zero_right]
    have e : (ll (0 : Int).natAbs == 0) = true := by rw [show (0 : Int).natAbs = 0 from rfl, Ubs]; rfl
    simp only [e, cond_true]
    rw [show (0 : Int).natAbs = 0 from rfl, Nat.zero_div, hgg, Nat.div_self (by omega), UnF]
    simp [UtT, sg]
  · have e : (ll z.natAbs == 0) = false := by simp only [beq_eq_false_iff_ne, ne_eq, Uct]; omega
    simp only [e, cond_false]
    have hzg : z.natAbs / g ≠ 0 := by
      have hd : g ∣ z.natAbs := by rw [hg]; exact Nat.gcd_dvd_right _ _
      have := Nat.div_mul_cancel hd
      intro e; rw [e] at this; omega
    have e2 : (z.natAbs / g == 0) = false := by simpa using hzg
    have q1 := fun k0 => UAp (R := R) n z.natAbs w.natAbs hnw (by omega) (by omega) hn k0
    rw [← hg] at q1
    have q2 := fun k0 => Uib (R := R) n z.natAbs g hg0 (by omega) (by omega) hn k0
    have q3 := fun k0 => Uib (R := R) n w.natAbs g hg0 (by omega) (by omega) hn k0
    have q4 := fun k0 => Uic (R := R) n ((z.natAbs / g : Nat) : Int) (by rw [Int.natAbs_natCast]; exact Nat.le_trans (Ua7 (Nat.div_le_self _ _)) (by omega)) hn k0
    rw [UbV, Int.natAbs_neg, Int.natAbs_natCast] at q4
    have e5 : sg (-((z.natAbs / g : Nat) : Int)) = true := by
      have hp := Nat.pos_of_ne_zero hzg
      simp only [sg, decide_eq_true_eq]
      generalize z.natAbs / g = y at hp ⊢
      omega
    rw [e5] at q4
    have r1 := fun k0 => Uic (R := R) n z (by omega) hn k0
    have r2 := fun k0 => Uic (R := R) n w (by omega) hn k0
    rw [Int.natAbs_neg] at r1 r2
    rw [e2]
    have core : ∀ (neg : Bool) (k0 : Bool → List PV → Bool → List PV → Option R), UfA n neg (II z.natAbs) false (II w.natAbs) false false k0 = k0 (neg) (II (z.natAbs / g)) false (II (w.natAbs / g)) := by
      intro neg k0
      unfold UfA UFt UeX
      cases neg <;> simp only [q1, q2, q3, q4, cond_true, cond_false]
    by_cases hw0 : w < 0
    · have es : sg w = true := by simpa [sg] using hw0
      have es2 : sg (-w) = false := by simp [sg]; omega
      have es3 : sg (-z) = !(sg z) := by
        rw [Bool.eq_iff_iff]; simp [sg]; omega
      rw [es] at r2 ⊢
      simp only [cond_true, r1, r2, es2, es3, core]
      cases sg z <;> rfl
    · have es : sg w = false := by simpa [sg] using hw0
      simp only [es, cond_false, core]
      cases sg z <;> rfl
theorem Ui8 (n : Nat) (q : Rat) (h1 : ll q.num.natAbs ≤ 15000) (h2 : ll q.den ≤ 15000) (hn : 200000 ≤ n) (k0 : ByteArray → Option R) : p73 n (sg q.num) (II q.num.natAbs) false (II q.den) k0 = k0 (bs (Uag q)) := by
  have c1 := fun k0 => Uum (R := R) n (q.den : Int) ((1 : Nat) : Int) (by rw [Int.natAbs_natCast]; omega) (by rw [Int.natAbs_natCast]; unfold ll; rw [UfR (by omega) (by omega)]; decide) hn k0
  rw [UbV, UbV, Int.natAbs_natCast, Int.natAbs_natCast] at c1
  have t1 := fun k0 => Um6 (R := R) n q.num (by omega) hn k0
  have t2 := fun k0 => Um6 (R := R) n (q.den : Int) (by rw [Int.natAbs_natCast]; omega) hn k0
  rw [UbV, Int.natAbs_natCast, Ub0] at t2
  have l1 : (Lib.itoa q.num).length ≤ 15002 := by
    have h := Udq (Lib.itoa q.num)
    rw [Uax] at h
    have hd : (dec q.num.natAbs).length ≤ 15001 := UoZ h1
    rw [h, List.length_append]
    split <;> simp <;> omega
  have l2 : (dec q.den).length ≤ 15001 := UoZ h2
  simp only [p73, UtT, ← UnF, c1]
  unfold Uag
  have hd := q.den_nz
  by_cases h : q.den = 1
  · have e : (UiI (q.den : Int) ((1 : Nat) : Int) == 0) = true := by unfold UiI; rw [if_neg (by omega), if_pos (by omega)]; rfl
    simp only [e, cond_true, if_pos h, t1, List.append_nil]
  · have e : (UiI (q.den : Int) ((1 : Nat) : Int) == 0) = false := by unfold UiI; rw [if_neg (by omega), if_neg (by omega)]; rfl
    simp only [e, cond_false, if_neg h, t1]
    simp (disch := (first | omega | (simp only [JlL]; omega))) only [↓JlO, JlM, JlN, t2, List.length_cons, List.length_nil, List.append_assoc, List.singleton_append]
theorem UaR {α : Type} (a b : α) : (bif true then a else b) = a := (Eq.refl _).trans (Eq.refl _)
theorem Uak {α : Type} (a b : α) : (bif false then a else b) = b := (Eq.refl _).trans (Eq.refl _)
theorem UFh : (!true) = false := (Eq.refl _).trans (Eq.refl _)
theorem UFg : (!false) = true := (Eq.refl _).trans (Eq.refl _)
def Ufq (t : List UInt8) : Bool := !t.isEmpty && decide (t.length ≤ 400) && !(t.head? == some 48) && t.all isD
theorem Ulx (t : List UInt8) : (UiJ t && !(t == [48])) = Ufq t := by
  unfold UiJ Ufq
  match t with
  | [] => rfl
  | [c] =>
    by_cases h : c = 48
    · subst h; rfl
    · have e1 : ([c] == [48]) = false := by simpa using h
      have e2 : (([c] : List UInt8).head? == some 48) = false := by simpa using h
      rw [e1, e2]; simp
  | c :: d :: r =>
    have e1 : ((c :: d :: r) == [48]) = false := by simp
    rw [e1]
    by_cases h : c = 48
    · subst h; simp
    · have e2 : ((c :: d :: r : List UInt8).head? == some 48) = false := by simpa using h
      rw [e2]; simp
theorem UgM (n : Nat) (t : List UInt8) (h40 : t.length < 2 ^ 40) (k0 : Bool → Option R) (k1 : Option R) : ∀ (d m i : Nat), d + i = t.length → d < m → Ub9 n m (bs t) i k0 k1 = if (t.drop i).all isD then k1 else k0 false
  | 0, m + 1, i, hd, hm => by
    rw [List.drop_eq_nil_of_le (by omega), List.all_nil, if_pos rfl]
    simp only [Ub9, UeZ]
    simp (disch := (first | omega | (simp only [JlL]; omega))) only [↓JlO, JlM]
  | d + 1, m + 1, i, hd, hm => by
    have hi : i < t.length := by omega
    have hdr : t.drop i = t[i] :: t.drop (i + 1) := List.drop_eq_getElem_cons hi
    have ih := UgM n t h40 k0 k1 d m (i + 1) (by omega) (by omega)
    have e1 : (i : Int) + 1 = ((i + 1 : Nat) : Int) := by omega
    have e2 : Jc9 (bs t) (i : Int) = (t[i].toNat : Int) := Jj5 hi
    rw [hdr, List.all_cons]
    simp only [Ub9, UeZ]
    by_cases h : isD t[i] = true
    · have hc := UaB.1 h
      rw [h, Bool.true_and, ← ih]
      simp (disch := (first | omega | (simp only [JlL]; omega))) only [↓JlO, JlM, e1, e2]
    · have hc : ¬ (48 ≤ t[i].toNat ∧ t[i].toNat ≤ 57) := fun q => h (UaB.2 q)
      have hf : isD t[i] = false := by simpa using h
      rw [hf, Bool.false_and, if_neg (by simp)]
      by_cases h1 : t[i].toNat < 48
      · simp (disch := (first | omega | (simp only [JlL]; omega))) only [↓JlO, JlM, e1, e2]
      · simp (disch := (first | omega | (simp only [JlL]; omega))) only [↓JlO, JlM, e1, e2]
theorem Ujk (n : Nat) (t : List UInt8) (ht : t.length < 2 ^ 40) (hn : t.length < n) (k0 : Bool → Option R) : Udx n (bs t) k0 = k0 (Ufq t) := by
  cases t with
  | nil => rfl
  | cons c r =>
    rw [List.length_cons] at ht hn
    unfold Udx
    by_cases h4 : 400 < r.length + 1
    · have e1 : Ufq (c :: r) = false := by
        unfold Ufq
        rw [List.length_cons, decide_eq_false (by omega)]; simp
      simp (disch := (first | omega | (simp only [JlL]; omega))) only [↓JlO, JlM, e1, List.length_cons]
    have e0 : Jc9 (bs (c :: r)) 0 = (c.toNat : Int) := rfl
    have hb := Ux2 c 48
    rw [show ((48 : UInt8).toNat : Int) = 48 from rfl] at hb
    by_cases hc : c = 48
    · have e1 : Ufq (c :: r) = false := by unfold Ufq; rw [hc]; simp
      have e2 : (c == 48) = true := by simpa using hc
      simp (disch := (first | omega | (simp only [JlL]; omega))) only [↓JlO, JlM, e1, List.length_cons, e0, hb, e2]
    · have e1 : Ufq (c :: r) = (c :: r).all isD := by
        have : ((c :: r : List UInt8).head? == some 48) = false := by simpa using hc
        unfold Ufq
        rw [List.length_cons, decide_eq_true (by omega), this]; simp
      have e2 : (c == 48) = false := by simpa using hc
      have hlp := fun k0 k1 => UgM (R := R) n (c :: r) (by rw [List.length_cons]; omega) k0 k1 (r.length + 1) n 0 (by rw [List.length_cons]) (by omega)
      rw [List.drop_zero, show ((0 : Nat) : Int) = 0 from rfl] at hlp
      rw [e1]
      simp (disch := (first | omega | (simp only [JlL]; omega))) only [↓JlO, JlM, List.length_cons, e0, hb, e2, Ukd, Usb, hlp]
      cases (c :: r).all isD <;> rfl
theorem Ufd (n : Nat) (s : List UInt8) (hs : s.length < 2 ^ 40) (hn : s.length < n) (k0 : Bool → Option R) : UDt n (bs s) k0 = k0 (Ujn s) := by
  unfold UDt
  by_cases h0 : s = [48]
  · subst h0
    have e : Ujn [48] = true := rfl
    rw [e]; rfl
  · have e0 : (s == [48]) = false := by simpa using h0
    cases s with
    | nil => rfl
    | cons c r =>
      rw [List.length_cons] at hs hn
      have e1 : Jc9 (bs (c :: r)) 0 = (c.toNat : Int) := rfl
      have hb := Ux2 c 45
      rw [show ((45 : UInt8).toNat : Int) = 45 from rfl] at hb
      have e3 : List.drop (1 : Int).toNat (List.take (r.length + 1) (c :: r)) = r := by
        show List.drop 1 (c :: List.take r.length r) = r
        rw [List.take_length]; rfl
      by_cases hc : c = 45
      · have e2 : (c == 45) = true := by simpa using hc
        have hv := fun k0 => Ujk (R := R) n r (by omega) (by omega) k0
        have hI : Ujn (c :: r) = Ufq r := by
          unfold Ujn; rw [Ubh, if_pos hc, ← Ulx]; simp
        rw [hI]
        simp (disch := (first | omega | (simp only [JlL]; omega))) only [↓JlO, JlM, List.length_cons, e0, e1, hb, e2, Jjo, e3, hv]
      · have e2 : (c == 45) = false := by simpa using hc
        have hv := fun k0 => Ujk (R := R) n (c :: r) (by rw [List.length_cons]; omega) (by rw [List.length_cons]; omega) k0
        have hI : Ujn (c :: r) = Ufq (c :: r) := by
          unfold Ujn; rw [Ubh, if_neg hc, ← Ulx, e0]; simp
        rw [hI]
        simp (disch := (first | omega | (simp only [JlL]; omega))) only [↓JlO, JlM, List.length_cons, e0, e1, hb, e2, hv]
def sl (l : List (List UInt8)) : List PV := l.map fun s => PV.v (.string (bs s))
theorem Uaj (l : List (List UInt8)) : (sl l).length = l.length := by unfold sl; rw [List.length_map]
end Go.Proofs.YtmgfmlhdnadglaaGreatDoor
set_option linter.unusedVariables false
set_option maxRecDepth 100000
namespace Go.Proofs.YtmgfmlhdnadglaaGreatDoor
open Go Th Go.Proofs
noncomputable section
variable {R : Type}
def Uw6 : Ann := { loops := [], cuts := [], frz := [], rm := [.id, .id, .id] }
abbrev UBW (n : Nat) : Env := eC 95 (UGn n) eN
theorem Up0 (n : Nat) : EnvOK Tryz.prog GI (UBW n) := .cons (.nil) (UK3 n)
def p54 (n : Nat) (x1 x2 : ByteArray) (k0 : Int → Int → Bool → O R) : O R :=
  p95 n x1 (fun y3 y4 => p95 n x2 (fun y5 y6 => bif y4 then (k0 y3 y5 (bif true then y6 else false)) else (k0 y3 y5 false)))
abbrev UMv (n : Nat) : Orc R := oN
abbrev ULP (n : Nat) : Orc R := oN
abbrev K54 (R : Type) (n : Nat) := JcK (R := R) Tryz.prog (UBW n) Uw6 n (27, []) (UMv n) (ULP n)
theorem UN8 (n : Nat) : Jfb (K54 R n) (JaJ Uw6 (Jls Tryz.f54)) := pO pN (by kernel_rfl)
abbrev t54 : Sl (List SV) := (cS (cS .n))
abbrev f54 (n : Nat) (K : List SV → O R) : t54.T (O R) := fun x1 x2 => p54 n x1 x2 (fun y1 y2 y3 => K [vI y1, vI y2, vB y3])
abbrev UE5 (n : Nat) : FS := fT [false, false] t54 (f54 n)
theorem UHl (n : Nat) : FSound Tryz.prog GI 54 (UE5 n) := gd Uw6 n (Up0 n) Tryz.func54 (.cons (Up0 n) t54 (f54 n) (fun K _ _ => (Jkx (c := Jls Tryz.f54) (by kernel_rfl) (UN8 n) K).trans (by kernel_rfl)) .nil) (by kernel_rfl)
end
end Go.Proofs.YtmgfmlhdnadglaaGreatDoor
set_option linter.unusedVariables false
set_option linter.unusedSimpArgs false
namespace Go.Proofs.YtmgfmlhdnadglaaGreatDoor
open Go Th Go.Proofs
variable {R : Type}
theorem Uga (n : Nat) (neg : Bool) (t : List UInt8) (ht : t.length ≤ 9) : ∀ (d m i acc : Nat), d + i = t.length → d < m → acc < 10 ^ i →
    (∀ c ∈ t.drop i, isD c = true) → ∀ (k0 : Int → Bool → Bool → Int → Option R) (k1 : Bool → Int → Option R), Uby n m neg (bs t) acc t.length i k0 k1 = k1 neg ((acc * 10 ^ (t.length - i) + ofD (t.drop i) : Nat) : Int)
  | 0, m + 1, i, acc, hd, hm, ha, hs, k0, k1 => by
    rw [List.drop_eq_nil_of_le (by omega), show t.length - i = 0 from by omega, Nat.pow_zero, Nat.mul_one, show ofD [] = 0 from rfl, Nat.add_zero]
    simp only [Uby, UdY]
    simp (disch := (first | omega | (simp only [JlL]; omega))) only [↓JlO, JlM]
    rfl
  | d + 1, m + 1, i, acc, hd, hm, ha, hs, k0, k1 => by
    have hi : i < t.length := by omega
    have hdr : t.drop i = t[i] :: t.drop (i + 1) := List.drop_eq_getElem_cons hi
    rw [hdr] at hs ⊢
    have hc := UaB.1 (hs _ (List.mem_cons_self ..))
    have hp : (10 : Nat) ^ i ≤ 10 ^ 9 := Nat.pow_le_pow_right (by omega) (by omega)
    have ih := Uga n neg t ht d m (i + 1) (10 * acc + (t[i].toNat - 48)) (by omega) (by omega) (by rw [Nat.pow_succ]; omega) (fun c h => hs c (List.mem_cons_of_mem _ h)) k0 k1
    have e1 : (i : Int) + 1 = ((i + 1 : Nat) : Int) := by omega
    have e2 : Jc9 (bs t) (i : Int) = (t[i].toNat : Int) := Jj5 hi
    have e4 : (t[i].toNat : Int) - 48 = ((t[i].toNat - 48 : Nat) : Int) := by omega
    have e5 : (10 : Int) * (acc : Int) + ((t[i].toNat - 48 : Nat) : Int) = ((10 * acc + (t[i].toNat - 48) : Nat) : Int) := by omega
    have hdl : (t.drop (i + 1)).length = t.length - (i + 1) := List.length_drop
    have e6 : acc * 10 ^ (t.length - i) + ofD (t[i] :: t.drop (i + 1)) = (10 * acc + (t[i].toNat - 48)) * 10 ^ (t.length - (i + 1)) + ofD (t.drop (i + 1)) := by
      have : ofD (t[i] :: t.drop (i + 1)) = (t[i].toNat - 48) * 10 ^ (t.length - (i + 1)) + ofD (t.drop (i + 1)) := by
        unfold ofD dg; rw [List.map_cons, UcM, List.length_map, hdl]
      rw [this, show t.length - i = (t.length - (i + 1)) + 1 from by omega, Nat.pow_succ]
      grind
    rw [e6, ← ih]
    simp only [Uby, UdY]
    simp (disch := (first | omega | (simp only [JlL]; omega))) only [↓JlO, JlM, e1, e2, e4, e5, wu8]
theorem Ucu (n : Nat) (neg : Bool) (t : List UInt8) (ht : t.length ≤ 9) : ∀ (d m i acc : Nat), d + i = t.length → d < m → acc < 10 ^ i →
    ¬ (∀ c ∈ t.drop i, isD c = true) → ∃ y : Int, ∀ (k0 : Int → Bool → Bool → Int → Option R) (k1 : Bool → Int → Option R), Uby n m neg (bs t) acc t.length i k0 k1 = k0 0 false neg y
  | 0, m + 1, i, acc, hd, hm, ha, hs => by
    rw [List.drop_eq_nil_of_le (by omega)] at hs
    exact absurd (fun c h => by cases h) hs
  | d + 1, m + 1, i, acc, hd, hm, ha, hs => by
    have hi : i < t.length := by omega
    have hdr : t.drop i = t[i] :: t.drop (i + 1) := List.drop_eq_getElem_cons hi
    rw [hdr] at hs
    have hp : (10 : Nat) ^ i ≤ 10 ^ 9 := Nat.pow_le_pow_right (by omega) (by omega)
    have e1 : (i : Int) + 1 = ((i + 1 : Nat) : Int) := by omega
    have e2 : Jc9 (bs t) (i : Int) = (t[i].toNat : Int) := Jj5 hi
    by_cases h : isD t[i] = true
    · have hc := UaB.1 h
      have hs' : ¬ ∀ c ∈ t.drop (i + 1), isD c = true := fun q => hs (by
        intro c hc
        rcases List.mem_cons.1 hc with rfl | hc
        · exact h
        · exact q c hc)
      obtain ⟨y, ih⟩ := Ucu n neg t ht d m (i + 1) (10 * acc + (t[i].toNat - 48)) (by omega) (by omega) (by rw [Nat.pow_succ]; omega) hs'
      refine ⟨y, fun k0 k1 => ?_⟩
      have e4 : (t[i].toNat : Int) - 48 = ((t[i].toNat - 48 : Nat) : Int) := by omega
      have e5 : (10 : Int) * (acc : Int) + ((t[i].toNat - 48 : Nat) : Int) = ((10 * acc + (t[i].toNat - 48) : Nat) : Int) := by omega
      rw [← ih k0 k1]
      simp only [Uby, UdY]
      simp (disch := (first | omega | (simp only [JlL]; omega))) only [↓JlO, JlM, e1, e2, e4, e5, wu8]
    · have hc : ¬ (48 ≤ t[i].toNat ∧ t[i].toNat ≤ 57) := fun q => h (UaB.2 q)
      refine ⟨acc, fun k0 k1 => ?_⟩
      simp only [Uby, UdY]
      by_cases h1 : t[i].toNat < 48
      · simp (disch := (first | omega | (simp only [JlL]; omega))) only [↓JlO, JlM, e1, e2]
      · simp (disch := (first | omega | (simp only [JlL]; omega))) only [↓JlO, JlM, e1, e2]
theorem UsD (n : Nat) (hn : 20 ≤ n) (s t : List UInt8) (neg : Bool) (hsl : s.length < 2 ^ 40) (h0 : t ≠ []) (ht : t.length ≤ 9) (hd : ∀ c ∈ t, isD c = true) (hz : t.head? = some 48 → s.length ≤ 1) (k0 : Int → Bool → Option R) :
    Ude n (bs s) neg (bs t) k0 = k0 (zs neg (ofD t)) true := by
  have hlt := UrU hd
  have hp : (10 : Nat) ^ t.length ≤ 10 ^ 9 := Nat.pow_le_pow_right (by omega) ht
  have hlp := fun (k0 : Int → Bool → Bool → Int → Option R) (k1 : Bool → Int → Option R) => Uga (R := R) n neg t ht t.length n 0 0 (by omega) (by omega) (by simp) (by rw [List.drop_zero]; exact hd) k0 k1
  rw [Nat.zero_mul, List.drop_zero, Nat.zero_add, show ((0 : Nat) : Int) = 0 from rfl] at hlp
  cases t with
  | nil => exact absurd rfl h0
  | cons c r =>
    have e0 : ((c :: r) == ([] : List UInt8)) = false := rfl
    have e1 : Jc9 (bs (c :: r)) 0 = (c.toNat : Int) := rfl
    have hb := Ux2 c 48
    rw [show ((48 : UInt8).toNat : Int) = 48 from rfl] at hb
    rw [List.length_cons] at ht
    simp only [List.length_cons] at hlp
    generalize hv : ofD (c :: r) = v at *
    by_cases hc : c = 48
    · have e2 : (c == 48) = true := by simpa using hc
      have hs1 := hz (by rw [hc]; rfl)
      simp only [Ude, Uf9, UdX, UmZ]
      cases neg
      · simp (disch := (first | omega | (simp only [JlL]; omega))) only [↓JlO, JlM, List.length_cons, e0, e1, hb, e2, hlp]
        rfl
      · simp (disch := (first | omega | (simp only [JlL]; omega))) only [↓JlO, JlM, List.length_cons, e0, e1, hb, e2, hlp, Int.zero_sub]
        rfl
    · have e2 : (c == 48) = false := by simpa using hc
      simp only [Ude, Uf9, UdX, UmZ]
      cases neg
      · simp (disch := (first | omega | (simp only [JlL]; omega))) only [↓JlO, JlM, List.length_cons, e0, e1, hb, e2, hlp]
        rfl
      · simp (disch := (first | omega | (simp only [JlL]; omega))) only [↓JlO, JlM, List.length_cons, e0, e1, hb, e2, hlp, Int.zero_sub]
        rfl
theorem Unx (n : Nat) (hn : 20 ≤ n) (s t : List UInt8) (neg : Bool) (hsl : s.length < 2 ^ 40) (htl : t.length < 2 ^ 40) (h : ¬ (t ≠ [] ∧ t.length ≤ 9 ∧ (∀ c ∈ t, isD c = true) ∧ (t.head? = some 48 → s.length ≤ 1))) :
    ∀ k0 : Int → Bool → Option R, Ude n (bs s) neg (bs t) k0 = k0 0 false := by
  intro k0
  cases t with
  | nil => rfl
  | cons c r =>
    have e0 : ((c :: r) == ([] : List UInt8)) = false := rfl
    have e1 : Jc9 (bs (c :: r)) 0 = (c.toNat : Int) := rfl
    have hb := Ux2 c 48
    rw [show ((48 : UInt8).toNat : Int) = 48 from rfl] at hb
    rw [List.length_cons] at htl
    simp only [Ude, Uf9, UdX, UmZ]
    by_cases h9 : 9 < r.length + 1
    · simp (disch := (first | omega | (simp only [JlL]; omega))) only [↓JlO, JlM, List.length_cons, e0]
    · by_cases hd : ∀ x ∈ c :: r, isD x = true
      · have hs : c = 48 ∧ 1 < s.length := by
          by_cases hc : c = 48
          · refine ⟨hc, ?_⟩
            apply Nat.lt_of_not_le
            intro q
            exact h ⟨by simp, by rw [List.length_cons]; omega, hd, fun _ => q⟩
          · exact absurd ⟨by simp, by rw [List.length_cons]; omega, hd, fun q => absurd (by simpa using q) hc⟩ h
        have e2 : (c == 48) = true := by simpa using hs.1
        have hs1 := hs.2
        simp (disch := (first | omega | (simp only [JlL]; omega))) only [↓JlO, JlM, List.length_cons, e0, e1, hb, e2]
      · obtain ⟨y, hlp⟩ := Ucu (R := R) n neg (c :: r) (by rw [List.length_cons]; omega) (r.length + 1) n 0 0 (by rw [List.length_cons]) (by omega) (by simp) (by rw [List.drop_zero]; exact hd)
        rw [show ((0 : Nat) : Int) = 0 from rfl] at hlp
        simp only [List.length_cons] at hlp
        by_cases hc : c = 48
        · have e2 : (c == 48) = true := by simpa using hc
          by_cases hs1 : 1 < s.length
          · simp (disch := (first | omega | (simp only [JlL]; omega))) only [↓JlO, JlM, List.length_cons, e0, e1, hb, e2]
          · simp (disch := (first | omega | (simp only [JlL]; omega))) only [↓JlO, JlM, List.length_cons, e0, e1, hb, e2, hlp]
        · have e2 : (c == 48) = false := by simpa using hc
          simp (disch := (first | omega | (simp only [JlL]; omega))) only [↓JlO, JlM, List.length_cons, e0, e1, hb, e2, hlp]
theorem UfL (n : Nat) (s : List UInt8) (hs : s.length < 2 ^ 40) (k0 : Int → Bool → Option R) : p95 n (bs s) k0 = Ude n (bs s) (UbZ s).1 (bs (UbZ s).2) k0 := by
  unfold p95
  cases s with
  | nil => rfl
  | cons c r =>
    rw [List.length_cons] at hs
    have e0 : ((c :: r) == ([] : List UInt8)) = false := rfl
    have e1 : Jc9 (bs (c :: r)) 0 = (c.toNat : Int) := rfl
    have hb := Ux2 c 45
    rw [show ((45 : UInt8).toNat : Int) = 45 from rfl] at hb
    have e3 : List.drop (1 : Int).toNat (List.take (r.length + 1) (c :: r)) = r := by
      show List.drop 1 (c :: List.take r.length r) = r
      rw [List.take_length]; rfl
    rw [Ubh]
    by_cases hc : c = 45
    · have e2 : (c == 45) = true := by simpa using hc
      rw [if_pos hc]
      simp (disch := (first | omega | (simp only [JlL]; omega))) only [↓JlO, JlM, List.length_cons, e0, e1, hb, e2, Ui4, Jjo, e3]
    · have e2 : (c == 45) = false := by simpa using hc
      rw [if_neg hc]
      simp (disch := (first | omega | (simp only [JlL]; omega))) only [↓JlO, JlM, List.length_cons, e0, e1, hb, e2, Ui4]
theorem Ue9 (n : Nat) (hn : 20 ≤ n) (v : Int) (hv : v.natAbs < 10 ^ 9) (k0 : Int → Bool → Option R) : p95 n (bs (Lib.itoa v)) k0 = k0 v true := by
  have hl := (Ubp v.natAbs 9 (by omega)).2 hv
  have hin := Udq (Lib.itoa v)
  rw [Uax] at hin
  have hls : (Lib.itoa v).length ≤ 10 := by
    rw [hin, List.length_append]
    split <;> simp <;> omega
  rw [UfL n _ (by omega), Uax, UsD n hn _ _ _ (by omega) (Uo0 _) hl (Ua4 _) ?_, UcA, UbY]
  intro h48
  rcases Ulu v.natAbs with h | h
  · exact absurd h48 h
  · by_cases hv0 : v < 0
    · exfalso
      have h1 := Ua4 v.natAbs
      cases hd : dec v.natAbs with
      | nil => exact Uo0 _ hd
      | cons c r =>
        rw [hd] at h48 h
        simp at h48 h
        have : dec v.natAbs = dec 0 := by rw [hd, h48, h, Uap]
        have := Ucx this
        omega
    · rw [hin, decide_eq_false hv0]
      simp only [Bool.false_eq_true, if_false, List.nil_append]
      omega
theorem Ui7 (n : Nat) (hn : 20 ≤ n) (s : List UInt8) (hs : s.length < 2 ^ 40) (h : ¬ ∃ v : Int, v.natAbs < 10 ^ 9 ∧ s = Lib.itoa v) (k0 : Int → Bool → Option R) : p95 n (bs s) k0 = k0 0 false := by
  have hl := Ult s
  rw [UfL n s hs]
  refine Unx n hn s _ _ hs (by omega) ?_ k0
  rintro ⟨h1, h2, h3, h4⟩
  apply h
  have hin := Udq s
  have hd : dec (ofD (UbZ s).2) = (UbZ s).2 := Uo1 h3 h1 (by
    by_cases hz : (UbZ s).2.head? = some 48
    · right
      have := h4 hz
      have := List.length_pos_iff.2 h1
      omega
    · exact Or.inl hz)
  have hlt : ofD (UbZ s).2 < 10 ^ 9 := (Ubp _ 9 (by omega)).1 (by rw [hd]; exact h2)
  refine ⟨zs (UbZ s).1 (ofD (UbZ s).2), by rw [Uaz]; exact hlt, ?_⟩
  by_cases h0 : ofD (UbZ s).2 = 0
  · have e : (UbZ s).1 = false := by
      cases hb : (UbZ s).1 with
      | false => rfl
      | true =>
        exfalso
        rw [h0, Uap] at hd
        have h5 := h4 (by rw [← hd]; rfl)
        rw [hb, ← hd] at hin
        rw [hin] at h5
        simp at h5
    rw [h0, e]
    rw [e, ← hd, h0] at hin
    rw [hin]
    exact (Ub0 0).symm
  · rw [Uhk _ h0, hd]; exact hin
end Go.Proofs.YtmgfmlhdnadglaaGreatDoor
set_option linter.unusedVariables false
set_option maxRecDepth 100000
namespace Go.Proofs.YtmgfmlhdnadglaaGreatDoor
open Go Th Go.Proofs
noncomputable section
variable {R : Type}
def Ubf : Ann := { loops := [(3, ids [0, 2, 4, 5], ids [0, 2, 3, 4])], cuts := [(4, ids [0, 2, 4, 5], ids [0, 2, 3, 4, 5]), (11, ids [0, 2, 6, 7], ids [2, 3]), (13, ids [0, 2, 6, 7], ids [2, 3])], frz := [], rm := [.id, .id] }
abbrev Up (n : Nat) : Env := eC 136 (UCL n) (eC 125 (UyY n) (eC 123 (UrE n) (eC 77 (UC1 n) (eC 73 (UGh n) eN))))
theorem UlL (n : Nat) : EnvOK Tryz.prog GI (Up n) := .cons (.cons (.cons (.cons (.cons (.nil) (UKX n)) (UFl n)) (UtR n)) (UDi n)) (UG7 n)
def Ufz (n : Nat) (x1 : ByteArray) (x2 x3 : Bool) (x4 x5 : Int) (k0 : ByteArray → Bool → Bool → Int → Int → O R) : O R :=
  k0 x1 x2 x3 x4 (IntKind.i64.wrap (x5 + 1))
def UeR (n : Nat) (l0 : ByteArray → Bool → Bool → Int → Int → O R) (x1 : ByteArray) (x2 x3 : Bool) (x4 x5 : Int) (k0 : ByteArray → Bool → Bool → Int → O R) : O R :=
  bif (decide (x5 < ((x1).size : Int))) then (bif (inR x5 (x1).size) then (bif (Jc9 x1 x5 == 47) then (bif (bif true then (x4 == ((x1).size : Int)) else false) then (Ufz n x1 x2 x3 x5 x5 (fun y6 y7 y8 y9 y10 => l0 y6 y7 y8 y9 y10)) else (Ufz n x1 x2 x3 x4 x5 (fun y11 y12 y13 y14 y15 => l0 y11 y12 y13 y14 y15))) else (Ufz n x1 x2 x3 x4 x5 (fun y16 y17 y18 y19 y20 => l0 y16 y17 y18 y19 y20))) else none) else (k0 x1 x2 x3 x4)
def Ub3 (n : Nat) : Nat → ByteArray → Bool → Bool → Int → Int → (ByteArray → Bool → Bool → Int → O R) → O R
  | 0, _, _, _, _, _, _ => none
  | m + 1, x1, x2, x3, x4, x5, k0 => UeR n (fun x1 x2 x3 x4 x5 => Ub3 n m x1 x2 x3 x4 x5 k0) x1 x2 x3 x4 x5 k0
def Ur4 (n : Nat) (x1 : ByteArray) (x2 x3 : Bool) (x4 x5 : Int) (k0 : ByteArray → Bool → Bool → Int → O R) : O R := Ub3 n n x1 x2 x3 x4 x5 k0
def UeQ (n : Nat) (x1 : ByteArray) (x2 x3 : Bool) (x4 x5 : ByteArray) (k0 : Bool → LP → Bool → LP → Bool → O R) : O R :=
  Uwc n x5 (fun y6 y7 => p77 n y6 y7 (fun y8 => bif y8 then (k0 false [] false [] false) else (Uwc n x4 (fun y9 y10 => Uwc n x5 (fun y11 y12 => Uwb n y9 y10 y11 y12 (fun y13 y14 y15 y16 => p73 n y13 y14 y15 y16 (fun y17 => k0 y13 y14 y15 y16 (eqS y17 x1))))))))
def UaV (n : Nat) (x1 : ByteArray) (x2 x3 : Bool) (x4 x5 : ByteArray) (k0 : Bool → LP → Bool → LP → Bool → O R) : O R :=
  UDt n x4 (fun y6 => bif (!y6) then (k0 false [] false [] false) else (UDt n x5 (fun y7 => bif (bif false then true else (!y7)) then (k0 false [] false [] false) else (UeQ n x1 x2 x3 x4 x5 (fun y8 y9 y10 y11 y12 => k0 y8 y9 y10 y11 y12)))))
def Uw (n : Nat) (x1 : ByteArray) (k0 : Bool → LP → Bool → LP → Bool → O R) : O R :=
  Ur4 n x1 false false ((x1).size : Int) 0 (fun y2 y3 y4 y5 => bif (Jfa 0 y5 (y2).size) then (bif (decide (y5 < ((y2).size : Int))) then (bif (Jfa (IntKind.i64.wrap (y5 + 1)) ((y2).size : Int) (y2).size) then (UaV n y2 y3 y4 (ByteArray.extract y2 (0 : Int).toNat (y5 : Int).toNat) (ByteArray.extract y2 (IntKind.i64.wrap (y5 + 1) : Int).toNat (((y2).size : Int) : Int).toNat) (fun y6 y7 y8 y9 y10 => k0 y6 y7 y8 y9 y10)) else none) else (UaV n y2 y3 y4 (ByteArray.extract y2 (0 : Int).toNat (y5 : Int).toNat) ⟨#[49]⟩ (fun y11 y12 y13 y14 y15 => k0 y11 y12 y13 y14 y15))) else none)
abbrev UES (n : Nat) : Code → Fr → Kc R → O R := evC Tryz.prog (Up n) Ubf n (62, [])
noncomputable def Un8 : Code := Jk (Jls Tryz.f109) [1, 1, 0, 1, 0, 0, 1, 1]
abbrev Ukx : Sl (List SV) := (cS (.c (sBx 57 (cB (.c sNl (cB (.c sNl .n))))) (cI (cI .n))))
abbrev UqF (n : Nat) (K : Kc R) : Ukx.T (O R) := fun x1 x2 x3 x4 x5 => Ufz n x1 x2 x3 x4 x5 (fun y1 y2 y3 y4 y5 => xC Ubf 4 K .normal [vS y1, .bx 57 [vB y2, .nl, vB y3, .nl], dD, vI y4, vI y5])
noncomputable def Uk6 : Code := Jk (Jls Tryz.f109) [1, 1, 1, 1, 1, 1]
abbrev Uik : Sl (List SV) := (cS (.c (sBx 57 (cB (.c sNl (cB (.c sNl .n))))) (cS (cS .n))))
abbrev Umh (n : Nat) (K : Kc R) : Uik.T (O R) := fun x1 x2 x3 x4 x5 => UaV n x1 x2 x3 x4 x5 (fun y1 y2 y3 y4 y5 => xC Ubf 11 K .ret [.bx 57 [vB y1, vH y2, vB y3, vH y4], vB y5])
noncomputable def Uk7 : Code := Jk (Jls Tryz.f109) [1, 1, 1, 1, 1, 1, 1]
abbrev Uil : Sl (List SV) := (cS (.c (sBx 57 (cB (.c sNl (cB (.c sNl .n))))) (cS (cS .n))))
abbrev Umi (n : Nat) (K : Kc R) : Uil.T (O R) := fun x1 x2 x3 x4 x5 => UeQ n x1 x2 x3 x4 x5 (fun y1 y2 y3 y4 y5 => xC Ubf 13 K .ret [.bx 57 [vB y1, vH y2, vB y3, vH y4], vB y5])
noncomputable def Un9 : Code := Jk (Jls Tryz.f109) [1, 1, 0, 1, 0, 0]
abbrev Ud8 : Sl (List SV) := (cS (.c (sBx 57 (cB (.c sNl (cB (.c sNl .n))))) (cI (cI .n))))
abbrev UjL (n m : Nat) (K : Kc R) : Ud8.T (O R) := fun x1 x2 x3 x4 x5 => Ub3 n m x1 x2 x3 x4 x5 (fun y1 y2 y3 y4 => xL Ubf 3 K (.exit 0) [vS y1, .bx 57 [vB y2, .nl, vB y3, .nl], dD, vI y4])
abbrev UxA (n : Nat) (K : Kc R) (l0 : Ud8.T (O R)) : Ud8.T (O R) := fun x1 x2 x3 x4 x5 => UeR n l0 x1 x2 x3 x4 x5 (fun y1 y2 y3 y4 => xL Ubf 3 K (.exit 0) [vS y1, .bx 57 [vB y2, .nl, vB y3, .nl], dD, vI y4])
abbrev UrM (n : Nat) : Orc R := oL Ubf (UES n) n 3 Un9 Ud8 (UjL n n) oN
abbrev UoY (n : Nat) : Orc R := oC Ubf (UES n) 13 Uk7 Uil (Umi n) (oC Ubf (UES n) 11 Uk6 Uik (Umh n) (oC Ubf (UES n) 4 Un8 Ukx (UqF n) oN))
abbrev UAS (R : Type) (n : Nat) := JcK (R := R) Tryz.prog (Up n) Ubf n (62, []) (UrM n) (UoY n)
theorem Uzx (n : Nat) : UAS R n (true, 4, Un8) := Jk3 (lo := UrM n) (cu := UoY n) (pO pN (by kernel_rfl)) Ukx (UqF n) (fun K _ _ _ _ _ => by show _ = _; kernel_rfl) fun _ _ => rfl
theorem Uzy (n : Nat) : UAS R n (false, 3, Un9) := JkM (lo := UrM n) (cu := UoY n) (pO (pC (Uzx n) pN) (by kernel_rfl)) Ud8 (UjL n n) (JiK (F := UjL n) Ud8 (UxA n) (fun K _ _ _ _ _ => rfl) (fun _ _ => rfl) (fun L K _ _ _ _ _ => by show _ = _; kernel_rfl) n) fun _ _ => rfl
theorem Ut3 (n : Nat) : UAS R n (true, 13, Uk7) := Jk3 (lo := UrM n) (cu := UoY n) (pO pN (by kernel_rfl)) Uil (Umi n) (fun K _ _ _ _ _ => by show _ = _; kernel_rfl) fun _ _ => rfl
theorem Ut2 (n : Nat) : UAS R n (true, 11, Uk6) := Jk3 (lo := UrM n) (cu := UoY n) (pO (pC (Ut3 n) pN) (by kernel_rfl)) Uik (Umh n) (fun K _ _ _ _ _ => by show _ = _; kernel_rfl) fun _ _ => rfl
theorem UHI (n : Nat) : Jfb (UAS R n) (JaJ Ubf (Jls Tryz.f109)) := pO (pC (Uzy n) (pC (Ut2 n) pN)) (by kernel_rfl)
abbrev UIo : Sl (List SV) := (cS .n)
abbrev f109 (n : Nat) (K : List SV → O R) : UIo.T (O R) := fun x1 => Uw n x1 (fun y1 y2 y3 y4 y5 => K [.p (.agg [.v (.bool y1), .sh y2, .v (.bool y3), .sh y4]), vB y5])
abbrev UyU (n : Nat) : FS := fT [false] UIo (f109 n)
theorem UDe (n : Nat) : FSound Tryz.prog GI 109 (UyU n) := gd Ubf n (UlL n) Tryz.func109 (.cons (UlL n) UIo (f109 n) (fun K _ => (Jkx (c := Jls Tryz.f109) (by kernel_rfl) (UHI n) K).trans (by kernel_rfl)) .nil) (by kernel_rfl)
end
end Go.Proofs.YtmgfmlhdnadglaaGreatDoor
set_option linter.unusedVariables false
set_option linter.unusedSimpArgs false
namespace Go.Proofs.YtmgfmlhdnadglaaGreatDoor
open Go Th Go.Proofs
variable {R : Type}
theorem Uv4 {a : Nat} (h : a < 10 ^ 400) : ll a ≤ 400 := Udv.2 h
theorem Uas {n : Nat} (hn : 10 ^ 400 ≤ n) : 200000 ≤ n := Nat.le_trans (by decide +kernel) hn
theorem Uvo (z w : Int) (hw : w ≠ 0) : (Rat.divInt z w).den ≤ w.natAbs := by
  rw [UcV, UmL _ _ _ (by omega)]; exact Nat.div_le_self _ _
theorem Uv9 (z w : Int) (hw : w ≠ 0) : (Rat.divInt z w).num.natAbs ≤ z.natAbs := by
  rw [UcV, UmM _ _ _ (by omega), Uaz]; exact Nat.div_le_self _ _
def idx (s : List UInt8) : Nat := (s.takeWhile (· != 47)).length
theorem Uy4 : idx [] = 0 := rfl
theorem UaM (c : UInt8) (r : List UInt8) : idx (c :: r) = if c = 47 then 0 else idx r + 1 := by
  unfold idx
  rw [List.takeWhile_cons]
  by_cases h : c = 47 <;> simp [h]
theorem UrI : ∀ (s : List UInt8), idx s ≤ s.length
  | [] => Nat.le_refl _
  | c :: r => by
    have := UrI r
    rw [UaM, List.length_cons]
    split <;> omega
theorem UmG : ∀ {s : List UInt8}, (∀ c ∈ s, c ≠ 47) → idx s = s.length
  | [], _ => rfl
  | c :: r, h => by rw [UaM, if_neg (h c (List.mem_cons_self ..)), UmG fun x hx => h x (List.mem_cons_of_mem _ hx), List.length_cons]
theorem UvZ : ∀ {a : List UInt8} (b : List UInt8), (∀ c ∈ a, c ≠ 47) → idx (a ++ 47 :: b) = a.length
  | [], b, _ => by rw [List.nil_append, UaM, if_pos rfl]; rfl
  | c :: r, b, h => by rw [List.cons_append, UaM, if_neg (h c (List.mem_cons_self ..)), UvZ b fun x hx => h x (List.mem_cons_of_mem _ hx), List.length_cons]
theorem UiX : ∀ {s : List UInt8}, idx s < s.length → s = s.take (idx s) ++ 47 :: s.drop (idx s + 1)
  | [], h => by simp [Uy4] at h
  | c :: r, h => by
    rw [UaM, List.length_cons] at *
    by_cases hc : c = 47
    · rw [if_pos hc] at *; rw [hc]; rfl
    · rw [if_neg hc] at *
      have ih := UiX (s := r) (by omega)
      rw [List.take_succ_cons, List.drop_succ_cons, List.cons_append, ← ih]
theorem UcY : ∀ (s : List UInt8), Lib.indexByte s 47 = if idx s < s.length then (idx s : Int) else -1
  | [] => rfl
  | c :: r => by
    have ih := UcY r
    simp only [Lib.indexByte, UaM, List.length_cons]
    by_cases hc : c = 47
    · subst hc; simp
    · rw [if_neg (by simpa using hc), ih, if_neg hc]
      by_cases h : idx r < r.length
      · simp only [if_pos h]
        rw [if_neg (by simp), if_pos (by omega)]; omega
      · simp only [if_neg h]
        rw [if_pos (by decide), if_neg (by omega)]
theorem Uvn (n : Nat) (s : List UInt8) (hs : s.length < 2 ^ 40) (k0 : ByteArray → ByteArray → Bool → Option R) :
    p96 n (bs s) k0 = if idx s < s.length then k0 (bs (s.take (idx s))) (bs (s.drop (idx s + 1))) true else k0 (bs s) (bs []) false := by
  unfold p96 UHv
  have e : ((⟨#[47]⟩ : ByteArray).data.toList.headD 0) = 47 := rfl
  have hz : (⟨#[47]⟩ : ByteArray).size = 1 := rfl
  rw [Jhc, e, UcY]
  by_cases h : idx s < s.length
  · rw [if_pos h, if_pos h]
    have e1 : (idx s : Int) + ((1 : Nat) : Int) = ((idx s + 1 : Nat) : Int) := by omega
    have e2 : List.drop (0 : Int).toNat (List.take (idx s) s) = s.take (idx s) := rfl
    have e3 : List.drop 0 (List.take (idx s) s) = s.take (idx s) := rfl
    have e4 : List.drop (idx s + 1) (List.take s.length s) = s.drop (idx s + 1) := by rw [List.take_length]
    have hz2 : (bs [47]).size = 1 := rfl
    simp (disch := (first | omega | (simp only [JlL]; omega))) only [↓JlO, JlM, hz, hz2, e1, Jjo, e2, e3, e4, List.length_nil]
  · rw [if_neg h, if_neg h]
    simp (disch := (first | omega | (simp only [JlL]; omega))) only [↓JlO, JlM]
theorem UtN (a : Nat) : ∀ c ∈ dec a, c ≠ 47 := by
  intro c hc h
  have := UaB.1 (Ua4 a c hc)
  rw [h] at this
  exact absurd this.1 (by decide)
theorem UiY (z : Int) : ∀ c ∈ Lib.itoa z, c ≠ 47 := by
  have h := Udq (Lib.itoa z)
  rw [Uax] at h
  rw [h]
  intro c hc
  rcases List.mem_append.1 hc with h1 | h1
  · split at h1
    · rw [List.mem_singleton.1 h1]; decide
    · cases h1
  · exact UtN _ c h1
theorem UeK {z : Int} (h : z.natAbs < 10 ^ 400) : (Lib.itoa z).length ≤ 401 := by
  have h1 := Udr h
  have h2 := Udq (Lib.itoa z)
  rw [Uax] at h2
  rw [h2, List.length_append]
  split <;> simp <;> omega
theorem UaY {q : Rat} (h : Ual q) : (Uag q).length ≤ 802 := by
  unfold Uag
  have h1 := UeK h.1
  have h2 := Udr h.2
  rw [List.length_append]
  split <;> simp <;> omega
theorem UjC : dec 1 = [49] := Ua5 (by omega)
theorem Ucj (q : Rat) : (Uag q).take (idx (Uag q)) = Lib.itoa q.num ∧ (idx (Uag q) < (Uag q).length ↔ q.den ≠ 1) ∧ (q.den ≠ 1 → (Uag q).drop (idx (Uag q) + 1) = dec q.den) := by
  unfold Uag
  by_cases h : q.den = 1
  · rw [if_pos h, List.append_nil, UmG (UiY _), List.take_length]
    exact ⟨rfl, by simp [h], fun q => absurd h q⟩
  · rw [if_neg h, UvZ _ (UiY _), List.take_left]
    refine ⟨rfl, by simp [h], fun _ => ?_⟩
    rw [List.drop_append, List.drop_of_length_le (by omega), show (Lib.itoa q.num).length + 1 - (Lib.itoa q.num).length = 1 from by omega]
    rfl
theorem Uie {p q : Rat} (h : Uag p = Uag q) : p = q := by
  obtain ⟨a1, a2, a3⟩ := Ucj p
  obtain ⟨b1, b2, b3⟩ := Ucj q
  rw [h] at a1 a2 a3
  have hn : Lib.itoa p.num = Lib.itoa q.num := a1.symm.trans b1
  have hc := congrArg UbZ hn
  rw [Uax, Uax] at hc
  have h1 := Ucx (Prod.mk.inj hc).2
  have h2 : (p.num < 0) = (q.num < 0) := by simpa using (Prod.mk.inj hc).1
  have hnum : p.num = q.num := by
    have : p.num < 0 ↔ q.num < 0 := by rw [h2]
    omega
  by_cases hd : q.den = 1
  · have : p.den = 1 := by
      apply Classical.byContradiction
      intro hp
      exact (b2.1 (a2.2 hp)) hd
    exact Rat.ext hnum (this.trans hd.symm)
  · have hp : p.den ≠ 1 := a2.1 (b2.2 hd)
    exact Rat.ext hnum (Ucx ((a3 hp).symm.trans (b3 hd)))
def isQ (s : List UInt8) : Prop := ∃ q : Rat, Ual q ∧ s = Uag q
theorem UrH (n : Nat) (z w : Nat) (hz : z < 10 ^ 400) (hw : w < 10 ^ 400) (hw0 : w ≠ 0) (hn : 10 ^ 400 ≤ n) (x1 x3 : Bool) (x5 : List PV) (k0 : Bool → List PV → List PV → Bool → Option R) :
    UhS n x1 (bs (dec w)) x3 (NN z) x5 k0 = k0 x3 (NN z) (NN w) (Nat.gcd w z == 1) := by
  have hN := Nat.le_trans (by decide +kernel : 2 ^ 20 ≤ 10 ^ 400) hn
  have m1 := UaC hz
  have m2 := UaC hw
  have lw := Udr hw
  have q2 := fun k0 => Uia (R := R) n (dec w) (Ua4 _) (by omega) (by omega) k0
  rw [UcA] at q2
  have hg := fun k0 => UvV (R := R) n z w (by omega) (by omega) (by omega) (by omega) (by omega) k0
  obtain ⟨g, hge⟩ : ∃ g, Nat.gcd w z = g := ⟨_, rfl⟩
  have hg0 : g ≠ 0 := by rw [← hge]; intro e; exact hw0 (Nat.gcd_eq_zero_iff.1 e).1
  rw [hge] at hg ⊢
  have hgl : (toL 1000000000 g).length ≤ 45 := UbO m2 (by rw [← hge]; exact Nat.le_of_dvd (by omega) (Nat.gcd_dvd_left _ _))
  unfold UhS
  clear hz hw hn
  simp only [q2, hg, UuC]
  by_cases c : (toL 1000000000 g).length = 1
  · have hg1 : g < 1000000000 := by
      have := (Uah hB2 g 1).1 (by omega)
      rwa [Nat.pow_one] at this
    have hgi : ∀ (K : Int → Option R), Jjf .u32 ((NN g).getD (0 : Int).toNat (PV.v (Value.bool false))) K = K (g : Int) := fun K => by rw [UgN hg0 hg1]; rfl
    have e1 : (((toL 1000000000 g).length : Int) == 1) = true := by rw [c]; rfl
    have e2 : ((g : Int) == 1) = (g == 1) := JdF g 1
    simp (disch := (first | omega | (simp only [JlL]; omega))) only [↓JlO, JlM, JlN, e1, hgi, e2]
  · have e1 : (((toL 1000000000 g).length : Int) == 1) = false := by
      simp only [beq_eq_false_iff_ne, ne_eq]; omega
    have e2 : (g == 1) = false := by
      simp only [beq_eq_false_iff_ne, ne_eq]
      intro e
      rw [e, Ues hB2 (by omega) (by omega)] at c
      exact c rfl
    rw [e2]
    simp (disch := (first | omega | (simp only [JlL]; omega))) only [↓JlO, JlM, JlN, e1]
theorem UjA (q : Rat) : Nat.gcd q.den q.num.natAbs = 1 := by rw [Nat.gcd_comm]; exact q.reduced
theorem UtE {s : List UInt8} : eqS (bs s) (⟨#[48]⟩ : ByteArray) = (s == [48]) := rfl
theorem UyP {s : List UInt8} : eqS (bs s) (⟨#[49]⟩ : ByteArray) = (s == [49]) := rfl
theorem UrK (z : Int) (w : Nat) (hz : z.natAbs < 10 ^ 400) (hw : w < 10 ^ 400) (h0 : w ≠ 0) (hc : Nat.gcd w z.natAbs = 1) : ∃ q : Rat, Ual q ∧ q.num = z ∧ q.den = w :=
  ⟨⟨z, w, h0, by rw [Nat.gcd_comm] at hc; exact hc⟩, ⟨hz, hw⟩, rfl, rfl⟩
theorem UcF (n : Nat) (hn : 10 ^ 400 ≤ n) (q : Rat) (hq : Ual q) (k0 : Bool → List PV → List PV → Bool → Option R) :
    p56 n (bs (Uag q)) k0 = k0 (sg q.num) (NN q.num.natAbs) (NN q.den) true := by
  have hN := Nat.le_trans (by decide +kernel : 2 ^ 20 ≤ 10 ^ 400) hn
  have hl := UaY hq
  obtain ⟨a1, a2, a3⟩ := Ucj q
  have c1 := fun k0 => Uvn (R := R) n (Uag q) (by omega) k0
  have li := UeK hq.1
  have i1 := fun k0 => Udt (R := R) n (Lib.itoa q.num) (by omega) k0
  rw [Uax, Ufv hq.1] at i1
  have ln := Udr hq.1
  have q1 := fun k0 => Uia (R := R) n (dec q.num.natAbs) (Ua4 _) (by omega) (by omega) k0
  rw [UcA] at q1
  unfold p56
  by_cases hd : q.den = 1
  · have e1 : Uag q = Lib.itoa q.num := by unfold Uag; rw [if_pos hd, List.append_nil]
    simp only [if_neg (fun h => a2.1 h hd)] at c1
    rw [e1] at c1 ⊢
    simp only [c1, i1, q1, Bool.not_true, Bool.not_false, UaR, Uak]
    rw [hd, UAU]
  · simp only [if_pos (a2.2 hd), a1, a3 hd] at c1
    have d1 := fun k0 => Ufp (R := R) n (dec q.den) (by have := Udr hq.2; omega) k0
    rw [Uly hq.2] at d1
    have g1 := fun x1 x3 x5 k0 => UrH (R := R) n q.num.natAbs q.den hq.1 hq.2 q.den_nz hn x1 x3 x5 k0
    rw [UjA] at g1
    have e48 : (dec q.den == [48]) = false := by
      simp only [beq_eq_false_iff_ne, ne_eq]
      intro e; exact q.den_nz (Ucx (e.trans Uap.symm))
    have e49 : (dec q.den == [49]) = false := by
      simp only [beq_eq_false_iff_ne, ne_eq]
      intro e; exact hd (Ucx (e.trans UjC.symm))
    simp only [c1, i1, q1, d1, UtE, UyP, e48, e49, g1, Bool.not_true, Bool.not_false, UaR, Uak, show ((1 : Nat) == 1) = true from rfl]
theorem UAo (n : Nat) (hn : 10 ^ 400 ≤ n) (s : List UInt8) (hs : s.length < 2 ^ 20) :
    isQ s ∨ ∃ a b c, ∀ k0 : Bool → List PV → List PV → Bool → Option R, p56 n (bs s) k0 = k0 a b c false := by
  have hN := Nat.le_trans (by decide +kernel : 2 ^ 20 ≤ 10 ^ 400) hn
  have c1 := fun k0 => Uvn (R := R) n s (by omega) k0
  by_cases hsl : idx s < s.length
  · simp only [if_pos hsl] at c1
    have hspl := UiX hsl
    have lt : (s.take (idx s)).length < 2 ^ 20 := by rw [List.length_take]; omega
    have lb : (s.drop (idx s + 1)).length < 2 ^ 20 := by rw [List.length_drop]; omega
    generalize s.take (idx s) = t at *
    generalize s.drop (idx s + 1) = b at *
    have i1 := fun k0 => Udt (R := R) n t (by omega) k0
    have d1 := fun k0 => Ufp (R := R) n b (by omega) k0
    cases hI : Ujn t with
    | false =>
      rw [hI] at i1
      exact Or.inr ⟨false, [], [], fun k0 => by unfold p56; simp only [c1, i1, Bool.not_false, UaR]⟩
    | true =>
      rw [hI] at i1
      obtain ⟨z, hz, rfl⟩ := UeJ hI
      rw [Uax] at i1
      have ln := Udr hz
      have q1 := fun k0 => Uia (R := R) n (dec z.natAbs) (Ua4 _) (by omega) (by omega) k0
      rw [UcA] at q1
      cases hD : UiJ b with
      | false =>
        rw [hD] at d1
        exact Or.inr ⟨false, [], [], fun k0 => by unfold p56; simp only [c1, i1, q1, d1, Bool.not_true, Bool.not_false, UaR, Uak]⟩
      | true =>
        rw [hD] at d1
        obtain ⟨hw, hb⟩ := Ulz hD
        by_cases h48 : b = [48]
        · have e48 : (b == [48]) = true := by simpa using h48
          exact Or.inr ⟨false, [], [], fun k0 => by unfold p56; simp only [c1, i1, q1, d1, UtE, e48, Bool.not_true, Bool.not_false, UaR, Uak]⟩
        have e48 : (b == [48]) = false := by simpa using h48
        by_cases h49 : b = [49]
        · have e49 : (b == [49]) = true := by simpa using h49
          exact Or.inr ⟨false, [], [], fun k0 => by unfold p56; simp only [c1, i1, q1, d1, UtE, UyP, e48, e49, Bool.not_true, Bool.not_false, UaR, Uak]⟩
        have e49 : (b == [49]) = false := by simpa using h49
        have hw0 : ofD b ≠ 0 := fun e => h48 (by rw [hb, e, Uap])
        have hw1 : ofD b ≠ 1 := fun e => h49 (by rw [hb, e, UjC])
        have g1 := fun x1 x3 x5 k0 => UrH (R := R) n z.natAbs (ofD b) hz hw hw0 hn x1 x3 x5 k0
        rw [← hb] at g1
        by_cases hg : Nat.gcd (ofD b) z.natAbs = 1
        · obtain ⟨q, f1, f2, f3⟩ := UrK z (ofD b) hz hw hw0 hg
          refine Or.inl ⟨q, f1, ?_⟩
          unfold Uag
          rw [f2, f3, if_neg hw1, ← hb]
          exact hspl
        · rw [show (Nat.gcd (ofD b) z.natAbs == 1) = false from by simpa using hg] at g1
          exact Or.inr ⟨decide (z < 0), NN z.natAbs, NN (ofD b), fun k0 => by unfold p56; simp only [c1, i1, q1, d1, UtE, UyP, e48, e49, g1, Bool.not_true, Bool.not_false, UaR, Uak]⟩
  · simp only [if_neg hsl] at c1
    have i1 := fun k0 => Udt (R := R) n s (by omega) k0
    cases hI : Ujn s with
    | false =>
      rw [hI] at i1
      exact Or.inr ⟨false, [], [], fun k0 => by unfold p56; simp only [c1, i1, Bool.not_false, UaR]⟩
    | true =>
      obtain ⟨z, hz, rfl⟩ := UeJ hI
      obtain ⟨q, f1, f2, f3⟩ := UrK z 1 hz (by decide +kernel) (by omega) (Nat.gcd_one_left _)
      refine Or.inl ⟨q, f1, ?_⟩
      unfold Uag
      rw [f2, f3, if_pos rfl, List.append_nil]
theorem Uup (n : Nat) (hn : 10 ^ 400 ≤ n) (s : List UInt8) (hs : s.length < 2 ^ 20) (h : ¬ isQ s) : ∃ a b c, ∀ k0 : Bool → List PV → List PV → Bool → Option R, p56 n (bs s) k0 = k0 a b c false :=
  (UAo n hn s hs).resolve_left h
theorem Uay (v : Int) : Lib.itoa v = Uag (v : Rat) := by
  unfold Uag
  rw [Rat.num_intCast, Rat.den_intCast, if_pos rfl, List.append_nil]
theorem Uhi {v : Int} (h : v.natAbs < 10 ^ 400) : Ual (v : Rat) := by
  unfold Ual
  rw [Rat.num_intCast, Rat.den_intCast]
  exact ⟨h, by decide +kernel⟩
theorem UnH (n : Nat) (hn : 10 ^ 400 ≤ n) (s : List UInt8) (hs : s.length < 2 ^ 20) (k0 : Bool → Option R) [Decidable (isQ s)] : p53 n (bs s) k0 = k0 (decide (isQ s)) := by
  have hN := Nat.le_trans (by decide +kernel : 2 ^ 20 ≤ 10 ^ 400) hn
  unfold p53
  by_cases hv : ∃ v : Int, v.natAbs < 10 ^ 9 ∧ s = Lib.itoa v
  · obtain ⟨v, h1, rfl⟩ := hv
    have hq : isQ (Lib.itoa v) := ⟨(v : Rat), Uhi (Nat.lt_trans h1 (by decide +kernel)), Uay v⟩
    rw [Ue9 n (by omega) v h1, decide_eq_true hq]; rfl
  · rw [Ui7 n (by omega) s (by omega) hv, Uak]
    by_cases hq : isQ s
    · obtain ⟨q, h1, rfl⟩ := hq
      rw [UcF n hn q h1, decide_eq_true ⟨q, h1, rfl⟩]
    · obtain ⟨a, b, c, h⟩ := Uup (R := R) n hn s hs hq
      rw [h, decide_eq_false hq]
theorem Uv1 : ∀ {s : List UInt8} {i : Nat} (h : i < s.length), i < idx s → s[i] ≠ 47
  | c :: r, 0, _, h => by
    rw [UaM] at h
    intro e
    rw [if_pos (by simpa using e)] at h
    omega
  | c :: r, i + 1, hl, h => by
    rw [UaM] at h
    by_cases hc : c = 47
    · rw [if_pos hc] at h; omega
    · rw [if_neg hc] at h
      rw [List.getElem_cons_succ]
      exact Uv1 (by simpa using hl) (by omega)
theorem Uv0 : ∀ {s : List UInt8} (h : idx s < s.length), s[idx s] = 47
  | c :: r, h => by
    by_cases hc : c = 47
    · simp [UaM, hc]
    · have e : idx (c :: r) = idx r + 1 := by rw [UaM, if_neg hc]
      have h2 : idx r < r.length := by rw [e, List.length_cons] at h; omega
      simp only [e, List.getElem_cons_succ]
      exact Uv0 h2
theorem Ugg (n : Nat) (s : List UInt8) (hs : s.length < 2 ^ 40) (x2 x3 : Bool) (k0 : ByteArray → Bool → Bool → Int → Option R) : ∀ (d m i : Nat), d + i = s.length → d < m →
    Ub3 n m (bs s) x2 x3 ((if idx s < i then idx s else s.length : Nat) : Int) i k0 = k0 (bs s) x2 x3 (idx s : Int)
  | 0, m + 1, i, hd, hm => by
    have h1 := UrI s
    have e : (if idx s < i then idx s else s.length) = idx s := by split <;> omega
    rw [e]
    simp only [Ub3, UeR]
    simp (disch := (first | omega | (simp only [JlL]; omega))) only [↓JlO, JlM]
  | d + 1, m + 1, i, hd, hm => by
    have hi : i < s.length := by omega
    have ih := Ugg n s hs x2 x3 k0 d m (i + 1) (by omega) (by omega)
    have e1 : (i : Int) + 1 = ((i + 1 : Nat) : Int) := by omega
    have e2 : Jc9 (bs s) (i : Int) = (s[i].toNat : Int) := Jj5 hi
    have hb := Ux2 s[i] 47
    rw [show ((47 : UInt8).toNat : Int) = 47 from rfl] at hb
    simp only [Ub3, UeR, Ufz]
    by_cases h1 : idx s < i
    · rw [if_pos (by omega)] at ih
      rw [if_pos h1]
      have e3 : ((idx s : Int) == (s.length : Int)) = false := by rw [JdF]; simp only [beq_eq_false_iff_ne, ne_eq]; omega
      cases hc : (s[i] == 47)
      · rw [hc] at hb
        simp (disch := (first | omega | (simp only [JlL]; omega))) only [↓JlO, JlM, e1, e2, hb, ih]
      · rw [hc] at hb
        simp (disch := (first | omega | (simp only [JlL]; omega))) only [↓JlO, JlM, e1, e2, hb, e3, ih]
    · rw [if_neg h1]
      have e3 : ((s.length : Int) == (s.length : Int)) = true := by simp
      by_cases h2 : idx s = i
      · subst h2
        have hc2 : (s[idx s] == 47) = true := by simpa using Uv0 hi
        rw [hc2] at hb
        rw [if_pos (by omega)] at ih
        simp (disch := (first | omega | (simp only [JlL]; omega))) only [↓JlO, JlM, e1, e2, hb, e3, ih]
      · have hc2 : (s[i] == 47) = false := by
          have := Uv1 hi (by omega)
          simpa using this
        rw [hc2] at hb
        rw [if_neg (by omega)] at ih
        simp (disch := (first | omega | (simp only [JlL]; omega))) only [↓JlO, JlM, e1, e2, hb, ih]
theorem UfN (n : Nat) (s : List UInt8) (hs : s.length < 2 ^ 40) (hn : s.length < n) (k0 : Bool → List PV → Bool → List PV → Bool → Option R) :
    Uw n (bs s) k0 = UaV n (bs s) false false (bs (s.take (idx s))) (bs (if idx s < s.length then s.drop (idx s + 1) else [49])) k0 := by
  have hl := fun k0 => Ugg (R := R) n s hs false false k0 s.length n 0 (by omega) hn
  simp only [Nat.not_lt_zero, if_false] at hl
  rw [show ((0 : Nat) : Int) = 0 from rfl] at hl
  have h1 := UrI s
  have e2 : List.drop (0 : Int).toNat (List.take (idx s) s) = s.take (idx s) := rfl
  have e3 : List.drop 0 (List.take (idx s) s) = s.take (idx s) := rfl
  have e4 : List.drop (idx s + 1) (List.take s.length s) = s.drop (idx s + 1) := by rw [List.take_length]
  have e5 : (idx s : Int) + 1 = ((idx s + 1 : Nat) : Int) := by omega
  unfold Uw Ur4
  by_cases h : idx s < s.length
  · rw [if_pos h]
    simp (disch := (first | omega | (simp only [JlL]; omega))) only [↓JlO, JlM, hl, Jjo, e2, e3, e4, e5]
  · rw [if_neg h]
    simp (disch := (first | omega | (simp only [JlL]; omega))) only [↓JlO, JlM, hl, Jjo, e2, e3, e4, e5]
theorem Ugd (n : Nat) (hn : 10 ^ 400 ≤ n) (s : List UInt8) (z : Int) (w : Int) (hz : z.natAbs < 10 ^ 400) (hw : w.natAbs < 10 ^ 400) (hw0 : w ≠ 0) (x2 x3 : Bool) (k0 : Bool → List PV → Bool → List PV → Bool → Option R) :
    UaV n (bs s) x2 x3 (bs (Lib.itoa z)) (bs (Lib.itoa w)) k0 = k0 (sg (Rat.divInt z w).num) (II (Rat.divInt z w).num.natAbs) false (II (Rat.divInt z w).den) (Uag (Rat.divInt z w) == s) := by
  have hN := Uas hn
  have l1 := Uv4 hz
  have l2 := Uv4 hw
  have wn : w.natAbs < n := Nat.lt_of_lt_of_le hw hn
  have li := UeK hz
  have lw := UeK hw
  have v1 := fun k => Ufd (R := R) n (Lib.itoa z) (by omega) (by omega) k
  have v2 := fun k => Ufd (R := R) n (Lib.itoa w) (by omega) (by omega) k
  rw [Ufv hz] at v1
  rw [Ufv hw] at v2
  have o1 := fun k => UtP (R := R) n z (by omega) hN k
  have o2 := fun k => UtP (R := R) n w (by omega) hN k
  have n1 := fun k => UrT (R := R) n z w hw0 (by omega) (by omega) hN wn k
  have t1 := fun k => Ui8 (R := R) n (Rat.divInt z w) (Nat.le_trans (Ua7 (Uv9 z w hw0)) (by omega)) (Nat.le_trans (Ua7 (Uvo z w hw0)) (by omega)) hN k
  have e1 : (((ll w.natAbs : Nat) : Int) == 0) = false := by
    rw [Jk7]; simp only [beq_eq_false_iff_ne, ne_eq, Uct]; omega
  simp only [UaV, UeQ, v1, v2, o1, o2, p77, Uau, e1, n1, t1, Jjc, Bool.not_true, Uak]
theorem Um5 (n : Nat) (hn : 10 ^ 400 ≤ n) (q : Rat) (hq : Ual q) (k0 : Bool → List PV → Bool → List PV → Bool → Option R) :
    Uw n (bs (Uag q)) k0 = k0 (sg q.num) (II q.num.natAbs) false (II q.den) true := by
  have hN := Uas hn
  have hl := UaY hq
  obtain ⟨a1, a2, a3⟩ := Ucj q
  have e : (if idx (Uag q) < (Uag q).length then (Uag q).drop (idx (Uag q) + 1) else [49]) = Lib.itoa (q.den : Int) := by
    rw [Ub0]
    by_cases hd : q.den = 1
    · rw [if_neg (fun h => a2.1 h hd), hd, UjC]
    · rw [if_pos (a2.2 hd), a3 hd]
  have hd := q.den_nz
  rw [UfN n _ (by omega) (by omega), e, a1, Ugd n hn (Uag q) q.num q.den hq.1 (by rw [Int.natAbs_natCast]; exact hq.2) (by omega), Rat.num_divInt_den]
  rw [show (Uag q == Uag q) = true from by simp]
theorem Uus (n : Nat) (hn : 10 ^ 400 ≤ n) (s : List UInt8) (hs : s.length < 2 ^ 17) :
    isQ s ∨ ∃ a b c d, ∀ k0 : Bool → List PV → Bool → List PV → Bool → Option R, Uw n (bs s) k0 = k0 a b c d false := by
  have hN := Uas hn
  have sp := fun k0 => UfN (R := R) n s (by omega) (by omega) k0
  have lt : (s.take (idx s)).length < 2 ^ 17 := by rw [List.length_take]; omega
  have lb : (if idx s < s.length then s.drop (idx s + 1) else [49]).length < 2 ^ 17 := by
    split
    · rw [List.length_drop]; omega
    · simp
  have hspl : s.take (idx s) = s.take (idx s) := rfl
  generalize s.take (idx s) = t at *
  generalize (if idx s < s.length then s.drop (idx s + 1) else [49]) = b at *
  have v1 := fun k => Ufd (R := R) n t (by omega) (by omega) k
  have v2 := fun k => Ufd (R := R) n b (by omega) (by omega) k
  cases hI : Ujn t with
  | false =>
    rw [hI] at v1
    exact Or.inr ⟨false, [], false, [], fun k0 => by rw [sp]; simp only [UaV, v1, Bool.not_false, UaR]⟩
  | true =>
    rw [hI] at v1
    cases hJ : Ujn b with
    | false =>
      rw [hJ] at v2
      exact Or.inr ⟨false, [], false, [], fun k0 => by rw [sp]; simp only [UaV, v1, v2, Bool.not_false, Bool.not_true, UaR, Uak]⟩
    | true =>
      rw [hJ] at v2
      obtain ⟨z, hz, rfl⟩ := UeJ hI
      obtain ⟨w, hw, rfl⟩ := UeJ hJ
      by_cases hw0 : w = 0
      · subst hw0
        have o2 := fun k => UtP (R := R) n 0 (by rw [show (0 : Int).natAbs = 0 from rfl, Ubs]; omega) hN k
        have e1 : (((ll (0 : Int).natAbs : Nat) : Int) == 0) = true := by rw [show (0 : Int).natAbs = 0 from rfl, Ubs]; rfl
        exact Or.inr ⟨false, [], false, [], fun k0 => by rw [sp]; simp only [UaV, UeQ, v1, v2, o2, p77, Uau, e1, Bool.not_false, Bool.not_true, UaR, Uak]⟩
      · have hc := fun k0 => Ugd (R := R) n hn s z w hz hw hw0 false false k0
        by_cases he : Uag (Rat.divInt z w) = s
        · exact Or.inl ⟨Rat.divInt z w, ⟨Nat.lt_of_le_of_lt (Uv9 z w hw0) hz, Nat.lt_of_le_of_lt (Uvo z w hw0) hw⟩, he.symm⟩
        · have e2 : (Uag (Rat.divInt z w) == s) = false := by simpa using he
          rw [e2] at hc
          exact Or.inr ⟨_, _, _, _, fun k0 => by rw [sp, hc]⟩
theorem UsJ (n : Nat) (hn : 10 ^ 400 ≤ n) (s : List UInt8) (hs : s.length < 2 ^ 17) (h : ¬ isQ s) : ∃ a b c d, ∀ k0 : Bool → List PV → Bool → List PV → Bool → Option R, Uw n (bs s) k0 = k0 a b c d false :=
  (Uus n hn s hs).resolve_left h
end Go.Proofs.YtmgfmlhdnadglaaGreatDoor
set_option linter.unusedVariables false
set_option maxRecDepth 100000
namespace Go.Proofs.YtmgfmlhdnadglaaGreatDoor
open Go Th Go.Proofs
noncomputable section
variable {R : Type}
def UgZ : Ann := { loops := [(2, ids [5, 6, 7], ids [2])], cuts := [], frz := [], rm := [.id] }
abbrev UyF (n : Nat) : Env := eC 53 (Uy3 n) eN
theorem Uqa (n : Nat) : EnvOK Tryz.prog GI (UyF n) := .cons (.nil) (UAI n)
def UhX (n : Nat) (l0 : LP → Int → Int → O R) (x1 : LP) (x2 x3 : Int) (k0 : Bool → O R) (k1 : O R) : O R :=
  bif (decide (x3 < x2)) then (bif (inR x3 ((x1).length)) then (Jj9 ((x1).getD ((x3 : Int).toNat) (.v (.bool false))) fun e4 => p53 n e4 (fun y5 => bif (!y5) then (k0 false) else (l0 x1 x2 (IntKind.i64.wrap (x3 + 1))))) else none) else (k1)
def UdP (n : Nat) : Nat → LP → Int → Int → (Bool → O R) → (O R) → O R
  | 0, _, _, _, _, _ => none
  | m + 1, x1, x2, x3, k0, k1 => UhX n (fun x1 x2 x3 => UdP n m x1 x2 x3 k0 k1) x1 x2 x3 k0 k1
def Uww (n : Nat) (x1 : LP) (x2 x3 : Int) (k0 : Bool → O R) (k1 : O R) : O R := UdP n n x1 x2 x3 k0 k1
def p66 (n : Nat) (x1 : LP) (k0 : Bool → O R) : O R :=
  Uww n x1 ((x1).length : Int) 0 (fun y2 => k0 y2) (k0 true)
abbrev E66 (n : Nat) : Code → Fr → Kc R → O R := evC Tryz.prog (UyF n) UgZ n (15, [])
noncomputable def Uu8 : Code := Jk (Jls Tryz.f66) [1, 0, 1, 0, 0]
abbrev UgC : Sl (List SV) := (cH (cI (cI .n)))
abbrev Uro (n m : Nat) (K : Kc R) : UgC.T (O R) := fun x1 x2 x3 => UdP n m x1 x2 x3 (fun y1 => xL UgZ 2 K .ret [vB y1]) (xL UgZ 2 K (.exit 0) [dD])
abbrev UBg (n : Nat) (K : Kc R) (l0 : UgC.T (O R)) : UgC.T (O R) := fun x1 x2 x3 => UhX n l0 x1 x2 x3 (fun y1 => xL UgZ 2 K .ret [vB y1]) (xL UgZ 2 K (.exit 0) [dD])
abbrev UKD (n : Nat) : Orc R := oL UgZ (E66 n) n 2 Uu8 UgC (Uro n n) oN
abbrev UJs (n : Nat) : Orc R := oN
abbrev K66 (R : Type) (n : Nat) := JcK (R := R) Tryz.prog (UyF n) UgZ n (15, []) (UKD n) (UJs n)
theorem UEg (n : Nat) : K66 R n (false, 2, Uu8) := JkM (lo := UKD n) (cu := UJs n) (pO pN (by kernel_rfl)) UgC (Uro n n) (JiK (F := Uro n) UgC (UBg n) (fun K _ _ _ => rfl) (fun _ _ => rfl) (fun L K _ _ _ => by show _ = _; kernel_rfl) n) fun _ _ => rfl
theorem UOh (n : Nat) : Jfb (K66 R n) (JaJ UgZ (Jls Tryz.f66)) := pO (pC (UEg n) pN) (by kernel_rfl)
abbrev t66 : Sl (List SV) := (cH .n)
abbrev f66 (n : Nat) (K : List SV → O R) : t66.T (O R) := fun x1 => p66 n x1 (fun y1 => K [vB y1])
abbrev UGf (n : Nat) : FS := fT [false] t66 (f66 n)
theorem UKV (n : Nat) : FSound Tryz.prog GI 66 (UGf n) := gd UgZ n (Uqa n) Tryz.func66 (.cons (Uqa n) t66 (f66 n) (fun K _ => (Jkx (c := Jls Tryz.f66) (by kernel_rfl) (UOh n) K).trans (by kernel_rfl)) .nil) (by kernel_rfl)
def Uxl : Ann := { loops := [], cuts := [], frz := [], rm := [.id] }
abbrev UCb (n : Nat) : Env := eC 109 (UyU n) eN
theorem Uqr (n : Nat) : EnvOK Tryz.prog GI (UCb n) := .cons (.nil) (UDe n)
def p84 (n : Nat) (x1 : ByteArray) (k0 : Bool → O R) : O R :=
  Uw n x1 (fun y2 y3 y4 y5 y6 => k0 y6)
abbrev UML (n : Nat) : Orc R := oN
abbrev UL5 (n : Nat) : Orc R := oN
abbrev K84 (R : Type) (n : Nat) := JcK (R := R) Tryz.prog (UCb n) Uxl n (11, []) (UML n) (UL5 n)
theorem UOy (n : Nat) : Jfb (K84 R n) (JaJ Uxl (Jls Tryz.f84)) := pO pN (by kernel_rfl)
abbrev t84 : Sl (List SV) := (cS .n)
abbrev f84 (n : Nat) (K : List SV → O R) : t84.T (O R) := fun x1 => p84 n x1 (fun y1 => K [vB y1])
abbrev UE9 (n : Nat) : FS := fT [false] t84 (f84 n)
theorem UHp (n : Nat) : FSound Tryz.prog GI 84 (UE9 n) := gd Uxl n (Uqr n) Tryz.func84 (.cons (Uqr n) t84 (f84 n) (fun K _ => (Jkx (c := Jls Tryz.f84) (by kernel_rfl) (UOy n) K).trans (by kernel_rfl)) .nil) (by kernel_rfl)
def UgW : Ann := { loops := [(2, ids [0, 3], ids [2])], cuts := [], frz := [], rm := [.id] }
abbrev Uyw (n : Nat) : Env := eC 84 (UE9 n) eN
theorem UpS (n : Nat) : EnvOK Tryz.prog GI (Uyw n) := .cons (.nil) (UHp n)
def UhO (n : Nat) (l0 : LP → Int → O R) (x1 : LP) (x2 : Int) (k0 : Bool → O R) (k1 : O R) : O R :=
  bif (decide (x2 < ((x1).length : Int))) then (bif (inR x2 ((x1).length)) then (Jj9 ((x1).getD ((x2 : Int).toNat) (.v (.bool false))) fun e3 => p84 n e3 (fun y4 => bif (!y4) then (k0 false) else (l0 x1 (IntKind.i64.wrap (x2 + 1))))) else none) else (k1)
def UdJ (n : Nat) : Nat → LP → Int → (Bool → O R) → (O R) → O R
  | 0, _, _, _, _ => none
  | m + 1, x1, x2, k0, k1 => UhO n (fun x1 x2 => UdJ n m x1 x2 k0 k1) x1 x2 k0 k1
def Uwq (n : Nat) (x1 : LP) (x2 : Int) (k0 : Bool → O R) (k1 : O R) : O R := UdJ n n x1 x2 k0 k1
def p41 (n : Nat) (x1 : LP) (k0 : Bool → O R) : O R :=
  Uwq n x1 0 (fun y2 => k0 y2) (k0 true)
abbrev E41 (n : Nat) : Code → Fr → Kc R → O R := evC Tryz.prog (Uyw n) UgW n (16, [])
noncomputable def UuZ : Code := Jk (Jls Tryz.f41) [1, 0, 1, 0, 0]
abbrev Ugt : Sl (List SV) := (cH (cI .n))
abbrev Urc (n m : Nat) (K : Kc R) : Ugt.T (O R) := fun x1 x2 => UdJ n m x1 x2 (fun y1 => xL UgW 2 K .ret [vB y1]) (xL UgW 2 K (.exit 0) [dD])
abbrev UA8 (n : Nat) (K : Kc R) (l0 : Ugt.T (O R)) : Ugt.T (O R) := fun x1 x2 => UhO n l0 x1 x2 (fun y1 => xL UgW 2 K .ret [vB y1]) (xL UgW 2 K (.exit 0) [dD])
abbrev UKz (n : Nat) : Orc R := oL UgW (E41 n) n 2 UuZ Ugt (Urc n n) oN
abbrev UJo (n : Nat) : Orc R := oN
abbrev K41 (R : Type) (n : Nat) := JcK (R := R) Tryz.prog (Uyw n) UgW n (16, []) (UKz n) (UJo n)
theorem UD7 (n : Nat) : K41 R n (false, 2, UuZ) := JkM (lo := UKz n) (cu := UJo n) (pO pN (by kernel_rfl)) Ugt (Urc n n) (JiK (F := Urc n) Ugt (UA8 n) (fun K _ _ => rfl) (fun _ _ => rfl) (fun L K _ _ => by show _ = _; kernel_rfl) n) fun _ _ => rfl
theorem UN0 (n : Nat) : Jfb (K41 R n) (JaJ UgW (Jls Tryz.f41)) := pO (pC (UD7 n) pN) (by kernel_rfl)
abbrev t41 : Sl (List SV) := (cH .n)
abbrev f41 (n : Nat) (K : List SV → O R) : t41.T (O R) := fun x1 => p41 n x1 (fun y1 => K [vB y1])
abbrev UJ3 (n : Nat) : FS := fT [false] t41 (f41 n)
theorem UNa (n : Nat) : FSound Tryz.prog GI 41 (UJ3 n) := gd UgW n (UpS n) Tryz.func41 (.cons (UpS n) t41 (f41 n) (fun K _ => (Jkx (c := Jls Tryz.f41) (by kernel_rfl) (UN0 n) K).trans (by kernel_rfl)) .nil) (by kernel_rfl)
end
end Go.Proofs.YtmgfmlhdnadglaaGreatDoor
set_option linter.unusedVariables false
set_option linter.unusedSimpArgs false
namespace Go.Proofs.YtmgfmlhdnadglaaGreatDoor
open Go Th Go.Proofs
variable {R : Type}
theorem UeI {α β : Type} (f : α → β) {l : List α} {i : Nat} {d : β} (h : i < l.length) : (l.map f).getD i d = f l[i] := by
  rw [List.getD_eq_getElem?_getD, List.getElem?_map, List.getElem?_eq_getElem h]; rfl
abbrev Uar := Int × List UInt8
def tPV (t : Uar) : PV := .agg [.v (.int .i64 t.1), .v (.string (bs t.2))]
def tms (l : List Uar) : List PV := l.map tPV
theorem Ua (l : List Uar) : (tms l).length = l.length := by unfold tms; rw [List.length_map]
theorem Uav {l : List Uar} {i : Nat} {d : PV} (h : i < l.length) (K : Int → ByteArray → Option R) :
    (Jh8 ((tms l).getD i d) fun a => JdW a fun h1 t1 => Jjf .i64 h1 fun e1 => JdW t1 fun h2 t2 => Jj9 h2 fun e2 => Ji8 t2 (K e1 e2)) = K (l[i]).1 (bs (l[i]).2) := by
  unfold tms; rw [UeI tPV h]; rfl
structure RowT where
  tm : List Uar
  c : List UInt8
  eq : Bool
  mark : Int
def rPV (r : RowT) : PV := .agg [.sh (tms r.tm), .v (.string (bs r.c)), .v (.bool r.eq), .v (.int .i64 r.mark)]
def rws (l : List RowT) : List PV := l.map rPV
theorem Uab (l : List RowT) : (rws l).length = l.length := by unfold rws; rw [List.length_map]
theorem UaJ {l : List RowT} {i : Nat} {d : PV} (h : i < l.length) (K : List PV → ByteArray → Bool → Int → Option R) :
    (Jh8 ((rws l).getD i d) fun a => JdW a fun h1 t1 => Jky h1 fun e1 => JdW t1 fun h2 t2 => Jj9 h2 fun e2 => JdW t2 fun h3 t3 => Jj8 h3 fun e3 => JdW t3 fun h4 t4 => Jjf .i64 h4 fun e4 => Ji8 t4 (K e1 e2 e3 e4)) =
      K (tms (l[i]).tm) (bs (l[i]).c) (l[i]).eq (l[i]).mark := by
  unfold rws; rw [UeI rPV h]; rfl
def qPV (q : Rat) : PV := .agg [.v (.bool (sg q.num)), .sh (II q.num.natAbs), .v (.bool false), .sh (II q.den)]
def qs (l : List Rat) : List PV := l.map qPV
theorem UaG (l : List Rat) : (qs l).length = l.length := by unfold qs; rw [List.length_map]
theorem Ud0 {l : List Rat} {i : Nat} {d : PV} (h : i < l.length) (K : Bool → List PV → Bool → List PV → Option R) :
    (Jh8 ((qs l).getD i d) fun a => JdW a fun h1 t1 => Jj8 h1 fun e1 => JdW t1 fun h2 t2 => Jky h2 fun e2 => JdW t2 fun h3 t3 => Jj8 h3 fun e3 => JdW t3 fun h4 t4 => Jky h4 fun e4 => Ji8 t4 (K e1 e2 e3 e4)) =
      K (sg (l[i]).num) (II (l[i]).num.natAbs) false (II (l[i]).den) := by
  unfold qs; rw [UeI qPV h]; rfl
theorem Um1 (l : List Rat) (i : Nat) (q : Rat) : (qs l).set i (.agg [.v (.bool (sg q.num)), .sh (II q.num.natAbs), .v (.bool false), .sh (II q.den)]) = qs (l.set i q) := by
  unfold qs; rw [List.map_set]; rfl
theorem UEx (l : List Rat) (q : Rat) : qs l ++ [.agg [.v (.bool (sg q.num)), .sh (II q.num.natAbs), .v (.bool false), .sh (II q.den)]] = qs (l ++ [q]) := by
  unfold qs; rw [List.map_append]; rfl
theorem UbU {l : List (List UInt8)} {i : Nat} {d : PV} (h : i < l.length) (K : ByteArray → Option R) : Jj9 ((sl l).getD i d) K = K (bs l[i]) := by
  unfold sl; rw [UeI _ h]; rfl
theorem Ua6 {α : Type} {l : List α} {i : Nat} (h : i < l.length) : l.drop i = l[i] :: l.drop (i + 1) := List.drop_eq_getElem_cons h
theorem Uao {α : Type} {l : List α} {ok : α → Bool} {kbad kend : Option R} (L : Nat → Nat → Option R) (hend : ∀ m, L (m + 1) l.length = kend)
    (hstep : ∀ m i (h : i < l.length), L (m + 1) i = if ok l[i] then L m (i + 1) else kbad) : ∀ (d m i : Nat), d + i = l.length → d < m → L m i = if (l.drop i).all ok then kend else kbad
  | 0, m + 1, i, hd, hm => by
    have : i = l.length := by omega
    subst this
    rw [hend, List.drop_length]; rfl
  | d + 1, m + 1, i, hd, hm => by
    have hi : i < l.length := by omega
    rw [hstep m i hi, Uao L hend hstep d m (i + 1) (by omega) (by omega), Ua6 hi, List.all_cons]
    cases ok l[i] <;> simp
def UwG {α σ : Type} (step : σ → α → (σ → Option R) → Option R) (kend : σ → Option R) : σ → List α → Option R
  | s, [] => kend s
  | s, a :: l => step s a fun s' => UwG step kend s' l
theorem UfO {α σ : Type} {l : List α} {step : σ → α → (σ → Option R) → Option R} {kend : σ → Option R} (L : Nat → σ → Nat → Option R) (hend : ∀ m s, L (m + 1) s l.length = kend s)
    (hstep : ∀ m s i (h : i < l.length), L (m + 1) s i = step s l[i] fun s' => L m s' (i + 1)) : ∀ (d m i : Nat) (s : σ), d + i = l.length → d < m → L m s i = UwG step kend s (l.drop i)
  | 0, m + 1, i, s, hd, hm => by
    have : i = l.length := by omega
    subst this
    rw [hend, List.drop_length]; rfl
  | d + 1, m + 1, i, s, hd, hm => by
    have hi : i < l.length := by omega
    rw [hstep m s i hi, Ua6 hi]
    show step s l[i] _ = step s l[i] _
    congr 1
    funext s'
    exact UfO L hend hstep d m (i + 1) s' (by omega) (by omega)
theorem Ujv {a b : List UInt8} (h : a = b) : (a == b) = true := by rw [h]; exact beq_self_eq_true b
theorem UiN {a b : List UInt8} (h : ¬ a = b) : (a == b) = false := by rw [Bool.eq_false_iff]; intro q; exact h (eq_of_beq q)
theorem i1 (i : Nat) : (i : Int) + 1 = ((i + 1 : Nat) : Int) := by omega
noncomputable def qb (s : List UInt8) : Bool := @decide (isQ s) (Classical.propDecidable _)
theorem UEw {s : List UInt8} : qb s = true ↔ isQ s := by unfold qb; exact @decide_eq_true_iff _ (Classical.propDecidable _)
theorem Ueu (n : Nat) (hn : 10 ^ 400 ≤ n) (s : List UInt8) (hs : s.length < 2 ^ 17) (k0 : Bool → Option R) : p53 n (bs s) k0 = k0 (qb s) := @UnH R n hn s (Nat.lt_trans hs (by decide)) k0 (Classical.propDecidable _)
theorem Udg (n : Nat) (hn : 10 ^ 400 ≤ n) (s : List UInt8) (hs : s.length < 2 ^ 17) (k0 : Bool → Option R) : p84 n (bs s) k0 = k0 (qb s) := by
  unfold p84
  cases h : qb s with
  | true =>
    obtain ⟨q, h1, rfl⟩ := UEw.1 h
    rw [Um5 n hn q h1]
  | false =>
    obtain ⟨a, b, c, d, h2⟩ := UsJ (R := R) n hn s hs (fun q => by rw [UEw.2 q] at h; cases h)
    rw [h2]
noncomputable def UuD (l : List (List UInt8)) : Bool := l.all qb
def smS (l : List (List UInt8)) : Prop := l.length < 2 ^ 17 ∧ ∀ s ∈ l, s.length < 2 ^ 17
theorem Unu (n : Nat) (hn : 10 ^ 400 ≤ n) (l : List (List UInt8)) (hl : smS l) (k0 : Bool → Option R) : p66 n (sl l) k0 = k0 (UuD l) := by
  have hN := Uas hn
  have hL := hl.1
  unfold p66 Uww
  have h := Uao (R := R) (l := l) (ok := qb) (kbad := k0 false) (kend := k0 true) (fun m i => UdP n m (sl l) ((sl l).length : Int) (i : Int) k0 (k0 true))
    (fun m => by simp only [UdP, UhX]; simp (disch := (first | omega | (simp only [JlL]; omega))) only [↓JlO, JlM, Uaj])
    (fun m i hi => by
      have hv := fun k => Ueu (R := R) n hn l[i] (hl.2 _ (List.getElem_mem hi)) k
      simp only [UdP, UhX]
      simp (disch := (first | omega | (simp only [JlL]; omega))) only [↓JlO, JlM, Uaj, Jjo, UbU hi, hv, i1]
      cases qb l[i] <;> rfl) l.length n 0 (by omega) (by omega)
  rw [List.drop_zero] at h
  refine Eq.trans h ?_
  unfold UuD
  cases l.all qb <;> rfl
theorem Ukt (n : Nat) (hn : 10 ^ 400 ≤ n) (l : List (List UInt8)) (hl : smS l) (k0 : Bool → Option R) : p41 n (sl l) k0 = k0 (UuD l) := by
  have hN := Uas hn
  have hL := hl.1
  unfold p41 Uwq
  have h := Uao (R := R) (l := l) (ok := qb) (kbad := k0 false) (kend := k0 true) (fun m i => UdJ n m (sl l) (i : Int) k0 (k0 true))
    (fun m => by simp only [UdJ, UhO]; simp (disch := (first | omega | (simp only [JlL]; omega))) only [↓JlO, JlM, Uaj])
    (fun m i hi => by
      have hv := fun k => Udg (R := R) n hn l[i] (hl.2 _ (List.getElem_mem hi)) k
      simp only [UdJ, UhO]
      simp (disch := (first | omega | (simp only [JlL]; omega))) only [↓JlO, JlM, Uaj, Jjo, UbU hi, hv, i1]
      cases qb l[i] <;> rfl) l.length n 0 (by omega) (by omega)
  rw [List.drop_zero] at h
  refine Eq.trans h ?_
  unfold UuD
  cases l.all qb <;> rfl
end Go.Proofs.YtmgfmlhdnadglaaGreatDoor
set_option linter.unusedVariables false
set_option maxRecDepth 100000
namespace Go.Proofs.YtmgfmlhdnadglaaGreatDoor
open Go Th Go.Proofs
noncomputable section
variable {R : Type}
def UcN : Ann := { loops := [(3, ids [1, 2, 5, 9, 10, 11], ids [2, 4])], cuts := [], frz := [], rm := [.id] }
abbrev Uo9 (n : Nat) : Env := eC 53 (Uy3 n) eN
theorem UlJ (n : Nat) : EnvOK Tryz.prog GI (Uo9 n) := .cons (.nil) (UAI n)
def UeP (n : Nat) (l0 : Int → LP → ByteArray → Bool → Int → Int → LP → Int → Int → O R) (x1 : Int) (x2 : LP) (x3 : ByteArray) (x4 : Bool) (x5 x6 : Int) (x7 : LP) (x8 x9 : Int) (k0 : LP → ByteArray → Bool → Int → Bool → O R) (k1 : LP → ByteArray → Bool → Int → O R) : O R :=
  bif (decide (x9 < x8)) then (bif (inR x9 ((x7).length)) then (Jh8 ((x7).getD ((x9 : Int).toNat) (.v (.bool false))) fun a10 => JdW a10 fun h11 t12 => Jjf .i64 h11 fun e13 => JdW t12 fun h14 t15 => Jj9 h14 fun e16 => Ji8 t15 (bif (decide (e13 ≤ x6)) then (k0 x2 x3 x4 x5 false) else (bif (bif false then true else (decide (e13 ≥ x1))) then (k0 x2 x3 x4 x5 false) else (bif (bif false then true else eqS e16 (⟨#[48]⟩ : ByteArray)) then (k0 x2 x3 x4 x5 false) else (p53 n e16 (fun y17 => bif (bif false then true else (!y17)) then (k0 x2 x3 x4 x5 false) else (l0 x1 x2 x3 x4 x5 e13 x7 x8 (IntKind.i64.wrap (x9 + 1))))))))) else none) else (k1 x2 x3 x4 x5)
def Ub2 (n : Nat) : Nat → Int → LP → ByteArray → Bool → Int → Int → LP → Int → Int → (LP → ByteArray → Bool → Int → Bool → O R) → (LP → ByteArray → Bool → Int → O R) → O R
  | 0, _, _, _, _, _, _, _, _, _, _, _ => none
  | m + 1, x1, x2, x3, x4, x5, x6, x7, x8, x9, k0, k1 => UeP n (fun x1 x2 x3 x4 x5 x6 x7 x8 x9 => Ub2 n m x1 x2 x3 x4 x5 x6 x7 x8 x9 k0 k1) x1 x2 x3 x4 x5 x6 x7 x8 x9 k0 k1
def Ur3 (n : Nat) (x1 : Int) (x2 : LP) (x3 : ByteArray) (x4 : Bool) (x5 x6 : Int) (x7 : LP) (x8 x9 : Int) (k0 : LP → ByteArray → Bool → Int → Bool → O R) (k1 : LP → ByteArray → Bool → Int → O R) : O R := Ub2 n n x1 x2 x3 x4 x5 x6 x7 x8 x9 k0 k1
def UFn (n : Nat) (x1 : LP) (x2 : ByteArray) (x3 : Bool) (x4 x5 : Int) (k0 : Bool → O R) : O R :=
  Ur3 n x5 x1 x2 x3 x4 (-1) x1 ((x1).length : Int) 0 (fun y6 y7 y8 y9 y10 => k0 y10) (fun y11 y12 y13 y14 => p53 n y12 (fun y15 => k0 y15))
abbrev ULb (n : Nat) : Code → Fr → Kc R → O R := evC Tryz.prog (Uo9 n) UcN n (42, [])
noncomputable def Un7 : Code := Jk (Jls Tryz.f107) [1, 1, 0, 1, 0, 0]
abbrev Ud7 : Sl (List SV) := (cI (.c (sBx 70 (cH (cS (cB (cI .n))))) (cI (cH (cI (cI .n))))))
abbrev UjK (n m : Nat) (K : Kc R) : Ud7.T (O R) := fun x1 x2 x3 x4 x5 x6 x7 x8 x9 => Ub2 n m x1 x2 x3 x4 x5 x6 x7 x8 x9 (fun y1 y2 y3 y4 y5 => xL UcN 3 K .ret [.bx 70 [vH y1, vS y2, vB y3, vI y4], vB y5]) (fun y1 y2 y3 y4 => xL UcN 3 K (.exit 0) [.bx 70 [vH y1, vS y2, vB y3, vI y4], dD])
abbrev Uxz (n : Nat) (K : Kc R) (l0 : Ud7.T (O R)) : Ud7.T (O R) := fun x1 x2 x3 x4 x5 x6 x7 x8 x9 => UeP n l0 x1 x2 x3 x4 x5 x6 x7 x8 x9 (fun y1 y2 y3 y4 y5 => xL UcN 3 K .ret [.bx 70 [vH y1, vS y2, vB y3, vI y4], vB y5]) (fun y1 y2 y3 y4 => xL UcN 3 K (.exit 0) [.bx 70 [vH y1, vS y2, vB y3, vI y4], dD])
abbrev UC5 (n : Nat) : Orc R := oL UcN (ULb n) n 3 Un7 Ud7 (UjK n n) oN
abbrev UBx (n : Nat) : Orc R := oN
abbrev UI9 (R : Type) (n : Nat) := JcK (R := R) Tryz.prog (Uo9 n) UcN n (42, []) (UC5 n) (UBx n)
theorem Uzw (n : Nat) : UI9 R n (false, 3, Un7) := JkM (lo := UC5 n) (cu := UBx n) (pO pN (by kernel_rfl)) Ud7 (UjK n n) (JiK (F := UjK n) Ud7 (Uxz n) (fun K _ _ _ _ _ _ _ _ _ => rfl) (fun _ _ => rfl) (fun L K _ _ _ _ _ _ _ _ _ => by show _ = _; kernel_rfl) n) fun _ _ => rfl
theorem UHG (n : Nat) : Jfb (UI9 R n) (JaJ UcN (Jls Tryz.f107)) := pO (pC (Uzw n) pN) (by kernel_rfl)
abbrev UIm : Sl (List SV) := (.c (sP (JlP (.c sSh (.c JlF (.c Jlm (.c (JlC .i64) .n)))))) (cI .n))
abbrev f107 (n : Nat) (K : List SV → O R) : UIm.T (O R) := fun x1 x2 x3 x4 x5 => UFn n x1 x2 x3 x4 x5 (fun y1 => K [vB y1])
abbrev UCw (n : Nat) : FS := fT [false, false] UIm (f107 n)
theorem UGS (n : Nat) : FSound Tryz.prog GI 107 (UCw n) := gd UcN n (UlJ n) Tryz.func107 (.cons (UlJ n) UIm (f107 n) (fun K _ _ _ _ _ => (Jkx (c := Jls Tryz.f107) (by kernel_rfl) (UHG n) K).trans (by kernel_rfl)) .nil) (by kernel_rfl)
def UnK : Ann := { loops := [], cuts := [], frz := [], rm := [.id] }
abbrev Uvq (n : Nat) : Env := eC 107 (UCw n) eN
theorem UlI (n : Nat) : EnvOK Tryz.prog GI (Uvq n) := .cons (.nil) (UGS n)
def UHs (n : Nat) (x1 : LP) (x2 : ByteArray) (x3 : Bool) (x4 x5 : Int) (x6 : LP) (k0 : Bool → O R) : O R :=
  UFn n x1 x2 x3 x4 x5 (fun y7 => k0 (!y7))
abbrev UGs (n : Nat) : Orc R := oN
abbrev UFI (n : Nat) : Orc R := oN
abbrev ULk (R : Type) (n : Nat) := JcK (R := R) Tryz.prog (Uvq n) UnK n (9, []) (UGs n) (UFI n)
theorem UHF (n : Nat) : Jfb (ULk R n) (JaJ UnK (Jls Tryz.f106)) := pO pN (by kernel_rfl)
abbrev UIl : Sl (List SV) := (.c (sP (JlP (.c sSh (.c JlF (.c Jlm (.c (JlC .i64) .n)))))) (.c (sP (sFb (.c (JlC .i64) (.c sSh .n)))) .n))
abbrev f106 (n : Nat) (K : List SV → O R) : UIl.T (O R) := fun x1 x2 x3 x4 x5 x6 => UHs n x1 x2 x3 x4 x5 x6 (fun y1 => K [vB y1])
abbrev UCv (n : Nat) : FS := fT [false, false] UIl (f106 n)
theorem UGR (n : Nat) : FSound Tryz.prog GI 106 (UCv n) := gd UnK n (UlI n) Tryz.func106 (.cons (UlI n) UIl (f106 n) (fun K _ _ _ _ _ _ => (Jkx (c := Jls Tryz.f106) (by kernel_rfl) (UHF n) K).trans (by kernel_rfl)) .nil) (by kernel_rfl)
def UcR : Ann := { loops := [(2, ids [0, 1, 7, 8], ids [4])], cuts := [], frz := [], rm := [.id] }
abbrev Upi (n : Nat) : Env := eC 106 (UCv n) eN
theorem Ul3 (n : Nat) : EnvOK Tryz.prog GI (Upi n) := .cons (.nil) (UGR n)
def UeY (n : Nat) (l0 : LP → Int → LP → Int → Int → O R) (x1 : LP) (x2 : Int) (x3 : LP) (x4 x5 : Int) (k0 : Int → O R) (k1 : O R) : O R :=
  bif (decide (x5 < x4)) then (bif (inR x5 ((x1).length)) then (Jh8 ((x1).getD ((x5 : Int).toNat) (.v (.bool false))) fun a6 => JdW a6 fun h7 t8 => Jky h7 fun e9 => JdW t8 fun h10 t11 => Jj9 h10 fun e12 => JdW t11 fun h13 t14 => Jj8 h13 fun e15 => JdW t14 fun h16 t17 => Jjf .i64 h16 fun e18 => Ji8 t17 (UHs n e9 e12 e15 e18 x2 x3 (fun y19 => bif y19 then (k0 x5) else (l0 x1 x2 x3 x4 (IntKind.i64.wrap (x5 + 1)))))) else none) else (k1)
def Ubv (n : Nat) : Nat → LP → Int → LP → Int → Int → (Int → O R) → (O R) → O R
  | 0, _, _, _, _, _, _, _ => none
  | m + 1, x1, x2, x3, x4, x5, k0, k1 => UeY n (fun x1 x2 x3 x4 x5 => Ubv n m x1 x2 x3 x4 x5 k0 k1) x1 x2 x3 x4 x5 k0 k1
def Usa (n : Nat) (x1 : LP) (x2 : Int) (x3 : LP) (x4 x5 : Int) (k0 : Int → O R) (k1 : O R) : O R := Ubv n n x1 x2 x3 x4 x5 k0 k1
def UHw (n : Nat) (x1 : LP) (x2 : Int) (x3 : LP) (k0 : Int → O R) : O R :=
  Usa n x1 x2 x3 ((x1).length : Int) 0 (fun y4 => k0 y4) (k0 (-1))
abbrev ULf (n : Nat) : Code → Fr → Kc R → O R := evC Tryz.prog (Upi n) UcR n (19, [])
noncomputable def Uoo : Code := Jk (Jls Tryz.f135) [1, 0, 1, 0, 0]
abbrev Uee : Sl (List SV) := (cH (.c (sP (JlQ 106 (.c (sFb (.c (JlC .i64) (.c sSh .n))) .n))) (cI (cI .n))))
abbrev UjS (n m : Nat) (K : Kc R) : Uee.T (O R) := fun x1 x2 x3 x4 x5 => Ubv n m x1 x2 x3 x4 x5 (fun y1 => xL UcR 2 K .ret [vI y1]) (xL UcR 2 K (.exit 0) [dD])
abbrev UxH (n : Nat) (K : Kc R) (l0 : Uee.T (O R)) : Uee.T (O R) := fun x1 x2 x3 x4 x5 => UeY n l0 x1 x2 x3 x4 x5 (fun y1 => xL UcR 2 K .ret [vI y1]) (xL UcR 2 K (.exit 0) [dD])
abbrev UC9 (n : Nat) : Orc R := oL UcR (ULf n) n 2 Uoo Uee (UjS n n) oN
abbrev UBB (n : Nat) : Orc R := oN
abbrev UJc (R : Type) (n : Nat) := JcK (R := R) Tryz.prog (Upi n) UcR n (19, []) (UC9 n) (UBB n)
theorem UzP (n : Nat) : UJc R n (false, 2, Uoo) := JkM (lo := UC9 n) (cu := UBB n) (pO pN (by kernel_rfl)) Uee (UjS n n) (JiK (F := UjS n) Uee (UxH n) (fun K _ _ _ _ _ => rfl) (fun _ _ => rfl) (fun L K _ _ _ _ _ => by show _ = _; kernel_rfl) n) fun _ _ => rfl
theorem UH0 (n : Nat) : Jfb (UJc R n) (JaJ UcR (Jls Tryz.f135)) := pO (pC (UzP n) pN) (by kernel_rfl)
abbrev UIG : Sl (List SV) := (cH (.c (sP (JlQ 106 (.c (sFb (.c (JlC .i64) (.c sSh .n))) .n))) .n))
abbrev f135 (n : Nat) (K : List SV → O R) : UIG.T (O R) := fun x1 x2 x3 => UHw n x1 x2 x3 (fun y1 => K [vI y1])
abbrev UCK (n : Nat) : FS := fT [false, false] UIG (f135 n)
theorem UG6 (n : Nat) : FSound Tryz.prog GI 135 (UCK n) := gd UcR n (Ul3 n) Tryz.func135 (.cons (Ul3 n) UIG (f135 n) (fun K _ _ _ => (Jkx (c := Jls Tryz.f135) (by kernel_rfl) (UH0 n) K).trans (by kernel_rfl)) .nil) (by kernel_rfl)
def UnJ : Ann := { loops := [], cuts := [], frz := [], rm := [.id] }
abbrev Uvp (n : Nat) : Env := eC 135 (UCK n) eN
theorem UlH (n : Nat) : EnvOK Tryz.prog GI (Uvp n) := .cons (.nil) (UG6 n)
def UHr (n : Nat) (x1 : LP) (x2 : Int) (x3 : LP) (k0 : Bool → O R) : O R :=
  UHw n x1 x2 x3 (fun y4 => k0 (decide (y4 ≥ 0)))
abbrev UGr (n : Nat) : Orc R := oN
abbrev UFH (n : Nat) : Orc R := oN
abbrev ULj (R : Type) (n : Nat) := JcK (R := R) Tryz.prog (Uvp n) UnJ n (9, []) (UGr n) (UFH n)
theorem UHE (n : Nat) : Jfb (ULj R n) (JaJ UnJ (Jls Tryz.f105)) := pO pN (by kernel_rfl)
abbrev UIk : Sl (List SV) := (cH (.c (sP (JlQ 106 (.c (sFb (.c (JlC .i64) (.c sSh .n))) .n))) .n))
abbrev f105 (n : Nat) (K : List SV → O R) : UIk.T (O R) := fun x1 x2 x3 => UHr n x1 x2 x3 (fun y1 => K [vB y1])
abbrev UCu (n : Nat) : FS := fT [false, false] UIk (f105 n)
theorem UGQ (n : Nat) : FSound Tryz.prog GI 105 (UCu n) := gd UnJ n (UlH n) Tryz.func105 (.cons (UlH n) UIk (f105 n) (fun K _ _ _ => (Jkx (c := Jls Tryz.f105) (by kernel_rfl) (UHE n) K).trans (by kernel_rfl)) .nil) (by kernel_rfl)
def Uxa : Ann := { loops := [], cuts := [], frz := [], rm := [.id] }
abbrev UB1 (n : Nat) : Env := eC 105 (UCu n) eN
theorem Up9 (n : Nat) : EnvOK Tryz.prog GI (UB1 n) := .cons (.nil) (UGQ n)
def p65 (n : Nat) (x1 : Int) (x2 : LP) (k0 : Int → O R) : O R :=
  bif (decide (x1 < 0)) then (k0 2) else (bif (bif false then true else (decide (x1 > 2048))) then (k0 2) else (bif (decide (((x2).length : Int) > 2048)) then (k0 6) else (UHr n x2 x1 x2 (fun y3 => bif y3 then (k0 3) else (k0 0)))))
abbrev UMA (n : Nat) : Orc R := oN
abbrev ULU (n : Nat) : Orc R := oN
abbrev K65 (R : Type) (n : Nat) := JcK (R := R) Tryz.prog (UB1 n) Uxa n (19, []) (UMA n) (ULU n)
theorem UOg (n : Nat) : Jfb (K65 R n) (JaJ Uxa (Jls Tryz.f65)) := pO pN (by kernel_rfl)
abbrev t65 : Sl (List SV) := (.c (sP (JlP (.c (JlC .i64) (.c sSh .n)))) .n)
abbrev f65 (n : Nat) (K : List SV → O R) : t65.T (O R) := fun x1 x2 => p65 n x1 x2 (fun y1 => K [vI y1])
abbrev UE7 (n : Nat) : FS := fT [false] t65 (f65 n)
theorem UHn (n : Nat) : FSound Tryz.prog GI 65 (UE7 n) := gd Uxa n (Up9 n) Tryz.func65 (.cons (Up9 n) t65 (f65 n) (fun K _ _ => (Jkx (c := Jls Tryz.f65) (by kernel_rfl) (UOg n) K).trans (by kernel_rfl)) .nil) (by kernel_rfl)
def Ug1 : Ann := { loops := [(3, ids [1, 2, 5, 6], ids [2, 4])], cuts := [], frz := [], rm := [.id] }
abbrev UyL (n : Nat) : Env := eC 84 (UE9 n) eN
theorem Uqq (n : Nat) : EnvOK Tryz.prog GI (UyL n) := .cons (.nil) (UHp n)
def Uh4 (n : Nat) (l0 : Int → LP → ByteArray → Bool → Int → Int → Int → O R) (x1 : Int) (x2 : LP) (x3 : ByteArray) (x4 : Bool) (x5 x6 x7 : Int) (k0 : LP → ByteArray → Bool → Int → Bool → O R) (k1 : LP → ByteArray → Bool → Int → O R) : O R :=
  bif (decide (x7 < ((x2).length : Int))) then (bif (inR x7 ((x2).length)) then (Jh8 ((x2).getD ((x7 : Int).toNat) (.v (.bool false))) fun a8 => JdW a8 fun h9 t10 => Jjf .i64 h9 fun e11 => JdW t10 fun h12 t13 => Jj9 h12 fun e14 => Ji8 t13 (bif (decide (e11 ≤ x6)) then (k0 x2 x3 x4 x5 false) else (bif (bif false then true else (decide (e11 ≥ x1))) then (k0 x2 x3 x4 x5 false) else (bif (bif false then true else eqS e14 (⟨#[48]⟩ : ByteArray)) then (k0 x2 x3 x4 x5 false) else (p84 n e14 (fun y15 => bif (bif false then true else (!y15)) then (k0 x2 x3 x4 x5 false) else (l0 x1 x2 x3 x4 x5 e11 (IntKind.i64.wrap (x7 + 1))))))))) else none) else (k1 x2 x3 x4 x5)
def UdU (n : Nat) : Nat → Int → LP → ByteArray → Bool → Int → Int → Int → (LP → ByteArray → Bool → Int → Bool → O R) → (LP → ByteArray → Bool → Int → O R) → O R
  | 0, _, _, _, _, _, _, _, _, _ => none
  | m + 1, x1, x2, x3, x4, x5, x6, x7, k0, k1 => Uh4 n (fun x1 x2 x3 x4 x5 x6 x7 => UdU n m x1 x2 x3 x4 x5 x6 x7 k0 k1) x1 x2 x3 x4 x5 x6 x7 k0 k1
def UwB (n : Nat) (x1 : Int) (x2 : LP) (x3 : ByteArray) (x4 : Bool) (x5 x6 x7 : Int) (k0 : LP → ByteArray → Bool → Int → Bool → O R) (k1 : LP → ByteArray → Bool → Int → O R) : O R := UdU n n x1 x2 x3 x4 x5 x6 x7 k0 k1
def p82 (n : Nat) (x1 : LP) (x2 : ByteArray) (x3 : Bool) (x4 x5 : Int) (k0 : Bool → O R) : O R :=
  UwB n x5 x1 x2 x3 x4 (-1) 0 (fun y6 y7 y8 y9 y10 => k0 y10) (fun y11 y12 y13 y14 => p84 n y12 (fun y15 => k0 y15))
abbrev E82 (n : Nat) : Code → Fr → Kc R → O R := evC Tryz.prog (UyL n) Ug1 n (46, [])
noncomputable def Uve : Code := Jk (Jls Tryz.f82) [1, 1, 0, 1, 0, 0]
abbrev UgH : Sl (List SV) := (cI (.c (sBx 70 (cH (cS (cB (cI .n))))) (cI (cI .n))))
abbrev Urw (n m : Nat) (K : Kc R) : UgH.T (O R) := fun x1 x2 x3 x4 x5 x6 x7 => UdU n m x1 x2 x3 x4 x5 x6 x7 (fun y1 y2 y3 y4 y5 => xL Ug1 3 K .ret [.bx 70 [vH y1, vS y2, vB y3, vI y4], vB y5]) (fun y1 y2 y3 y4 => xL Ug1 3 K (.exit 0) [.bx 70 [vH y1, vS y2, vB y3, vI y4], dD])
abbrev UBl (n : Nat) (K : Kc R) (l0 : UgH.T (O R)) : UgH.T (O R) := fun x1 x2 x3 x4 x5 x6 x7 => Uh4 n l0 x1 x2 x3 x4 x5 x6 x7 (fun y1 y2 y3 y4 y5 => xL Ug1 3 K .ret [.bx 70 [vH y1, vS y2, vB y3, vI y4], vB y5]) (fun y1 y2 y3 y4 => xL Ug1 3 K (.exit 0) [.bx 70 [vH y1, vS y2, vB y3, vI y4], dD])
abbrev UKI (n : Nat) : Orc R := oL Ug1 (E82 n) n 3 Uve UgH (Urw n n) oN
abbrev UJx (n : Nat) : Orc R := oN
abbrev K82 (R : Type) (n : Nat) := JcK (R := R) Tryz.prog (UyL n) Ug1 n (46, []) (UKI n) (UJx n)
theorem UEn (n : Nat) : K82 R n (false, 3, Uve) := JkM (lo := UKI n) (cu := UJx n) (pO pN (by kernel_rfl)) UgH (Urw n n) (JiK (F := Urw n) UgH (UBl n) (fun K _ _ _ _ _ _ _ => rfl) (fun _ _ => rfl) (fun L K _ _ _ _ _ _ _ => by show _ = _; kernel_rfl) n) fun _ _ => rfl
theorem UOx (n : Nat) : Jfb (K82 R n) (JaJ Ug1 (Jls Tryz.f82)) := pO (pC (UEn n) pN) (by kernel_rfl)
abbrev t82 : Sl (List SV) := (.c (sP (JlP (.c sSh (.c JlF (.c Jlm (.c (JlC .i64) .n)))))) (cI .n))
abbrev f82 (n : Nat) (K : List SV → O R) : t82.T (O R) := fun x1 x2 x3 x4 x5 => p82 n x1 x2 x3 x4 x5 (fun y1 => K [vB y1])
abbrev UKl (n : Nat) : FS := fT [false, false] t82 (f82 n)
theorem UNt (n : Nat) : FSound Tryz.prog GI 82 (UKl n) := gd Ug1 n (Uqq n) Tryz.func82 (.cons (Uqq n) t82 (f82 n) (fun K _ _ _ _ _ => (Jkx (c := Jls Tryz.f82) (by kernel_rfl) (UOx n) K).trans (by kernel_rfl)) .nil) (by kernel_rfl)
def Ufm : Ann := { loops := [(6, ids [1, 3], ids [2])], cuts := [(3, ids [1], ids [2])], frz := [], rm := [.id] }
abbrev Uyv (n : Nat) : Env := eC 82 (UKl n) eN
theorem UpR (n : Nat) : EnvOK Tryz.prog GI (Uyv n) := .cons (.nil) (UNt n)
def UhN (n : Nat) (l0 : Int → LP → Int → O R) (x1 : Int) (x2 : LP) (x3 : Int) (k0 : Int → O R) (k1 : O R) : O R :=
  bif (decide (x3 < ((x2).length : Int))) then (bif (inR x3 ((x2).length)) then (Jh8 ((x2).getD ((x3 : Int).toNat) (.v (.bool false))) fun a4 => JdW a4 fun h5 t6 => Jky h5 fun e7 => JdW t6 fun h8 t9 => Jj9 h8 fun e10 => JdW t9 fun h11 t12 => Jj8 h11 fun e13 => JdW t12 fun h14 t15 => Jjf .i64 h14 fun e16 => Ji8 t15 (p82 n e7 e10 e13 e16 x1 (fun y17 => bif (!y17) then (k0 3) else (l0 x1 x2 (IntKind.i64.wrap (x3 + 1)))))) else none) else (k1)
def UcD (n : Nat) : Nat → Int → LP → Int → (Int → O R) → (O R) → O R
  | 0, _, _, _, _, _ => none
  | m + 1, x1, x2, x3, k0, k1 => UhN n (fun x1 x2 x3 => UcD n m x1 x2 x3 k0 k1) x1 x2 x3 k0 k1
def Uwp (n : Nat) (x1 : Int) (x2 : LP) (x3 : Int) (k0 : Int → O R) (k1 : O R) : O R := UcD n n x1 x2 x3 k0 k1
def Usr (n : Nat) (x1 : Int) (x2 : LP) (k0 : Int → O R) : O R :=
  bif (decide (((x2).length : Int) > 2048)) then (k0 6) else (Uwp n x1 x2 0 (fun y3 => k0 y3) (k0 0))
def p39 (n : Nat) (x1 : Int) (x2 : LP) (k0 : Int → O R) : O R :=
  bif (decide (x1 < 0)) then (k0 2) else (bif (bif false then true else (decide (x1 > 2048))) then (k0 2) else (Usr n x1 x2 (fun y3 => k0 y3)))
abbrev E39 (n : Nat) : Code → Fr → Kc R → O R := evC Tryz.prog (Uyv n) Ufm n (32, [])
noncomputable def UuX : Code := Jk (Jls Tryz.f39) [1, 1]
abbrev UsY : Sl (List SV) := (.c (sBx 24 (cI (cH .n))) .n)
abbrev UvO (n : Nat) (K : Kc R) : UsY.T (O R) := fun x1 x2 => Usr n x1 x2 (fun y1 => xC Ufm 3 K .ret [vI y1])
noncomputable def UuY : Code := Jk (Jls Tryz.f39) [1, 1, 1, 0, 1, 0, 0]
abbrev Ugs : Sl (List SV) := (.c (sBx 24 (cI (cH .n))) (cI .n))
abbrev Urb (n m : Nat) (K : Kc R) : Ugs.T (O R) := fun x1 x2 x3 => UcD n m x1 x2 x3 (fun y1 => xL Ufm 6 K .ret [vI y1]) (xL Ufm 6 K (.exit 0) [dD])
abbrev UA7 (n : Nat) (K : Kc R) (l0 : Ugs.T (O R)) : Ugs.T (O R) := fun x1 x2 x3 => UhN n l0 x1 x2 x3 (fun y1 => xL Ufm 6 K .ret [vI y1]) (xL Ufm 6 K (.exit 0) [dD])
abbrev UGK (n : Nat) : Orc R := oL Ufm (E39 n) n 6 UuY Ugs (Urb n n) oN
abbrev UF0 (n : Nat) : Orc R := oC Ufm (E39 n) 3 UuX UsY (UvO n) oN
abbrev K39 (R : Type) (n : Nat) := JcK (R := R) Tryz.prog (Uyv n) Ufm n (32, []) (UGK n) (UF0 n)
theorem UD6 (n : Nat) : K39 R n (false, 6, UuY) := JkM (lo := UGK n) (cu := UF0 n) (pO pN (by kernel_rfl)) Ugs (Urb n n) (JiK (F := Urb n) Ugs (UA7 n) (fun K _ _ _ => rfl) (fun _ _ => rfl) (fun L K _ _ _ => by show _ = _; kernel_rfl) n) fun _ _ => rfl
theorem UD5 (n : Nat) : K39 R n (true, 3, UuX) := Jk3 (lo := UGK n) (cu := UF0 n) (pO (pC (UD6 n) pN) (by kernel_rfl)) UsY (UvO n) (fun K _ _ => by show _ = _; kernel_rfl) fun _ _ => rfl
theorem UNZ (n : Nat) : Jfb (K39 R n) (JaJ Ufm (Jls Tryz.f39)) := pO (pC (UD5 n) pN) (by kernel_rfl)
abbrev t39 : Sl (List SV) := (.c (sP (JlP (.c (JlC .i64) (.c sSh .n)))) .n)
abbrev f39 (n : Nat) (K : List SV → O R) : t39.T (O R) := fun x1 x2 => p39 n x1 x2 (fun y1 => K [vI y1])
abbrev UJ2 (n : Nat) : FS := fT [false] t39 (f39 n)
theorem UN (n : Nat) : FSound Tryz.prog GI 39 (UJ2 n) := gd Ufm n (UpR n) Tryz.func39 (.cons (UpR n) t39 (f39 n) (fun K _ _ => (Jkx (c := Jls Tryz.f39) (by kernel_rfl) (UNZ n) K).trans (by kernel_rfl)) .nil) (by kernel_rfl)
def Uw7 : Ann := { loops := [], cuts := [], frz := [], rm := [.id] }
abbrev UBX (n : Nat) : Env := eN
theorem Up1 (n : Nat) : EnvOK Tryz.prog GI (UBX n) := .nil
def p55 (n : Nat) (x1 x2 : Int) (k0 : Int → O R) : O R :=
  bif (decide (x1 < x2)) then (k0 (-1)) else (bif (decide (x1 > x2)) then (k0 1) else (k0 0))
abbrev UMw (n : Nat) : Orc R := oN
abbrev ULQ (n : Nat) : Orc R := oN
abbrev K55 (R : Type) (n : Nat) := JcK (R := R) Tryz.prog (UBX n) Uw7 n (13, []) (UMw n) (ULQ n)
theorem UN9 (n : Nat) : Jfb (K55 R n) (JaJ Uw7 (Jls Tryz.f55)) := pO pN (by kernel_rfl)
abbrev t55 : Sl (List SV) := (cI (cI .n))
abbrev f55 (n : Nat) (K : List SV → O R) : t55.T (O R) := fun x1 x2 => p55 n x1 x2 (fun y1 => K [vI y1])
abbrev UJ9 (n : Nat) : FS := fT [false, false] t55 (f55 n)
theorem UNg (n : Nat) : FSound Tryz.prog GI 55 (UJ9 n) := gd Uw7 n (Up1 n) Tryz.func55 (.cons (Up1 n) t55 (f55 n) (fun K _ _ => (Jkx (c := Jls Tryz.f55) (by kernel_rfl) (UN9 n) K).trans (by kernel_rfl)) .nil) (by kernel_rfl)
def UiL : Ann := { loops := [], cuts := [(8, ids [8, 10], ids [4]), (12, ids [8, 10], ids [4])], frz := [], rm := [.id] }
abbrev Uyl (n : Nat) : Env := eC 58 (UCZ n) (eC 57 (UE6 n) (eC 56 (UCY n) (eC 55 (UJ9 n) (eC 54 (UE5 n) eN))))
theorem Upz (n : Nat) : EnvOK Tryz.prog GI (Uyl n) := .cons (.cons (.cons (.cons (.cons (.nil) (UHl n)) (UNg n)) (UFi n)) (UHm n)) (UFj n)
def Udz (n : Nat) (x1 : Bool) (x2 x3 : LP) (x4 : Bool) (x5 x6 : LP) (k0 : Int → O R) : O R :=
  p58 n x2 x6 (fun y7 => p58 n x5 x3 (fun y8 => p57 n y7 y8 (fun y9 => bif x1 then (k0 (IntKind.i64.wrap (0 - y9))) else (k0 y9))))
def Usj (n : Nat) (x1 : Bool) (x2 x3 : LP) (x4 : Bool) (x5 x6 : LP) (k0 : Int → O R) : O R :=
  bif x1 then (bif (bif true then (!x4) else false) then (k0 (-1)) else (bif x4 then (bif (bif true then (!x1) else false) then (k0 1) else (Udz n x1 x2 x3 x4 x5 x6 (fun y7 => k0 y7))) else (Udz n x1 x2 x3 x4 x5 x6 (fun y8 => k0 y8)))) else (bif x4 then (bif (bif true then (!x1) else false) then (k0 1) else (Udz n x1 x2 x3 x4 x5 x6 (fun y9 => k0 y9))) else (Udz n x1 x2 x3 x4 x5 x6 (fun y10 => k0 y10)))
def p19 (n : Nat) (x1 x2 : ByteArray) (k0 : Int → O R) : O R :=
  p54 n x1 x2 (fun y3 y4 y5 => bif y5 then (p55 n y3 y4 (fun y6 => k0 y6)) else (p56 n x1 (fun y7 y8 y9 y10 => p56 n x2 (fun y11 y12 y13 y14 => bif (!y10) then (k0 0) else (bif (bif false then true else (!y14)) then (k0 0) else (Usj n y7 y8 y9 y11 y12 y13 (fun y15 => k0 y15)))))))
abbrev E19 (n : Nat) : Code → Fr → Kc R → O R := evC Tryz.prog (Uyl n) UiL n (72, [])
noncomputable def UuI : Code := Jk (Jls Tryz.f19) [1, 1, 1, 1, 1]
abbrev UsR : Sl (List SV) := (.c (sBx 99 (cB (cH (cH .n)))) (.c (sBx 99 (cB (cH (cH .n)))) .n))
abbrev UvH (n : Nat) (K : Kc R) : UsR.T (O R) := fun x1 x2 x3 x4 x5 x6 => Usj n x1 x2 x3 x4 x5 x6 (fun y1 => xC UiL 8 K .ret [vI y1])
noncomputable def UoD : Code := Jk (Jls Tryz.f19) [1, 1, 1, 1, 1, 1]
abbrev UkN : Sl (List SV) := (.c (sBx 99 (cB (cH (cH .n)))) (.c (sBx 99 (cB (cH (cH .n)))) .n))
abbrev UqY (n : Nat) (K : Kc R) : UkN.T (O R) := fun x1 x2 x3 x4 x5 x6 => Udz n x1 x2 x3 x4 x5 x6 (fun y1 => xC UiL 12 K .ret [vI y1])
abbrev UGH (n : Nat) : Orc R := oN
abbrev UFX (n : Nat) : Orc R := oC UiL (E19 n) 12 UoD UkN (UqY n) (oC UiL (E19 n) 8 UuI UsR (UvH n) oN)
abbrev K19 (R : Type) (n : Nat) := JcK (R := R) Tryz.prog (Uyl n) UiL n (72, []) (UGH n) (UFX n)
theorem Uz4 (n : Nat) : K19 R n (true, 12, UoD) := Jk3 (lo := UGH n) (cu := UFX n) (pO pN (by kernel_rfl)) UkN (UqY n) (fun K _ _ _ _ _ _ => by show _ = _; kernel_rfl) fun _ _ => rfl
theorem UDM (n : Nat) : K19 R n (true, 8, UuI) := Jk3 (lo := UGH n) (cu := UFX n) (pO (pC (Uz4 n) pN) (by kernel_rfl)) UsR (UvH n) (fun K _ _ _ _ _ _ => by show _ = _; kernel_rfl) fun _ _ => rfl
theorem UNH (n : Nat) : Jfb (K19 R n) (JaJ UiL (Jls Tryz.f19)) := pO (pC (UDM n) pN) (by kernel_rfl)
abbrev t19 : Sl (List SV) := (cS (cS .n))
abbrev f19 (n : Nat) (K : List SV → O R) : t19.T (O R) := fun x1 x2 => p19 n x1 x2 (fun y1 => K [vI y1])
abbrev Uy2 (n : Nat) : FS := fT [false, false] t19 (f19 n)
theorem UAH (n : Nat) : FSound Tryz.prog GI 19 (Uy2 n) := gd UiL n (Upz n) Tryz.func19 (.cons (Upz n) t19 (f19 n) (fun K _ _ => (Jkx (c := Jls Tryz.f19) (by kernel_rfl) (UNH n) K).trans (by kernel_rfl)) .nil) (by kernel_rfl)
def Uw4 : Ann := { loops := [], cuts := [], frz := [], rm := [.id] }
abbrev UBU (n : Nat) : Env := eC 19 (Uy2 n) eN
theorem UpW (n : Nat) : EnvOK Tryz.prog GI (UBU n) := .cons (.nil) (UAH n)
def p50 (n : Nat) (x1 : ByteArray) (k0 : Bool → O R) : O R :=
  p19 n x1 ⟨#[48]⟩ (fun y2 => k0 (decide (y2 < 0)))
abbrev UMt (n : Nat) : Orc R := oN
abbrev ULN (n : Nat) : Orc R := oN
abbrev K50 (R : Type) (n : Nat) := JcK (R := R) Tryz.prog (UBU n) Uw4 n (6, []) (UMt n) (ULN n)
theorem UN4 (n : Nat) : Jfb (K50 R n) (JaJ Uw4 (Jls Tryz.f50)) := pO pN (by kernel_rfl)
abbrev t50 : Sl (List SV) := (cS .n)
abbrev f50 (n : Nat) (K : List SV → O R) : t50.T (O R) := fun x1 => p50 n x1 (fun y1 => K [vB y1])
abbrev UJ7 (n : Nat) : FS := fT [false] t50 (f50 n)
theorem UNe (n : Nat) : FSound Tryz.prog GI 50 (UJ7 n) := gd Uw4 n (UpW n) Tryz.func50 (.cons (UpW n) t50 (f50 n) (fun K _ => (Jkx (c := Jls Tryz.f50) (by kernel_rfl) (UN4 n) K).trans (by kernel_rfl)) .nil) (by kernel_rfl)
def Uxq : Ann := { loops := [], cuts := [], frz := [], rm := [.id] }
abbrev UCg (n : Nat) : Env := eC 53 (Uy3 n) eN
theorem Uqx (n : Nat) : EnvOK Tryz.prog GI (UCg n) := .cons (.nil) (UAI n)
def p93 (n : Nat) (x1 : ByteArray) (k0 : Bool → O R) : O R :=
  p53 n x1 (fun y2 => k0 (!y2))
abbrev UMQ (n : Nat) : Orc R := oN
abbrev UM (n : Nat) : Orc R := oN
abbrev K93 (R : Type) (n : Nat) := JcK (R := R) Tryz.prog (UCg n) Uxq n (6, []) (UMQ n) (UM n)
theorem UOE (n : Nat) : Jfb (K93 R n) (JaJ Uxq (Jls Tryz.f93)) := pO pN (by kernel_rfl)
abbrev t93 : Sl (List SV) := (cS .n)
abbrev f93 (n : Nat) (K : List SV → O R) : t93.T (O R) := fun x1 => p93 n x1 (fun y1 => K [vB y1])
abbrev UKn (n : Nat) : FS := fT [false] t93 (f93 n)
theorem UNv (n : Nat) : FSound Tryz.prog GI 93 (UKn n) := gd Uxq n (Uqx n) Tryz.func93 (.cons (Uqx n) t93 (f93 n) (fun K _ => (Jkx (c := Jls Tryz.f93) (by kernel_rfl) (UOE n) K).trans (by kernel_rfl)) .nil) (by kernel_rfl)
def UbG : Ann := { loops := [(2, ids [0, 1, 7, 8], ids [4])], cuts := [], frz := [], rm := [.id] }
abbrev Upr (n : Nat) : Env := eC 93 (UKn n) (eC 50 (UJ7 n) eN)
theorem UjF (n : Nat) : EnvOK Tryz.prog GI (Upr n) := .cons (.cons (.nil) (UNe n)) (UNv n)
def Usx (n : Nat) (l0 : LP → Int → Int → O R) (x1 : LP) (x2 x3 : Int) (k0 : Int → O R) (k1 : O R) : O R :=
  bif (decide (x3 < x2)) then (bif (inR x3 ((x1).length)) then (Jj9 ((x1).getD ((x3 : Int).toNat) (.v (.bool false))) fun e4 => p93 n e4 (fun y5 => bif y5 then (k0 x3) else (l0 x1 x2 (IntKind.i64.wrap (x3 + 1))))) else none) else (k1)
def Uko (n : Nat) : Nat → LP → Int → Int → (Int → O R) → (O R) → O R
  | 0, _, _, _, _, _ => none
  | m + 1, x1, x2, x3, k0, k1 => Usx n (fun x1 x2 x3 => Uko n m x1 x2 x3 k0 k1) x1 x2 x3 k0 k1
def UDG (n : Nat) (x1 : LP) (x2 x3 : Int) (k0 : Int → O R) (k1 : O R) : O R := Uko n n x1 x2 x3 k0 k1
def p94 (n : Nat) (x1 : LP) (k0 : Int → O R) : O R :=
  UDG n x1 ((x1).length : Int) 0 (fun y2 => k0 y2) (k0 (-1))
def Ui3 (n : Nat) (l0 : LP → Int → Int → O R) (x1 : LP) (x2 x3 : Int) (k0 : Int → O R) (k1 : O R) : O R :=
  bif (decide (x3 < x2)) then (bif (inR x3 ((x1).length)) then (Jj9 ((x1).getD ((x3 : Int).toNat) (.v (.bool false))) fun e4 => p50 n e4 (fun y5 => bif y5 then (k0 x3) else (l0 x1 x2 (IntKind.i64.wrap (x3 + 1))))) else none) else (k1)
def UfK (n : Nat) : Nat → LP → Int → Int → (Int → O R) → (O R) → O R
  | 0, _, _, _, _, _ => none
  | m + 1, x1, x2, x3, k0, k1 => Ui3 n (fun x1 x2 x3 => UfK n m x1 x2 x3 k0 k1) x1 x2 x3 k0 k1
def UtX (n : Nat) (x1 : LP) (x2 x3 : Int) (k0 : Int → O R) (k1 : O R) : O R := UfK n n x1 x2 x3 k0 k1
def UDH (n : Nat) (x1 : LP) (k0 : Int → O R) : O R :=
  UtX n x1 ((x1).length : Int) 0 (fun y2 => k0 y2) (k0 (-1))
abbrev E94 (n : Nat) : Code → Fr → Kc R → O R := evC Tryz.prog (Upr n) UbG n (19, [])
noncomputable def UiP : Code := Jk (Jls Tryz.f94) [1, 0, 1, 0, 0]
abbrev UcK : Sl (List SV) := (cH (.c (sP (sFn 93)) (cI (cI .n))))
abbrev UcL : Sl (List SV) := (cH (.c (sP (sFn 50)) (cI (cI .n))))
abbrev Uhg (n m : Nat) (K : Kc R) : UcK.T (O R) := fun x1 x2 x3 => Uko n m x1 x2 x3 (fun y1 => xL UbG 2 K .ret [vI y1]) (xL UbG 2 K (.exit 0) [dD])
abbrev Ux0 (n : Nat) (K : Kc R) (l0 : UcK.T (O R)) : UcK.T (O R) := fun x1 x2 x3 => Usx n l0 x1 x2 x3 (fun y1 => xL UbG 2 K .ret [vI y1]) (xL UbG 2 K (.exit 0) [dD])
abbrev Uhh (n m : Nat) (K : Kc R) : UcL.T (O R) := fun x1 x2 x3 => UfK n m x1 x2 x3 (fun y1 => xL UbG 2 K .ret [vI y1]) (xL UbG 2 K (.exit 0) [dD])
abbrev Ux1 (n : Nat) (K : Kc R) (l0 : UcL.T (O R)) : UcL.T (O R) := fun x1 x2 x3 => Ui3 n l0 x1 x2 x3 (fun y1 => xL UbG 2 K .ret [vI y1]) (xL UbG 2 K (.exit 0) [dD])
abbrev UDc (n : Nat) : Orc R := fun i vs K => JfQ (Nat.beq i 2) (Jjm (UcK.ap vs (Uhg n n K)) (Jjm (UcL.ap vs (Uhh n n K)) (JcE UbG 2 (E94 n UiP) n vs K))) (oN i vs K)
abbrev UBF (n : Nat) : Orc R := oN
abbrev K94 (R : Type) (n : Nat) := JcK (R := R) Tryz.prog (Upr n) UbG n (19, []) (UDc n) (UBF n)
theorem UsB (n : Nat) : Jfb (K94 R n) (JaJ UbG UiP) := pO pN (by kernel_rfl)
theorem Uyg (n : Nat) : ∀ m (K : Kc R), UcK.all (fun vs r => JcE UbG 2 (JcX Tryz.prog (Upr n) UbG (19, []) (UDc n) (UBF n) UiP) m vs K = r) (Uhg n m K) := JiK (F := Uhg n) UcK (Ux0 n) (fun K _ _ _ => rfl) (fun _ _ => rfl) (fun L K _ _ _ => by show _ = _; kernel_rfl)
theorem Uyh (n : Nat) : ∀ m (K : Kc R), UcL.all (fun vs r => JcE UbG 2 (JcX Tryz.prog (Upr n) UbG (19, []) (UDc n) (UBF n) UiP) m vs K = r) (Uhh n m K) := JiK (F := Uhh n) UcL (Ux1 n) (fun K _ _ _ => rfl) (fun _ _ => rfl) (fun L K _ _ _ => by show _ = _; kernel_rfl)
theorem UEq (n : Nat) : K94 R n (false, 2, UiP) := JkM (lo := UDc n) (cu := UBF n) (UsB n) UcK (Uhg n n) (Uyg n n) (JkM (lo := UDc n) (cu := UBF n) (UsB n) UcL (Uhh n n) (Uyh n n) fun _ _ => rfl)
theorem UK8 (n : Nat) : Jfb (K94 R n) (JaJ UbG (Jls Tryz.f94)) := pO (pC (UEq n) pN) (by kernel_rfl)
abbrev UIZ : Sl (List SV) := (cH (.c (sP (sFn 93)) .n))
abbrev UJJ (n : Nat) (K : List SV → O R) : UIZ.T (O R) := fun x1 => p94 n x1 (fun y1 => K [vI y1])
abbrev UI0 : Sl (List SV) := (cH (.c (sP (sFn 50)) .n))
abbrev UJK (n : Nat) (K : List SV → O R) : UI0.T (O R) := fun x1 => UDH n x1 (fun y1 => K [vI y1])
abbrev UKo (n : Nat) : FS := { om := [false, false], run := fun args K => Jjm (UIZ.ap args (UJJ n K)) (Jjm (UI0.ap args (UJK n K)) none) }
theorem UNw (n : Nat) : FSound Tryz.prog GI 94 (UKo n) := gd UbG n (UjF n) Tryz.func94 (.cons (UjF n) UIZ (UJJ n) (fun K _ => (Jkx (c := Jls Tryz.f94) (by kernel_rfl) (UK8 n) K).trans (by kernel_rfl)) (.cons (UjF n) UI0 (UJK n) (fun K _ => (Jkx (c := Jls Tryz.f94) (by kernel_rfl) (UK8 n) K).trans (by kernel_rfl)) .nil)) (by kernel_rfl)
def Uw3 : Ann := { loops := [], cuts := [], frz := [], rm := [.id] }
abbrev UBT (n : Nat) : Env := eC 94 (UKo n) eN
theorem UjD (n : Nat) : EnvOK Tryz.prog GI (UBT n) := .cons (.nil) (UNw n)
def p49 (n : Nat) (x1 : LP) (k0 : Bool → O R) : O R :=
  p94 n x1 (fun y2 => k0 (decide (y2 ≥ 0)))
def UDB (n : Nat) (x1 : LP) (k0 : Bool → O R) : O R :=
  UDH n x1 (fun y2 => k0 (decide (y2 ≥ 0)))
abbrev UMs (n : Nat) : Orc R := oN
abbrev ULM (n : Nat) : Orc R := oN
abbrev K49 (R : Type) (n : Nat) := JcK (R := R) Tryz.prog (UBT n) Uw3 n (9, []) (UMs n) (ULM n)
theorem UK6 (n : Nat) : Jfb (K49 R n) (JaJ Uw3 (Jls Tryz.f49)) := pO pN (by kernel_rfl)
abbrev UIV : Sl (List SV) := (cH (.c (sP (sFn 93)) .n))
abbrev UJF (n : Nat) (K : List SV → O R) : UIV.T (O R) := fun x1 => p49 n x1 (fun y1 => K [vB y1])
abbrev UIW : Sl (List SV) := (cH (.c (sP (sFn 50)) .n))
abbrev UJG (n : Nat) (K : List SV → O R) : UIW.T (O R) := fun x1 => UDB n x1 (fun y1 => K [vB y1])
abbrev UGc (n : Nat) : FS := { om := [false, false], run := fun args K => Jjm (UIV.ap args (UJF n K)) (Jjm (UIW.ap args (UJG n K)) none) }
theorem UKS (n : Nat) : FSound Tryz.prog GI 49 (UGc n) := gd Uw3 n (UjD n) Tryz.func49 (.cons (UjD n) UIV (UJF n) (fun K _ => (Jkx (c := Jls Tryz.f49) (by kernel_rfl) (UK6 n) K).trans (by kernel_rfl)) (.cons (UjD n) UIW (UJG n) (fun K _ => (Jkx (c := Jls Tryz.f49) (by kernel_rfl) (UK6 n) K).trans (by kernel_rfl)) .nil)) (by kernel_rfl)
def Uw2 : Ann := { loops := [], cuts := [], frz := [], rm := [.id] }
abbrev UBS (n : Nat) : Env := eC 65 (UE7 n) (eC 49 (UGc n) eN)
theorem UpV (n : Nat) : EnvOK Tryz.prog GI (UBS n) := .cons (.cons (.nil) (UKS n)) (UHn n)
def p48 (n : Nat) (x1 : Int) (x2 x3 : LP) (k0 : Int → O R) : O R :=
  p65 n x1 x2 (fun y4 => bif (y4 != 0) then (k0 3) else (bif (((x3).length : Int) != x1) then (k0 2) else (p49 n x3 (fun y5 => bif y5 then (k0 3) else (k0 0)))))
abbrev UMr (n : Nat) : Orc R := oN
abbrev ULL (n : Nat) : Orc R := oN
abbrev K48 (R : Type) (n : Nat) := JcK (R := R) Tryz.prog (UBS n) Uw2 n (15, []) (UMr n) (ULL n)
theorem UN3 (n : Nat) : Jfb (K48 R n) (JaJ Uw2 (Jls Tryz.f48)) := pO pN (by kernel_rfl)
abbrev t48 : Sl (List SV) := (.c (sP (JlP (.c (JlC .i64) (.c sSh .n)))) (cH .n))
abbrev f48 (n : Nat) (K : List SV → O R) : t48.T (O R) := fun x1 x2 x3 => p48 n x1 x2 x3 (fun y1 => K [vI y1])
abbrev UJ6 (n : Nat) : FS := fT [false, false] t48 (f48 n)
theorem UNd (n : Nat) : FSound Tryz.prog GI 48 (UJ6 n) := gd Uw2 n (UpV n) Tryz.func48 (.cons (UpV n) t48 (f48 n) (fun K _ _ _ => (Jkx (c := Jls Tryz.f48) (by kernel_rfl) (UN3 n) K).trans (by kernel_rfl)) .nil) (by kernel_rfl)
end
end Go.Proofs.YtmgfmlhdnadglaaGreatDoor
set_option linter.unusedVariables false
set_option linter.unusedSimpArgs false
namespace Go.Proofs.YtmgfmlhdnadglaaGreatDoor
open Go Th Go.Proofs
variable {R : Type}
noncomputable def okT (cols : Int) : Int → List Uar → Bool
  | _, [] => true
  | last, t :: r => if t.1 ≤ last then false else if t.1 ≥ cols then false else if t.2 = [48] then false else qb t.2 && okT cols t.1 r
noncomputable def okR (cols : Int) (r : RowT) : Bool := okT cols (-1) r.tm && qb r.c
def smT (l : List Uar) : Prop := l.length < 2 ^ 17 ∧ ∀ t ∈ l, t.2.length < 2 ^ 17
def smR (r : RowT) : Prop := smT r.tm ∧ r.c.length < 2 ^ 17
noncomputable def UnC (cols : Int) (kbad : Option R) (last : Int) (t : Uar) (K : Int → Option R) : Option R :=
  if t.1 ≤ last then kbad else if t.1 ≥ cols then kbad else if t.2 = [48] then kbad else if qb t.2 = true then K t.1 else kbad
theorem UIe (cols : Int) (kbad kend : Option R) : ∀ (l : List Uar) (last : Int), UwG (UnC cols kbad) (fun _ => kend) last l = if okT cols last l then kend else kbad
  | [], last => rfl
  | t :: l, last => by
    have ih := UIe cols kbad kend l t.1
    simp only [UwG, UnC, okT]
    by_cases h1 : t.1 ≤ last
    · simp [h1]
    · by_cases h2 : t.1 ≥ cols
      · simp [h1, h2]
      · by_cases h3 : t.2 = [48]
        · simp [h1, h2, h3]
        · rcases Bool.eq_false_or_eq_true (qb t.2) with h4 | h4 <;> simp [h1, h2, h3, h4, ih]
theorem e48 (s : List UInt8) : eqS (bs s) (⟨#[48]⟩ : ByteArray) = decide (s = [48]) := by
  rw [show eqS (bs s) (⟨#[48]⟩ : ByteArray) = (s == [48]) from rfl, Bool.eq_iff_iff]; simp
theorem Uks (n : Nat) (hn : 10 ^ 400 ≤ n) (cols : Int) (r : RowT) (hr : smR r) (k0 : Bool → Option R) : UFn n (tms r.tm) (bs r.c) r.eq r.mark cols k0 = k0 (okR cols r) := by
  have hN := Uas hn
  have hL := hr.1.1
  have hv1 := fun k => Ueu (R := R) n hn r.c hr.2 k
  unfold UFn Ur3
  have h := UfO (R := R) (l := r.tm) (step := UnC cols (k0 false)) (kend := fun _ => k0 (qb r.c))
    (fun m s i => Ub2 n m cols (tms r.tm) (bs r.c) r.eq r.mark s (tms r.tm) ((tms r.tm).length : Int) (i : Int) (fun _ _ _ _ y => k0 y) (fun _ y _ _ => p53 n y fun y15 => k0 y15))
    (fun m s => by simp only [Ub2, UeP]; simp (disch := (first | omega | (simp only [JlL]; omega))) only [↓JlO, JlM, Ua, hv1])
    (fun m s i hi => by
      have hv := fun k => Ueu (R := R) n hn (r.tm[i]).2 (hr.1.2 _ (List.getElem_mem hi)) k
      simp only [Ub2, UeP, UnC]
      by_cases h1 : (r.tm[i]).1 ≤ s
      · simp (disch := (first | omega | (simp only [JlL]; omega))) only [↓JlO, JlM, Ua, Jjo, Uav hi, i1]
      · by_cases h2 : (r.tm[i]).1 ≥ cols
        · simp (disch := (first | omega | (simp only [JlL]; omega))) only [↓JlO, JlM, Ua, Jjo, Uav hi, i1]
        · by_cases h3 : (r.tm[i]).2 = [48]
          · simp (disch := (first | omega | (simp only [JlL]; omega))) only [↓JlO, JlM, Ua, Jjo, Uav hi, i1, Ujv h3]
          · simp (disch := (first | omega | (simp only [JlL]; omega))) only [↓JlO, JlM, Ua, Jjo, Uav hi, i1, UiN h3, hv]
            cases qb (r.tm[i]).2 <;> rfl) r.tm.length n 0 (-1) (by omega) (by omega)
  rw [List.drop_zero, UIe] at h
  refine Eq.trans h ?_
  unfold okR
  cases okT cols (-1) r.tm <;> rfl
theorem Uur (n : Nat) (hn : 10 ^ 400 ≤ n) (cols : Int) (r : RowT) (hr : smR r) (k0 : Bool → Option R) : p82 n (tms r.tm) (bs r.c) r.eq r.mark cols k0 = k0 (okR cols r) := by
  have hN := Uas hn
  have hL := hr.1.1
  have hv1 := fun k => Udg (R := R) n hn r.c hr.2 k
  unfold p82 UwB
  have h := UfO (R := R) (l := r.tm) (step := UnC cols (k0 false)) (kend := fun _ => k0 (qb r.c))
    (fun m s i => UdU n m cols (tms r.tm) (bs r.c) r.eq r.mark s (i : Int) (fun _ _ _ _ y => k0 y) (fun _ y _ _ => p84 n y fun y15 => k0 y15))
    (fun m s => by simp only [UdU, Uh4]; simp (disch := (first | omega | (simp only [JlL]; omega))) only [↓JlO, JlM, Ua, hv1])
    (fun m s i hi => by
      have hv := fun k => Udg (R := R) n hn (r.tm[i]).2 (hr.1.2 _ (List.getElem_mem hi)) k
      simp only [UdU, Uh4, UnC]
      by_cases h1 : (r.tm[i]).1 ≤ s
      · simp (disch := (first | omega | (simp only [JlL]; omega))) only [↓JlO, JlM, Ua, Jjo, Uav hi, i1]
      · by_cases h2 : (r.tm[i]).1 ≥ cols
        · simp (disch := (first | omega | (simp only [JlL]; omega))) only [↓JlO, JlM, Ua, Jjo, Uav hi, i1]
        · by_cases h3 : (r.tm[i]).2 = [48]
          · simp (disch := (first | omega | (simp only [JlL]; omega))) only [↓JlO, JlM, Ua, Jjo, Uav hi, i1, Ujv h3]
          · simp (disch := (first | omega | (simp only [JlL]; omega))) only [↓JlO, JlM, Ua, Jjo, Uav hi, i1, UiN h3, hv]
            cases qb (r.tm[i]).2 <;> rfl) r.tm.length n 0 (-1) (by omega) (by omega)
  rw [List.drop_zero, UIe] at h
  refine Eq.trans h ?_
  unfold okR
  cases okT cols (-1) r.tm <;> rfl
noncomputable def Um9 (cols : Int) (rows : List RowT) : Int := if cols < 0 then 2 else if cols > 2048 then 2 else if rows.length > 2048 then 6 else if rows.all (okR cols) then 0 else 3
def smA (rows : List RowT) : Prop := rows.length < 2 ^ 17 ∧ ∀ r ∈ rows, smR r
theorem UAu (n : Nat) (hn : 10 ^ 400 ≤ n) (cols : Int) (rows : List RowT) (hr : smA rows) (k0 : Int → Option R) : p39 n cols (rws rows) k0 = k0 (Um9 cols rows) := by
  have hN := Uas hn
  have hL := hr.1
  unfold p39 Usr Uwp Um9
  by_cases h1 : cols < 0
  · simp (disch := (first | omega | (simp only [JlL]; omega))) only [↓JlO, JlM]
  · by_cases h2 : cols > 2048
    · simp (disch := (first | omega | (simp only [JlL]; omega))) only [↓JlO, JlM]
    · by_cases h3 : rows.length > 2048
      · have h3' : ((rows.length : Nat) : Int) > 2048 := by omega
        simp (disch := (first | omega | (simp only [JlL]; omega))) only [↓JlO, JlM, Uab]
      · have h3' : ¬ ((rows.length : Nat) : Int) > 2048 := by omega
        have h := Uao (R := R) (l := rows) (ok := okR cols) (kbad := k0 3) (kend := k0 0) (fun m i => UcD n m cols (rws rows) (i : Int) k0 (k0 0))
          (fun m => by simp only [UcD, UhN]; simp (disch := (first | omega | (simp only [JlL]; omega))) only [↓JlO, JlM, Uab])
          (fun m i hi => by
            have hv := fun k => Uur (R := R) n hn cols rows[i] (hr.2 _ (List.getElem_mem hi)) k
            simp only [UcD, UhN]
            simp (disch := (first | omega | (simp only [JlL]; omega))) only [↓JlO, JlM, Uab, Jjo, UaJ hi, hv, i1]
            cases okR cols rows[i] <;> rfl) rows.length n 0 (by omega) (by omega)
        rw [List.drop_zero] at h
        have h' : UcD n n cols (rws rows) 0 k0 (k0 0) = _ := h
        simp (disch := (first | omega | (simp only [JlL]; omega))) only [↓JlO, JlM, Uab, h']
        cases rows.all (okR cols) <;> rfl
theorem UEL (n : Nat) (hn : 10 ^ 400 ≤ n) (cols : Int) (rows : List RowT) (hr : smA rows) (k0 : Int → Option R) : p65 n cols (rws rows) k0 = k0 (Um9 cols rows) := by
  have hN := Uas hn
  have hL := hr.1
  unfold p65 UHr UHw Usa Um9
  by_cases h1 : cols < 0
  · simp (disch := (first | omega | (simp only [JlL]; omega))) only [↓JlO, JlM]
  · by_cases h2 : cols > 2048
    · simp (disch := (first | omega | (simp only [JlL]; omega))) only [↓JlO, JlM]
    · by_cases h3 : rows.length > 2048
      · have h3' : ((rows.length : Nat) : Int) > 2048 := by omega
        simp (disch := (first | omega | (simp only [JlL]; omega))) only [↓JlO, JlM, Uab]
      · have h3' : ¬ ((rows.length : Nat) : Int) > 2048 := by omega
        have h := Uao (R := R) (l := rows) (ok := okR cols) (kbad := k0 3) (kend := k0 0)
          (fun m i => Ubv n m (rws rows) cols (rws rows) ((rws rows).length : Int) (i : Int) (fun y => bif decide (y ≥ 0) then k0 3 else k0 0) (bif decide ((-1 : Int) ≥ 0) then k0 3 else k0 0))
          (fun m => by simp only [Ubv, UeY]; simp (disch := (first | omega | (simp only [JlL]; omega))) only [↓JlO, JlM, Uab])
          (fun m i hi => by
            have hv := fun k => Uks (R := R) n hn cols rows[i] (hr.2 _ (List.getElem_mem hi)) k
            simp only [Ubv, UeY, UHs]
            simp (disch := (first | omega | (simp only [JlL]; omega))) only [↓JlO, JlM, Uab, Jjo, UaJ hi, hv, i1]
            cases okR cols rows[i] <;> simp (disch := (first | omega | (simp only [JlL]; omega))) only [↓JlO, JlM] <;> rfl) rows.length n 0 (by omega) (by omega)
        rw [List.drop_zero] at h
        have h' : Ubv n n (rws rows) cols (rws rows) ((rws rows).length : Int) 0 (fun y => bif decide (y ≥ 0) then k0 3 else k0 0) (bif decide ((-1 : Int) ≥ 0) then k0 3 else k0 0) = _ := h
        have e : ∀ a b : Option R, (bif decide (((rws rows).length : Int) > 2048) then a else b) = b := fun a b => by rw [Uab, decide_eq_false h3']; rfl
        simp only [Jkl h1, Jkl h2, Uak, e, h']
        rw [if_neg h1, if_neg h2, if_neg h3]
        cases rows.all (okR cols) <;> rfl
abbrev SpT := Nat × Rat
noncomputable def vt (l : List SpT) : List Uar := l.map fun t => ((t.1 : Int), Uag t.2)
theorem Uaw (l : List SpT) : (vt l).length = l.length := by unfold vt; rw [List.length_map]
theorem UEO {l : List SpT} {i : Nat} (h : i < (vt l).length) : (vt l)[i] = (((l[i]'(by rw [← Uaw]; exact h)).1 : Int), Uag (l[i]'(by rw [← Uaw]; exact h)).2) := by
  simp only [vt, List.getElem_map]
def asc : Int → List SpT → Prop
  | _, [] => True
  | last, t :: r => last < (t.1 : Int) ∧ asc t.1 r
def okN (cols : Int) (l : List SpT) : Prop := ∀ t ∈ l, t.2 ≠ 0 ∧ Ual t.2 ∧ (t.1 : Int) < cols
def okS (cols : Int) (l : List SpT) : Prop := asc (-1) l ∧ okN cols l
theorem UcZ {q : Rat} (h : Ual q) : qb (Uag q) = true := UEw.2 ⟨q, h, rfl⟩
theorem UeA : Ual 0 := Uhi (v := 0) (by decide +kernel)
theorem Ujd : Uag 0 = [48] := by rw [← show ((0 : Int) : Rat) = 0 from rfl, ← Uay]; decide +kernel
theorem Uew {q : Rat} : Uag q = [48] ↔ q = 0 := ⟨fun h => Uie (h.trans Ujd.symm), fun h => by rw [h, Ujd]⟩
theorem UrX {cols : Int} : ∀ {l : List SpT} {last : Int}, asc last l → okN cols l → okT cols last (vt l) = true
  | [], last, _, _ => rfl
  | t :: l, last, h1, h2 => by
    obtain ⟨e1, e2, e3⟩ := h2 t (List.mem_cons_self ..)
    show okT cols last (((t.1 : Int), Uag t.2) :: vt l) = true
    simp only [okT]
    have h1' := h1.1
    rw [if_neg (by omega), if_neg (by omega), if_neg (fun q => e1 (Uew.1 q)), UcZ e2, UrX h1.2 (fun x hx => h2 x (List.mem_cons_of_mem _ hx))]
    rfl
theorem UrW {cols : Int} : ∀ {l : List Uar} {last : Int}, -1 ≤ last → okT cols last l = true → ∃ l' : List SpT, l = vt l' ∧ asc last l' ∧ okN cols l'
  | [], last, _, _ => ⟨[], rfl, trivial, by intro t h; cases h⟩
  | t :: l, last, h0, h => by
    simp only [okT] at h
    by_cases h1 : t.1 ≤ last
    · rw [if_pos h1] at h; cases h
    rw [if_neg h1] at h
    by_cases h2 : t.1 ≥ cols
    · rw [if_pos h2] at h; cases h
    rw [if_neg h2] at h
    by_cases h3 : t.2 = [48]
    · rw [if_pos h3] at h; cases h
    rw [if_neg h3, Bool.and_eq_true] at h
    obtain ⟨q, hq, e⟩ := UEw.1 h.1
    obtain ⟨l', e1, e2, e3⟩ := UrW (by omega : -1 ≤ t.1) h.2
    have hc : ((t.1.toNat : Nat) : Int) = t.1 := by omega
    refine ⟨(t.1.toNat, q) :: l', ?_, ⟨by show last < ((t.1.toNat : Nat) : Int); omega, by show asc ((t.1.toNat : Nat) : Int) l'; rw [hc]; exact e2⟩, ?_⟩
    · rw [e1]
      show t :: vt l' = (((t.1.toNat : Nat) : Int), Uag q) :: vt l'
      rw [hc, ← e]
    · intro x hx
      rcases List.mem_cons.1 hx with rfl | hx
      · refine ⟨fun q0 => h3 (by rw [e]; exact Uew.2 q0), hq, ?_⟩
        show ((t.1.toNat : Nat) : Int) < cols
        omega
      · exact e3 x hx
theorem Utf {l : List SpT} {a b : Int} (h : asc b l) (hab : a ≤ b) : asc a l := by
  cases l with
  | nil => trivial
  | cons t r => exact ⟨by have := h.1; omega, h.2⟩
theorem Uju : ∀ {l : List SpT} {a : Int}, asc a l → ∀ t ∈ l, a < (t.1 : Int)
  | t :: l, a, h, x, hx => by
    rcases List.mem_cons.1 hx with rfl | hx
    · exact h.1
    · have := Uju h.2 x hx; have := h.1; omega
def cf : List SpT → Nat → Rat
  | [], _ => 0
  | t :: r, i => if t.1 = i then t.2 else cf r i
theorem UbL (t : SpT) (r : List SpT) (i : Nat) : cf (t :: r) i = if t.1 = i then t.2 else cf r i := rfl
theorem UoS : ∀ {l : List SpT} {i : Nat}, (∀ t ∈ l, t.1 ≠ i) → cf l i = 0
  | [], _, _ => rfl
  | t :: l, i, h => by rw [cf, if_neg (h t (List.mem_cons_self ..)), UoS fun x hx => h x (List.mem_cons_of_mem _ hx)]
theorem UbM {l : List SpT} {a : Int} (h : asc a l) {i : Nat} (hi : (i : Int) ≤ a) : cf l i = 0 := UoS fun t ht => by have := Uju h t ht; omega
theorem UoR : ∀ {l : List SpT} {a : Int}, asc a l → ∀ t ∈ l, cf l t.1 = t.2
  | t :: l, a, h, x, hx => by
    rcases List.mem_cons.1 hx with rfl | hx
    · rw [cf, if_pos rfl]
    · have := Uju h.2 x hx
      rw [cf, if_neg (by omega), UoR h.2 x hx]
theorem Ux5 {l : List SpT} {i : Nat} (h : cf l i ≠ 0) : ∃ t ∈ l, t.1 = i ∧ t.2 = cf l i := by
  induction l with
  | nil => exact absurd rfl h
  | cons t l ih =>
    rw [cf] at h ⊢
    by_cases e : t.1 = i
    · rw [if_pos e]; exact ⟨t, List.mem_cons_self .., e, rfl⟩
    · rw [if_neg e] at h ⊢
      obtain ⟨x, hx, h1, h2⟩ := ih h
      exact ⟨x, List.mem_cons_of_mem _ hx, h1, h2⟩
theorem Ujz {cols : Int} {l : List SpT} (h : okN cols l) (i : Nat) : Ual (cf l i) := by
  by_cases h0 : cf l i = 0
  · rw [h0]; exact UeA
  · obtain ⟨t, ht, _, e⟩ := Ux5 h0
    rw [← e]; exact (h t ht).2.1
open Classical in
noncomputable def scO (q : Rat) (l : List SpT) : Option (List SpT) := if ∀ t ∈ l, Ual (t.2 * q) then some (l.map fun t => (t.1, t.2 * q)) else none
theorem UnZ (f : SpT → Rat) : ∀ {l : List SpT} {a : Int}, asc a l → asc a (l.map fun t => (t.1, f t))
  | [], _, _ => trivial
  | t :: l, a, h => ⟨h.1, UnZ f h.2⟩
theorem UBr (q : Rat) : ∀ (l : List SpT) (i : Nat), cf (l.map fun t => (t.1, t.2 * q)) i = cf l i * q
  | [], i => by simp [cf, Rat.zero_mul]
  | t :: l, i => by
    rw [List.map_cons, cf, cf, UBr q l i]
    split <;> rfl
theorem UIf {cols : Int} {q : Rat} (h0 : q ≠ 0) {l r : List SpT} (h : okS cols l) (he : scO q l = some r) : okS cols r ∧ ∀ i, cf r i = cf l i * q := by
  unfold scO at he
  split at he
  · rename_i hf
    simp only [Option.some.injEq] at he
    subst he
    refine ⟨⟨UnZ _ h.1, fun t ht => ?_⟩, UBr q l⟩
    obtain ⟨x, hx, rfl⟩ := List.mem_map.1 ht
    obtain ⟨e1, e2, e3⟩ := h.2 x hx
    refine ⟨fun e => ?_, hf x hx, e3⟩
    rcases Rat.mul_eq_zero.1 e with q1 | q1
    · exact e1 q1
    · exact h0 q1
  · cases he
theorem UAr {q : Rat} {l : List SpT} {a : Int} (ha : asc a l) : scO q l = none ↔ ∃ i, ¬ Ual (cf l i * q) := by
  unfold scO
  split
  · rename_i hf
    refine ⟨fun h => (by cases h), fun ⟨i, hi⟩ => ?_⟩
    by_cases h0 : cf l i = 0
    · rw [h0, Rat.zero_mul] at hi; exact absurd UeA hi
    · obtain ⟨t, ht, _, e⟩ := Ux5 h0
      rw [← e] at hi; exact absurd (hf t ht) hi
  · rename_i hf
    refine ⟨fun _ => ?_, fun _ => rfl⟩
    apply Classical.byContradiction
    intro hn
    apply hf
    intro t ht
    apply Classical.byContradiction
    intro hq
    exact hn ⟨t.1, by rw [UoR ha t ht]; exact hq⟩
open Classical in
noncomputable def UeB : List SpT → List SpT → Option (List SpT)
  | [], b => some b
  | a :: xs, [] => some (a :: xs)
  | a :: xs, b :: ys => if a.1 < b.1 then (UeB xs (b :: ys)).map (a :: ·) else if b.1 < a.1 then (UeB (a :: xs) ys).map (b :: ·)
      else if Ual (a.2 + b.2) then (UeB xs ys).map (fun r => if a.2 + b.2 = 0 then r else (a.1, a.2 + b.2) :: r) else none
termination_by a b => a.length + b.length
theorem UrR (a : List SpT) : UeB a [] = some a := by cases a <;> simp [UeB]
theorem UmN {cols : Int} : ∀ (k : Nat) {a b : List SpT} {last : Int}, a.length + b.length ≤ k → asc last a → asc last b → okN cols a → okN cols b → ∀ {r : List SpT}, UeB a b = some r → asc last r ∧ okN cols r ∧ ∀ i, cf r i = cf a i + cf b i
  | k, [], b, last, hk, ha, hb, na, nb, r, h => by
    simp only [UeB, Option.some.injEq] at h
    subst h
    exact ⟨hb, nb, fun i => by simp [cf, Rat.zero_add]⟩
  | k, a :: xs, [], last, hk, ha, hb, na, nb, r, h => by
    simp only [UeB, Option.some.injEq] at h
    subst h
    exact ⟨ha, na, fun i => by simp [cf, Rat.add_zero]⟩
  | k + 1, a :: xs, b :: ys, last, hk, ha, hb, na, nb, r, h => by
    have na' : okN cols xs := fun x hx => na x (List.mem_cons_of_mem _ hx)
    have nb' : okN cols ys := fun x hx => nb x (List.mem_cons_of_mem _ hx)
    rw [UeB] at h
    simp only [List.length_cons] at hk
    by_cases h1 : a.1 < b.1
    · rw [if_pos h1] at h
      obtain ⟨r', e, rfl⟩ := Option.map_eq_some_iff.1 h
      have hb2 : asc (a.1 : Int) (b :: ys) := ⟨by omega, hb.2⟩
      obtain ⟨p1, p2, p3⟩ := UmN k (by simp only [List.length_cons]; omega) ha.2 hb2 na' nb e
      refine ⟨⟨ha.1, p1⟩, fun x hx => ?_, fun i => ?_⟩
      · rcases List.mem_cons.1 hx with rfl | hx
        · exact na _ (List.mem_cons_self ..)
        · exact p2 x hx
      · rw [UbL a r' i, UbL a xs i, p3 i]
        by_cases hi : a.1 = i
        · rw [if_pos hi, if_pos hi, UbM hb2 (by omega), Rat.add_zero]
        · rw [if_neg hi, if_neg hi]
    · rw [if_neg h1] at h
      by_cases h2 : b.1 < a.1
      · rw [if_pos h2] at h
        obtain ⟨r', e, rfl⟩ := Option.map_eq_some_iff.1 h
        have ha2 : asc (b.1 : Int) (a :: xs) := ⟨by omega, ha.2⟩
        obtain ⟨p1, p2, p3⟩ := UmN k (by simp only [List.length_cons]; omega) ha2 hb.2 na nb' e
        refine ⟨⟨hb.1, p1⟩, fun x hx => ?_, fun i => ?_⟩
        · rcases List.mem_cons.1 hx with rfl | hx
          · exact nb _ (List.mem_cons_self ..)
          · exact p2 x hx
        · rw [UbL b r' i, UbL b ys i, p3 i]
          by_cases hi : b.1 = i
          · rw [if_pos hi, if_pos hi, UbM ha2 (by omega), Rat.zero_add]
          · rw [if_neg hi, if_neg hi]
      · rw [if_neg h2] at h
        have e0 : a.1 = b.1 := by omega
        by_cases hf : Ual (a.2 + b.2)
        · rw [if_pos hf] at h
          obtain ⟨r', e, rfl⟩ := Option.map_eq_some_iff.1 h
          obtain ⟨p1, p2, p3⟩ := UmN k (by omega) ha.2 (by rw [e0]; exact hb.2) na' nb' e
          by_cases hz : a.2 + b.2 = 0
          · rw [if_pos hz]
            refine ⟨Utf p1 (by have := ha.1; omega), p2, fun i => ?_⟩
            rw [p3 i, cf, cf]
            by_cases hi : a.1 = i
            · rw [if_pos hi, if_pos (by omega), hz, UbM ha.2 (by omega), UbM hb.2 (by omega), Rat.add_zero]
            · rw [if_neg hi, if_neg (by omega)]
          · rw [if_neg hz]
            refine ⟨⟨ha.1, p1⟩, fun x hx => ?_, fun i => ?_⟩
            · rcases List.mem_cons.1 hx with rfl | hx
              · exact ⟨hz, hf, (na a (List.mem_cons_self ..)).2.2⟩
              · exact p2 x hx
            · rw [UbL (a.1, a.2 + b.2) r' i, UbL a xs i, UbL b ys i, p3 i]
              by_cases hi : a.1 = i
              · rw [if_pos hi, if_pos hi, if_pos (by omega)]
              · rw [if_neg hi, if_neg hi, if_neg (by omega)]
        · rw [if_neg hf] at h; cases h
theorem UeL {cols : Int} : ∀ (k : Nat) {a b : List SpT} {last : Int}, a.length + b.length ≤ k → asc last a → asc last b → okN cols a → okN cols b → (UeB a b = none ↔ ∃ i, ¬ Ual (cf a i + cf b i))
  | k, [], b, last, hk, ha, hb, na, nb => by
    simp only [UeB, reduceCtorEq, false_iff]
    rintro ⟨i, hi⟩
    rw [cf, Rat.zero_add] at hi
    exact hi (Ujz nb i)
  | k, a :: xs, [], last, hk, ha, hb, na, nb => by
    simp only [UeB, reduceCtorEq, false_iff]
    rintro ⟨i, hi⟩
    rw [show cf [] i = 0 from rfl, Rat.add_zero] at hi
    exact hi (Ujz na i)
  | k + 1, a :: xs, b :: ys, last, hk, ha, hb, na, nb => by
    have na' : okN cols xs := fun x hx => na x (List.mem_cons_of_mem _ hx)
    have nb' : okN cols ys := fun x hx => nb x (List.mem_cons_of_mem _ hx)
    have fa := (na a (List.mem_cons_self ..)).2.1
    have fb := (nb b (List.mem_cons_self ..)).2.1
    rw [UeB]
    simp only [List.length_cons] at hk
    by_cases h1 : a.1 < b.1
    · have hb2 : asc (a.1 : Int) (b :: ys) := ⟨by omega, hb.2⟩
      rw [if_pos h1, Option.map_eq_none_iff, UeL k (by simp only [List.length_cons]; omega) ha.2 hb2 na' nb]
      refine exists_congr fun i => ?_
      rw [show cf (a :: xs) i = if a.1 = i then a.2 else cf xs i from rfl]
      by_cases hi : a.1 = i
      · rw [if_pos hi, UbM ha.2 (by omega), UbM hb2 (by omega), Rat.add_zero, Rat.add_zero]
        exact ⟨fun h => absurd UeA h, fun h => absurd fa h⟩
      · rw [if_neg hi]
    · rw [if_neg h1]
      by_cases h2 : b.1 < a.1
      · have ha2 : asc (b.1 : Int) (a :: xs) := ⟨by omega, ha.2⟩
        rw [if_pos h2, Option.map_eq_none_iff, UeL k (by simp only [List.length_cons]; omega) ha2 hb.2 na nb']
        refine exists_congr fun i => ?_
        rw [show cf (b :: ys) i = if b.1 = i then b.2 else cf ys i from rfl]
        by_cases hi : b.1 = i
        · rw [if_pos hi, UbM hb.2 (by omega), UbM ha2 (by omega), Rat.add_zero, Rat.zero_add]
          exact ⟨fun h => absurd UeA h, fun h => absurd fb h⟩
        · rw [if_neg hi]
      · have e0 : a.1 = b.1 := by omega
        rw [if_neg h2]
        have at_ : ∀ i, a.1 = i → cf (a :: xs) i + cf (b :: ys) i = a.2 + b.2 := fun i hi => by rw [cf, cf, if_pos hi, if_pos (by omega)]
        have off : ∀ i, a.1 ≠ i → cf (a :: xs) i + cf (b :: ys) i = cf xs i + cf ys i := fun i hi => by rw [cf, cf, if_neg hi, if_neg (by omega)]
        by_cases hf : Ual (a.2 + b.2)
        · rw [if_pos hf, Option.map_eq_none_iff, UeL k (by omega) ha.2 (by rw [e0]; exact hb.2) na' nb']
          refine exists_congr fun i => ?_
          by_cases hi : a.1 = i
          · rw [at_ i hi, UbM ha.2 (by omega), UbM hb.2 (by omega), Rat.add_zero]
            exact ⟨fun h => absurd UeA h, fun h => absurd hf h⟩
          · rw [off i hi]
        · rw [if_neg hf]
          exact ⟨fun _ => ⟨a.1, by rw [at_ _ rfl]; exact hf⟩, fun _ => rfl⟩
end Go.Proofs.YtmgfmlhdnadglaaGreatDoor
