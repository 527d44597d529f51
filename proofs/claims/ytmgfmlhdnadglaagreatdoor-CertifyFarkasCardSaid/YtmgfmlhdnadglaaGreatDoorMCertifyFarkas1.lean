/- Proved: part 5 of the proof that the law CertifyFarkas returns true at all its arguments (no further conditions). -/
import Derived.Test.YtmgfmlhdnadglaaGreatDoorMCertifyFarkas0
set_option linter.unusedVariables false
set_option linter.unusedSimpArgs false
namespace Go.Proofs.YtmgfmlhdnadglaaGreatDoor
open Go Th Go.Proofs
variable {R : Type}
theorem Uo1 (n : Nat) (xs q : List PV) (lv : List Nat) (hv : ∀ d ∈ lv, d < 1000000000) (g i : Nat) (hg : g < 1000000000) (hi : i < 2 ^ 40) (hlv : lv.length < 2 ^ 40) :
    ∀ (d m j : Nat) (o : List Nat) (c s : Nat), d + j = lv.length → d < m → i + lv.length ≤ o.length → o.length < 2 ^ 41 → (∀ x ∈ o, x < 1000000000) → c < 1000000000 → s ≤ 1 →
      ∃ (o' : List Nat) (c' s' : Nat), (∀ k0 : List PV → List PV → List PV → Int → List PV → Int → Int → Int → Int → Option R, UaN n m xs (nl .u32 o) (nl .u32 lv) lv.length q i g c s lv.length j k0 = k0 xs (nl .u32 o') (nl .u32 lv) lv.length q i g c' s') ∧
        o'.length = o.length ∧ (∀ x ∈ o', x < 1000000000) ∧ c' < 1000000000 ∧ s' ≤ 1 ∧ o'.drop (i + lv.length) = o.drop (i + lv.length) ∧
        val 1000000000 o' + 1000000000 ^ (i + j) * (c + s) + g * (1000000000 ^ (i + j) * val 1000000000 (lv.drop j)) = val 1000000000 o + 1000000000 ^ (i + lv.length) * (c' + s')
  | 0, m + 1, j, o, c, s, hd, hm, ho, ho2, hlt, hc, hs => by
    have hk : j = lv.length := by omega
    subst hk
    refine ⟨o, c, s, fun k0 => ?_, rfl, hlt, hc, hs, rfl, ?_⟩
    · simp only [UaN, Uc8]
      simp (disch := (first | omega | (simp only [JlE]; omega))) only [↓JlH, JlF, JlG]
    · rw [List.drop_length]; simp [val]
  | d + 1, m + 1, j, o, c, s, hd, hm, ho, ho2, hlt, hc, hs => by
    have hx := Uac hB2 hv j
    have hz := Uac hB2 hlt (i + j)
    have hxy : g * lv.getD j 0 ≤ 999999999 * 999999999 := Nat.mul_le_mul (by omega) (by omega)
    obtain ⟨t, ht⟩ : ∃ t, t = c + g * lv.getD j 0 := ⟨_, rfl⟩
    have ht2 : t / 1000000000 < 1000000000 := by omega
    have htm : t % 1000000000 < 1000000000 := Nat.mod_lt _ (by omega)
    obtain ⟨b, hb⟩ : ∃ b : Nat, b = if o.getD (i + j) 0 < t % 1000000000 + s then 1 else 0 := ⟨_, rfl⟩
    obtain ⟨r, hr⟩ : ∃ r : Nat, r + (t % 1000000000 + s) = o.getD (i + j) 0 + 1000000000 * b := ⟨o.getD (i + j) 0 + 1000000000 * b - (t % 1000000000 + s), by split at hb <;> omega⟩
    have hr2 : r < 1000000000 := by split at hb <;> omega
    have hb1 : b ≤ 1 := by split at hb <;> omega
    obtain ⟨o', c', s', h1, h2, h3, h4, h5, h6, h7⟩ := Uo1 n xs q lv hv g i hg hi hlv d m (j + 1) (o.set (i + j) r) (t / 1000000000) b (by omega) (by omega) (by rw [List.length_set]; exact ho) (by rw [List.length_set]; exact ho2) (Ubg hlt hr2 _) ht2 hb1
    refine ⟨o', c', s', fun k0 => ?_, by rw [h2, List.length_set], h3, h4, h5, by rw [h6, List.drop_set_of_lt (by omega)], ?_⟩
    · rw [← h1 k0]
      have e1 : (i : Int) + (j : Int) = ((i + j : Nat) : Int) := by omega
      have e2 : (j : Int) + 1 = ((j + 1 : Nat) : Int) := by omega
      have e4 : (g : Int) * ((lv.getD j 0 : Nat) : Int) = ((g * lv.getD j 0 : Nat) : Int) := by rw [Int.natCast_mul]
      generalize g * lv.getD j 0 = xy at *
      have e3 : (c : Int) + (xy : Int) = (t : Int) := by omega
      have e5 : ((o.getD (i + j) 0 : Nat) : Int) - ((t % 1000000000 : Nat) : Int) - (s : Int) = (r : Int) - 1000000000 * (b : Int) := by omega
      generalize hzz : o.getD (i + j) 0 = z at *
      have hm1 : t < 2 ^ 62 := by omega
      generalize hq : t / 1000000000 = tq at *
      generalize hq2 : t % 1000000000 = tr at *
      simp only [UaN, Uc8, UeS]
      by_cases hbb : z < tr + s
      · rw [if_pos hbb] at hb
        subst hb
        have e6 : (r : Int) - 1000000000 * ((1 : Nat) : Int) + 1000000000 = (r : Int) := by omega
        simp (disch := (first | omega | (simp only [JlE]; omega))) only [↓JlH, JlF, JlG, e1, e2, e4, e3, JlB, JlC, hq, hq2, hzz, e5, e6]
        rfl
      · rw [if_neg hbb] at hb
        subst hb
        have e6 : (r : Int) - 1000000000 * ((0 : Nat) : Int) = (r : Int) := by omega
        simp (disch := (first | omega | (simp only [JlE]; omega))) only [↓JlH, JlF, JlG, e1, e2, e4, e3, JlB, JlC, hq, hq2, hzz, e5, e6]
        rfl
    · rw [Ubo (by omega : j < lv.length)]
      have hvs := Uer 1000000000 r (l := o) (i := i + j) (by omega)
      have hmd := Nat.mod_add_div t 1000000000
      rw [show i + (j + 1) = (i + j) + 1 from by omega, Nat.pow_succ] at h7
      generalize 1000000000 ^ (i + j) = P at *
      generalize val 1000000000 (List.drop (j + 1) lv) = V at *
      generalize val 1000000000 (o.set (i + j) r) = W at *
      generalize val 1000000000 o = U at *
      generalize 1000000000 ^ (i + lv.length) = Q at *
      generalize t % 1000000000 = tr at *
      generalize t / 1000000000 = tq at *
      generalize lv.getD j 0 = y at *
      generalize o.getD (i + j) 0 = z at *
      clear h1 h3 h4 h5 hlt hv hb
      have h8 : P * r + P * (tr + s) = P * z + P * (1000000000 * b) := by rw [← Nat.mul_add, ← Nat.mul_add, hr]
      have h9 : P * tr + P * (1000000000 * tq) = P * c + P * (g * y) := by rw [← Nat.mul_add, ← Nat.mul_add, hmd, ht]
      grind
theorem Uly (n : Nat) (xs q : List PV) (lv : List Nat) (hv : ∀ d ∈ lv, d < 1000000000) (g i : Nat) (y : Int) (hi : i < 2 ^ 40) (hlv : lv.length < 2 ^ 40) :
    ∀ (d m j : Nat) (o : List Nat) (c : Nat), d + j = lv.length → d < m → i + lv.length ≤ o.length → o.length < 2 ^ 41 → (∀ x ∈ o, x < 1000000000) → c ≤ 1 →
      ∃ (o' : List Nat) (c' : Nat), (∀ k0 : List PV → List PV → List PV → Int → List PV → Int → Int → Int → Int → Option R, Ua7 n m xs (nl .u32 o) (nl .u32 lv) lv.length q i g y c lv.length j k0 = k0 xs (nl .u32 o') (nl .u32 lv) lv.length q i g y c') ∧
        o'.length = o.length ∧ (∀ x ∈ o', x < 1000000000) ∧ c' ≤ 1 ∧ o'.drop (i + lv.length) = o.drop (i + lv.length) ∧
        val 1000000000 o' + 1000000000 ^ (i + lv.length) * c' = val 1000000000 o + 1000000000 ^ (i + j) * c + 1000000000 ^ (i + j) * val 1000000000 (lv.drop j)
  | 0, m + 1, j, o, c, hd, hm, ho, ho2, hlt, hc => by
    have hk : j = lv.length := by omega
    subst hk
    refine ⟨o, c, fun k0 => ?_, rfl, hlt, hc, rfl, ?_⟩
    · simp only [Ua7, Uc9]
      simp (disch := (first | omega | (simp only [JlE]; omega))) only [↓JlH, JlF, JlG]
    · rw [List.drop_length]; simp [val]
  | d + 1, m + 1, j, o, c, hd, hm, ho, ho2, hlt, hc => by
    have hx := Uac hB2 hv j
    have hz := Uac hB2 hlt (i + j)
    obtain ⟨t, ht⟩ : ∃ t, t = c + (o.getD (i + j) 0 + lv.getD j 0) := ⟨_, rfl⟩
    have ht2 : t / 1000000000 ≤ 1 := by omega
    have htm : t % 1000000000 < 1000000000 := Nat.mod_lt _ (by omega)
    obtain ⟨o', c', h1, h2, h3, h4, h5, h6⟩ := Uly n xs q lv hv g i y hi hlv d m (j + 1) (o.set (i + j) (t % 1000000000)) (t / 1000000000) (by omega) (by omega) (by rw [List.length_set]; exact ho) (by rw [List.length_set]; exact ho2) (Ubg hlt htm _) ht2
    refine ⟨o', c', fun k0 => ?_, by rw [h2, List.length_set], h3, h4, by rw [h5, List.drop_set_of_lt (by omega)], ?_⟩
    · rw [← h1 k0]
      have e1 : (i : Int) + (j : Int) = ((i + j : Nat) : Int) := by omega
      have e2 : (j : Int) + 1 = ((j + 1 : Nat) : Int) := by omega
      have e3 : (c : Int) + (((o.getD (i + j) 0 : Nat) : Int) + ((lv.getD j 0 : Nat) : Int)) = (t : Int) := by omega
      simp only [Ua7, Uc9]
      simp (disch := (first | omega | (simp only [JlE]; omega))) only [↓JlH, JlF, JlG, e1, e2, e3, JlB, JlC]
    · rw [h6, Ubo (by omega : j < lv.length)]
      have hvs := Uer 1000000000 (t % 1000000000) (l := o) (i := i + j) (by omega)
      have hmd := Nat.mod_add_div t 1000000000
      rw [show i + (j + 1) = (i + j) + 1 from by omega, Nat.pow_succ]
      generalize 1000000000 ^ (i + j) = P at *
      generalize val 1000000000 (List.drop (j + 1) lv) = V at *
      generalize val 1000000000 (o.set (i + j) (t % 1000000000)) = W at *
      generalize val 1000000000 o = U at *
      generalize 1000000000 ^ (i + lv.length) = Q at *
      generalize t % 1000000000 = tr at *
      generalize t / 1000000000 = tq at *
      generalize lv.getD j 0 = y at *
      generalize o.getD (i + j) 0 = z at *
      clear h1 h3 h4 h5 hlt hv
      have h9 : P * tr + P * (1000000000 * tq) = P * c + (P * z + P * y) := by rw [← Nat.mul_add, ← Nat.mul_add, ← Nat.mul_add, hmd, ht]
      grind
theorem UiS (n : Nat) (xs q : List PV) (lu lv : List Nat) (hu : ∀ d ∈ lu, d < 1000000000) (hv : ∀ d ∈ lv, d < 1000000000) (i : Nat) (hi : i < 2 ^ 40) (hlv : lv.length < 2 ^ 40) (h2 : 2 ≤ lv.length) (hul : i + lv.length < lu.length) (hul2 : lu.length < 2 ^ 41)
    (v1 v2 u3 U2 : Nat) (hv1 : lv.getD (lv.length - 1) 0 = v1) (hv2 : lv.getD (lv.length - 2) 0 = v2) (hu3 : lu.getD (i + lv.length - 2) 0 = u3) (hU2 : U2 < v1 * 1000000000 + 1000000000) :
    ∀ (m g r : Nat), g < 2 ^ 31 → r < 1000000000 → 1000000000 ≤ r + m * v1 → g * v1 + r = U2 → (∀ x, x < 1000000000 → x * (v1 * 1000000000 + v2) ≤ U2 * 1000000000 + u3 → x ≤ g) →
      ∃ g' : Nat, (∀ k0 : List PV → List PV → List PV → Int → List PV → Int → Int → Option R, Ua6 n m xs (nl .u32 lu) (nl .u32 lv) lv.length q i g r k0 = k0 xs (nl .u32 lu) (nl .u32 lv) lv.length q i g') ∧
        g' < 1000000000 ∧ g' * (v1 * 1000000000 + v2) ≤ U2 * 1000000000 + u3 ∧ (∀ x, x < 1000000000 → x * (v1 * 1000000000 + v2) ≤ U2 * 1000000000 + u3 → x ≤ g')
  | 0, g, r, hg, hr, hm, hinv, hmax => by omega
  | m + 1, g, r, hg, hr, hm, hinv, hmax => by
    have hb1 : v1 < 1000000000 := by rw [← hv1]; exact Uac hB2 hv _
    have hb2 : v2 < 1000000000 := by rw [← hv2]; exact Uac hB2 hv _
    have hb3 : u3 < 1000000000 := by rw [← hu3]; exact Uac hB2 hu _
    have e1 : (lv.length : Int) - 1 = ((lv.length - 1 : Nat) : Int) := by omega
    have e2 : (lv.length : Int) - 2 = ((lv.length - 2 : Nat) : Int) := by omega
    have e3 : (i : Int) + (lv.length : Int) = ((i + lv.length : Nat) : Int) := by omega
    have e4 : ((i + lv.length : Nat) : Int) - 2 = ((i + lv.length - 2 : Nat) : Int) := by omega
    have e5 : (g : Int) * (v2 : Int) = ((g * v2 : Nat) : Int) := by rw [Int.natCast_mul]
    have e6 : (r : Int) * 1000000000 = ((r * 1000000000 : Nat) : Int) := by omega
    have e7 : ((r * 1000000000 : Nat) : Int) + (u3 : Int) = ((r * 1000000000 + u3 : Nat) : Int) := by omega
    have e8 : (r : Int) + (v1 : Int) = ((r + v1 : Nat) : Int) := by omega
    have hgv : g * v2 ≤ 2 ^ 31 * 1000000000 := Nat.mul_le_mul (by omega) (by omega)
    have hkey : g * (v1 * 1000000000 + v2) + r * 1000000000 = U2 * 1000000000 + g * v2 := by rw [← hinv]; grind
    by_cases hc : 1000000000 ≤ g ∨ r * 1000000000 + u3 < g * v2
    · have hg1 : 1 ≤ g := by
        rcases Nat.eq_zero_or_pos g with h0 | h0
        · subst h0; simp at hc
        · exact h0
      obtain ⟨p, rfl⟩ : ∃ p, g = p + 1 := ⟨g - 1, by omega⟩
      have e9 : ((p + 1 : Nat) : Int) - 1 = (p : Int) := by omega
      have hinv' : p * v1 + (r + v1) = U2 := by rw [← hinv, Nat.succ_mul]; omega
      have hkey' : p * (v1 * 1000000000 + v2) + (r + v1) * 1000000000 = U2 * 1000000000 + p * v2 := by rw [← hinv']; grind
      have hmax' : ∀ x, x < 1000000000 → x * (v1 * 1000000000 + v2) ≤ U2 * 1000000000 + u3 → x ≤ p := by
        intro x hx hxu
        have := hmax x hx hxu
        by_cases hxp : x = p + 1
        · subst hxp; exfalso; omega
        · omega
      by_cases hr2 : 1000000000 ≤ r + v1
      · have hpb : p < 1000000000 := by
          apply Nat.lt_of_not_le
          intro hp
          have : 1000000000 * v1 ≤ p * v1 := Nat.mul_le_mul_right _ hp
          omega
        have hpv : p * v2 ≤ 1000000000 * 1000000000 := Nat.mul_le_mul (by omega) (by omega)
        refine ⟨p, fun k0 => ?_, hpb, by omega, hmax'⟩
        simp only [Ua6, UbP, Uc6]
        by_cases h1 : 1000000000 ≤ p + 1
        · simp (disch := (first | omega | (simp only [JlE]; omega))) only [↓JlH, JlF, JlG, e1, e2, e3, e4, hv1, hv2, hu3, e5, e6, e7, e8, e9]
        · simp (disch := (first | omega | (simp only [JlE]; omega))) only [↓JlH, JlF, JlG, e1, e2, e3, e4, hv1, hv2, hu3, e5, e6, e7, e8, e9]
      · obtain ⟨g', h1, h3, h4, h5⟩ := UiS n xs q lu lv hu hv i hi hlv h2 hul hul2 v1 v2 u3 U2 hv1 hv2 hu3 hU2 m p (r + v1) (by omega) (by omega) (by rw [Nat.succ_mul] at hm; omega) hinv' hmax'
        refine ⟨g', fun k0 => ?_, h3, h4, h5⟩
        rw [← h1 k0]
        simp only [Ua6, UbP, Uc6]
        by_cases h1 : 1000000000 ≤ p + 1
        · simp (disch := (first | omega | (simp only [JlE]; omega))) only [↓JlH, JlF, JlG, e1, e2, e3, e4, hv1, hv2, hu3, e5, e6, e7, e8, e9]
        · simp (disch := (first | omega | (simp only [JlE]; omega))) only [↓JlH, JlF, JlG, e1, e2, e3, e4, hv1, hv2, hu3, e5, e6, e7, e8, e9]
    · have hc1 : g < 1000000000 := by omega
      have hc2 : g * v2 ≤ r * 1000000000 + u3 := by omega
      refine ⟨g, fun k0 => ?_, hc1, by omega, hmax⟩
      simp only [Ua6, UbP]
      simp (disch := (first | omega | (simp only [JlE]; omega))) only [↓JlH, JlF, JlG, e1, e2, e3, e4, hv1, hv2, hu3, e5, e6, e7, e8]
end Go.Proofs.YtmgfmlhdnadglaaGreatDoor
set_option linter.unusedVariables false
namespace Go.Proofs.YtmgfmlhdnadglaaGreatDoor
theorem UGj {B D U P Vl Wl V W g : Nat} (hV : V = D * P + Vl) (hW : W = U * P + Wl) (hVl : Vl < P) (hWl : Wl < P) (hD : B ≤ D) (hg : g < B) (hgU : g * D ≤ U)
    (hmax : ∀ x, x < B → x * D ≤ U → x ≤ g) (hWV : W < B * V) : W / V ≤ g ∧ g * V < W + V := by
  have hP : 0 < P := by omega
  have hD0 : 0 < D := by omega
  have hDP : 0 < D * P := Nat.mul_pos hD0 hP
  have hV0 : 0 < V := by omega
  constructor
  · apply hmax
    · exact Nat.div_lt_of_lt_mul (by rw [Nat.mul_comm]; exact hWV)
    · have h1 : W / V * V ≤ W := Nat.div_mul_le_self W V
      generalize W / V = Q at *
      apply Nat.le_of_not_lt
      intro h
      have h2 : (U + 1) * P ≤ Q * D * P := Nat.mul_le_mul_right _ h
      rw [hV, Nat.mul_add, ← Nat.mul_assoc] at h1
      rw [Nat.succ_mul] at h2
      have h3 : 0 ≤ Q * Vl := Nat.zero_le _
      omega
  · have h1 : g * D * P ≤ U * P := Nat.mul_le_mul_right _ hgU
    have h2 : g * Vl ≤ B * P := Nat.mul_le_mul (by omega) (by omega)
    have h3 : B * P ≤ D * P := Nat.mul_le_mul_right _ hD
    have h4 : g * Vl < B * P ∨ g * Vl = 0 := by
      rcases Nat.eq_zero_or_pos Vl with h0 | h0
      · right; rw [h0, Nat.mul_zero]
      · left; exact Nat.mul_lt_mul_of_lt_of_lt hg hVl
    rw [hV, Nat.mul_add, ← Nat.mul_assoc, hW]
    rcases h4 with h4 | h4 <;> omega
theorem Uaf (b : Nat) (l : List Nat) (i : Nat) : val b (l.drop i) = l.getD i 0 + b * val b (l.drop (i + 1)) := by
  by_cases h : i < l.length
  · rw [List.drop_eq_getElem_cons h, val, List.getD_eq_getElem?_getD, List.getElem?_eq_getElem h]; rfl
  · rw [List.drop_eq_nil_of_le (by omega), List.drop_eq_nil_of_le (by omega), Ubp (by omega)]; simp [val]
theorem Udi {b : Nat} (hb : 2 ≤ b) (l : List Nat) (k : Nat) (h : val b l < b ^ k) : val b (l.drop k) = 0 := by
  by_cases hk : k ≤ l.length
  · have h1 := Uar b l k hk
    rcases Nat.eq_zero_or_pos (val b (l.drop k)) with h0 | h0
    · exact h0
    · have : b ^ k * 1 ≤ b ^ k * val b (l.drop k) := Nat.mul_le_mul_left _ h0
      omega
  · rw [List.drop_eq_nil_of_le (by omega)]; rfl
theorem Uy3 {B : Nat} (hB : 2 ≤ B) (o lv : List Nat) (ho : ∀ d ∈ o, d < B) (hv : ∀ d ∈ lv, d < B) (i : Nat) (h2 : 2 ≤ lv.length) (hi : i + lv.length < o.length) (hW : val B (o.drop i) < B * val B lv) :
    ∃ Vl Wl, val B lv = (lv.getD (lv.length - 1) 0 * B + lv.getD (lv.length - 2) 0) * B ^ (lv.length - 2) + Vl ∧ Vl < B ^ (lv.length - 2) ∧
      val B (o.drop i) = ((o.getD (i + lv.length) 0 * B + o.getD (i + lv.length - 1) 0) * B + o.getD (i + lv.length - 2) 0) * B ^ (lv.length - 2) + Wl ∧ Wl < B ^ (lv.length - 2) ∧
      o.getD (i + lv.length) 0 * B + o.getD (i + lv.length - 1) 0 < lv.getD (lv.length - 1) 0 * B + B := by
  have hVlt := Uev hB lv hv
  have hWlt : val B (o.drop i) < B ^ (lv.length + 1) := by
    rw [Nat.pow_succ, Nat.mul_comm _ B]
    exact Nat.lt_of_lt_of_le hW (Nat.mul_le_mul_left _ (Nat.le_of_lt hVlt))
  have hz := Udi hB _ _ hWlt
  rw [List.drop_drop] at hz
  have hoi : ∀ d ∈ o.drop i, d < B := fun d hd => ho d (List.mem_of_mem_drop hd)
  have a1 := Uar B lv (lv.length - 2) (by omega)
  have a2 := Uaf B lv (lv.length - 2)
  have a3 := Uaf B lv (lv.length - 1)
  rw [show lv.length - 2 + 1 = lv.length - 1 from by omega] at a2
  rw [show lv.length - 1 + 1 = lv.length from by omega, List.drop_length, show val B [] = 0 from rfl, Nat.mul_zero, Nat.add_zero] at a3
  rw [a3] at a2; rw [a2] at a1
  have b1 := Uar B (o.drop i) (lv.length - 2) (by rw [List.length_drop]; omega)
  rw [List.drop_drop] at b1
  have b2 := Uaf B o (i + (lv.length - 2))
  have b3 := Uaf B o (i + lv.length - 1)
  have b4 := Uaf B o (i + lv.length)
  rw [show i + (lv.length - 2) + 1 = i + lv.length - 1 from by omega] at b2
  rw [show i + lv.length - 1 + 1 = i + lv.length from by omega] at b3
  rw [show i + lv.length + 1 = i + (lv.length + 1) from by omega, hz, Nat.mul_zero, Nat.add_zero] at b4
  rw [show i + (lv.length - 2) = i + lv.length - 2 from by omega] at b2 b1
  rw [b4] at b3; rw [b3] at b2; rw [b2] at b1
  have c1 := Ual hB hv (i := lv.length - 2) (by omega)
  have c2 := Ual hB hoi (i := lv.length - 2) (by rw [List.length_drop]; omega)
  have hP : 0 < B ^ (lv.length - 2) := Nat.pow_pos (by omega)
  have hv2 : lv.getD (lv.length - 2) 0 < B := Uac hB hv _
  generalize B ^ (lv.length - 2) = P at *
  generalize val B (List.take (lv.length - 2) lv) = Vl at *
  generalize val B (List.take (lv.length - 2) (o.drop i)) = Wl at *
  generalize val B lv = V at *
  generalize val B (o.drop i) = W at *
  generalize lv.getD (lv.length - 1) 0 = v1 at *
  generalize lv.getD (lv.length - 2) 0 = v2 at *
  generalize o.getD (i + lv.length) 0 = z at *
  generalize o.getD (i + lv.length - 1) 0 = z1 at *
  generalize o.getD (i + lv.length - 2) 0 = z2 at *
  clear a2 a3 b2 b3 b4 hz hVlt hWlt
  refine ⟨Vl, Wl, by rw [a1]; grind, c1, by rw [b1]; grind, c2, ?_⟩
  apply Nat.lt_of_not_le
  intro h
  have d1 : (v1 * B + B) * (B * P) ≤ (z * B + z1) * (B * P) := Nat.mul_le_mul_right _ h
  have d2 : V < (v1 + 1) * (B * P) := by
    have : v2 * P + P ≤ B * P := by rw [← Nat.succ_mul]; exact Nat.mul_le_mul_right _ hv2
    rw [a1]; grind
  have d3 : B * V < B * ((v1 + 1) * (B * P)) := Nat.mul_lt_mul_of_pos_left d2 (by omega)
  grind
theorem UBl {Bi P V W g t1 z cs vo vo1 lo : Nat} (r2 : vo1 = t1 + P * z) (r3 : vo = lo + Bi * W) (r4 : lo < Bi) (r5 : t1 < P) (q7 : vo1 + g * (Bi * V) = vo + P * cs) :
    (cs ≤ z → g * V ≤ W) ∧ (z < cs → W < g * V) := by
  have e : g * (Bi * V) = Bi * (g * V) := by grind
  rw [e] at q7
  constructor
  · intro h
    have h1 : P * cs ≤ P * z := Nat.mul_le_mul_left _ h
    have h2 : Bi * (g * V) < Bi * (W + 1) := by rw [Nat.mul_succ]; omega
    exact Nat.le_of_lt_succ (Nat.lt_of_mul_lt_mul_left h2)
  · intro h
    have h1 : P * (z + 1) ≤ P * cs := Nat.mul_le_mul_left _ h
    rw [Nat.mul_succ] at h1
    have h2 : Bi * W < Bi * (g * V) := by omega
    exact Nat.lt_of_mul_lt_mul_left h2
end Go.Proofs.YtmgfmlhdnadglaaGreatDoor
set_option linter.unusedVariables false
set_option linter.unusedSimpArgs false
namespace Go.Proofs.YtmgfmlhdnadglaaGreatDoor
open Go Th Go.Proofs
variable {R : Type}
theorem ULi {B Bi BL P V W p r t2 z cs c2 vo vo1 vo2 lo : Nat} (hBi : 0 < Bi) (hP : P = Bi * BL) (r7 : vo2 = t2 + P * z) (r8 : t2 < P) (r3 : vo = lo + Bi * W) (r4 : lo < Bi) (hm1 : W = p * V + r) (hm2 : r < BL)
    (q7 : vo1 + (p + 1) * (Bi * V) = vo + P * cs) (d6 : vo2 + P * c2 = vo1 + Bi * V) : z + c2 = cs ∧ t2 + Bi * (p * V) = vo := by
  have e1 : (p + 1) * (Bi * V) = Bi * (p * V) + Bi * V := by grind
  rw [e1] at q7
  have e2 : Bi * W = Bi * (p * V) + Bi * r := by rw [hm1, Nat.mul_add]
  have e3 : Bi * r + Bi ≤ P := by rw [hP, ← Nat.mul_succ]; exact Nat.mul_le_mul_left _ hm2
  have e4 : t2 + P * z + P * c2 = lo + Bi * r + P * cs := by omega
  rw [Nat.add_assoc, ← Nat.mul_add] at e4
  have h0 : 0 < P := by omega
  have h1 : z + c2 = cs := by
    have a1 : (t2 + P * (z + c2)) / P = z + c2 := by rw [Nat.add_mul_div_left _ _ h0, Nat.div_eq_of_lt r8, Nat.zero_add]
    have a2 : (lo + Bi * r + P * cs) / P = cs := by rw [Nat.add_mul_div_left _ _ h0, Nat.div_eq_of_lt (by omega), Nat.zero_add]
    rw [← a1, e4, a2]
  refine ⟨h1, ?_⟩
  rw [h1] at e4
  omega
set_option maxHeartbeats 4000000 in
set_option maxHeartbeats 4000000 in
theorem Utv (n m : Nat) (xs : List PV) (o lv lq : List Nat) (ho : ∀ d ∈ o, d < 1000000000) (hv : ∀ d ∈ lv, d < 1000000000) (hq : ∀ d ∈ lq, d < 1000000000) (i : Nat) (h2 : 2 ≤ lv.length) (hil : i + lv.length < o.length) (hiq : i < lq.length) (hol : o.length < 2 ^ 40)
    (hn : lv.length + 2 < n) (hv1 : 500000000 ≤ lv.getD (lv.length - 1) 0) (hW : val 1000000000 (o.drop i) < 1000000000 * val 1000000000 lv) :
    ∃ o' : List Nat, (∀ k0 : List PV → List PV → List PV → Option R, UaD n (m + 1) xs (nl .u32 o) (nl .u32 lv) lv.length (nl .u32 lq) i k0 = UaD n m xs (nl .u32 o') (nl .u32 lv) lv.length (nl .u32 (lq.set i (val 1000000000 (o.drop i) / val 1000000000 lv))) ((i : Int) - 1) k0) ∧
      o'.length = o.length ∧ (∀ d ∈ o', d < 1000000000) ∧ val 1000000000 o' + 1000000000 ^ i * (val 1000000000 (o.drop i) / val 1000000000 lv * val 1000000000 lv) = val 1000000000 o := by
  obtain ⟨Vl, Wl, f1, f2, f3, f4, f5⟩ := Uy3 hB2 o lv ho hv i h2 hil hW
  have hb1 := Uac hB2 hv (lv.length - 1)
  have hb2 := Uac hB2 hv (lv.length - 2)
  have hbz := Uac hB2 ho (i + lv.length)
  have hbz1 := Uac hB2 ho (i + lv.length - 1)
  have hbz2 := Uac hB2 ho (i + lv.length - 2)
  obtain ⟨U2, hU2⟩ : ∃ U2, U2 = o.getD (i + lv.length) 0 * 1000000000 + o.getD (i + lv.length - 1) 0 := ⟨_, rfl⟩
  rw [← hU2] at f3 f5
  obtain ⟨v1, hv1e⟩ : ∃ v1, lv.getD (lv.length - 1) 0 = v1 := ⟨_, rfl⟩
  obtain ⟨v2, hv2e⟩ : ∃ v2, lv.getD (lv.length - 2) 0 = v2 := ⟨_, rfl⟩
  obtain ⟨u3, hu3e⟩ : ∃ u3, o.getD (i + lv.length - 2) 0 = u3 := ⟨_, rfl⟩
  obtain ⟨z, hze⟩ : ∃ z, o.getD (i + lv.length) 0 = z := ⟨_, rfl⟩
  obtain ⟨z1, hz1e⟩ : ∃ z1, o.getD (i + lv.length - 1) 0 = z1 := ⟨_, rfl⟩
  rw [hv1e, hv2e] at f1
  rw [hu3e] at f3
  rw [hv1e] at f5 hb1 hv1
  rw [hv2e] at hb2; rw [hze] at hbz hU2; rw [hz1e] at hbz1 hU2; rw [hu3e] at hbz2
  have hdm := Nat.div_add_mod' U2 v1
  have hmod : U2 % v1 < v1 := Nat.mod_lt _ (by omega)
  have hdv0 : U2 < v1 * 2147483648 := Nat.lt_of_lt_of_le f5 (by rw [show v1 * 2147483648 = v1 * 1000000000 + v1 * 1147483648 from by rw [← Nat.mul_add]]; exact Nat.add_le_add_left (by clear f1 f2 f3 f4 f5 hdm hmod hU2; omega) _)
  have hdv : U2 / v1 < 2147483648 := Nat.div_lt_of_lt_mul hdv0
  obtain ⟨g, hg1, hg2, hg3, hg4⟩ := UiS (R := R) n xs (nl .u32 lq) o lv ho hv i (by omega) (by omega) h2 hil (by omega) v1 v2 u3 U2 hv1e hv2e hu3e f5 n (U2 / v1) (U2 % v1) hdv (by omega)
    (by have : 3 * v1 ≤ n * v1 := Nat.mul_le_mul_right _ (by omega)
        omega) hdm
    (by intro x hx hxu
        rw [Nat.le_div_iff_mul_le (by omega)]
        apply Nat.le_of_not_lt
        intro h
        have h3 : (U2 + 1) * 1000000000 ≤ x * v1 * 1000000000 := Nat.mul_le_mul_right _ h
        rw [Nat.mul_add, ← Nat.mul_assoc] at hxu
        have : 0 ≤ x * v2 := Nat.zero_le _
        omega)
  obtain ⟨k1, k2⟩ := UGj (B := 1000000000) f1 f3 f2 f4 (by omega) hg2 hg3 hg4 hW
  obtain ⟨o1, c1, s1, q1, q2, q3, q4, q5, q6, q7⟩ := Uo1 (R := R) n xs (nl .u32 lq) lv hv g i hg2 (by omega) (by omega) lv.length n 0 o 0 0 (by omega) (by omega) (by omega) (by omega) ho (by omega) (by omega)
  have hz' : o1.getD (i + lv.length) 0 = z := by
    rw [← hze]
    have h := congrArg (fun l => l.getD 0 0) q6
    simpa [List.getD_eq_getElem?_getD] using h
  have r1 := Uar 1000000000 o (i + lv.length) (by omega)
  have r2 := Uar 1000000000 o1 (i + lv.length) (by omega)
  have r3 := Uar 1000000000 o i (by omega)
  have r4 := Ual hB2 ho (i := i) (by omega)
  have r5 := Ual hB2 q3 (i := i + lv.length) (by omega)
  rw [q6] at r2
  have r6 : val 1000000000 (o.drop (i + lv.length)) = z := by
    have hWlt : val 1000000000 (o.drop i) < 1000000000 ^ (lv.length + 1) := by
      rw [Nat.pow_succ, Nat.mul_comm _ 1000000000]
      exact Nat.lt_of_lt_of_le hW (Nat.mul_le_mul_left _ (Nat.le_of_lt (Uev hB2 lv hv)))
    have hz := Udi hB2 _ _ hWlt
    rw [List.drop_drop] at hz
    rw [Uaf, show i + lv.length + 1 = i + (lv.length + 1) from by omega, hz, hze, Nat.mul_zero, Nat.add_zero]
  rw [r6] at r1 r2
  simp only [Nat.add_zero, Nat.mul_zero, List.drop_zero] at q7
  obtain ⟨b1, b2⟩ := UBl r2 r3 r4 r5 q7
  have hV0 : 0 < val 1000000000 lv := by
    rcases Nat.eq_zero_or_pos (val 1000000000 lv) with h0 | h0
    · rw [h0] at hW; omega
    · exact h0
  by_cases hcs : c1 + s1 ≤ z
  · have hQ : val 1000000000 (o.drop i) / val 1000000000 lv = g := Nat.le_antisymm k1 ((Nat.le_div_iff_mul_le hV0).2 (b1 hcs))
    rw [hQ]
    have hgu : g < 4294967296 := by omega
    have w1 : (i : Int) + (lv.length : Int) = ((i + lv.length : Nat) : Int) := by omega
    have w2 : ((i + lv.length : Nat) : Int) - 1 = ((i + lv.length - 1 : Nat) : Int) := by omega
    have w3 : (lv.length : Int) - 1 = ((lv.length - 1 : Nat) : Int) := by omega
    have w4 : (z : Int) * 1000000000 + (z1 : Int) = (U2 : Int) := by omega
    have w5 : (z : Int) - (c1 : Int) - (s1 : Int) = ((z - (c1 + s1) : Nat) : Int) := by omega
    refine ⟨o1.set (i + lv.length) (z - (c1 + s1)), fun k0 => ?_, by rw [List.length_set, q2], Ubg q3 (by omega) _, ?_⟩
    · clear f1 f2 f3 f4 f5 hg3 hg4 q7 r1 r2 r3 r4 r5 r6 b1 b2 hQ hW k1 k2 hdm q6 q3 hq ho hv
      have q1' : ∀ k0 : List PV → List PV → List PV → Int → List PV → Int → Int → Int → Int → Option R, UaN n n xs (nl .u32 o) (nl .u32 lv) lv.length (nl .u32 lq) i g 0 0 lv.length 0 k0 = k0 xs (nl .u32 o1) (nl .u32 lv) lv.length (nl .u32 lq) i g c1 s1 := q1
      have t1 : Int.tdiv (U2 : Int) (v1 : Int) = ((U2 / v1 : Nat) : Int) := Jlj _ _
      have t2 : Int.tmod (U2 : Int) (v1 : Int) = ((U2 % v1 : Nat) : Int) := Jlk _ _
      generalize U2 / v1 = g0 at *
      generalize U2 % v1 = r0 at *
      clear q1
      simp only [UaD, UbO, Uhr, Uhs, Uc7, Uc5]
      simp (disch := (first | omega | (simp only [JlE]; omega))) only [↓JlH, JlF, JlG, w1, w2, w3, hze, hz1e, hv1e, w4, t1, t2, hg1, q1', hz', w5, q2]
    · have hs := Uer 1000000000 (z - (c1 + s1)) (l := o1) (i := i + lv.length) (by omega)
      rw [hz'] at hs
      have e2 : 1000000000 ^ (i + lv.length) * z = 1000000000 ^ (i + lv.length) * (z - (c1 + s1)) + 1000000000 ^ (i + lv.length) * (c1 + s1) := by rw [← Nat.mul_add]; congr 1; omega
      have e3 : g * (1000000000 ^ i * val 1000000000 lv) = 1000000000 ^ i * (g * val 1000000000 lv) := by grind
      rw [e3] at q7
      generalize 1000000000 ^ (i + lv.length) * z = A1 at *
      omega
  · have hQ : val 1000000000 (o.drop i) / val 1000000000 lv + 1 = g := by
      have h1 := b2 (Nat.lt_of_not_le hcs)
      have h3 : val 1000000000 (o.drop i) / val 1000000000 lv < g := (Nat.div_lt_iff_lt_mul hV0).2 h1
      obtain ⟨p, rfl⟩ : ∃ p, g = p + 1 := ⟨g - 1, (Nat.succ_pred_eq_of_pos (Nat.lt_of_le_of_lt (Nat.zero_le _) h3)).symm⟩
      have h4 : p ≤ val 1000000000 (o.drop i) / val 1000000000 lv := (Nat.le_div_iff_mul_le hV0).2 (by rw [Nat.succ_mul] at k2; omega)
      omega
    obtain ⟨p, rfl⟩ : ∃ p, g = p + 1 := ⟨val 1000000000 (o.drop i) / val 1000000000 lv, hQ.symm⟩
    have hQ' : val 1000000000 (o.drop i) / val 1000000000 lv = p := by omega
    rw [hQ']
    obtain ⟨o2, c2, d1, d2, d3, d4, d5, d6⟩ := Uly (R := R) n xs (nl .u32 lq) lv hv p i ((z : Int) - (c1 : Int) - (s1 : Int)) (by omega) (by omega) lv.length n 0 o1 0 (by omega) (by omega) (by omega) (by omega) q3 (by omega)
    simp only [Nat.add_zero, Nat.mul_zero, List.drop_zero] at d6
    have hz2 : o2.getD (i + lv.length) 0 = z := by
      rw [← hz']
      have h := congrArg (fun l => l.getD 0 0) d5
      simpa [List.getD_eq_getElem?_getD] using h
    have r7 := Uar 1000000000 o2 (i + lv.length) (by omega)
    have r8 := Ual hB2 d3 (i := i + lv.length) (by omega)
    rw [d5, q6, r6] at r7
    have hm1 : val 1000000000 (o.drop i) = p * val 1000000000 lv + val 1000000000 (o.drop i) % val 1000000000 lv := by
      rw [← hQ', Nat.div_add_mod']
    have hm2 : val 1000000000 (o.drop i) % val 1000000000 lv < 1000000000 ^ lv.length := Nat.lt_trans (Nat.mod_lt _ hV0) (Uev hB2 lv hv)
    obtain ⟨top, low⟩ := ULi (B := 1000000000) (Nat.pow_pos (by omega) : 0 < 1000000000 ^ i) (by rw [Nat.pow_add]) r7 r8 r3 r4 hm1 hm2 q7 d6
    have hs := Uer 1000000000 0 (l := o2) (i := i + lv.length) (by omega)
    rw [hz2, Nat.mul_zero, Nat.add_zero] at hs
    refine ⟨o2.set (i + lv.length) 0, fun k0 => ?_, by rw [List.length_set, d2, q2], Ubg d3 (by omega) _, ?_⟩
    · have w1 : (i : Int) + (lv.length : Int) = ((i + lv.length : Nat) : Int) := by omega
      have w2 : ((i + lv.length : Nat) : Int) - 1 = ((i + lv.length - 1 : Nat) : Int) := by omega
      have w3 : (lv.length : Int) - 1 = ((lv.length - 1 : Nat) : Int) := by omega
      have w4 : (z : Int) * 1000000000 + (z1 : Int) = (U2 : Int) := by omega
      have w5 : ((p + 1 : Nat) : Int) - 1 = (p : Int) := by omega
      have w6 : (z : Int) - (c1 : Int) - (s1 : Int) + (c2 : Int) = ((0 : Nat) : Int) := by omega
      have hgu : p + 1 < 4294967296 := by omega
      clear f1 f2 f3 f4 f5 hg3 hg4 q7 r1 r2 r3 r4 r5 r6 b1 b2 hQ hQ' hW k1 k2 hdm q6 q3 hq ho hv r7 r8 hm1 hm2 low hs d3 d5 d6
      have q1' : ∀ k0 : List PV → List PV → List PV → Int → List PV → Int → Int → Int → Int → Option R, UaN n n xs (nl .u32 o) (nl .u32 lv) lv.length (nl .u32 lq) i ((p + 1 : Nat) : Int) 0 0 lv.length 0 k0 = k0 xs (nl .u32 o1) (nl .u32 lv) lv.length (nl .u32 lq) i ((p + 1 : Nat) : Int) c1 s1 := q1
      have d1' : ∀ k0 : List PV → List PV → List PV → Int → List PV → Int → Int → Int → Int → Option R, Ua7 n n xs (nl .u32 o1) (nl .u32 lv) lv.length (nl .u32 lq) i p ((z : Int) - (c1 : Int) - (s1 : Int)) 0 lv.length 0 k0 = k0 xs (nl .u32 o2) (nl .u32 lv) lv.length (nl .u32 lq) i p ((z : Int) - (c1 : Int) - (s1 : Int)) c2 := d1
      have t1 : Int.tdiv (U2 : Int) (v1 : Int) = ((U2 / v1 : Nat) : Int) := Jlj _ _
      have t2 : Int.tmod (U2 : Int) (v1 : Int) = ((U2 % v1 : Nat) : Int) := Jlk _ _
      generalize U2 / v1 = g0 at *
      generalize U2 % v1 = r0 at *
      clear q1 d1
      simp only [UaD, UbO, Uhr, Uhs, UmO, Uc7, Uc5]
      simp (disch := (first | omega | (simp only [JlE]; omega))) only [↓JlH, JlF, JlG, w1, w2, w3, hze, hz1e, hv1e, w4, t1, t2, hg1, q1', hz', w5, d1', w6, q2, d2]
    · generalize 1000000000 ^ (i + lv.length) * z = A1 at *
      generalize 1000000000 ^ i * (p * val 1000000000 lv) = A2 at *
      omega
theorem Ulz (n : Nat) (xs : List PV) (lv : List Nat) (hv : ∀ d ∈ lv, d < 1000000000) (h2 : 2 ≤ lv.length) (hn : lv.length + 2 < n) (hv1 : 500000000 ≤ lv.getD (lv.length - 1) 0) (U : Nat) :
    ∀ (d m : Nat) (o lq : List Nat), (∀ x ∈ o, x < 1000000000) → (∀ x ∈ lq, x < 1000000000) → lq.length + lv.length = o.length → d ≤ lq.length → d < m → o.length < 2 ^ 40 → val 1000000000 (o.drop d) < val 1000000000 lv →
      val 1000000000 o + 1000000000 ^ d * (val 1000000000 lv * val 1000000000 (lq.drop d)) = U →
      ∃ o' lq' : List Nat, (∀ k0 : List PV → List PV → List PV → Option R, UaD n m xs (nl .u32 o) (nl .u32 lv) lv.length (nl .u32 lq) ((d : Int) - 1) k0 = k0 xs (nl .u32 o') (nl .u32 lq')) ∧ o'.length = o.length ∧ lq'.length = lq.length ∧
        (∀ x ∈ o', x < 1000000000) ∧ (∀ x ∈ lq', x < 1000000000) ∧ val 1000000000 o' < val 1000000000 lv ∧ val 1000000000 o' + val 1000000000 lv * val 1000000000 lq' = U
  | 0, m + 1, o, lq, ho, hq, hl, hd, hm, h40, hlt, hU => by
    rw [List.drop_zero] at hlt hU
    rw [Nat.pow_zero, Nat.one_mul] at hU
    refine ⟨o, lq, fun k0 => ?_, rfl, rfl, ho, hq, hlt, hU⟩
    simp only [UaD, UbO]
    simp (disch := (first | omega | (simp only [JlE]; omega))) only [↓JlH, JlF, JlG]
  | d + 1, m + 1, o, lq, ho, hq, hl, hd, hm, h40, hlt, hU => by
    have hod := Uac hB2 ho d
    have hW : val 1000000000 (o.drop d) < 1000000000 * val 1000000000 lv := by
      rw [Uaf]
      have : 1000000000 * val 1000000000 (o.drop (d + 1)) + 1000000000 ≤ 1000000000 * val 1000000000 lv := by rw [← Nat.mul_succ]; exact Nat.mul_le_mul_left _ hlt
      omega
    obtain ⟨o', s1, s2, s3, s4⟩ := Utv (R := R) n m xs o lv lq ho hv hq d h2 (by omega) (by omega) h40 hn hv1 hW
    have hV0 : 0 < val 1000000000 lv := by omega
    have hpB : val 1000000000 (o.drop d) / val 1000000000 lv < 1000000000 := Nat.div_lt_of_lt_mul (by rw [Nat.mul_comm]; exact hW)
    obtain ⟨p, hp⟩ : ∃ p, val 1000000000 (o.drop d) / val 1000000000 lv = p := ⟨_, rfl⟩
    have r1 := Uar 1000000000 o d (by omega)
    have r2 := Uar 1000000000 o' d (by omega)
    have r3 := Ual hB2 ho (i := d) (by omega)
    have r4 := Ual hB2 s3 (i := d) (by omega)
    have hdm := Nat.div_add_mod' (val 1000000000 (o.drop d)) (val 1000000000 lv)
    have hmod : val 1000000000 (o.drop d) % val 1000000000 lv < val 1000000000 lv := Nat.mod_lt _ hV0
    rw [hp] at s1 s4 hpB hdm
    have hrest : val 1000000000 (o'.drop d) = val 1000000000 (o.drop d) % val 1000000000 lv := by
      have h0 : 0 < 1000000000 ^ d := Nat.pow_pos (by omega)
      generalize 1000000000 ^ d = P at *
      rw [r1, r2, ← hdm, Nat.mul_add] at s4
      have e : val 1000000000 (List.take d o') + P * val 1000000000 (List.drop d o') = val 1000000000 (List.take d o) + P * (val 1000000000 (o.drop d) % val 1000000000 lv) := by
        omega
      have a1 : (val 1000000000 (List.take d o') + P * val 1000000000 (List.drop d o')) / P = val 1000000000 (List.drop d o') := by rw [Nat.add_mul_div_left _ _ h0, Nat.div_eq_of_lt r4, Nat.zero_add]
      have a2 : (val 1000000000 (List.take d o) + P * (val 1000000000 (o.drop d) % val 1000000000 lv)) / P = val 1000000000 (o.drop d) % val 1000000000 lv := by rw [Nat.add_mul_div_left _ _ h0, Nat.div_eq_of_lt r3, Nat.zero_add]
      rw [← a1, e, a2]
    have hqv : val 1000000000 ((lq.set d p).drop d) = p + 1000000000 * val 1000000000 (lq.drop (d + 1)) := by
      rw [Uaf, List.drop_set_of_lt (by omega), List.getD_eq_getElem?_getD, List.getElem?_set_self (by omega)]; rfl
    obtain ⟨o2, lq2, t1, t2, t3, t4, t5, t6, t7⟩ := Ulz n xs lv hv h2 hn hv1 U d m o' (lq.set d p) s3 (Ubg hq hpB _) (by rw [List.length_set, s2]; exact hl) (by rw [List.length_set]; omega) (by omega) (by omega) (by rw [hrest]; exact hmod)
      (by
        rw [hqv, ← hU, ← s4, Nat.pow_succ]
        generalize 1000000000 ^ d = P
        generalize val 1000000000 (lq.drop (d + 1)) = Q
        generalize val 1000000000 lv = V
        grind)
    refine ⟨o2, lq2, fun k0 => ?_, by rw [t2, s2], by rw [t3, List.length_set], t4, t5, t6, t7⟩
    rw [← t1 k0, ← s1 k0, show ((d + 1 : Nat) : Int) - 1 = (d : Int) from by omega]
theorem UtK (B t : Nat) (hB : B = 1000000000) (ht : 1 ≤ t) (htB : t < B) : 500000000 ≤ B / (t + 1) * t ∧ B / (t + 1) * (t + 1) ≤ B ∧ 1 ≤ B / (t + 1) := by
  have h1 : B / (t + 1) * (t + 1) ≤ B := Nat.div_mul_le_self _ _
  have h2 : 1 ≤ B / (t + 1) := (Nat.le_div_iff_mul_le (by omega)).2 (by omega)
  have h3 := Nat.div_add_mod' B (t + 1)
  have h4 : B % (t + 1) < t + 1 := Nat.mod_lt _ (by omega)
  refine ⟨?_, h1, h2⟩
  generalize B / (t + 1) = q at *
  generalize B % (t + 1) = r at *
  rw [Nat.mul_succ] at h3
  by_cases c1 : q = 1
  · subst c1; omega
  by_cases c2 : t = 1
  · subst c2; omega
  obtain ⟨s, rfl⟩ : ∃ s, t = s + 2 := ⟨t - 2, by omega⟩
  have h5 : 2 * (s + 1) ≤ q * (s + 1) := Nat.mul_le_mul_right _ (by omega)
  have h6 : q * (s + 2) = q * (s + 1) + q := by grind
  omega
theorem Ueq {b : Nat} (hb : 2 ≤ b) {x : Nat} (h0 : x ≠ 0) (hx : x < b) : toL b x = [x] := by
  rw [UbC hb h0, Nat.mod_eq_of_lt hx, Nat.div_eq_of_lt hx, Uai]
theorem UiE {b : Nat} (hb : 2 ≤ b) {x : Nat} (h0 : x ≠ 0) : 1 ≤ (toL b x).length ∧ (toL b x).getD ((toL b x).length - 1) 0 * b ^ ((toL b x).length - 1) ≤ x ∧ x < ((toL b x).getD ((toL b x).length - 1) 0 + 1) * b ^ ((toL b x).length - 1) ∧ 1 ≤ (toL b x).getD ((toL b x).length - 1) 0 := by
  have hl : 1 ≤ (toL b x).length := by
    rcases Nat.eq_zero_or_pos (toL b x).length with h | h
    · exact absurd ((Ubj hb).1 (List.eq_nil_of_length_eq_zero h)) h0
    · exact h
  have h1 := Uar b (toL b x) ((toL b x).length - 1) (by omega)
  rw [Uaf, show (toL b x).length - 1 + 1 = (toL b x).length from by omega, List.drop_length, show val b [] = 0 from rfl, Nat.mul_zero, Nat.add_zero, Uap hb] at h1
  have h2 := Ual hb (UaO hb x) (i := (toL b x).length - 1) (by omega)
  have h3 := Um9 hb x
  rw [List.getLast?_eq_getElem?] at h3
  have h4 : 1 ≤ (toL b x).getD ((toL b x).length - 1) 0 := by
    apply Nat.one_le_iff_ne_zero.2
    intro h
    rw [List.getD_eq_getElem?_getD, List.getElem?_eq_getElem (by omega)] at h
    rw [List.getElem?_eq_getElem (by omega)] at h3
    exact h3 (congrArg some h)
  refine ⟨hl, ?_, ?_, h4⟩
  · rw [Nat.mul_comm]; omega
  · rw [Nat.succ_mul, Nat.mul_comm]; omega
theorem UnB {b : Nat} (hb : 2 ≤ b) {x k : Nat} (h : k < (toL b x).length) : b ^ k ≤ x := by
  apply Nat.le_of_not_lt
  intro q
  have := (Uah hb x k).2 q
  omega
set_option maxHeartbeats 2000000 in
theorem Uo0 (n a b : Nat) (hb : 0 < b) (hla : (toL 1000000000 a).length < 2 ^ 20) (hlb : (toL 1000000000 b).length < 2 ^ 20) (hn : (toL 1000000000 a).length + (toL 1000000000 b).length + 10 < n) (k0 : List PV → List PV → Option R) :
    UAG n (NN a) (NN b) k0 = k0 (NN (a / b)) (NN (a % b)) := by
  have hc := fun k0 => UoU (R := R) n a b (by omega) (by omega) (by omega) k0
  unfold UAG
  simp only [hc]
  by_cases hab : a < b
  · have e : Uct a b = -1 := by unfold Uct; rw [if_pos hab]
    have e0 : NN 0 = [] := by unfold NN; rw [Uai]; rfl
    rw [Nat.div_eq_of_lt hab, Nat.mod_eq_of_lt hab, e0]
    simp (disch := (first | omega | (simp only [JlE]; omega))) only [↓JlH, JlF, JlG, e]
  have e : 0 ≤ Uct a b := by unfold Uct; rw [if_neg hab]; split <;> omega
  obtain ⟨tl, t0, t1, t2⟩ := UiE hB2 (x := b) (by omega)
  have hbt := Uac hB2 (UaO hB2 b) ((toL 1000000000 b).length - 1)
  have hN : NN b = nl .u32 (toL 1000000000 b) := rfl
  by_cases h1 : (toL 1000000000 b).length = 1
  · have hb1 : b < 1000000000 := by
      have := (Uah hB2 b 1).1 (by omega)
      rwa [Nat.pow_one] at this
    have hone := Ueq hB2 (x := b) (by omega) hb1
    have hs := fun k0 => Um5 (R := R) n a b hb (by omega) (by omega) (by omega) k0
    have hmod : a % b < b := Nat.mod_lt _ hb
    have ht := fun k0 => UbU (R := R) n [a % b] (by simp; omega) (by simp; omega) (by simp) k0
    rw [show val 1000000000 [a % b] = a % b from by simp [val]] at ht
    have hN1 : NN b = nl .u32 [b] := by rw [hN, hone]
    have e1 : ([b].getD 0 0) = b := rfl
    simp only [Uhq]
    rw [hN1]
    have hcond : ((([b] : List Nat).length : Int) == 1) = true := rfl
    have hg : ∀ (K : Int → Option R), Jj .u32 ((nl .u32 [b]).getD (0 : Int).toNat (PV.v (Value.bool false))) K = K (b : Int) := fun K => Jhl (l := [b]) (i := 0) (by simp)
    simp (disch := (first | omega | (simp only [JlE]; omega))) only [↓JlH, JlF, JlG, hcond, hg, hs, Jln, ht]
    rfl
  obtain ⟨L, hL⟩ : ∃ L, (toL 1000000000 b).length = L := ⟨_, rfl⟩
  obtain ⟨t, htop⟩ : ∃ t, (toL 1000000000 b).getD ((toL 1000000000 b).length - 1) 0 = t := ⟨_, rfl⟩
  rw [htop] at t0 t1 t2 hbt
  rw [hL] at htop t0 t1 hlb hn tl h1
  obtain ⟨n1, n2, n3⟩ := UtK 1000000000 t rfl t2 hbt
  obtain ⟨f, hf⟩ : ∃ f, f = 1000000000 / (t + 1) := ⟨_, rfl⟩
  rw [← hf] at n1 n2 n3
  have hfB : f < 1000000000 := by
    have : f * 2 ≤ f * (t + 1) := Nat.mul_le_mul_left _ (by omega)
    omega
  have hNf : [PV.v (.int .u32 (f : Int))] = NN f := by unfold NN; rw [Ueq hB2 (by omega) hfB, Jln]
  have hfl : (toL 1000000000 f).length = 1 := by rw [Ueq hB2 (by omega) hfB]; rfl
  have hPL : 1000000000 ^ L = 1000000000 ^ (L - 1) * 1000000000 := by rw [← Nat.pow_succ]; congr 1; omega
  have hvlt : b * f < 1000000000 ^ L := by
    have a1 : b * f < (t + 1) * 1000000000 ^ (L - 1) * f := Nat.mul_lt_mul_of_pos_right t1 (by omega)
    have a2 : (t + 1) * 1000000000 ^ (L - 1) * f ≤ 1000000000 ^ (L - 1) * 1000000000 := by
      have : (t + 1) * 1000000000 ^ (L - 1) * f = 1000000000 ^ (L - 1) * (f * (t + 1)) := by grind
      rw [this]; exact Nat.mul_le_mul_left _ n2
    omega
  have hvge : 500000000 * 1000000000 ^ (L - 1) ≤ b * f := by
    have a1 : t * 1000000000 ^ (L - 1) * f ≤ b * f := Nat.mul_le_mul_right _ t0
    have a2 : t * 1000000000 ^ (L - 1) * f = f * t * 1000000000 ^ (L - 1) := by grind
    have a3 : 500000000 * 1000000000 ^ (L - 1) ≤ f * t * 1000000000 ^ (L - 1) := Nat.mul_le_mul_right _ n1
    omega
  have hP0 : 0 < 1000000000 ^ (L - 1) := Nat.pow_pos (by omega)
  have hvl : (toL 1000000000 (b * f)).length = L := by
    have a1 := (Uah hB2 (b * f) L).2 hvlt
    have a2 : ¬ (toL 1000000000 (b * f)).length ≤ L - 1 := fun h => by
      have := (Uah hB2 (b * f) (L - 1)).1 h
      omega
    omega
  obtain ⟨_, _, v2, _⟩ := UiE hB2 (x := b * f) (by omega)
  rw [hvl] at v2
  have hvtop : 500000000 ≤ (toL 1000000000 (b * f)).getD (L - 1) 0 := by
    apply Nat.le_of_not_lt
    intro h
    have : ((toL 1000000000 (b * f)).getD (L - 1) 0 + 1) * 1000000000 ^ (L - 1) ≤ 500000000 * 1000000000 ^ (L - 1) := Nat.mul_le_mul_right _ h
    omega
  have hle : b * f ≤ a * f := Nat.mul_le_mul_right _ (by omega)
  obtain ⟨A, hA⟩ : ∃ A, (toL 1000000000 (a * f)).length = A := ⟨_, rfl⟩
  have hA1 : L ≤ A := by
    rw [← hvl, ← hA]
    exact (Uah hB2 (b * f) _).2 (Nat.lt_of_le_of_lt hle ((Uah hB2 (a * f) _).1 (Nat.le_refl _)))
  have hA2 : A ≤ (toL 1000000000 a).length + 1 := by
    rw [← hA]
    apply (Uah hB2 (a * f) _).2
    rw [Nat.pow_succ]
    exact Nat.mul_lt_mul_of_lt_of_lt ((Uah hB2 a _).1 (Nat.le_refl _)) hfB
  obtain ⟨o, ho⟩ : ∃ o, o = toL 1000000000 (a * f) ++ [0] := ⟨_, rfl⟩
  have hol : o.length = A + 1 := by rw [ho, List.length_append, hA]; rfl
  have hod : ∀ x ∈ o, x < 1000000000 := by
    intro x hx
    rw [ho] at hx
    rcases List.mem_append.1 hx with h | h
    · exact UaO hB2 _ x h
    · simp at h; omega
  have hov : val 1000000000 o = a * f := by rw [ho, Udj, Uap hB2]
  have hdrop : val 1000000000 (o.drop (A + 1 - L)) < val 1000000000 (toL 1000000000 (b * f)) := by
    rw [Uap hB2]
    have a1 := Uar 1000000000 o (A + 1 - L) (by omega)
    have a2 : a * f < 1000000000 ^ A := by rw [← hA]; exact (Uah hB2 _ _).1 (Nat.le_refl _)
    have a3 : 1000000000 ^ A = 1000000000 ^ (A + 1 - L) * 1000000000 ^ (L - 1) := by rw [← Nat.pow_add]; congr 1; omega
    rw [hov] at a1
    have a4 : 1000000000 ^ (A + 1 - L) * val 1000000000 (o.drop (A + 1 - L)) < 1000000000 ^ (A + 1 - L) * 1000000000 ^ (L - 1) := by omega
    have a5 := Nat.lt_of_mul_lt_mul_left a4
    omega
  obtain ⟨o', lq', q1, q2, q3, q4, q5, q6, q7⟩ := Ulz (R := R) n (NN f) (toL 1000000000 (b * f)) (UaO hB2 _) (by omega) (by omega) (by rw [hvl]; exact hvtop) (a * f) (A + 1 - L) n o (List.replicate (A + 1 - L) 0) hod (Ug hB2 _) (by rw [List.length_replicate]; omega) (by rw [List.length_replicate]; omega) (by omega) (by omega) hdrop
    (by rw [List.drop_replicate, Nat.sub_self, hov]; simp [val])
  rw [Uap hB2] at q6 q7
  have hbf : 0 < b * f := Nat.mul_pos hb (by omega)
  have hq : val 1000000000 lq' = a / b := by
    have : a * f / (b * f) = val 1000000000 lq' := by rw [← q7, Nat.add_mul_div_left _ _ hbf, Nat.div_eq_of_lt q6, Nat.zero_add]
    rw [← this, Nat.mul_div_mul_right _ _ (by omega)]
  have hr : val 1000000000 o' = a % b * f := by
    have : a * f % (b * f) = val 1000000000 o' := by rw [← q7, Nat.add_mul_mod_self_left, Nat.mod_eq_of_lt q6]
    rw [← this, Nat.mul_mod_mul_right]
  have m1 := fun k0 => UaY (R := R) n a f (by omega) (by omega) (by omega) k0
  have m2 := fun k0 => UaY (R := R) n b f (by omega) (by omega) (by omega) k0
  have m3 := fun k0 => UbU (R := R) n o' q4 (by omega) (by omega) k0
  have m4 := fun k0 => UbU (R := R) n lq' q5 (by rw [q3, List.length_replicate]; omega) (by rw [q3, List.length_replicate]; omega) k0
  have hrl : (toL 1000000000 (a % b * f)).length ≤ L := by
    apply (Uah hB2 _ _).2
    rw [← hr]
    exact Nat.lt_trans q6 hvlt
  have m5 := fun k0 => Um5 (R := R) n (a % b * f) f (by omega) (by omega) (by omega) (by omega) k0
  rw [hr] at m3
  rw [hq] at m4
  rw [Nat.mul_div_cancel _ (by omega)] at m5
  have w1 : ((L : Int) == 1) = false := by simp; omega
  have w2 : (L : Int) - 1 = ((L - 1 : Nat) : Int) := by omega
  have w3 : (t : Int) + 1 = ((t + 1 : Nat) : Int) := by omega
  have w4 : Int.tdiv 1000000000 ((t + 1 : Nat) : Int) = (f : Int) := by rw [hf]; exact Jlj 1000000000 (t + 1)
  have w5 : ((0 + A + (0 + 1) : Nat) : Int) - (L : Int) = ((A + 1 - L : Nat) : Int) := by omega
  have w6 : nl .u32 (toL 1000000000 (a * f)) ++ ([.v (.int .u32 0)] : List PV) = nl .u32 o := by
    rw [ho, ← Jjc]; rfl
  have hNa : NN (a * f) = nl .u32 (toL 1000000000 (a * f)) := rfl
  have hNb : NN (b * f) = nl .u32 (toL 1000000000 (b * f)) := rfl
  have w7 : ((A + 1 : Nat) : Int) - (L : Int) = ((A + 1 - L : Nat) : Int) := by omega
  rw [hvl] at q1
  have hg : ∀ (K : Int → Option R), Jj .u32 ((NN f).getD (0 : Int).toNat (PV.v (Value.bool false))) K = K (f : Int) := fun K => by rw [← hNf]; rfl
  have hNl : (NN f).length = 1 := by rw [← hNf]; rfl
  simp only [Uhq, Uj8, Uj9, Uk, Uka, Uho, Uhp, UmN]
  rw [hN]
  clear hdrop hvge hvlt n1 n2 hPL q6 q7 t0 t1 v2 hle hr hq hbf hP0 hov
  simp (disch := (first | omega | (simp only [JlE]; omega))) only [↓JlH, JlF, JlG, w1, hL, htop, w2, w3, w4, hNf, m1]
  rw [← hN]
  simp (disch := (first | omega | (simp only [JlE]; omega))) only [↓JlH, JlF, JlG, m2, hNa, hNb, hA, hvl, w5, List.nil_append, w6, hol, w7, q1, m3, hNl, hg, m5, m4]
theorem UmB (n : Nat) (k0 : List PV → Option R) : ∀ (m a b : Nat), b < m → (toL 1000000000 a).length < 2 ^ 19 → (toL 1000000000 b).length < 2 ^ 19 → (toL 1000000000 a).length + (toL 1000000000 b).length + 10 < n → (toL 1000000000 b).length + (toL 1000000000 b).length + 10 < n →
    Uc0 n m (NN a) (NN b) k0 = k0 (NN (Nat.gcd b a))
  | m + 1, a, b, hm, ha, hb, hn, hn2 => by
    simp only [Uc0, Uhj]
    have hN : (NN b).length = (toL 1000000000 b).length := by unfold NN; rw [Jjd]
    by_cases h0 : b = 0
    · subst h0
      rw [Uai] at hN
      have hN' : (NN 0).length = 0 := hN
      simp (disch := (first | omega | (simp only [JlE]; omega))) only [↓JlH, JlF, JlG, hN', Nat.gcd_zero_left]
    · have hl : 1 ≤ (toL 1000000000 b).length := (UiE hB2 h0).1
      have hd := fun k0 => Uo0 (R := R) n a b (by omega) (by omega) (by omega) (by omega) k0
      have hlt : a % b < b := Nat.mod_lt _ (by omega)
      have hlr : (toL 1000000000 (a % b)).length ≤ (toL 1000000000 b).length := (Uah hB2 _ _).2 (Nat.lt_trans hlt ((Uah hB2 _ _).1 (Nat.le_refl _)))
      have ih := UmB n k0 m b (a % b) (by omega) hb (by omega) (by omega) (by omega)
      simp (disch := (first | omega | (simp only [JlE]; omega))) only [↓JlH, JlF, JlG, hN, hd]
      rw [ih, ← Nat.gcd_rec]
theorem UvQ (n a b : Nat) (hbn : b < n) (ha : (toL 1000000000 a).length < 2 ^ 19) (hb : (toL 1000000000 b).length < 2 ^ 19) (hn : (toL 1000000000 a).length + (toL 1000000000 b).length + 10 < n) (hn2 : (toL 1000000000 b).length + (toL 1000000000 b).length + 10 < n) (k0 : List PV → Option R) :
    UDj n (NN a) (NN b) k0 = k0 (NN (Nat.gcd b a)) := by
  unfold UDj UrV
  exact UmB n _ n a b hbn ha hb hn hn2
theorem UtI (l k : Nat) : JkU 0 ((l : Int) - (k : Int)) = ((l - k : Nat) : Int) := by
  unfold JkU; split <;> omega
theorem UnY {s : List UInt8} (h : ∀ c ∈ s, isD c = true) (h0 : s ≠ []) (hl : s.length ≤ 18) (K : Int → Option R) : Jib (bs s) K = K (ofD s : Int) := by
  unfold Jib
  rw [Jg7, Utc s h h0 hl, Jd4, decide_eq_true (by omega)]; rfl
theorem Uf8 (n : Nat) : ∀ (m : Nat) (s : List UInt8) (o : List Nat), (∀ c ∈ s, isD c = true) → (∀ d ∈ o, d < 1000000000) → s.length < m → s.length + o.length < 2 ^ 30 →
    ∃ o' : List Nat, (∀ k0 : List PV → Option R, UdX n m (bs s) (nl .u32 o) k0 = k0 (nl .u32 o')) ∧ (∀ d ∈ o', d < 1000000000) ∧ o'.length ≤ o.length + s.length ∧ val 1000000000 o' = val 1000000000 o + 1000000000 ^ o.length * ofD s
  | m + 1, s, o, hs, ho, hm, hl => by
    by_cases h0 : s = []
    · subst h0
      refine ⟨o, fun k0 => ?_, ho, by omega, by rw [show ofD [] = 0 from rfl]; simp⟩
      simp only [UdX, Uh5]
      simp (disch := (first | omega | (simp only [JlE]; omega))) only [↓JlH, JlF, JlG]
    · have hpos : 0 < s.length := List.length_pos_iff.2 h0
      obtain ⟨k, hk⟩ : ∃ k, k = s.length - 9 := ⟨_, rfl⟩
      have h1 : ∀ c ∈ s.take k, isD c = true := fun c h => hs c (List.mem_of_mem_take h)
      have h2 : ∀ c ∈ s.drop k, isD c = true := fun c h => hs c (List.mem_of_mem_drop h)
      have h3 : (s.drop k).length ≤ 9 := by rw [List.length_drop]; omega
      have h4 : s.drop k ≠ [] := by intro e; have := congrArg List.length e; rw [List.length_drop, List.length_nil] at this; omega
      have h5 : ofD (s.drop k) < 1000000000 := Nat.lt_of_lt_of_le (UrR h2) (Nat.pow_le_pow_right (n := 10) (by omega) h3)
      have h6 : ofD s = ofD (s.take k) * 1000000000 + ofD (s.drop k) := by
        conv => lhs; rw [← List.take_append_drop k s]
        rw [Unt]
        by_cases hk0 : k = 0
        · subst hk0
          rw [List.take_zero, show ofD [] = 0 from rfl, Nat.zero_mul, Nat.zero_mul]
        · rw [List.length_drop, show s.length - k = 9 from by omega]
      obtain ⟨o', q1, q2, q3, q4⟩ := Uf8 n m (s.take k) (o ++ [ofD (s.drop k)]) h1 (by
        intro d hd
        rcases List.mem_append.1 hd with h | h
        · exact ho d h
        · rw [List.mem_singleton.1 h]; exact h5) (by rw [List.length_take]; omega) (by rw [List.length_take, List.length_append, List.length_singleton]; omega)
      refine ⟨o', fun k0 => ?_, q2, by rw [List.length_append, List.length_singleton, List.length_take] at q3; omega, ?_⟩
      · rw [← q1 k0]
        have w1 : JkU 0 ((s.length : Int) - 9) = (k : Int) := by rw [hk]; exact UtI s.length 9
        have w2 : List.drop k (List.take s.length s) = s.drop k := by rw [List.take_length]
        have w3 := fun K => UnY (R := R) h2 h4 (by omega) K
        have w4 : List.drop 0 (List.take k s) = s.take k := rfl
        simp only [UdX, Uh5]
        simp (disch := (first | omega | (simp only [JlE]; omega))) only [↓JlH, JlF, JlG, w1, w2, w3, Jln]
      · rw [q4, Uba, h6, List.length_append, List.length_singleton, Nat.pow_succ]
        grind
theorem Uh9 (n : Nat) (s : List UInt8) (hs : ∀ c ∈ s, isD c = true) (hl : s.length < 2 ^ 20) (hn : s.length < n) (k0 : List PV → Option R) : p98 n (bs s) k0 = k0 (NN (ofD s)) := by
  obtain ⟨o', q1, q2, q3, q4⟩ := Uf8 (R := R) n n s [] hs (by intro d h; cases h) hn (by simp; omega)
  rw [List.length_nil] at q3
  have ht := UbU (R := R) n o' q2 (by omega) (by omega) k0
  rw [q4, show val 1000000000 [] = 0 from rfl, List.length_nil, Nat.pow_zero, Nat.one_mul, Nat.zero_add] at ht
  unfold p98 Uwz
  rw [show ([] : List PV) = nl .u32 [] from rfl, q1, ht]
theorem UmG (d : Nat) (h : d < 1000000000) : JiB (d : Int) = bs (dec d) := by
  unfold JiB Lib.itoa
  rw [if_neg (by omega), Int.toNat_natCast]; rfl
theorem UmD (d : Nat) (h : d < 1000000000) : JkT (d : Int) = true := by
  unfold JkT; simp; omega
theorem Uum (k : Nat) : Lib.repeatL [48] k = List.replicate k 48 := by
  induction k with
  | zero => rfl
  | succ k ih => rw [Lib.repeatL, ih]; rfl
theorem UJj {d : Nat} (h : d < 1000000000) : (dec d).length ≤ 9 := (Ubn d 9 (by omega)).2 h
theorem Uje (n : Nat) (l : List Nat) (hl : ∀ d ∈ l, d < 1000000000) (h30 : l.length < 2 ^ 30) (k0 : ByteArray → Option R) : ∀ (i m : Nat), i < l.length → i < m → val 1000000000 (l.drop i) ≠ 0 → (dec (val 1000000000 (l.drop i))).length ≤ 9 * (l.length - i) →
    Ua0 n m (nl .u32 l) (bs (dec (val 1000000000 (l.drop i)))) ((i : Int) - 1) k0 = k0 (bs (dec (val 1000000000 l)))
  | 0, m + 1, hi, hm, h0, hb => by
    rw [List.drop_zero] at *
    simp only [Ua0, Ub5]
    simp (disch := (first | omega | (simp only [JlE]; omega))) only [↓JlH, JlF, JlG]
  | i + 1, m + 1, hi, hm, h0, hb => by
    have hd := Uac hB2 hl i
    have hv := Uaf 1000000000 l i
    have hstep := Ult 9 (val 1000000000 (l.drop (i + 1))) (l.getD i 0) h0 hd
    have e : val 1000000000 (l.drop (i + 1)) * 10 ^ 9 + l.getD i 0 = val 1000000000 (l.drop i) := by rw [hv]; omega
    rw [e] at hstep
    have h9 := UJj hd
    have hp := UwA 8 (l.getD i 0) hd
    have hlp : (pad 9 (l.getD i 0)).length = 9 := by rw [← hp, List.length_append, List.length_replicate]; omega
    have hlen : (dec (val 1000000000 (l.drop i))).length ≤ 9 * (l.length - i) := by rw [hstep, List.length_append, hlp]; omega
    have ih := Uje n l hl h30 k0 i m (by omega) (by omega) (by rw [hv]; omega) hlen
    rw [hstep, ← hp] at ih
    have w1 : ((i + 1 : Nat) : Int) - 1 = (i : Int) := by omega
    have w2 := UmG _ hd
    have w3 := UmD _ hd
    have w4 : ((9 : Int) - ((dec (l.getD i 0)).length : Int)) = ((8 + 1 - (dec (l.getD i 0)).length : Nat) : Int) := by omega
    have w5 : Jld (bs [48]) ((8 + 1 - (dec (l.getD i 0)).length : Nat) : Int) = bs (List.replicate (8 + 1 - (dec (l.getD i 0)).length) 48) := by
      rw [Jle, Int.toNat_natCast, Uum]
    have w6 : (⟨#[48]⟩ : ByteArray).size = 1 := rfl
    simp only [Ua0, Ub5, Ucz]
    simp (disch := (first | omega | (simp only [JlE]; omega))) only [↓JlH, JlF, JlG, w1, w2, w3, w4, w5, w6, ih]
theorem Us1 (n a : Nat) (hl : (toL 1000000000 a).length < 2 ^ 30) (hn : (toL 1000000000 a).length < n) (k0 : ByteArray → Option R) : UDl n (NN a) k0 = k0 (bs (dec a)) := by
  unfold UDl NN
  by_cases h0 : a = 0
  · subst h0
    rw [Uai, Uao]
    rfl
  obtain ⟨t1, t2, t3, t4⟩ := UiE hB2 h0
  have hlt := UaO hB2 a
  have hval := Uap hB2 a
  generalize toL 1000000000 a = l at *
  obtain ⟨m, rfl⟩ : ∃ m, n = m + 1 := ⟨n - 1, by omega⟩
  have hd := Uac hB2 hlt (l.length - 1)
  have hv := Uaf 1000000000 l (l.length - 1)
  rw [show l.length - 1 + 1 = l.length from by omega, List.drop_length, show val 1000000000 [] = 0 from rfl, Nat.mul_zero, Nat.add_zero] at hv
  have h9 := UJj hd
  have ih := Uje (m + 1) l hlt hl k0 (l.length - 1) m (by omega) (by omega) (by omega) (by rw [hv]; omega)
  rw [hv, hval] at ih
  have w0 : ((l.length : Int) == 0) = false := by simp; intro e; rw [e] at t1; simp at t1
  have w1 : ((l.length : Int) - 1) = ((l.length - 1 : Nat) : Int) := by omega
  have w2 := UmG _ hd
  have w3 := UmD _ hd
  simp only [Ur5, UeT, Uht, Ucz]
  simp (disch := (first | omega | (simp only [JlE]; omega))) only [↓JlH, JlF, JlG, w0, w1, w2, w3, List.nil_append, ih]
def UKT (a b : Nat) : Prop := a ≠ 0 ∧ (10 ^ 400 ≤ a / Nat.gcd a b ∨ 10 ^ 400 ≤ b / Nat.gcd a b)
instance (a b : Nat) : Decidable (UKT a b) := by unfold UKT; infer_instance
def zs (neg : Bool) (a : Nat) : Int := if neg then -(a : Int) else a
theorem Uax (neg : Bool) (a : Nat) : (zs neg a).natAbs = a := by cases neg <;> simp [zs]
theorem UbW (z : Int) : zs (decide (z < 0)) z.natAbs = z := by
  unfold zs; split <;> rename_i h <;> simp at h <;> omega
theorem UAs (neg : Bool) : zs neg 0 = 0 := by cases neg <;> rfl
theorem Uhi (neg : Bool) {a : Nat} (h : a ≠ 0) : Lib.itoa (zs neg a) = (if neg then [45] else []) ++ dec a := by
  unfold Lib.itoa
  cases neg
  · rw [if_neg (by simp [zs])]; simp [zs]
  · rw [if_pos (by simp [zs]; omega)]; simp [zs]
theorem UbY (a : Nat) : Lib.itoa (a : Int) = dec a := by unfold Lib.itoa; rw [if_neg (by omega), Int.toNat_natCast]
theorem UmK (neg : Bool) (a b : Nat) (hb : b ≠ 0) : (mkRat (zs neg a) b).num = zs neg (a / Nat.gcd b a) := by
  rw [Rat.num_mkRat, if_neg hb, Uax]
  cases neg
  · simp [zs]
  · simp only [zs, if_true]
    rw [Int.neg_ediv_of_dvd (Int.natCast_dvd_natCast.2 (Nat.gcd_dvd_right b a))]
    rfl
theorem UmJ (neg : Bool) (a b : Nat) (hb : b ≠ 0) : (mkRat (zs neg a) b).den = b / Nat.gcd b a := by
  rw [Rat.den_mkRat, if_neg hb, Uax]
def Uag (q : Rat) : List UInt8 := Lib.itoa q.num ++ if q.den = 1 then [] else 47 :: dec q.den
def fits (q : Rat) : Prop := q.num.natAbs < 10 ^ 400 ∧ q.den < 10 ^ 400
instance (q : Rat) : Decidable (fits q) := by unfold fits; infer_instance
theorem UsH : Uag 0 = [48] := by
  unfold Uag
  rw [show (0 : Rat).num = ((0 : Nat) : Int) from rfl, UbY, Uao]; rfl
theorem UwI : NN 0 = [] := by unfold NN; rw [Uai]; rfl
theorem Uux (a : Nat) : (NN a).length = (toL 1000000000 a).length := by unfold NN; rw [Jjd]
theorem UgL {a : Nat} (h0 : a ≠ 0) (h : a < 1000000000) : NN a = [PV.v (.int .u32 (a : Int))] := by unfold NN; rw [Ueq hB2 h0 h, Jln]
theorem UAP : NN 1 = [PV.v (.int .u32 1)] := UgL (by omega) (by omega)
theorem ULZ {a k : Nat} (h : a < 1000000000 ^ k) : (toL 1000000000 a).length ≤ k := (Uah hB2 a k).2 h
theorem UbM {a b k : Nat} (h : (toL 1000000000 b).length ≤ k) (hab : a ≤ b) : (toL 1000000000 a).length ≤ k := (Uah hB2 a k).2 (Nat.lt_of_le_of_lt hab ((Uah hB2 b k).1 h))
theorem UsE (n : Nat) (neg t : Bool) (a b g : Nat) (hg : g ≠ 0) (ht : t = false → g = 1) (ha : (toL 1000000000 a).length < 2 ^ 18) (hb : (toL 1000000000 b).length < 2 ^ 18) (hgl : (toL 1000000000 g).length < 2 ^ 18) (hn : 2 ^ 20 < n) (k0 : Bool → List PV → List PV → Option R) :
    Uf6 n neg (NN a) (NN b) (NN g) t k0 = k0 neg (NN (a / g)) (NN (b / g)) := by
  unfold Uf6
  cases t
  · rw [ht rfl, Nat.div_one, Nat.div_one]; rfl
  · have d1 := fun k0 => Uo0 (R := R) n a g (by omega) (by omega) (by omega) (by omega) k0
    have d2 := fun k0 => Uo0 (R := R) n b g (by omega) (by omega) (by omega) (by omega) k0
    simp only [cond_true, d1, d2]
theorem Unw (n : Nat) (neg : Bool) (a b : Nat) (hb0 : b ≠ 0) (ha : (toL 1000000000 a).length < 2 ^ 18) (hb : (toL 1000000000 b).length < 2 ^ 18) (hn : 2 ^ 20 < n) (hbn : b < n) (k0 : ByteArray → Int → Option R) :
    p79 n neg (NN a) (NN b) k0 = if fits (mkRat (zs neg a) b) then k0 (bs (Uag (mkRat (zs neg a) b))) 0 else k0 (bs []) 5 := by
  unfold p79
  by_cases h0 : a = 0
  · subst h0
    rw [UAs, Rat.zero_mkRat]
    rw [if_pos (by decide +kernel), UwI, UsH]
    rfl
  have hg := fun k0 => UvQ (R := R) n a b hbn (by omega) (by omega) (by omega) (by omega) k0
  have hg0 : Nat.gcd b a ≠ 0 := fun e => h0 (Nat.gcd_eq_zero_iff.1 e).2
  have hgl : (toL 1000000000 (Nat.gcd b a)).length ≤ (toL 1000000000 a).length := UbM (Nat.le_refl _) (Nat.le_of_dvd (by omega) (Nat.gcd_dvd_right b a))
  obtain ⟨g, hge⟩ : ∃ g, Nat.gcd b a = g := ⟨_, rfl⟩
  have hal : ¬ (toL 1000000000 a).length = 0 := fun e => h0 ((Ubj hB2).1 (List.eq_nil_of_length_eq_zero e))
  have hda : g ∣ a := by rw [← hge]; exact Nat.gcd_dvd_right b a
  have hdb : g ∣ b := by rw [← hge]; exact Nat.gcd_dvd_left b a
  have hag : a / g ≠ 0 := by
    have := Nat.div_mul_cancel hda
    intro e; rw [e] at this; omega
  have hbg : b / g ≠ 0 := by
    have := Nat.div_mul_cancel hdb
    intro e; rw [e] at this; omega
  have hla : (toL 1000000000 (a / g)).length < 2 ^ 18 := Nat.lt_of_le_of_lt (UbM (Nat.le_refl _) (Nat.div_le_self a g)) ha
  have hlb : (toL 1000000000 (b / g)).length < 2 ^ 18 := Nat.lt_of_le_of_lt (UbM (Nat.le_refl _) (Nat.div_le_self b g)) hb
  have e0 : (((toL 1000000000 a).length : Int) == 0) = false := by rw [Jk0]; simpa using hal
  have key : ∀ t : Bool, (t = false → g = 1) → Uf6 n neg (NN a) (NN b) (NN g) t (fun (y5 : Bool) (y6 : List PV) (y7 : List PV) => Ui0 n y5 y6 y7 (fun (y8 : ByteArray) (y9 : Int) => k0 y8 y9)) = if fits (mkRat (zs neg a) b) then k0 (bs (Uag (mkRat (zs neg a) b))) 0 else k0 (bs []) 5 := by
    intro t ht
    rw [UsE n neg t a b g (by omega) ht ha hb (by rw [← hge]; omega) hn]
    unfold Ui0
    have t1 := fun k0 => Us1 (R := R) n (a / g) (by omega) (by omega) k0
    have t2 := fun k0 => Us1 (R := R) n (b / g) (by omega) (by omega) k0
    simp only [t1, t2]
    have hf : fits (mkRat (zs neg a) b) ↔ ((dec (a / g)).length ≤ 400 ∧ (dec (b / g)).length ≤ 400) := by
      unfold fits
      rw [UmK neg a b hb0, UmJ neg a b hb0, Uax, hge, Ubn _ _ (by omega), Ubn _ _ (by omega)]
    have hr : Uag (mkRat (zs neg a) b) = (if neg then [45] else []) ++ dec (a / g) ++ if b / g = 1 then [] else 47 :: dec (b / g) := by
      unfold Uag
      rw [UmK neg a b hb0, UmJ neg a b hb0, hge, Uhi neg hag]
    by_cases c1 : 400 < (dec (a / g)).length
    · rw [if_neg (by rw [hf]; omega)]
      simp (disch := (first | omega | (simp only [JlE]; omega))) only [↓JlH, JlF, JlG]
    by_cases c2 : 400 < (dec (b / g)).length
    · rw [if_neg (by rw [hf]; omega)]
      simp (disch := (first | omega | (simp only [JlE]; omega))) only [↓JlH, JlF, JlG]
    rw [if_pos (by rw [hf]; omega), hr]
    have e1 : (dec (b / g) == [49]) = decide (b / g = 1) := by
      rw [Bool.eq_iff_iff, beq_iff_eq, decide_eq_true_iff]
      constructor
      · intro e; exact Ucv (e.trans (Ua3 (by omega : 1 < 10)).symm)
      · intro e; rw [e, Ua3 (by omega)]; rfl
    simp only [Ukl, Uh0, Uh1]
    cases neg
    · by_cases c3 : b / g = 1
      · have e2 : (dec (b / g) == [49]) = true := by rw [e1]; simpa using c3
        rw [if_pos c3]
        simp (disch := (first | omega | (simp only [JlE]; omega))) only [↓JlH, JlF, JlG, e2]
        simp
      · have e2 : (dec (b / g) == [49]) = false := by rw [e1]; simpa using c3
        rw [if_neg c3]
        simp (disch := (first | omega | (simp only [JlE]; omega))) only [↓JlH, JlF, JlG, e2]
        simp
    · by_cases c3 : b / g = 1
      · have e2 : (dec (b / g) == [49]) = true := by rw [e1]; simpa using c3
        rw [if_pos c3]
        simp (disch := (first | omega | (simp only [JlE]; omega))) only [↓JlH, JlF, JlG, e2]
        simp
      · have e2 : (dec (b / g) == [49]) = false := by rw [e1]; simpa using c3
        rw [if_neg c3]
        simp (disch := (first | omega | (simp only [JlE]; omega))) only [↓JlH, JlF, JlG, e2]
        simp
  simp only [hg, hge, Uux]
  by_cases c : 1 < (toL 1000000000 g).length
  · have : 1000000000 ^ 1 ≤ g := UnB hB2 c
    simp (disch := (first | omega | (simp only [JlE]; omega))) only [↓JlH, JlF, JlG, e0, key true (fun h => by cases h)]
  · have hg1 : g < 1000000000 := by
      have := (Uah hB2 g 1).1 (by omega)
      rwa [Nat.pow_one] at this
    have hgl1 : (toL 1000000000 g).length = 1 := by rw [Ueq hB2 (by omega) hg1]; rfl
    have hgi : ∀ (K : Int → Option R), Jj .u32 ((NN g).getD (0 : Int).toNat (PV.v (Value.bool false))) K = K (g : Int) := fun K => by rw [UgL (by omega) hg1]; rfl
    have e3 : decide ((g : Int) > 1) = false → g = 1 := by intro h; simp at h; omega
    simp (disch := (first | omega | (simp only [JlE]; omega))) only [↓JlH, JlF, JlG, e0, hgi, hgl1]
    exact key _ e3
def UiH (s : List UInt8) : Bool := !s.isEmpty && decide (s.length ≤ 400) && !(s.head? == some 48 && decide (1 < s.length)) && s.all isD
theorem UiQ (c : UInt8) : ([48, 49, 50, 51, 52, 53, 54, 55, 56, 57] : List UInt8).contains c = isD c := by
  rw [Bool.eq_iff_iff, Uaz]
  simp only [List.contains_eq_mem, List.mem_cons, List.not_mem_nil, or_false, decide_eq_true_eq, ← UInt8.toNat_inj]
  have e : ∀ k : Nat, k < 256 → (UInt8.ofNat k).toNat = k := fun k h => by rw [UInt8.toNat_ofNat']; omega
  show (c.toNat = 48 ∨ c.toNat = 49 ∨ c.toNat = 50 ∨ c.toNat = 51 ∨ c.toNat = 52 ∨ c.toNat = 53 ∨ c.toNat = 54 ∨ c.toNat = 55 ∨ c.toNat = 56 ∨ c.toNat = 57) ↔ _
  omega
theorem UcZ {α : Type} (p : α → Bool) (l : List α) {x : α} (h : x ∈ l) : p x = true ∨ x ∈ l.dropWhile p := by
  induction l with
  | nil => cases h
  | cons a r ih =>
    rw [List.dropWhile_cons]
    by_cases ha : p a = true
    · rw [if_pos ha]
      rcases List.mem_cons.1 h with rfl | h
      · exact Or.inl ha
      · exact ih h
    · rw [if_neg ha]; exact Or.inr h
theorem Ug3 {α : Type} (p : α → Bool) (l : List α) : l.dropWhile p = [] ↔ ∀ x ∈ l, p x = true := by
  constructor
  · intro h x hx
    rcases UcZ p l hx with h1 | h1
    · exact h1
    · rw [h] at h1; cases h1
  · intro h
    induction l with
    | nil => rfl
    | cons a r ih => rw [List.dropWhile_cons, if_pos (h a (List.mem_cons_self ..)), ih fun x hx => h x (List.mem_cons_of_mem _ hx)]
theorem Uuv (s : List UInt8) : ((Lib.trimS s [48, 49, 50, 51, 52, 53, 54, 55, 56, 57]) == []) = s.all isD := by
  have hp : (([48, 49, 50, 51, 52, 53, 54, 55, 56, 57] : List UInt8).contains ·) = isD := funext UiQ
  unfold Lib.trimS Lib.trimLeftS Lib.trimRightS
  rw [hp, Bool.eq_iff_iff, beq_iff_eq, Ug3, List.all_eq_true]
  constructor
  · intro h c hc
    rcases UcZ isD s.reverse (List.mem_reverse.2 hc) with h1 | h1
    · exact h1
    · exact h c (List.mem_reverse.2 h1)
  · intro h c hc
    have : c ∈ s.reverse := (List.dropWhile_sublist _).subset (List.mem_reverse.1 hc)
    exact h c (List.mem_reverse.1 this)
theorem Uuu (s : List UInt8) : eqS (JkL (bs s) (bs [48, 49, 50, 51, 52, 53, 54, 55, 56, 57])) (bs []) = s.all isD := by
  rw [← Uuv]; rfl
theorem Us4 (s : List UInt8) (h : s.length ≤ 400) : Jjj (bs s) (bs [48, 49, 50, 51, 52, 53, 54, 55, 56, 57]) = true := by
  unfold Jjj
  rw [Jd4, decide_eq_true (by omega)]; rfl
theorem UxY (c : UInt8) (r : List UInt8) : Jc6 (bs (c :: r)) 0 = (c.toNat : Int) := rfl
theorem UxX (c d : UInt8) : (((c.toNat : Nat) : Int) == ((d.toNat : Nat) : Int)) = (c == d) := JlD
theorem Ufn (n : Nat) (s : List UInt8) (hs : s.length < 2 ^ 40) (k0 : Bool → Option R) : p99 n (bs s) k0 = k0 (UiH s) := by
  unfold p99
  cases s with
  | nil => rfl
  | cons c r =>
    have e0 : eqS (bs (c :: r)) (⟨#[]⟩ : ByteArray) = false := rfl
    rw [List.length_cons] at hs
    by_cases h4 : 400 < r.length + 1
    · have e1 : UiH (c :: r) = false := by
        unfold UiH
        rw [List.length_cons, decide_eq_false (by omega)]; simp
      have e0' : ((c :: r) == ([] : List UInt8)) = false := rfl
      simp (disch := (first | omega | (simp only [JlE]; omega))) only [↓JlH, JlF, JlG, e0, e1, List.length_cons, e0']
    have e0' : ((c :: r) == ([] : List UInt8)) = false := rfl
    have t1 := Us4 (c :: r) (by rw [List.length_cons]; omega)
    have t2 := Uuu (c :: r)
    by_cases hc : c = 48
    · subst hc
      have e2 : (Jc6 (bs (48 :: r)) 0 == 48) = true := rfl
      by_cases h5 : 1 < r.length + 1
      · have e1 : UiH (48 :: r) = false := by
          unfold UiH
          rw [List.length_cons, decide_eq_true h5]; simp
        simp (disch := (first | omega | (simp only [JlE]; omega))) only [↓JlH, JlF, JlG, e0, e1, e2, List.length_cons, e0']
      · have e1 : UiH (48 :: r) = (48 :: r).all isD := by
          unfold UiH
          rw [List.length_cons, decide_eq_false h5, decide_eq_true (by omega)]; simp
        simp (disch := (first | omega | (simp only [JlE]; omega))) only [↓JlH, JlF, JlG, e0, e1, e2, List.length_cons, e0', t1, t2]
    · have e2 : (Jc6 (bs (c :: r)) 0 == 48) = false := by
        rw [UxY]
        have := UxX c 48
        rw [show ((48 : UInt8).toNat : Int) = 48 from rfl] at this
        rw [this]; simpa using hc
      have e1 : UiH (c :: r) = (c :: r).all isD := by
        unfold UiH
        rw [List.length_cons, decide_eq_true (by omega : r.length + 1 ≤ 400)]
        simp [hc]
      simp (disch := (first | omega | (simp only [JlE]; omega))) only [↓JlH, JlF, JlG, e0, e1, e2, List.length_cons, e0', t1, t2]
def UbX (s : List UInt8) : Bool × List UInt8 := match s with
  | 45 :: r => (true, r)
  | s => (false, s)
theorem Ulr (s : List UInt8) : (UbX s).2.length ≤ s.length := by
  unfold UbX; split <;> simp
theorem Ubf (c : UInt8) (r : List UInt8) : UbX (c :: r) = if c = 45 then (true, r) else (false, c :: r) := by
  unfold UbX
  by_cases h : c = 45
  · subst h; rfl
  · rw [if_neg h]
    split
    · rename_i e; injection e with e1 _; exact absurd e1 h
    · rfl
theorem UiR (n : Nat) (s : List UInt8) (hs : s.length < 2 ^ 40) (k0 : ByteArray → Bool → Option R) : UFm n (bs s) ⟨#[45]⟩ k0 = k0 (bs (UbX s).2) (UbX s).1 := by
  unfold UFm UHr UHt
  cases s with
  | nil => rfl
  | cons c r =>
    rw [List.length_cons] at hs
    have hz : ((⟨#[45]⟩ : ByteArray)).size = 1 := rfl
    have e1 : List.take (0 + 1) (c :: r) = [c] := rfl
    have e3 : List.drop (0 + 1) (c :: List.take r.length r) = r := by rw [List.take_length]; rfl
    have e2 : ([c] == [45]) = decide (c = 45) := by
      rw [Bool.eq_iff_iff]; simp
    rw [Ubf]
    by_cases hc : c = 45
    · rw [if_pos hc]
      simp (disch := (first | omega | (simp only [JlE]; omega))) only [↓JlH, JlF, JlG, hz, List.length_cons, e1, e2, List.length_nil, List.take_succ_cons, e3]
    · rw [if_neg hc]
      simp (disch := (first | omega | (simp only [JlE]; omega))) only [↓JlH, JlF, JlG, hz, List.length_cons, e1, e2, List.length_nil, List.take_succ_cons, e3]
def Ujl (s : List UInt8) : Bool := UiH (UbX s).2 && !((UbX s).1 && (UbX s).2 == [48])
theorem Udr (n : Nat) (s : List UInt8) (hs : s.length < 2 ^ 40) (k0 : Bool → ByteArray → Bool → Option R) : p97 n (bs s) k0 = k0 (UbX s).1 (bs (UbX s).2) (Ujl s) := by
  have hl := Ulr s
  have h1 := fun k0 => UiR (R := R) n s hs k0
  have h2 := fun k0 => Ufn (R := R) n (UbX s).2 (by omega) k0
  unfold p97
  simp only [h1, h2, Ujl]
  generalize (UbX s).1 = neg
  generalize (UbX s).2 = r
  cases UiH r
  · rfl
  · cases neg
    · rfl
    · rfl
theorem Ulw {a : Nat} (h : a < 10 ^ 400) : UiH (dec a) = true := by
  have h1 := (Ubn a 400 (by omega)).2 h
  have h2 := UoY a
  have h3 := Uls a
  unfold UiH
  rw [decide_eq_true h1]
  have e1 : (dec a).isEmpty = false := by simpa using h2
  have e2 : (dec a).all isD = true := List.all_eq_true.2 (Ua2 a)
  have e3 : ((dec a).head? == some 48 && decide (1 < (dec a).length)) = false := by
    rcases h3 with h3 | h3
    · have : ((dec a).head? == some 48) = false := by simpa using h3
      rw [this]; rfl
    · rw [h3]; simp
  rw [e1, e2, e3]; rfl
theorem Ulx {s : List UInt8} (h : UiH s = true) : ofD s < 10 ^ 400 ∧ s = dec (ofD s) := by
  unfold UiH at h
  simp only [Bool.and_eq_true, Bool.not_eq_true', List.isEmpty_eq_false_iff, decide_eq_true_eq] at h
  obtain ⟨⟨⟨h1, h2⟩, h3⟩, h4⟩ := h
  have h4' : ∀ c ∈ s, isD c = true := List.all_eq_true.1 h4
  have e : dec (ofD s) = s := UoZ h4' h1 (by
    by_cases h5 : s.head? = some 48
    · right
      rw [h5] at h3
      simp at h3
      have := List.length_pos_iff.2 h1
      omega
    · exact Or.inl h5)
  refine ⟨(Ubn (ofD s) 400 (by omega)).1 ?_, e.symm⟩
  rw [e]; exact h2
theorem Utu (a : Nat) : UbX (dec a) = (false, dec a) := by
  have h := Ua2 a
  cases hd : dec a with
  | nil => rfl
  | cons c r =>
    rw [Ubf, if_neg]
    intro e
    rw [hd] at h
    have := h c (List.mem_cons_self ..)
    rw [e] at this
    exact absurd this (by decide)
theorem Uav (z : Int) : UbX (Lib.itoa z) = (decide (z < 0), dec z.natAbs) := by
  unfold Lib.itoa
  by_cases h : z < 0
  · rw [if_pos h, decide_eq_true h]; rfl
  · rw [if_neg h, decide_eq_false h]
    have : z.toNat = z.natAbs := by omega
    rw [this]; exact Utu _
theorem Uft {z : Int} (h : z.natAbs < 10 ^ 400) : Ujl (Lib.itoa z) = true := by
  unfold Ujl
  rw [Uav]
  simp only [Ulw h, Bool.true_and]
  by_cases hz : z < 0
  · have : (dec z.natAbs == [48]) = false := by
      simp only [beq_eq_false_iff_ne, ne_eq]
      intro e
      have := Ucv (e.trans Uao.symm)
      omega
    rw [this]; simp
  · simp [hz]
theorem Udo (s : List UInt8) : s = (if (UbX s).1 then [45] else []) ++ (UbX s).2 := by
  cases s with
  | nil => rfl
  | cons c r =>
    rw [Ubf]
    by_cases h : c = 45
    · rw [if_pos h, h]; rfl
    · rw [if_neg h]; rfl
theorem UeH {s : List UInt8} (h : Ujl s = true) : ∃ z : Int, z.natAbs < 10 ^ 400 ∧ s = Lib.itoa z := by
  unfold Ujl at h
  simp only [Bool.and_eq_true, Bool.not_eq_true'] at h
  obtain ⟨h1, h2⟩ := h
  obtain ⟨h3, h4⟩ := Ulx h1
  have h5 := Udo s
  refine ⟨zs (UbX s).1 (ofD (UbX s).2), by rw [Uax]; exact h3, ?_⟩
  by_cases h0 : ofD (UbX s).2 = 0
  · rw [h0] at h4
    have e : (UbX s).1 = false := by
      rw [h4, Uao] at h2
      simpa using h2
    rw [h0, e]
    rw [e, h4] at h5
    rw [h5]
    exact (UbY 0).symm
  · rw [Uhi _ h0, ← h4]; exact h5
theorem UcT (z w : Int) : Rat.divInt z w = mkRat (zs (!(decide (z < 0) == decide (w < 0))) z.natAbs) w.natAbs := by
  by_cases hw : w < 0
  · obtain ⟨b, rfl⟩ : ∃ b : Nat, w = -(b : Int) := ⟨w.natAbs, by omega⟩
    rw [Rat.divInt_neg', Rat.divInt_ofNat, Int.natAbs_neg, Int.natAbs_natCast]
    congr 1
    rw [decide_eq_true hw]
    by_cases hz : z < 0
    · simp [hz, zs]; omega
    · simp [hz, zs]; omega
  · obtain ⟨b, rfl⟩ : ∃ b : Nat, w = (b : Int) := ⟨w.natAbs, by omega⟩
    rw [Rat.divInt_ofNat, Int.natAbs_natCast]
    congr 1
    rw [decide_eq_false hw]
    by_cases hz : z < 0
    · simp [hz, zs]; omega
    · simp [hz, zs]; omega
theorem UaA {a : Nat} (h : a < 10 ^ 400) : (toL 1000000000 a).length ≤ 45 :=
  ULZ (Nat.lt_of_lt_of_le h (by decide +kernel))
theorem Udp {a : Nat} (h : a < 10 ^ 400) : (dec a).length ≤ 400 := (Ubn a 400 (by omega)).2 h
theorem Uy6 {r d k : Nat} (h : ll r ≤ k) (hd : d < 10) : ll (10 * r + d) ≤ k + 1 := by
  rw [Udt] at *
  rw [Nat.pow_succ]; omega
theorem UoX {a k : Nat} (h : ll a ≤ k) : (dec a).length ≤ k + 1 := by
  rw [Ubn _ _ (by omega), Nat.pow_succ]
  have := Udt.1 h
  omega
theorem UBn {a b : Nat} (h : b ≤ a) : 0 ≤ Uct a b := by unfold Uct; rw [if_neg (by omega)]; split <;> omega
theorem UBo {a b : Nat} (h : a < b) : Uct a b = -1 := by unfold Uct; rw [if_pos h]
theorem UsD (n b : Nat) (hb : 0 < b) (hbl : ll b ≤ 50000) (hn : 200000 ≤ n) (x1 : Bool) (x2 : List PV) (x3 x5 x6 : Bool) (x9 : List PV) (x10 : Int) (k0 : Bool → List PV → Bool → List PV → Bool → Bool → Bool → List PV → List PV → Int → Int → Option R) :
    ∀ (m r c : Nat), r / b < m → ll r ≤ 50002 → c + r / b < 2 ^ 40 → UbQ n m x1 x2 x3 (II b) x5 x6 false (II r) x9 x10 c k0 = k0 x1 x2 x3 (II b) x5 x6 false (II (r % b)) x9 x10 ((c + r / b : Nat) : Int)
  | m + 1, r, c, hm, hr, hc => by
    have h1 := fun k0 => UsC (R := R) n r b (by omega) (by omega) (by omega) k0
    simp only [UbQ, UfA, h1]
    by_cases h : b ≤ r
    · have hge := UBn h
      obtain ⟨l, q1, q2, q3, q4⟩ := Ue9 (R := R) n r b (-1) (Or.inr rfl) (by omega) (by omega) (by omega) (by omega)
      have e2 : vb l = r - b := by omega
      have hm0 := fun k0 => UaB (R := R) n false l q2 (by omega) (by omega) k0
      rw [e2] at hm0
      have d1 := Nat.div_eq_sub_div hb h
      have d2 := Nat.mod_eq_sub_mod h
      have ih := UsD n b hb hbl hn x1 x2 x3 x5 x6 x9 x10 k0 m (r - b) (c + 1) (by omega) (Nat.le_trans (Ua5 (Nat.sub_le _ _)) hr) (by omega)
      have e3 : (c : Int) + 1 = ((c + 1 : Nat) : Int) := by omega
      have e4 : c + 1 + (r - b) / b = c + r / b := by omega
      rw [e4, ← d2] at ih
      have hc1 : c + 1 < 2 ^ 40 := by
        rw [d1] at hc
        clear d1 d2 e4 ih hm
        generalize (r - b) / b = p at *
        omega
      clear d1 d2 e4 hc hm q3
      simp (disch := (first | omega | (simp only [JlE]; omega))) only [↓JlH, JlF, JlG, q1, hm0, e3, ih]
    · rw [Nat.div_eq_of_lt (by omega), Nat.mod_eq_of_lt (by omega), UBo (by omega)]
      rfl
theorem Ui8 (n b : Nat) (hb : 0 < b) (hbl : ll b ≤ 50000) (hn : 200000 ≤ n) (x1 x3 x5 x6 : Bool) (la : List Nat) (hla : ∀ d ∈ la, d < 10) (hl : la.length ≤ 50000) :
    ∀ (d m i r : Nat) (lq : List Nat), d + i = la.length → d < m → r < b → lq.length = i → (∀ x ∈ lq, x < 10) → vb (la.take i) = vb lq * b + r →
      ∃ lq' : List Nat, (∀ k0 : Bool → List PV → Bool → List PV → Bool → Bool → Bool → List PV → List PV → Option R, Ubu n m x1 (nl .i64 la) x3 (II b) x5 x6 false (II r) (nl .i64 lq) i k0 = k0 x1 (nl .i64 la) x3 (II b) x5 x6 false (II (vb la % b)) (nl .i64 lq')) ∧ (∀ x ∈ lq', x < 10) ∧ lq'.length = la.length ∧ vb lq' = vb la / b
  | 0, m + 1, i, r, lq, hd, hm, hr, hq, hqd, hv => by
    rw [List.take_of_length_le (by omega)] at hv
    have e1 : vb la % b = r := by rw [hv, Nat.mul_comm, Nat.mul_add_mod, Nat.mod_eq_of_lt hr]
    have e2 : vb la / b = vb lq := by rw [hv, Nat.mul_comm, Nat.mul_add_div hb, Nat.div_eq_of_lt hr, Nat.add_zero]
    refine ⟨lq, fun k0 => ?_, hqd, by omega, e2.symm⟩
    rw [e1]
    simp only [Ubu, UeZ]
    simp (disch := (first | omega | (simp only [JlE]; omega))) only [↓JlH, JlF, JlG]
  | d + 1, m + 1, i, r, lq, hd, hm, hr, hq, hqd, hv => by
    have hai := Uac hT2 hla i
    have hrl : ll r ≤ 50000 := Nat.le_trans (Ua5 (Nat.le_of_lt hr)) hbl
    obtain ⟨s, hs⟩ : ∃ s, s = 10 * r + la.getD i 0 := ⟨_, rfl⟩
    have hsq : s / b < 10 := Nat.div_lt_of_lt_mul (by rw [Nat.mul_comm]; omega)
    have hsm : s % b < b := Nat.mod_lt _ hb
    have hsl : ll s ≤ 50002 := by
      rw [hs]; exact Nat.le_trans (Uy6 hrl hai) (by omega)
    have hdm := Nat.div_add_mod s b
    have hmk := fun k0 => UaB (R := R) n false (DL r ++ [la.getD i 0]) (by
      intro x hx
      rcases List.mem_append.1 hx with h | h
      · exact Uew r x h
      · rw [List.mem_singleton.1 h]; exact hai) (by rw [List.length_append, Uaa, List.length_singleton]; omega) (by rw [List.length_append, Uaa, List.length_singleton]; omega) k0
    rw [UkZ, UfQ, ← hs] at hmk
    obtain ⟨lq', q1, q2⟩ := Ui8 n b hb hbl hn x1 x3 x5 x6 la hla hl d m (i + 1) (s % b) (lq ++ [s / b]) (by omega) (by omega) hsm (by rw [List.length_append, hq]; rfl) (by
      intro x hx
      rcases List.mem_append.1 hx with h | h
      · exact hqd x h
      · rw [List.mem_singleton.1 h]; exact hsq) (by
      rw [UbV (by omega : i < la.length), UkZ, hv]
      generalize s / b = q at *
      generalize s % b = t at *
      generalize la.getD i 0 = x at *
      clear hmk
      grind)
    have h2 := fun k0 => UsD (R := R) n b hb hbl hn x1 (nl .i64 la) x3 x5 x6 (nl .i64 lq) i k0 n s 0 (by omega) hsl (by omega)
    rw [Nat.zero_add, show ((0 : Nat) : Int) = 0 from rfl] at h2
    refine ⟨lq', fun k0 => ?_, q2⟩
    rw [← q1 k0]
    have w1 : (i : Int) + 1 = ((i + 1 : Nat) : Int) := by omega
    have w2 : II r ++ nl .i64 [la.getD i 0] = nl .i64 (DL r ++ [la.getD i 0]) := by unfold II; rw [Jjc]
    have w3 : Jgx 1 (II r) = true := Jhm _ _
    simp only [Ubu, UeZ, UmR]
    simp (disch := (first | omega | (simp only [JlE]; omega))) only [↓JlH, JlF, JlG, w1, w3, Uas, Jln, w2, hmk, h2]
theorem UtC (n : Nat) (hn : 200000 ≤ n) (k0 : Bool → List PV → Option R) : UHs n 1 k0 = k0 false (II 1) := by
  obtain ⟨m, rfl⟩ : ∃ m, n = m + 2 := ⟨n - 2, by omega⟩
  have h := fun k0 => UaB (R := R) (m + 2) false [1] (by simp) (by simp) (by simp) k0
  have e : vb [1] = 1 := rfl
  rw [e] at h
  exact h k0
theorem UbT (a : Nat) : sg (a : Int) = false := by simp [sg]
theorem UEM (neg : Bool) (a : Nat) : sg (zs neg a) = (neg && !(a == 0)) := by
  cases neg
  · simp [zs, sg]
  · rw [Bool.eq_iff_iff]; simp [zs, sg]; omega
theorem UAh (n : Nat) (x : Int) (b : Nat) (hb : 0 < b) (hx : ll x.natAbs ≤ 20000) (hbl : ll b ≤ 20000) (hn : 200000 ≤ n) (k0 : Bool → List PV → Bool → List PV → Option R) :
    Uzf n (sg x) (II x.natAbs) false (II b) k0 = k0 (sg (x / b)) (II (x / b).natAbs) (sg (x % b)) (II (x % b).natAbs) := by
  have hmod : x.natAbs % b < b := Nat.mod_lt _ hb
  have hdm := Nat.div_add_mod x.natAbs b
  obtain ⟨q, hq⟩ : ∃ q, q = x.natAbs / b := ⟨_, rfl⟩
  have hql : ll q ≤ 20000 := Nat.le_trans (Ua5 (by rw [hq]; exact Nat.div_le_self _ _)) hx
  have fin : ∀ z : Int, ll z.natAbs ≤ 20001 → z = x / b → Ub9 n (sg x) (II x.natAbs) false (II b) false false (sg z) (II z.natAbs) k0 = k0 (sg (x / b)) (II (x / b).natAbs) (sg (x % b)) (II (x % b).natAbs) := by
    intro z hz hzx
    have m1 := fun k0 => UdZ (R := R) n z (b : Int) (by omega) (by rw [Int.natAbs_natCast]; omega) hn k0
    rw [UbT, Int.natAbs_natCast] at m1
    have hzb : ll (z * (b : Int)).natAbs ≤ 50000 := by
      rw [Int.natAbs_mul, Int.natAbs_natCast]
      exact Nat.le_trans (UmH _ _) (by omega)
    have m2 := fun k0 => Uks (R := R) n x (z * (b : Int)) (by omega) hzb hn k0
    unfold Ub9
    simp only [m1, m2]
    rw [Int.emod_def, ← hzx, Int.mul_comm]
  obtain ⟨lq, l1, l2, l3, l4⟩ := Ui8 (R := R) n b hb (by omega) hn (sg x) false false false (DL x.natAbs) (Uew _) (by rw [Uaa]; omega) (ll x.natAbs) n 0 0 [] (by rw [Uaa]; omega) (by omega) hb rfl (by intro d h; cases h) (by simp [Un])
  rw [UfQ] at l1 l4
  rw [Uaa] at l3
  rw [← hq] at l4 hdm
  have hmk := fun k0 => UaB (R := R) n (!(sg x == false)) lq l2 (by omega) (by omega) k0
  have e1 : (!(sg x == false)) = sg x := by cases sg x <;> rfl
  rw [e1, l4, ← UEM, ← Uax (sg x) q] at hmk
  rw [Uax] at hmk
  unfold Uzf Usc
  have l1' : ∀ k0 : Bool → List PV → Bool → List PV → Bool → Bool → Bool → List PV → List PV → Option R, Ubu n n (sg x) (II x.natAbs) false (II b) false false false [] [] 0 k0 = k0 (sg x) (II x.natAbs) false (II b) false false false (II (x.natAbs % b)) (nl .i64 lq) := by
    intro k0
    have h := l1 k0
    rw [show ((0 : Nat) : Int) = 0 from rfl, Jlm, UnE] at h
    exact h
  rw [l1']
  rw [e1, hmk, Uas]
  obtain ⟨z0, hz0⟩ : ∃ z0, z0 = zs (sg x) q := ⟨_, rfl⟩
  have hz0n : z0.natAbs = q := by rw [hz0, Uax]
  rw [← hz0]
  by_cases hr : x.natAbs % b = 0
  · have e2 : ll (x.natAbs % b) = 0 := by rw [hr, Ubq]
    have hz : z0 = x / b := by
      symm
      have := (Int.ediv_emod_unique (a := x) (b := (b : Int)) (r := 0) (q := z0) (by omega)).2 ⟨by
        rw [hr, Nat.add_zero] at hdm
        have hc : (b : Int) * (q : Int) = (x.natAbs : Int) := by rw [← hdm]; push_cast; rfl
        rw [hz0]; unfold zs sg
        by_cases hx0 : x < 0
        · rw [if_pos (by simpa using hx0), Int.mul_neg, hc]; omega
        · rw [if_neg (by simpa using hx0), hc]; omega, by omega, by omega⟩
      exact this.1
    have f := fin z0 (by rw [hz0n]; omega) hz
    rw [hz0n] at f
    simp (disch := (first | omega | (simp only [JlE]; omega))) only [↓JlH, JlF, JlG, e2, f]
  · have e2 : 0 < ll (x.natAbs % b) := by
      have : ll (x.natAbs % b) ≠ 0 := fun h => hr (Ucr.1 h)
      omega
    by_cases hx0 : x < 0
    · have e3 : sg x = true := by simpa [sg] using hx0
      have hz : z0 - 1 = x / b := by
        symm
        have := (Int.ediv_emod_unique (a := x) (b := (b : Int)) (r := (b : Int) - (x.natAbs % b : Nat)) (q := z0 - 1) (by omega)).2 ⟨by
          have hc : (b : Int) * (q : Int) + ((x.natAbs % b : Nat) : Int) = (x.natAbs : Int) := by
            have := congrArg (fun k : Nat => (k : Int)) hdm
            push_cast at this ⊢
            exact this
          rw [hz0]; unfold zs
          rw [if_pos e3, Int.mul_sub, Int.mul_neg]; omega, by omega, by omega⟩
        exact this.1
      have s1 := fun k0 => Uks (R := R) n z0 ((1 : Nat) : Int) (by rw [hz0n]; omega) (by rw [Int.natAbs_natCast]; unfold ll; rw [UfP (by omega) (by omega)]; decide) hn k0
      rw [UbT, Int.natAbs_natCast, hz0n] at s1
      have f := fin (z0 - 1) (by
        have : (z0 - 1).natAbs ≤ q + 1 := by omega
        exact Nat.le_trans (Ua5 this) (UvY hql (by unfold ll; rw [UfP (by omega) (by omega)]; decide))) hz
      have f1 := fun k0 => UtC (R := R) n hn k0
      rw [e3] at f ⊢
      have e4 : (sg z0 : Bool) = decide (z0 < 0) := rfl
      have s1' : ∀ k0 : Bool → List PV → Option R, Uze n (sg z0) (II q) false (II 1) k0 = k0 (sg (z0 - 1)) (II (z0 - 1).natAbs) := s1
      generalize sg z0 = g0 at *
      generalize sg (z0 - 1) = g1 at *
      simp (disch := (first | omega | (simp only [JlE]; omega))) only [↓JlH, JlF, JlG, e2, f1, s1', f]
    · have e3 : sg x = false := by simpa [sg] using hx0
      have hz : z0 = x / b := by
        symm
        have := (Int.ediv_emod_unique (a := x) (b := (b : Int)) (r := (x.natAbs % b : Nat)) (q := z0) (by omega)).2 ⟨by
          have hc : (b : Int) * (q : Int) + ((x.natAbs % b : Nat) : Int) = (x.natAbs : Int) := by
            have := congrArg (fun k : Nat => (k : Int)) hdm
            push_cast at this ⊢
            exact this
          rw [hz0]; unfold zs
          rw [if_neg (by rw [e3]; simp)]; omega, by omega, by omega⟩
        exact this.1
      have f := fin z0 (by rw [hz0n]; omega) hz
      rw [hz0n] at f
      rw [e3] at f ⊢
      generalize sg z0 = g0 at *
      simp (disch := (first | omega | (simp only [JlE]; omega))) only [↓JlH, JlF, JlG, e2, f]
end Go.Proofs.YtmgfmlhdnadglaaGreatDoor
set_option linter.unusedVariables false
set_option maxRecDepth 100000
namespace Go.Proofs.YtmgfmlhdnadglaaGreatDoor
open Go Th Go.Proofs
noncomputable section
variable {R : Type}
def Ube : Ann := { loops := [(8, ids [0, 3], ids [2])], cuts := [(5, ids [0], ids [2]), (7, ids [0], ids [2])], frz := [], rm := [.id] }
abbrev Uph (n : Nat) : Env := eN
theorem Ul2 (n : Nat) : EnvOK Tryz.prog GI (Uph n) := .nil
def UeX (n : Nat) (l0 : ByteArray → Int → O R) (x1 : ByteArray) (x2 : Int) (k0 : Bool → O R) (k1 : O R) : O R :=
  bif (decide (x2 < ((x1).size : Int))) then (bif (inR x2 (x1).size) then (bif (decide (Jc6 x1 x2 < 48)) then (k0 false) else (bif (inR x2 (x1).size) then (bif (bif false then true else (decide (Jc6 x1 x2 > 57))) then (k0 false) else (l0 x1 (IntKind.i64.wrap (x2 + 1)))) else none)) else none) else (k1)
def Ub7 (n : Nat) : Nat → ByteArray → Int → (Bool → O R) → (O R) → O R
  | 0, _, _, _, _ => none
  | m + 1, x1, x2, k0, k1 => UeX n (fun x1 x2 => Ub7 n m x1 x2 k0 k1) x1 x2 k0 k1
def Ur9 (n : Nat) (x1 : ByteArray) (x2 : Int) (k0 : Bool → O R) (k1 : O R) : O R := Ub7 n n x1 x2 k0 k1
def Ukb (n : Nat) (x1 : ByteArray) (k0 : Bool → O R) : O R :=
  Ur9 n x1 0 (fun y2 => k0 y2) (k0 true)
def Udv (n : Nat) (x1 : ByteArray) (k0 : Bool → O R) : O R :=
  bif (decide (((x1).size : Int) < 1)) then (k0 false) else (bif (bif false then true else (decide (((x1).size : Int) > 400))) then (k0 false) else (bif (inR 0 (x1).size) then (bif (bif false then true else (Jc6 x1 0 == 48)) then (k0 false) else (Ukb n x1 (fun y2 => k0 y2))) else none))
def UDo (n : Nat) (x1 : ByteArray) (k0 : Bool → O R) : O R :=
  bif (eqS x1 (⟨#[48]⟩ : ByteArray)) then (k0 true) else (bif (decide (((x1).size : Int) > 0)) then (bif (inR 0 (x1).size) then (bif (bif true then (Jc6 x1 0 == 45) else false) then (bif (Je5 1 ((x1).size : Int) (x1).size) then (Udv n (ByteArray.extract x1 (1 : Int).toNat (((x1).size : Int) : Int).toNat) (fun y2 => k0 y2)) else none) else (Udv n x1 (fun y3 => k0 y3))) else none) else (Udv n x1 (fun y4 => k0 y4)))
abbrev UFr (n : Nat) : Code → Fr → Kc R → O R := evC Tryz.prog (Uph n) Ube n (45, [])
noncomputable def Uon : Code := Jj4 (Jll Tryz.f136) [1, 1, 1]
abbrev UkF : Sl (List SV) := (cS .n)
abbrev UqO (n : Nat) (K : Kc R) : UkF.T (O R) := fun x1 => Udv n x1 (fun y1 => xC Ube 5 K .ret [vB y1])
noncomputable def Uoo : Code := Jj4 (Jll Tryz.f136) [1, 1, 1, 1]
abbrev UkG : Sl (List SV) := (cS .n)
abbrev UqP (n : Nat) (K : Kc R) : UkG.T (O R) := fun x1 => Ukb n x1 (fun y1 => xC Ube 7 K .ret [vB y1])
noncomputable def Uop : Code := Jj4 (Jll Tryz.f136) [1, 1, 1, 1, 0, 1, 0, 0]
abbrev Ued : Sl (List SV) := (cS (cI .n))
abbrev UjR (n m : Nat) (K : Kc R) : Ued.T (O R) := fun x1 x2 => Ub7 n m x1 x2 (fun y1 => xL Ube 8 K .ret [vB y1]) (xL Ube 8 K (.exit 0) [dD])
abbrev UxD (n : Nat) (K : Kc R) (l0 : Ued.T (O R)) : Ued.T (O R) := fun x1 x2 => UeX n l0 x1 x2 (fun y1 => xL Ube 8 K .ret [vB y1]) (xL Ube 8 K (.exit 0) [dD])
abbrev UtG (n : Nat) : Orc R := oL Ube (UFr n) n 8 Uop Ued (UjR n n) oN
abbrev Uts (n : Nat) : Orc R := oC Ube (UFr n) 7 Uoo UkG (UqP n) (oC Ube (UFr n) 5 Uon UkF (UqO n) oN)
abbrev UER (R : Type) (n : Nat) := JcH (R := R) Tryz.prog (Uph n) Ube n (45, []) (UtG n) (Uts n)
theorem UzN (n : Nat) : UER R n (false, 8, Uop) := JkF (lo := UtG n) (cu := Uts n) (pO pN (by kernel_rfl)) Ued (UjR n n) (JiE (F := UjR n) Ued (UxD n) (fun K _ _ => rfl) (fun _ _ => rfl) (fun L K _ _ => by show _ = _; kernel_rfl) n) fun _ _ => rfl
theorem UzM (n : Nat) : UER R n (true, 7, Uoo) := JkW (lo := UtG n) (cu := Uts n) (pO (pC (UzN n) pN) (by kernel_rfl)) UkG (UqP n) (fun K _ => by show _ = _; kernel_rfl) fun _ _ => rfl
theorem UzL (n : Nat) : UER R n (true, 5, Uon) := JkW (lo := UtG n) (cu := Uts n) (pO (pC (UzM n) pN) (by kernel_rfl)) UkF (UqO n) (fun K _ => by show _ = _; kernel_rfl) fun _ _ => rfl
theorem UHV (n : Nat) : Je6 (UER R n) (JaJ Ube (Jll Tryz.f136)) := pO (pC (UzL n) pN) (by kernel_rfl)
abbrev UIv : Sl (List SV) := (cS .n)
abbrev f136 (n : Nat) (K : List SV → O R) : UIv.T (O R) := fun x1 => UDo n x1 (fun y1 => K [vB y1])
abbrev UCG (n : Nat) : FS := fT [false] UIv (f136 n)
theorem UG1 (n : Nat) : FSound Tryz.prog GI 136 (UCG n) := gd Ube n (Ul2 n) Tryz.func136 (.cons (Ul2 n) UIv (f136 n) (fun K _ => (Jkq (c := Jll Tryz.f136) (by kernel_rfl) (UHV n) K).trans (by kernel_rfl)) .nil) (by kernel_rfl)
def UnK : Ann := { loops := [], cuts := [], frz := [], rm := [.id] }
abbrev Uvn (n : Nat) : Env := eN
theorem UlK (n : Nat) : EnvOK Tryz.prog GI (Uvn n) := .nil
def UtP (n : Nat)  (k0 : Bool → LP → O R) : O R :=
  k0 false ([.v (.int .i64 1)] : LP)
abbrev UGo (n : Nat) : Orc R := oN
abbrev UFE (n : Nat) : Orc R := oN
abbrev UK7 (R : Type) (n : Nat) := JcH (R := R) Tryz.prog (Uvn n) UnK n (3, []) (UGo n) (UFE n)
theorem UHD (n : Nat) : Je6 (UK7 R n) (JaJ UnK (Jll Tryz.f110)) := pO pN (by kernel_rfl)
abbrev UIh : Sl (List SV) := .n
abbrev f110 (n : Nat) (K : List SV → O R) : UIh.T (O R) := UtP n  (fun y1 y2 => K [.p (.agg [.v (.bool y1), .sh y2])])
abbrev UrB (n : Nat) : FS := fT [] UIh (f110 n)
theorem UtM (n : Nat) : FSound Tryz.prog GI 110 (UrB n) := gd UnK n (UlK n) Tryz.func110 (.cons (UlK n) UIh (f110 n) (fun K => (Jkq (c := Jll Tryz.f110) (by kernel_rfl) (UHD n) K).trans (by kernel_rfl)) .nil) (by kernel_rfl)
def Ux : Ann := { loops := [], cuts := [], frz := [], rm := [.id] }
abbrev UB0 (n : Nat) : Env := eC 112 (UCu n) (eC 110 (UrB n) (eC 88 (UJ7 n) eN))
theorem Uqf (n : Nat) : EnvOK Tryz.prog GI (UB0 n) := .cons (.cons (.cons (.nil) (UNe n)) (UtM n)) (UGP n)
def p73 (n : Nat) (x1 : Bool) (x2 : LP) (x3 : Bool) (x4 : LP) (k0 : ByteArray → O R) : O R :=
  UtP n (fun y5 y6 => p88 n x3 x4 y5 y6 (fun y7 => bif (y7 == 0) then (UAF n x1 x2 (fun y8 => k0 y8)) else (UAF n x1 x2 (fun y9 => Jj0 y9 (⟨#[47]⟩ : ByteArray) fun s10 => UAF n x3 x4 (fun y11 => Jj0 s10 y11 fun s12 => k0 s12)))))
abbrev UMo (n : Nat) : Orc R := oN
abbrev ULI (n : Nat) : Orc R := oN
abbrev K73 (R : Type) (n : Nat) := JcH (R := R) Tryz.prog (UB0 n) Ux n (19, []) (UMo n) (ULI n)
theorem UN9 (n : Nat) : Je6 (K73 R n) (JaJ Ux (Jll Tryz.f73)) := pO pN (by kernel_rfl)
abbrev t73 : Sl (List SV) := (.c (sP (JlI (.c Jlf (.c sSh (.c Jlf (.c sSh .n)))))) .n)
abbrev f73 (n : Nat) (K : List SV → O R) : t73.T (O R) := fun x1 x2 x3 x4 => p73 n x1 x2 x3 x4 (fun y1 => K [vS y1])
abbrev UGb (n : Nat) : FS := fT [false] t73 (f73 n)
theorem UKH (n : Nat) : FSound Tryz.prog GI 73 (UGb n) := gd Ux n (Uqf n) Tryz.func73 (.cons (Uqf n) t73 (f73 n) (fun K _ _ _ _ => (Jkq (c := Jll Tryz.f73) (by kernel_rfl) (UN9 n) K).trans (by kernel_rfl)) .nil) (by kernel_rfl)
def Uxc : Ann := { loops := [], cuts := [], frz := [], rm := [.id] }
abbrev UB3 (n : Nat) : Env := eN
theorem Uqj (n : Nat) : EnvOK Tryz.prog GI (UB3 n) := .nil
def p77 (n : Nat) (x1 : Bool) (x2 : LP) (k0 : Bool → O R) : O R :=
  k0 (((x2).length : Int) == 0)
abbrev UMr (n : Nat) : Orc R := oN
abbrev ULL (n : Nat) : Orc R := oN
abbrev K77 (R : Type) (n : Nat) := JcH (R := R) Tryz.prog (UB3 n) Uxc n (7, []) (UMr n) (ULL n)
theorem UOc (n : Nat) : Je6 (K77 R n) (JaJ Uxc (Jll Tryz.f77)) := pO pN (by kernel_rfl)
abbrev t77 : Sl (List SV) := (.c (sP (JlI (.c Jlf (.c sSh .n)))) .n)
abbrev f77 (n : Nat) (K : List SV → O R) : t77.T (O R) := fun x1 x2 => p77 n x1 x2 (fun y1 => K [vB y1])
abbrev UCW (n : Nat) : FS := fT [false] t77 (f77 n)
theorem UFg (n : Nat) : FSound Tryz.prog GI 77 (UCW n) := gd Uxc n (Uqj n) Tryz.func77 (.cons (Uqj n) t77 (f77 n) (fun K _ _ => (Jkq (c := Jll Tryz.f77) (by kernel_rfl) (UOc n) K).trans (by kernel_rfl)) .nil) (by kernel_rfl)
def UnS : Ann := { loops := [], cuts := [], frz := [], rm := [.id] }
abbrev Uvv (n : Nat) : Env := eN
theorem Ul5 (n : Nat) : EnvOK Tryz.prog GI (Uvv n) := .nil
def UFo (n : Nat) (x1 : Bool) (x2 : LP) (k0 : Bool → LP → O R) : O R :=
  k0 false x2
abbrev UGx (n : Nat) : Orc R := oN
abbrev UFN (n : Nat) : Orc R := oN
abbrev ULe (R : Type) (n : Nat) := JcH (R := R) Tryz.prog (Uvv n) UnS n (6, []) (UGx n) (UFN n)
theorem UHY (n : Nat) : Je6 (ULe R n) (JaJ UnS (Jll Tryz.f144)) := pO pN (by kernel_rfl)
abbrev UIx : Sl (List SV) := (.c (sP (JlI (.c Jlf (.c sSh .n)))) .n)
abbrev f144 (n : Nat) (K : List SV → O R) : UIx.T (O R) := fun x1 x2 => UFo n x1 x2 (fun y1 y2 => K [.p (.agg [.v (.bool y1), .sh y2])])
abbrev UCN (n : Nat) : FS := fT [false] UIx (f144 n)
theorem UG8 (n : Nat) : FSound Tryz.prog GI 144 (UCN n) := gd UnS n (Ul5 n) Tryz.func144 (.cons (Ul5 n) UIx (f144 n) (fun K _ _ => (Jkq (c := Jll Tryz.f144) (by kernel_rfl) (UHY n) K).trans (by kernel_rfl)) .nil) (by kernel_rfl)
def Uet : Ann := { loops := [], cuts := [(5, ids [2, 3, 4], ids [4]), (10, ids [4, 6, 8], ids [4])], frz := [], rm := [.id] }
abbrev Upe (n : Nat) : Env := eC 145 (UyU n) (eC 144 (UCN n) (eC 143 (UCM n) (eC 110 (UrB n) (eC 90 (UGe n) (eC 77 (UCW n) eN)))))
theorem UlV (n : Nat) : EnvOK Tryz.prog GI (Upe n) := .cons (.cons (.cons (.cons (.cons (.cons (.nil) (UFg n)) (UKK n)) (UtM n)) (UG7 n)) (UG8 n)) (UDe n)
def UeV (n : Nat) (x1 x2 x3 : Bool) (x4 : LP) (x5 : Bool) (x6 : LP) (k0 : Bool → LP → Bool → LP → O R) : O R :=
  k0 x3 x4 x5 x6
def Ufy (n : Nat) (x1 : Bool) (x2 : LP) (x3 : Bool) (x4 : LP) (x5 x6 : Bool) (k0 : Bool → LP → Bool → LP → O R) : O R :=
  UFo n x1 x2 (fun y7 y8 => UFn n y7 y8 x3 x4 (fun y9 y10 => UFo n x1 x2 (fun y11 y12 => Uzf n y11 y12 y9 y10 (fun y13 y14 y15 y16 => Uzf n x3 x4 y9 y10 (fun y17 y18 y19 y20 => bif x1 then (p90 n y13 y14 (fun y21 y22 => UeV n x5 x6 y21 y22 y17 y18 (fun y23 y24 y25 y26 => k0 y23 y24 y25 y26))) else (UeV n x5 x6 y13 y14 y17 y18 (fun y27 y28 y29 y30 => k0 y27 y28 y29 y30)))))))
def Uv7 (n : Nat) (x1 : Bool) (x2 : LP) (x3 : Bool) (x4 : LP) (k0 : Bool → LP → Bool → LP → O R) : O R :=
  p77 n x1 x2 (fun y5 => bif y5 then (UtP n (fun y6 y7 => k0 x1 x2 y6 y7)) else (bif x3 then (p90 n x1 x2 (fun y8 y9 => p90 n x3 x4 (fun y10 y11 => Ufy n y8 y9 y10 y11 false false (fun y12 y13 y14 y15 => k0 y12 y13 y14 y15)))) else (Ufy n x1 x2 x3 x4 false false (fun y16 y17 y18 y19 => k0 y16 y17 y18 y19))))
abbrev UIO (n : Nat) : Code → Fr → Kc R → O R := evC Tryz.prog (Upe n) Uet n (45, [])
noncomputable def Uoj : Code := Jj4 (Jll Tryz.f123) [1, 1, 1]
abbrev UkD : Sl (List SV) := (.c (sBx 55 (cB (cH .n))) (.c (sBx 55 (cB (cH .n))) (.c (sBx 57 (cB (.c sNl (cB (.c sNl .n))))) .n)))
abbrev UqM (n : Nat) (K : Kc R) : UkD.T (O R) := fun x1 x2 x3 x4 x5 x6 => Ufy n x1 x2 x3 x4 x5 x6 (fun y1 y2 y3 y4 => xC Uet 5 K .ret [.bx 57 [vB y1, vH y2, vB y3, vH y4]])
noncomputable def Ulj : Code := Jj4 (Jll Tryz.f123) [1, 1, 1, 1, 1, 1, 1]
abbrev Uiu : Sl (List SV) := (.c (sBx 57 (cB (.c sNl (cB (.c sNl .n))))) (.c (sBx 55 (cB (cH .n))) (.c (sBx 55 (cB (cH .n))) .n)))
abbrev Umr (n : Nat) (K : Kc R) : Uiu.T (O R) := fun x1 x2 x3 x4 x5 x6 => UeV n x1 x2 x3 x4 x5 x6 (fun y1 y2 y3 y4 => xC Uet 10 K .ret [.bx 57 [vB y1, vH y2, vB y3, vH y4]])
abbrev Uy8 (n : Nat) : Orc R := oN
abbrev Ux4 (n : Nat) : Orc R := oC Uet (UIO n) 10 Ulj Uiu (Umr n) (oC Uet (UIO n) 5 Uoj UkD (UqM n) oN)
abbrev UFu (R : Type) (n : Nat) := JcH (R := R) Tryz.prog (Upe n) Uet n (45, []) (Uy8 n) (Ux4 n)
theorem Uud (n : Nat) : UFu R n (true, 10, Ulj) := JkW (lo := Uy8 n) (cu := Ux4 n) (pO pN (by kernel_rfl)) Uiu (Umr n) (fun K _ _ _ _ _ _ => by show _ = _; kernel_rfl) fun _ _ => rfl
theorem UzH (n : Nat) : UFu R n (true, 5, Uoj) := JkW (lo := Uy8 n) (cu := Ux4 n) (pO (pC (Uud n) pN) (by kernel_rfl)) UkD (UqM n) (fun K _ _ _ _ _ _ => by show _ = _; kernel_rfl) fun _ _ => rfl
theorem UHO (n : Nat) : Je6 (UFu R n) (JaJ Uet (Jll Tryz.f123)) := pO (pC (UzH n) pN) (by kernel_rfl)
abbrev UIq : Sl (List SV) := (.c (sP (JlI (.c Jlf (.c sSh .n)))) (.c (sP (JlI (.c Jlf (.c sSh .n)))) .n))
abbrev f123 (n : Nat) (K : List SV → O R) : UIq.T (O R) := fun x1 x2 x3 x4 => Uv7 n x1 x2 x3 x4 (fun y1 y2 y3 y4 => K [.p (.agg [.v (.bool y1), .sh y2, .v (.bool y3), .sh y4])])
abbrev UrC (n : Nat) : FS := fT [false, false] UIq (f123 n)
theorem UtN (n : Nat) : FSound Tryz.prog GI 123 (UrC n) := gd Uet n (UlV n) Tryz.func123 (.cons (UlV n) UIq (f123 n) (fun K _ _ _ _ => (Jkq (c := Jll Tryz.f123) (by kernel_rfl) (UHO n) K).trans (by kernel_rfl)) .nil) (by kernel_rfl)
end
end Go.Proofs.YtmgfmlhdnadglaaGreatDoor
set_option linter.unusedVariables false
set_option linter.unusedSimpArgs false
namespace Go.Proofs.YtmgfmlhdnadglaaGreatDoor
open Go Th Go.Proofs
variable {R : Type}
theorem Ui (n a b : Nat) (hb : 0 < b) (ha : ll a ≤ 20000) (hbl : ll b ≤ 20000) (hn : 200000 ≤ n) (k0 : Bool → List PV → Bool → List PV → Option R) :
    Uzf n false (II a) false (II b) k0 = k0 false (II (a / b)) false (II (a % b)) := by
  have h := UAh (R := R) n (a : Int) b hb (by rw [Int.natAbs_natCast]; exact ha) hbl hn k0
  have e1 : (a : Int) / (b : Int) = ((a / b : Nat) : Int) := rfl
  have e2 : (a : Int) % (b : Int) = ((a % b : Nat) : Int) := rfl
  rw [e1, e2, UbT, UbT, UbT, Int.natAbs_natCast, Int.natAbs_natCast, Int.natAbs_natCast] at h
  exact h
theorem Ui9 (n : Nat) (hn : 200000 ≤ n) (x5 : Bool) (k0 : Bool → List PV → Bool → Option R) : ∀ (m a b : Nat), b < m → ll a ≤ 20000 → ll b ≤ 20000 → Uda n m false (II a) false (II b) x5 k0 = k0 false (II (Nat.gcd b a)) x5
  | m + 1, a, b, hm, ha, hb => by
    simp only [Uda, Uhw]
    by_cases h0 : b = 0
    · subst h0
      simp (disch := (first | omega | (simp only [JlE]; omega))) only [↓JlH, JlF, JlG, Uas, Ubq, Nat.gcd_zero_left]
    · have hl : 0 < ll b := by
        have : ll b ≠ 0 := fun e => h0 (Ucr.1 e)
        omega
      have hd := fun k0 => Ui (R := R) n a b (by omega) ha hb hn k0
      have hlt : a % b < b := Nat.mod_lt _ (by omega)
      have ih := Ui9 n hn x5 k0 m b (a % b) (by omega) hb (Nat.le_trans (Ua5 (Nat.le_of_lt hlt)) hb)
      simp (disch := (first | omega | (simp only [JlE]; omega))) only [↓JlH, JlF, JlG, Uas, hd]
      rw [ih, ← Nat.gcd_rec]
theorem UAk (n a b : Nat) (hbn : b < n) (ha : ll a ≤ 20000) (hb : ll b ≤ 20000) (hn : 200000 ≤ n) (k0 : Bool → List PV → Option R) : UFn n false (II a) false (II b) k0 = k0 false (II (Nat.gcd b a)) := by
  have hg : ll (Nat.gcd b a) ≤ 20000 := by
    by_cases h : b = 0
    · subst h; rw [Nat.gcd_zero_left]; exact ha
    · exact Nat.le_trans (Ua5 (Nat.gcd_le_left _ (by omega))) hb
  unfold UFn Usb
  rw [Ui9 n hn _ _ n a b hbn ha hb]
  unfold II
  rw [UaB n _ _ (Uew _) (by rw [Uaa]; omega) (by rw [Uaa]; omega), UfQ]
  rfl
theorem Unl (d : Nat) (h : d < 10) : List.drop d (List.take (d + 1) ([48, 49, 50, 51, 52, 53, 54, 55, 56, 57] : List UInt8)) = [ch d] := by
  match d, h with
  | 0, _ => rfl
  | 1, _ => rfl
  | 2, _ => rfl
  | 3, _ => rfl
  | 4, _ => rfl
  | 5, _ => rfl
  | 6, _ => rfl
  | 7, _ => rfl
  | 8, _ => rfl
  | 9, _ => rfl
theorem Ugc (n : Nat) (neg : Bool) (l : List Nat) (hl : ∀ d ∈ l, d < 10) (h40 : l.length < 2 ^ 40) (k0 : ByteArray → Option R) : ∀ (d m i : Nat) (s : List UInt8), d + i = l.length → d < m → s.length < 2 ^ 41 - d →
    Ub2 n m neg (nl .i64 l) (bs s) i k0 = k0 (bs (s ++ (l.drop i).map ch))
  | 0, m + 1, i, s, hd, hm, hs => by
    rw [List.drop_eq_nil_of_le (by omega), List.map_nil, List.append_nil]
    simp only [Ub2, UeQ]
    simp (disch := (first | omega | (simp only [JlE]; omega))) only [↓JlH, JlF, JlG]
  | d + 1, m + 1, i, s, hd, hm, hs => by
    have hi := Uac hT2 hl i
    have ih := Ugc n neg l hl h40 k0 d m (i + 1) (s ++ [ch (l.getD i 0)]) (by omega) (by omega) (by rw [List.length_append, List.length_singleton]; omega)
    rw [UcU (by omega : i < l.length), List.map_cons]
    have e1 : (i : Int) + 1 = ((i + 1 : Nat) : Int) := by omega
    have e2 : ((l.getD i 0 : Nat) : Int) + 1 = ((l.getD i 0 + 1 : Nat) : Int) := by omega
    have e3 := Unl _ hi
    have hsz : (bs [48, 49, 50, 51, 52, 53, 54, 55, 56, 57]).size = 10 := rfl
    have hsz2 : (⟨#[48, 49, 50, 51, 52, 53, 54, 55, 56, 57]⟩ : ByteArray).size = 10 := rfl
    simp only [Ub2, UeQ]
    simp (disch := (first | omega | (simp only [JlE]; omega))) only [↓JlH, JlF, JlG, e1, e2, hsz, hsz2, e3, ih, List.append_assoc, List.singleton_append]
theorem Um4 (n : Nat) (x : Int) (hx : ll x.natAbs ≤ 50000) (hn : 200000 ≤ n) (k0 : ByteArray → Option R) : UAF n (sg x) (II x.natAbs) k0 = k0 (bs (Lib.itoa x)) := by
  unfold UAF
  rw [Uas, Jk0]
  by_cases h0 : x = 0
  · subst h0
    have e : (ll (0 : Int).natAbs == 0) = true := by rw [show (0 : Int).natAbs = 0 from rfl, Ubq]; rfl
    have e2 := UbY 0
    rw [Uao] at e2
    have e3 : Lib.itoa 0 = [48] := e2
    rw [e, e3]; rfl
  · have e : (ll x.natAbs == 0) = false := by simp only [beq_eq_false_iff_ne, ne_eq, Ucr]; omega
    have hlp := fun s hs => Ugc (R := R) n (sg x) (DL x.natAbs) (Uew _) (by rw [Uaa]; omega) (fun (y4 : ByteArray) => k0 y4) (ll x.natAbs) n 0 s (by rw [Uaa]; omega) (by omega) hs
    rw [List.drop_zero, ← Ucw _ (by omega : x.natAbs ≠ 0)] at hlp
    rw [e, cond_false]
    simp only [Uhm, Ur2]
    have hz := Uhi (sg x) (a := x.natAbs) (by omega)
    rw [show zs (sg x) x.natAbs = x from UbW x] at hz
    rw [hz]
    cases hs : sg x
    · rw [hs] at hlp
      exact hlp [] (by simp; omega)
    · rw [hs] at hlp
      exact hlp [45] (by simp; omega)
theorem Uj6 (n : Nat) (x2 x3 : Bool) (s : List UInt8) (h40 : s.length < 2 ^ 30) (k0 : Bool → Bool → List PV → Option R) : ∀ (d m i : Nat) (l : List Nat), d + i = s.length → d < m → (∀ c ∈ s.drop i, isD c = true) → l.length ≤ i →
    Ubs n m (bs s) x2 x3 (nl .i64 l) i k0 = k0 x2 x3 (nl .i64 (l ++ dg (s.drop i)))
  | 0, m + 1, i, l, hd, hm, hs, hl => by
    rw [List.drop_eq_nil_of_le (by omega), dg, List.map_nil, List.append_nil]
    simp only [Ubs, Ud]
    simp (disch := (first | omega | (simp only [JlE]; omega))) only [↓JlH, JlF, JlG]
  | d + 1, m + 1, i, l, hd, hm, hs, hl => by
    have hi : i < s.length := by omega
    have hdr : s.drop i = s[i] :: s.drop (i + 1) := List.drop_eq_getElem_cons hi
    rw [hdr] at hs ⊢
    have hc := Uaz.1 (hs _ (List.mem_cons_self ..))
    have ih := Uj6 n x2 x3 s h40 k0 d m (i + 1) (l ++ [s[i].toNat - 48]) (by omega) (by omega) (fun c h => hs c (List.mem_cons_of_mem _ h)) (by rw [List.length_append, List.length_singleton]; omega)
    have e1 : (i : Int) + 1 = ((i + 1 : Nat) : Int) := by omega
    have e2 : Jc6 (bs s) (i : Int) = (s[i].toNat : Int) := JjZ hi
    have e3 : ((s[i].toNat : Int) == 45) = false := by simp only [beq_eq_false_iff_ne, ne_eq]; omega
    have e4 : (s[i].toNat : Int) - 48 = ((s[i].toNat - 48 : Nat) : Int) := by omega
    rw [dg, List.map_cons, ← dg, show l ++ (s[i].toNat - 48) :: dg (s.drop (i + 1)) = l ++ [s[i].toNat - 48] ++ dg (s.drop (i + 1)) from by simp, ← ih]
    simp only [Ubs, Ud, Ufz]
    simp (disch := (first | omega | (simp only [JlE]; omega))) only [↓JlH, JlF, JlG, e1, e2, e3, e4, Jln]
theorem UtL (n : Nat) (x : Int) (hx : ll x.natAbs ≤ 50000) (hn : 200000 ≤ n) (k0 : Bool → List PV → Option R) : Uv8 n (bs (Lib.itoa x)) k0 = k0 (sg x) (II x.natAbs) := by
  have hdl : (dec x.natAbs).length ≤ 50001 := UoX hx
  have hdg : (dg (dec x.natAbs)).length ≤ 50001 := by unfold dg; rw [List.length_map]; exact hdl
  have hm := fun k0 => UaB (R := R) n (sg x) (dg (dec x.natAbs)) (Ux7 (Ua2 _)) (by omega) (by omega) k0
  rw [show vb (dg (dec x.natAbs)) = x.natAbs from Ucy _] at hm
  have e0 : (sg x && !(x.natAbs == 0)) = sg x := by
    rw [Bool.eq_iff_iff]; simp [sg]; omega
  rw [e0] at hm
  unfold Uv8 Ur7
  by_cases h : x < 0
  · have hs : sg x = true := by simpa [sg] using h
    have hi : Lib.itoa x = 45 :: dec x.natAbs := by unfold Lib.itoa; rw [if_pos h]
    rw [hi]
    obtain ⟨m, rfl⟩ : ∃ m, n = m + 1 := ⟨n - 1, by omega⟩
    have hlp := fun k0 => Uj6 (R := R) (m + 1) false true (45 :: dec x.natAbs) (by rw [List.length_cons]; omega) k0 (dec x.natAbs).length m 1 [] (by rw [List.length_cons]) (by omega) (Ua2 _) (by simp)
    have e2 : (Jc6 (bs (45 :: dec x.natAbs)) 0 == 45) = true := rfl
    rw [Jlm, show ((1 : Nat) : Int) = 0 + 1 from rfl] at hlp
    simp only [List.drop_succ_cons, List.drop_zero, List.nil_append] at hlp
    rw [hs] at hm ⊢
    simp only [Ubs, Ud, Ufz]
    simp (disch := (first | omega | (simp only [JlE]; omega))) only [↓JlH, JlF, JlG, List.length_cons, e2, hlp, hm]
  · have hs : sg x = false := by simpa [sg] using h
    have hi : Lib.itoa x = dec x.natAbs := by
      unfold Lib.itoa; rw [if_neg h]; congr 1; omega
    rw [hi]
    have hlp := fun k0 => Uj6 (R := R) n false false (dec x.natAbs) (by omega) k0 (dec x.natAbs).length n 0 [] (by omega) (by omega) (Ua2 _) (by simp)
    rw [Jlm, show ((0 : Nat) : Int) = 0 from rfl, List.drop_zero, List.nil_append] at hlp
    rw [hs] at hm ⊢
    rw [hlp, hm]
theorem UnD : II 1 = [PV.v (.int .i64 1)] := by
  unfold II DL; rw [UfP (by omega) (by omega)]; rfl
theorem UrQ (n : Nat) (z w : Int) (hw : w ≠ 0) (hz : ll z.natAbs ≤ 15000) (hwl : ll w.natAbs ≤ 15000) (hn : 200000 ≤ n) (hnw : w.natAbs < n) (k0 : Bool → List PV → Bool → List PV → Option R) :
    Uv7 n (sg z) (II z.natAbs) (sg w) (II w.natAbs) k0 = k0 (sg (Rat.divInt z w).num) (II (Rat.divInt z w).num.natAbs) false (II (Rat.divInt z w).den) := by
  have hnum : (Rat.divInt z w).num = zs (!(sg z == sg w)) (z.natAbs / Nat.gcd w.natAbs z.natAbs) := by
    rw [UcT, UmK _ _ _ (by omega)]
  have hden : (Rat.divInt z w).den = w.natAbs / Nat.gcd w.natAbs z.natAbs := by
    rw [UcT, UmJ _ _ _ (by omega)]
  rw [hnum, hden, Uax, UEM]
  obtain ⟨g, hg⟩ : ∃ g, g = Nat.gcd w.natAbs z.natAbs := ⟨_, rfl⟩
  rw [← hg]
  have hg0 : 0 < g := by rw [hg]; exact Nat.gcd_pos_of_pos_left _ (by omega)
  have hgw : g ≤ w.natAbs := by rw [hg]; exact Nat.gcd_le_left _ (by omega)
  have hgl : ll g ≤ 15000 := Nat.le_trans (Ua5 hgw) hwl
  simp only [Uv7, p77, Uas, Jk0]
  by_cases h0 : z = 0
  · subst h0
    have hgg : g = w.natAbs := by rw [hg, show (0 : Int).natAbs = 0 from rfl, Nat.gcd_zero_right]
    have e : (ll (0 : Int).natAbs == 0) = true := by rw [show (0 : Int).natAbs = 0 from rfl, Ubq]; rfl
    simp only [e, cond_true]
    rw [show (0 : Int).natAbs = 0 from rfl, Nat.zero_div, hgg, Nat.div_self (by omega), UnD]
    simp [UtP, sg]
  · have e : (ll z.natAbs == 0) = false := by simp only [beq_eq_false_iff_ne, ne_eq, Ucr]; omega
    simp only [e, cond_false]
    have hzg : z.natAbs / g ≠ 0 := by
      have hd : g ∣ z.natAbs := by rw [hg]; exact Nat.gcd_dvd_right _ _
      have := Nat.div_mul_cancel hd
      intro e; rw [e] at this; omega
    have e2 : (z.natAbs / g == 0) = false := by simpa using hzg
    have q1 := fun k0 => UAk (R := R) n z.natAbs w.natAbs hnw (by omega) (by omega) hn k0
    rw [← hg] at q1
    have q2 := fun k0 => Ui (R := R) n z.natAbs g hg0 (by omega) (by omega) hn k0
    have q3 := fun k0 => Ui (R := R) n w.natAbs g hg0 (by omega) (by omega) hn k0
    have q4 := fun k0 => Uia (R := R) n ((z.natAbs / g : Nat) : Int) (by rw [Int.natAbs_natCast]; exact Nat.le_trans (Ua5 (Nat.div_le_self _ _)) (by omega)) hn k0
    rw [UbT, Int.natAbs_neg, Int.natAbs_natCast] at q4
    have e5 : sg (-((z.natAbs / g : Nat) : Int)) = true := by
      have hp := Nat.pos_of_ne_zero hzg
      simp only [sg, decide_eq_true_eq]
      generalize z.natAbs / g = y at hp ⊢
      omega
    rw [e5] at q4
    have r1 := fun k0 => Uia (R := R) n z (by omega) hn k0
    have r2 := fun k0 => Uia (R := R) n w (by omega) hn k0
    rw [Int.natAbs_neg] at r1 r2
    rw [e2]
    have core : ∀ (neg : Bool) (k0 : Bool → List PV → Bool → List PV → Option R), Ufy n neg (II z.natAbs) false (II w.natAbs) false false k0 = k0 (neg) (II (z.natAbs / g)) false (II (w.natAbs / g)) := by
      intro neg k0
      unfold Ufy UFo UeV
      cases neg <;> simp only [q1, q2, q3, q4, cond_true, cond_false]
    by_cases hw0 : w < 0
    · have es : sg w = true := by simpa [sg] using hw0
      have es2 : sg (-w) = false := by simp [sg]; omega
      have es3 : sg (-z) = !(sg z) := by
        rw [Bool.eq_iff_iff]; simp [sg]; omega
      rw [es] at r2 ⊢
      simp only [cond_true, r1, r2, es2, es3, core]
      cases sg z <;> rfl
    · have es : sg w = false := by simpa [sg] using hw0
      simp only [es, cond_false, core]
      cases sg z <;> rfl
theorem Ui6 (n : Nat) (q : Rat) (h1 : ll q.num.natAbs ≤ 15000) (h2 : ll q.den ≤ 15000) (hn : 200000 ≤ n) (k0 : ByteArray → Option R) : p73 n (sg q.num) (II q.num.natAbs) false (II q.den) k0 = k0 (bs (Uag q)) := by
  have c1 := fun k0 => Uui (R := R) n (q.den : Int) ((1 : Nat) : Int) (by rw [Int.natAbs_natCast]; omega) (by rw [Int.natAbs_natCast]; unfold ll; rw [UfP (by omega) (by omega)]; decide) hn k0
  rw [UbT, UbT, Int.natAbs_natCast, Int.natAbs_natCast] at c1
  have t1 := fun k0 => Um4 (R := R) n q.num (by omega) hn k0
  have t2 := fun k0 => Um4 (R := R) n (q.den : Int) (by rw [Int.natAbs_natCast]; omega) hn k0
  rw [UbT, Int.natAbs_natCast, UbY] at t2
  have l1 : (Lib.itoa q.num).length ≤ 15002 := by
    have h := Udo (Lib.itoa q.num)
    rw [Uav] at h
    have hd : (dec q.num.natAbs).length ≤ 15001 := UoX h1
    rw [h, List.length_append]
    split <;> simp <;> omega
  have l2 : (dec q.den).length ≤ 15001 := UoX h2
  simp only [p73, UtP, ← UnD, c1]
  unfold Uag
  have hd := q.den_nz
  by_cases h : q.den = 1
  · have e : (UiG (q.den : Int) ((1 : Nat) : Int) == 0) = true := by unfold UiG; rw [if_neg (by omega), if_pos (by omega)]; rfl
    simp only [e, cond_true, if_pos h, t1, List.append_nil]
  · have e : (UiG (q.den : Int) ((1 : Nat) : Int) == 0) = false := by unfold UiG; rw [if_neg (by omega), if_neg (by omega)]; rfl
    simp only [e, cond_false, if_neg h, t1]
    simp (disch := (first | omega | (simp only [JlE]; omega))) only [↓JlH, JlF, JlG, t2, List.length_cons, List.length_nil, List.append_assoc, List.singleton_append]
theorem UaP {α : Type} (a b : α) : (bif true then a else b) = a := (Eq.refl _).trans (Eq.refl _)
theorem Uak {α : Type} (a b : α) : (bif false then a else b) = b := (Eq.refl _).trans (Eq.refl _)
theorem UFc : (!true) = false := (Eq.refl _).trans (Eq.refl _)
theorem UFb : (!false) = true := (Eq.refl _).trans (Eq.refl _)
def Ufo (t : List UInt8) : Bool := !t.isEmpty && decide (t.length ≤ 400) && !(t.head? == some 48) && t.all isD
theorem Ulv (t : List UInt8) : (UiH t && !(t == [48])) = Ufo t := by
  unfold UiH Ufo
  match t with
  | [] => rfl
  | [c] =>
    by_cases h : c = 48
    · subst h; rfl
    · have e1 : ([c] == [48]) = false := by simpa using h
      have e2 : (([c] : List UInt8).head? == some 48) = false := by simpa using h
      rw [e1, e2]; simp
  | c :: d :: r =>
    have e1 : ((c :: d :: r) == [48]) = false := by simp
    rw [e1]
    by_cases h : c = 48
    · subst h; simp
    · have e2 : ((c :: d :: r : List UInt8).head? == some 48) = false := by simpa using h
      rw [e2]; simp
theorem UgK (n : Nat) (t : List UInt8) (h40 : t.length < 2 ^ 40) (k0 : Bool → Option R) (k1 : Option R) : ∀ (d m i : Nat), d + i = t.length → d < m → Ub7 n m (bs t) i k0 k1 = if (t.drop i).all isD then k1 else k0 false
  | 0, m + 1, i, hd, hm => by
    rw [List.drop_eq_nil_of_le (by omega), List.all_nil, if_pos rfl]
    simp only [Ub7, UeX]
    simp (disch := (first | omega | (simp only [JlE]; omega))) only [↓JlH, JlF]
  | d + 1, m + 1, i, hd, hm => by
    have hi : i < t.length := by omega
    have hdr : t.drop i = t[i] :: t.drop (i + 1) := List.drop_eq_getElem_cons hi
    have ih := UgK n t h40 k0 k1 d m (i + 1) (by omega) (by omega)
    have e1 : (i : Int) + 1 = ((i + 1 : Nat) : Int) := by omega
    have e2 : Jc6 (bs t) (i : Int) = (t[i].toNat : Int) := JjZ hi
    rw [hdr, List.all_cons]
    simp only [Ub7, UeX]
    by_cases h : isD t[i] = true
    · have hc := Uaz.1 h
      rw [h, Bool.true_and, ← ih]
      simp (disch := (first | omega | (simp only [JlE]; omega))) only [↓JlH, JlF, e1, e2]
    · have hc : ¬ (48 ≤ t[i].toNat ∧ t[i].toNat ≤ 57) := fun q => h (Uaz.2 q)
      have hf : isD t[i] = false := by simpa using h
      rw [hf, Bool.false_and, if_neg (by simp)]
      by_cases h1 : t[i].toNat < 48
      · simp (disch := (first | omega | (simp only [JlE]; omega))) only [↓JlH, JlF, e1, e2]
      · simp (disch := (first | omega | (simp only [JlE]; omega))) only [↓JlH, JlF, e1, e2]
theorem Uji (n : Nat) (t : List UInt8) (ht : t.length < 2 ^ 40) (hn : t.length < n) (k0 : Bool → Option R) : Udv n (bs t) k0 = k0 (Ufo t) := by
  cases t with
  | nil => rfl
  | cons c r =>
    rw [List.length_cons] at ht hn
    unfold Udv
    by_cases h4 : 400 < r.length + 1
    · have e1 : Ufo (c :: r) = false := by
        unfold Ufo
        rw [List.length_cons, decide_eq_false (by omega)]; simp
      simp (disch := (first | omega | (simp only [JlE]; omega))) only [↓JlH, JlF, e1, List.length_cons]
    have e0 : Jc6 (bs (c :: r)) 0 = (c.toNat : Int) := rfl
    have hb := UxX c 48
    rw [show ((48 : UInt8).toNat : Int) = 48 from rfl] at hb
    by_cases hc : c = 48
    · have e1 : Ufo (c :: r) = false := by unfold Ufo; rw [hc]; simp
      have e2 : (c == 48) = true := by simpa using hc
      simp (disch := (first | omega | (simp only [JlE]; omega))) only [↓JlH, JlF, e1, List.length_cons, e0, hb, e2]
    · have e1 : Ufo (c :: r) = (c :: r).all isD := by
        have : ((c :: r : List UInt8).head? == some 48) = false := by simpa using hc
        unfold Ufo
        rw [List.length_cons, decide_eq_true (by omega), this]; simp
      have e2 : (c == 48) = false := by simpa using hc
      have hlp := fun k0 k1 => UgK (R := R) n (c :: r) (by rw [List.length_cons]; omega) k0 k1 (r.length + 1) n 0 (by rw [List.length_cons]) (by omega)
      rw [List.drop_zero, show ((0 : Nat) : Int) = 0 from rfl] at hlp
      rw [e1]
      simp (disch := (first | omega | (simp only [JlE]; omega))) only [↓JlH, JlF, List.length_cons, e0, hb, e2, Ukb, Ur9, hlp]
      cases (c :: r).all isD <;> rfl
theorem Ufb (n : Nat) (s : List UInt8) (hs : s.length < 2 ^ 40) (hn : s.length < n) (k0 : Bool → Option R) : UDo n (bs s) k0 = k0 (Ujl s) := by
  unfold UDo
  by_cases h0 : s = [48]
  · subst h0
    have e : Ujl [48] = true := rfl
    rw [e]; rfl
  · have e0 : (s == [48]) = false := by simpa using h0
    cases s with
    | nil => rfl
    | cons c r =>
      rw [List.length_cons] at hs hn
      have e1 : Jc6 (bs (c :: r)) 0 = (c.toNat : Int) := rfl
      have hb := UxX c 45
      rw [show ((45 : UInt8).toNat : Int) = 45 from rfl] at hb
      have e3 : List.drop (1 : Int).toNat (List.take (r.length + 1) (c :: r)) = r := by
        show List.drop 1 (c :: List.take r.length r) = r
        rw [List.take_length]; rfl
      by_cases hc : c = 45
      · have e2 : (c == 45) = true := by simpa using hc
        have hv := fun k0 => Uji (R := R) n r (by omega) (by omega) k0
        have hI : Ujl (c :: r) = Ufo r := by
          unfold Ujl; rw [Ubf, if_pos hc, ← Ulv]; simp
        rw [hI]
        simp (disch := (first | omega | (simp only [JlE]; omega))) only [↓JlH, JlF, List.length_cons, e0, e1, hb, e2, Jji, e3, hv]
      · have e2 : (c == 45) = false := by simpa using hc
        have hv := fun k0 => Uji (R := R) n (c :: r) (by rw [List.length_cons]; omega) (by rw [List.length_cons]; omega) k0
        have hI : Ujl (c :: r) = Ufo (c :: r) := by
          unfold Ujl; rw [Ubf, if_neg hc, ← Ulv, e0]; simp
        rw [hI]
        simp (disch := (first | omega | (simp only [JlE]; omega))) only [↓JlH, JlF, List.length_cons, e0, e1, hb, e2, hv]
def sl (l : List (List UInt8)) : List PV := l.map fun s => PV.v (.string (bs s))
theorem Uaj (l : List (List UInt8)) : (sl l).length = l.length := by unfold sl; rw [List.length_map]
end Go.Proofs.YtmgfmlhdnadglaaGreatDoor
set_option linter.unusedVariables false
set_option maxRecDepth 100000
namespace Go.Proofs.YtmgfmlhdnadglaaGreatDoor
open Go Th Go.Proofs
noncomputable section
variable {R : Type}
def Uw1 : Ann := { loops := [], cuts := [], frz := [], rm := [.id, .id, .id] }
abbrev UBR (n : Nat) : Env := eC 95 (UGh n) eN
theorem UpY (n : Nat) : EnvOK Tryz.prog GI (UBR n) := .cons (.nil) (UKN n)
def p54 (n : Nat) (x1 x2 : ByteArray) (k0 : Int → Int → Bool → O R) : O R :=
  p95 n x1 (fun y3 y4 => p95 n x2 (fun y5 y6 => bif y4 then (k0 y3 y5 (bif true then y6 else false)) else (k0 y3 y5 false)))
abbrev UMf (n : Nat) : Orc R := oN
abbrev ULz (n : Nat) : Orc R := oN
abbrev K54 (R : Type) (n : Nat) := JcH (R := R) Tryz.prog (UBR n) Uw1 n (27, []) (UMf n) (ULz n)
theorem UNS (n : Nat) : Je6 (K54 R n) (JaJ Uw1 (Jll Tryz.f54)) := pO pN (by kernel_rfl)
abbrev t54 : Sl (List SV) := (cS (cS .n))
abbrev f54 (n : Nat) (K : List SV → O R) : t54.T (O R) := fun x1 x2 => p54 n x1 x2 (fun y1 y2 y3 => K [vI y1, vI y2, vB y3])
abbrev UE0 (n : Nat) : FS := fT [false, false] t54 (f54 n)
theorem UHf (n : Nat) : FSound Tryz.prog GI 54 (UE0 n) := gd Uw1 n (UpY n) Tryz.func54 (.cons (UpY n) t54 (f54 n) (fun K _ _ => (Jkq (c := Jll Tryz.f54) (by kernel_rfl) (UNS n) K).trans (by kernel_rfl)) .nil) (by kernel_rfl)
end
end Go.Proofs.YtmgfmlhdnadglaaGreatDoor
set_option linter.unusedVariables false
set_option linter.unusedSimpArgs false
namespace Go.Proofs.YtmgfmlhdnadglaaGreatDoor
open Go Th Go.Proofs
variable {R : Type}
theorem Uf9 (n : Nat) (neg : Bool) (t : List UInt8) (ht : t.length ≤ 9) : ∀ (d m i acc : Nat), d + i = t.length → d < m → acc < 10 ^ i →
    (∀ c ∈ t.drop i, isD c = true) → ∀ (k0 : Int → Bool → Bool → Int → Option R) (k1 : Bool → Int → Option R), Ubw n m neg (bs t) acc t.length i k0 k1 = k1 neg ((acc * 10 ^ (t.length - i) + ofD (t.drop i) : Nat) : Int)
  | 0, m + 1, i, acc, hd, hm, ha, hs, k0, k1 => by
    rw [List.drop_eq_nil_of_le (by omega), show t.length - i = 0 from by omega, Nat.pow_zero, Nat.mul_one, show ofD [] = 0 from rfl, Nat.add_zero]
    simp only [Ubw, UdW]
    simp (disch := (first | omega | (simp only [JlE]; omega))) only [↓JlH, JlF]
    rfl
  | d + 1, m + 1, i, acc, hd, hm, ha, hs, k0, k1 => by
    have hi : i < t.length := by omega
    have hdr : t.drop i = t[i] :: t.drop (i + 1) := List.drop_eq_getElem_cons hi
    rw [hdr] at hs ⊢
    have hc := Uaz.1 (hs _ (List.mem_cons_self ..))
    have hp : (10 : Nat) ^ i ≤ 10 ^ 9 := Nat.pow_le_pow_right (by omega) (by omega)
    have ih := Uf9 n neg t ht d m (i + 1) (10 * acc + (t[i].toNat - 48)) (by omega) (by omega) (by rw [Nat.pow_succ]; omega) (fun c h => hs c (List.mem_cons_of_mem _ h)) k0 k1
    have e1 : (i : Int) + 1 = ((i + 1 : Nat) : Int) := by omega
    have e2 : Jc6 (bs t) (i : Int) = (t[i].toNat : Int) := JjZ hi
    have e4 : (t[i].toNat : Int) - 48 = ((t[i].toNat - 48 : Nat) : Int) := by omega
    have e5 : (10 : Int) * (acc : Int) + ((t[i].toNat - 48 : Nat) : Int) = ((10 * acc + (t[i].toNat - 48) : Nat) : Int) := by omega
    have hdl : (t.drop (i + 1)).length = t.length - (i + 1) := List.length_drop
    have e6 : acc * 10 ^ (t.length - i) + ofD (t[i] :: t.drop (i + 1)) = (10 * acc + (t[i].toNat - 48)) * 10 ^ (t.length - (i + 1)) + ofD (t.drop (i + 1)) := by
      have : ofD (t[i] :: t.drop (i + 1)) = (t[i].toNat - 48) * 10 ^ (t.length - (i + 1)) + ofD (t.drop (i + 1)) := by
        unfold ofD dg; rw [List.map_cons, UcK, List.length_map, hdl]
      rw [this, show t.length - i = (t.length - (i + 1)) + 1 from by omega, Nat.pow_succ]
      grind
    rw [e6, ← ih]
    simp only [Ubw, UdW]
    simp (disch := (first | omega | (simp only [JlE]; omega))) only [↓JlH, JlF, e1, e2, e4, e5, wu8]
theorem Ucs (n : Nat) (neg : Bool) (t : List UInt8) (ht : t.length ≤ 9) : ∀ (d m i acc : Nat), d + i = t.length → d < m → acc < 10 ^ i →
    ¬ (∀ c ∈ t.drop i, isD c = true) → ∃ y : Int, ∀ (k0 : Int → Bool → Bool → Int → Option R) (k1 : Bool → Int → Option R), Ubw n m neg (bs t) acc t.length i k0 k1 = k0 0 false neg y
  | 0, m + 1, i, acc, hd, hm, ha, hs => by
    rw [List.drop_eq_nil_of_le (by omega)] at hs
    exact absurd (fun c h => by cases h) hs
  | d + 1, m + 1, i, acc, hd, hm, ha, hs => by
    have hi : i < t.length := by omega
    have hdr : t.drop i = t[i] :: t.drop (i + 1) := List.drop_eq_getElem_cons hi
    rw [hdr] at hs
    have hp : (10 : Nat) ^ i ≤ 10 ^ 9 := Nat.pow_le_pow_right (by omega) (by omega)
    have e1 : (i : Int) + 1 = ((i + 1 : Nat) : Int) := by omega
    have e2 : Jc6 (bs t) (i : Int) = (t[i].toNat : Int) := JjZ hi
    by_cases h : isD t[i] = true
    · have hc := Uaz.1 h
      have hs' : ¬ ∀ c ∈ t.drop (i + 1), isD c = true := fun q => hs (by
        intro c hc
        rcases List.mem_cons.1 hc with rfl | hc
        · exact h
        · exact q c hc)
      obtain ⟨y, ih⟩ := Ucs n neg t ht d m (i + 1) (10 * acc + (t[i].toNat - 48)) (by omega) (by omega) (by rw [Nat.pow_succ]; omega) hs'
      refine ⟨y, fun k0 k1 => ?_⟩
      have e4 : (t[i].toNat : Int) - 48 = ((t[i].toNat - 48 : Nat) : Int) := by omega
      have e5 : (10 : Int) * (acc : Int) + ((t[i].toNat - 48 : Nat) : Int) = ((10 * acc + (t[i].toNat - 48) : Nat) : Int) := by omega
      rw [← ih k0 k1]
      simp only [Ubw, UdW]
      simp (disch := (first | omega | (simp only [JlE]; omega))) only [↓JlH, JlF, e1, e2, e4, e5, wu8]
    · have hc : ¬ (48 ≤ t[i].toNat ∧ t[i].toNat ≤ 57) := fun q => h (Uaz.2 q)
      refine ⟨acc, fun k0 k1 => ?_⟩
      simp only [Ubw, UdW]
      by_cases h1 : t[i].toNat < 48
      · simp (disch := (first | omega | (simp only [JlE]; omega))) only [↓JlH, JlF, e1, e2]
      · simp (disch := (first | omega | (simp only [JlE]; omega))) only [↓JlH, JlF, e1, e2]
theorem UsA (n : Nat) (hn : 20 ≤ n) (s t : List UInt8) (neg : Bool) (hsl : s.length < 2 ^ 40) (h0 : t ≠ []) (ht : t.length ≤ 9) (hd : ∀ c ∈ t, isD c = true) (hz : t.head? = some 48 → s.length ≤ 1) (k0 : Int → Bool → Option R) :
    Udc n (bs s) neg (bs t) k0 = k0 (zs neg (ofD t)) true := by
  have hlt := UrR hd
  have hp : (10 : Nat) ^ t.length ≤ 10 ^ 9 := Nat.pow_le_pow_right (by omega) ht
  have hlp := fun (k0 : Int → Bool → Bool → Int → Option R) (k1 : Bool → Int → Option R) => Uf9 (R := R) n neg t ht t.length n 0 0 (by omega) (by omega) (by simp) (by rw [List.drop_zero]; exact hd) k0 k1
  rw [Nat.zero_mul, List.drop_zero, Nat.zero_add, show ((0 : Nat) : Int) = 0 from rfl] at hlp
  cases t with
  | nil => exact absurd rfl h0
  | cons c r =>
    have e0 : ((c :: r) == ([] : List UInt8)) = false := rfl
    have e1 : Jc6 (bs (c :: r)) 0 = (c.toNat : Int) := rfl
    have hb := UxX c 48
    rw [show ((48 : UInt8).toNat : Int) = 48 from rfl] at hb
    rw [List.length_cons] at ht
    simp only [List.length_cons] at hlp
    generalize hv : ofD (c :: r) = v at *
    by_cases hc : c = 48
    · have e2 : (c == 48) = true := by simpa using hc
      have hs1 := hz (by rw [hc]; rfl)
      simp only [Udc, Uf7, UdV, UmX]
      cases neg
      · simp (disch := (first | omega | (simp only [JlE]; omega))) only [↓JlH, JlF, List.length_cons, e0, e1, hb, e2, hlp]
        rfl
      · simp (disch := (first | omega | (simp only [JlE]; omega))) only [↓JlH, JlF, List.length_cons, e0, e1, hb, e2, hlp, Int.zero_sub]
        rfl
    · have e2 : (c == 48) = false := by simpa using hc
      simp only [Udc, Uf7, UdV, UmX]
      cases neg
      · simp (disch := (first | omega | (simp only [JlE]; omega))) only [↓JlH, JlF, List.length_cons, e0, e1, hb, e2, hlp]
        rfl
      · simp (disch := (first | omega | (simp only [JlE]; omega))) only [↓JlH, JlF, List.length_cons, e0, e1, hb, e2, hlp, Int.zero_sub]
        rfl
theorem Unv (n : Nat) (hn : 20 ≤ n) (s t : List UInt8) (neg : Bool) (hsl : s.length < 2 ^ 40) (htl : t.length < 2 ^ 40) (h : ¬ (t ≠ [] ∧ t.length ≤ 9 ∧ (∀ c ∈ t, isD c = true) ∧ (t.head? = some 48 → s.length ≤ 1))) :
    ∀ k0 : Int → Bool → Option R, Udc n (bs s) neg (bs t) k0 = k0 0 false := by
  intro k0
  cases t with
  | nil => rfl
  | cons c r =>
    have e0 : ((c :: r) == ([] : List UInt8)) = false := rfl
    have e1 : Jc6 (bs (c :: r)) 0 = (c.toNat : Int) := rfl
    have hb := UxX c 48
    rw [show ((48 : UInt8).toNat : Int) = 48 from rfl] at hb
    rw [List.length_cons] at htl
    simp only [Udc, Uf7, UdV, UmX]
    by_cases h9 : 9 < r.length + 1
    · simp (disch := (first | omega | (simp only [JlE]; omega))) only [↓JlH, JlF, List.length_cons, e0]
    · by_cases hd : ∀ x ∈ c :: r, isD x = true
      · have hs : c = 48 ∧ 1 < s.length := by
          by_cases hc : c = 48
          · refine ⟨hc, ?_⟩
            apply Nat.lt_of_not_le
            intro q
            exact h ⟨by simp, by rw [List.length_cons]; omega, hd, fun _ => q⟩
          · exact absurd ⟨by simp, by rw [List.length_cons]; omega, hd, fun q => absurd (by simpa using q) hc⟩ h
        have e2 : (c == 48) = true := by simpa using hs.1
        have hs1 := hs.2
        simp (disch := (first | omega | (simp only [JlE]; omega))) only [↓JlH, JlF, List.length_cons, e0, e1, hb, e2]
      · obtain ⟨y, hlp⟩ := Ucs (R := R) n neg (c :: r) (by rw [List.length_cons]; omega) (r.length + 1) n 0 0 (by rw [List.length_cons]) (by omega) (by simp) (by rw [List.drop_zero]; exact hd)
        rw [show ((0 : Nat) : Int) = 0 from rfl] at hlp
        simp only [List.length_cons] at hlp
        by_cases hc : c = 48
        · have e2 : (c == 48) = true := by simpa using hc
          by_cases hs1 : 1 < s.length
          · simp (disch := (first | omega | (simp only [JlE]; omega))) only [↓JlH, JlF, List.length_cons, e0, e1, hb, e2]
          · simp (disch := (first | omega | (simp only [JlE]; omega))) only [↓JlH, JlF, List.length_cons, e0, e1, hb, e2, hlp]
        · have e2 : (c == 48) = false := by simpa using hc
          simp (disch := (first | omega | (simp only [JlE]; omega))) only [↓JlH, JlF, List.length_cons, e0, e1, hb, e2, hlp]
theorem UfJ (n : Nat) (s : List UInt8) (hs : s.length < 2 ^ 40) (k0 : Int → Bool → Option R) : p95 n (bs s) k0 = Udc n (bs s) (UbX s).1 (bs (UbX s).2) k0 := by
  unfold p95
  cases s with
  | nil => rfl
  | cons c r =>
    rw [List.length_cons] at hs
    have e0 : ((c :: r) == ([] : List UInt8)) = false := rfl
    have e1 : Jc6 (bs (c :: r)) 0 = (c.toNat : Int) := rfl
    have hb := UxX c 45
    rw [show ((45 : UInt8).toNat : Int) = 45 from rfl] at hb
    have e3 : List.drop (1 : Int).toNat (List.take (r.length + 1) (c :: r)) = r := by
      show List.drop 1 (c :: List.take r.length r) = r
      rw [List.take_length]; rfl
    rw [Ubf]
    by_cases hc : c = 45
    · have e2 : (c == 45) = true := by simpa using hc
      rw [if_pos hc]
      simp (disch := (first | omega | (simp only [JlE]; omega))) only [↓JlH, JlF, List.length_cons, e0, e1, hb, e2, Ui2, Jji, e3]
    · have e2 : (c == 45) = false := by simpa using hc
      rw [if_neg hc]
      simp (disch := (first | omega | (simp only [JlE]; omega))) only [↓JlH, JlF, List.length_cons, e0, e1, hb, e2, Ui2]
theorem Ue7 (n : Nat) (hn : 20 ≤ n) (v : Int) (hv : v.natAbs < 10 ^ 9) (k0 : Int → Bool → Option R) : p95 n (bs (Lib.itoa v)) k0 = k0 v true := by
  have hl := (Ubn v.natAbs 9 (by omega)).2 hv
  have hin := Udo (Lib.itoa v)
  rw [Uav] at hin
  have hls : (Lib.itoa v).length ≤ 10 := by
    rw [hin, List.length_append]
    split <;> simp <;> omega
  rw [UfJ n _ (by omega), Uav, UsA n hn _ _ _ (by omega) (UoY _) hl (Ua2 _) ?_, Ucy, UbW]
  intro h48
  rcases Uls v.natAbs with h | h
  · exact absurd h48 h
  · by_cases hv0 : v < 0
    · exfalso
      have h1 := Ua2 v.natAbs
      cases hd : dec v.natAbs with
      | nil => exact UoY _ hd
      | cons c r =>
        rw [hd] at h48 h
        simp at h48 h
        have : dec v.natAbs = dec 0 := by rw [hd, h48, h, Uao]
        have := Ucv this
        omega
    · rw [hin, decide_eq_false hv0]
      simp only [Bool.false_eq_true, if_false, List.nil_append]
      omega
theorem Ui5 (n : Nat) (hn : 20 ≤ n) (s : List UInt8) (hs : s.length < 2 ^ 40) (h : ¬ ∃ v : Int, v.natAbs < 10 ^ 9 ∧ s = Lib.itoa v) (k0 : Int → Bool → Option R) : p95 n (bs s) k0 = k0 0 false := by
  have hl := Ulr s
  rw [UfJ n s hs]
  refine Unv n hn s _ _ hs (by omega) ?_ k0
  rintro ⟨h1, h2, h3, h4⟩
  apply h
  have hin := Udo s
  have hd : dec (ofD (UbX s).2) = (UbX s).2 := UoZ h3 h1 (by
    by_cases hz : (UbX s).2.head? = some 48
    · right
      have := h4 hz
      have := List.length_pos_iff.2 h1
      omega
    · exact Or.inl hz)
  have hlt : ofD (UbX s).2 < 10 ^ 9 := (Ubn _ 9 (by omega)).1 (by rw [hd]; exact h2)
  refine ⟨zs (UbX s).1 (ofD (UbX s).2), by rw [Uax]; exact hlt, ?_⟩
  by_cases h0 : ofD (UbX s).2 = 0
  · have e : (UbX s).1 = false := by
      cases hb : (UbX s).1 with
      | false => rfl
      | true =>
        exfalso
        rw [h0, Uao] at hd
        have h5 := h4 (by rw [← hd]; rfl)
        rw [hb, ← hd] at hin
        rw [hin] at h5
        simp at h5
    rw [h0, e]
    rw [e, ← hd, h0] at hin
    rw [hin]
    exact (UbY 0).symm
  · rw [Uhi _ h0, hd]; exact hin
end Go.Proofs.YtmgfmlhdnadglaaGreatDoor
set_option linter.unusedVariables false
set_option maxRecDepth 100000
namespace Go.Proofs.YtmgfmlhdnadglaaGreatDoor
open Go Th Go.Proofs
noncomputable section
variable {R : Type}
def Ubd : Ann := { loops := [(3, ids [0, 2, 4, 5], ids [0, 2, 3, 4])], cuts := [(4, ids [0, 2, 4, 5], ids [0, 2, 3, 4, 5]), (11, ids [0, 2, 6, 7], ids [2, 3]), (13, ids [0, 2, 6, 7], ids [2, 3])], frz := [], rm := [.id, .id] }
abbrev Uo8 (n : Nat) : Env := eC 136 (UCG n) (eC 125 (UyT n) (eC 123 (UrC n) (eC 77 (UCW n) (eC 73 (UGb n) eN))))
theorem UlJ (n : Nat) : EnvOK Tryz.prog GI (Uo8 n) := .cons (.cons (.cons (.cons (.cons (.nil) (UKH n)) (UFg n)) (UtN n)) (UDd n)) (UG1 n)
def Ufx (n : Nat) (x1 : ByteArray) (x2 x3 : Bool) (x4 x5 : Int) (k0 : ByteArray → Bool → Bool → Int → Int → O R) : O R :=
  k0 x1 x2 x3 x4 (IntKind.i64.wrap (x5 + 1))
def UeP (n : Nat) (l0 : ByteArray → Bool → Bool → Int → Int → O R) (x1 : ByteArray) (x2 x3 : Bool) (x4 x5 : Int) (k0 : ByteArray → Bool → Bool → Int → O R) : O R :=
  bif (decide (x5 < ((x1).size : Int))) then (bif (inR x5 (x1).size) then (bif (Jc6 x1 x5 == 47) then (bif (bif true then (x4 == ((x1).size : Int)) else false) then (Ufx n x1 x2 x3 x5 x5 (fun y6 y7 y8 y9 y10 => l0 y6 y7 y8 y9 y10)) else (Ufx n x1 x2 x3 x4 x5 (fun y11 y12 y13 y14 y15 => l0 y11 y12 y13 y14 y15))) else (Ufx n x1 x2 x3 x4 x5 (fun y16 y17 y18 y19 y20 => l0 y16 y17 y18 y19 y20))) else none) else (k0 x1 x2 x3 x4)
def Ub1 (n : Nat) : Nat → ByteArray → Bool → Bool → Int → Int → (ByteArray → Bool → Bool → Int → O R) → O R
  | 0, _, _, _, _, _, _ => none
  | m + 1, x1, x2, x3, x4, x5, k0 => UeP n (fun x1 x2 x3 x4 x5 => Ub1 n m x1 x2 x3 x4 x5 k0) x1 x2 x3 x4 x5 k0
def Ur1 (n : Nat) (x1 : ByteArray) (x2 x3 : Bool) (x4 x5 : Int) (k0 : ByteArray → Bool → Bool → Int → O R) : O R := Ub1 n n x1 x2 x3 x4 x5 k0
def UeO (n : Nat) (x1 : ByteArray) (x2 x3 : Bool) (x4 x5 : ByteArray) (k0 : Bool → LP → Bool → LP → Bool → O R) : O R :=
  Uv8 n x5 (fun y6 y7 => p77 n y6 y7 (fun y8 => bif y8 then (k0 false [] false [] false) else (Uv8 n x4 (fun y9 y10 => Uv8 n x5 (fun y11 y12 => Uv7 n y9 y10 y11 y12 (fun y13 y14 y15 y16 => p73 n y13 y14 y15 y16 (fun y17 => k0 y13 y14 y15 y16 (eqS y17 x1))))))))
def UaT (n : Nat) (x1 : ByteArray) (x2 x3 : Bool) (x4 x5 : ByteArray) (k0 : Bool → LP → Bool → LP → Bool → O R) : O R :=
  UDo n x4 (fun y6 => bif (!y6) then (k0 false [] false [] false) else (UDo n x5 (fun y7 => bif (bif false then true else (!y7)) then (k0 false [] false [] false) else (UeO n x1 x2 x3 x4 x5 (fun y8 y9 y10 y11 y12 => k0 y8 y9 y10 y11 y12)))))
def Uv5 (n : Nat) (x1 : ByteArray) (k0 : Bool → LP → Bool → LP → Bool → O R) : O R :=
  Ur1 n x1 false false ((x1).size : Int) 0 (fun y2 y3 y4 y5 => bif (Je5 0 y5 (y2).size) then (bif (decide (y5 < ((y2).size : Int))) then (bif (Je5 (IntKind.i64.wrap (y5 + 1)) ((y2).size : Int) (y2).size) then (UaT n y2 y3 y4 (ByteArray.extract y2 (0 : Int).toNat (y5 : Int).toNat) (ByteArray.extract y2 (IntKind.i64.wrap (y5 + 1) : Int).toNat (((y2).size : Int) : Int).toNat) (fun y6 y7 y8 y9 y10 => k0 y6 y7 y8 y9 y10)) else none) else (UaT n y2 y3 y4 (ByteArray.extract y2 (0 : Int).toNat (y5 : Int).toNat) ⟨#[49]⟩ (fun y11 y12 y13 y14 y15 => k0 y11 y12 y13 y14 y15))) else none)
abbrev UEN (n : Nat) : Code → Fr → Kc R → O R := evC Tryz.prog (Uo8 n) Ubd n (62, [])
noncomputable def Un6 : Code := Jj4 (Jll Tryz.f109) [1, 1, 0, 1, 0, 0, 1, 1]
abbrev Ukv : Sl (List SV) := (cS (.c (sBx 57 (cB (.c sNl (cB (.c sNl .n))))) (cI (cI .n))))
abbrev UqD (n : Nat) (K : Kc R) : Ukv.T (O R) := fun x1 x2 x3 x4 x5 => Ufx n x1 x2 x3 x4 x5 (fun y1 y2 y3 y4 y5 => xC Ubd 4 K .normal [vS y1, .bx 57 [vB y2, .nl, vB y3, .nl], dD, vI y4, vI y5])
noncomputable def Uk4 : Code := Jj4 (Jll Tryz.f109) [1, 1, 1, 1, 1, 1]
abbrev Uii : Sl (List SV) := (cS (.c (sBx 57 (cB (.c sNl (cB (.c sNl .n))))) (cS (cS .n))))
abbrev Umf (n : Nat) (K : Kc R) : Uii.T (O R) := fun x1 x2 x3 x4 x5 => UaT n x1 x2 x3 x4 x5 (fun y1 y2 y3 y4 y5 => xC Ubd 11 K .ret [.bx 57 [vB y1, vH y2, vB y3, vH y4], vB y5])
noncomputable def Uk5 : Code := Jj4 (Jll Tryz.f109) [1, 1, 1, 1, 1, 1, 1]
abbrev Uij : Sl (List SV) := (cS (.c (sBx 57 (cB (.c sNl (cB (.c sNl .n))))) (cS (cS .n))))
abbrev Umg (n : Nat) (K : Kc R) : Uij.T (O R) := fun x1 x2 x3 x4 x5 => UeO n x1 x2 x3 x4 x5 (fun y1 y2 y3 y4 y5 => xC Ubd 13 K .ret [.bx 57 [vB y1, vH y2, vB y3, vH y4], vB y5])
noncomputable def Un7 : Code := Jj4 (Jll Tryz.f109) [1, 1, 0, 1, 0, 0]
abbrev Ud6 : Sl (List SV) := (cS (.c (sBx 57 (cB (.c sNl (cB (.c sNl .n))))) (cI (cI .n))))
abbrev UjJ (n m : Nat) (K : Kc R) : Ud6.T (O R) := fun x1 x2 x3 x4 x5 => Ub1 n m x1 x2 x3 x4 x5 (fun y1 y2 y3 y4 => xL Ubd 3 K (.exit 0) [vS y1, .bx 57 [vB y2, .nl, vB y3, .nl], dD, vI y4])
abbrev Uxv (n : Nat) (K : Kc R) (l0 : Ud6.T (O R)) : Ud6.T (O R) := fun x1 x2 x3 x4 x5 => UeP n l0 x1 x2 x3 x4 x5 (fun y1 y2 y3 y4 => xL Ubd 3 K (.exit 0) [vS y1, .bx 57 [vB y2, .nl, vB y3, .nl], dD, vI y4])
abbrev UrJ (n : Nat) : Orc R := oL Ubd (UEN n) n 3 Un7 Ud6 (UjJ n n) oN
abbrev UoW (n : Nat) : Orc R := oC Ubd (UEN n) 13 Uk5 Uij (Umg n) (oC Ubd (UEN n) 11 Uk4 Uii (Umf n) (oC Ubd (UEN n) 4 Un6 Ukv (UqD n) oN))
abbrev UAN (R : Type) (n : Nat) := JcH (R := R) Tryz.prog (Uo8 n) Ubd n (62, []) (UrJ n) (UoW n)
theorem Uzs (n : Nat) : UAN R n (true, 4, Un6) := JkW (lo := UrJ n) (cu := UoW n) (pO pN (by kernel_rfl)) Ukv (UqD n) (fun K _ _ _ _ _ => by show _ = _; kernel_rfl) fun _ _ => rfl
theorem Uzt (n : Nat) : UAN R n (false, 3, Un7) := JkF (lo := UrJ n) (cu := UoW n) (pO (pC (Uzs n) pN) (by kernel_rfl)) Ud6 (UjJ n n) (JiE (F := UjJ n) Ud6 (Uxv n) (fun K _ _ _ _ _ => rfl) (fun _ _ => rfl) (fun L K _ _ _ _ _ => by show _ = _; kernel_rfl) n) fun _ _ => rfl
theorem UtZ (n : Nat) : UAN R n (true, 13, Uk5) := JkW (lo := UrJ n) (cu := UoW n) (pO pN (by kernel_rfl)) Uij (Umg n) (fun K _ _ _ _ _ => by show _ = _; kernel_rfl) fun _ _ => rfl
theorem UtY (n : Nat) : UAN R n (true, 11, Uk4) := JkW (lo := UrJ n) (cu := UoW n) (pO (pC (UtZ n) pN) (by kernel_rfl)) Uii (Umf n) (fun K _ _ _ _ _ => by show _ = _; kernel_rfl) fun _ _ => rfl
theorem UHC (n : Nat) : Je6 (UAN R n) (JaJ Ubd (Jll Tryz.f109)) := pO (pC (Uzt n) (pC (UtY n) pN)) (by kernel_rfl)
abbrev t109 : Sl (List SV) := (cS .n)
abbrev f109 (n : Nat) (K : List SV → O R) : t109.T (O R) := fun x1 => Uv5 n x1 (fun y1 y2 y3 y4 y5 => K [.p (.agg [.v (.bool y1), .sh y2, .v (.bool y3), .sh y4]), vB y5])
abbrev UyP (n : Nat) : FS := fT [false] t109 (f109 n)
theorem UD (n : Nat) : FSound Tryz.prog GI 109 (UyP n) := gd Ubd n (UlJ n) Tryz.func109 (.cons (UlJ n) t109 (f109 n) (fun K _ => (Jkq (c := Jll Tryz.f109) (by kernel_rfl) (UHC n) K).trans (by kernel_rfl)) .nil) (by kernel_rfl)
end
end Go.Proofs.YtmgfmlhdnadglaaGreatDoor
set_option linter.unusedVariables false
set_option linter.unusedSimpArgs false
namespace Go.Proofs.YtmgfmlhdnadglaaGreatDoor
open Go Th Go.Proofs
variable {R : Type}
theorem UvZ {a : Nat} (h : a < 10 ^ 400) : ll a ≤ 400 := Udt.2 h
theorem Uaq {n : Nat} (hn : 10 ^ 400 ≤ n) : 200000 ≤ n := Nat.le_trans (by decide +kernel) hn
theorem Uvj (z w : Int) (hw : w ≠ 0) : (Rat.divInt z w).den ≤ w.natAbs := by
  rw [UcT, UmJ _ _ _ (by omega)]; exact Nat.div_le_self _ _
theorem Uv4 (z w : Int) (hw : w ≠ 0) : (Rat.divInt z w).num.natAbs ≤ z.natAbs := by
  rw [UcT, UmK _ _ _ (by omega), Uax]; exact Nat.div_le_self _ _
def idx (s : List UInt8) : Nat := (s.takeWhile (· != 47)).length
theorem UyZ : idx [] = 0 := rfl
theorem UaK (c : UInt8) (r : List UInt8) : idx (c :: r) = if c = 47 then 0 else idx r + 1 := by
  unfold idx
  rw [List.takeWhile_cons]
  by_cases h : c = 47 <;> simp [h]
theorem UrG : ∀ (s : List UInt8), idx s ≤ s.length
  | [] => Nat.le_refl _
  | c :: r => by
    have := UrG r
    rw [UaK, List.length_cons]
    split <;> omega
theorem UmE : ∀ {s : List UInt8}, (∀ c ∈ s, c ≠ 47) → idx s = s.length
  | [], _ => rfl
  | c :: r, h => by rw [UaK, if_neg (h c (List.mem_cons_self ..)), UmE fun x hx => h x (List.mem_cons_of_mem _ hx), List.length_cons]
theorem UvU : ∀ {a : List UInt8} (b : List UInt8), (∀ c ∈ a, c ≠ 47) → idx (a ++ 47 :: b) = a.length
  | [], b, _ => by rw [List.nil_append, UaK, if_pos rfl]; rfl
  | c :: r, b, h => by rw [List.cons_append, UaK, if_neg (h c (List.mem_cons_self ..)), UvU b fun x hx => h x (List.mem_cons_of_mem _ hx), List.length_cons]
theorem UiV : ∀ {s : List UInt8}, idx s < s.length → s = s.take (idx s) ++ 47 :: s.drop (idx s + 1)
  | [], h => by simp [UyZ] at h
  | c :: r, h => by
    rw [UaK, List.length_cons] at *
    by_cases hc : c = 47
    · rw [if_pos hc] at *; rw [hc]; rfl
    · rw [if_neg hc] at *
      have ih := UiV (s := r) (by omega)
      rw [List.take_succ_cons, List.drop_succ_cons, List.cons_append, ← ih]
theorem UcW : ∀ (s : List UInt8), Lib.indexByte s 47 = if idx s < s.length then (idx s : Int) else -1
  | [] => rfl
  | c :: r => by
    have ih := UcW r
    simp only [Lib.indexByte, UaK, List.length_cons]
    by_cases hc : c = 47
    · subst hc; simp
    · rw [if_neg (by simpa using hc), ih, if_neg hc]
      by_cases h : idx r < r.length
      · simp only [if_pos h]
        rw [if_neg (by simp), if_pos (by omega)]; omega
      · simp only [if_neg h]
        rw [if_pos (by decide), if_neg (by omega)]
theorem Uvi (n : Nat) (s : List UInt8) (hs : s.length < 2 ^ 40) (k0 : ByteArray → ByteArray → Bool → Option R) :
    p96 n (bs s) k0 = if idx s < s.length then k0 (bs (s.take (idx s))) (bs (s.drop (idx s + 1))) true else k0 (bs s) (bs []) false := by
  unfold p96 UHp
  have e : ((⟨#[47]⟩ : ByteArray).data.toList.headD 0) = 47 := rfl
  have hz : (⟨#[47]⟩ : ByteArray).size = 1 := rfl
  rw [Jg7, e, UcW]
  by_cases h : idx s < s.length
  · rw [if_pos h, if_pos h]
    have e1 : (idx s : Int) + ((1 : Nat) : Int) = ((idx s + 1 : Nat) : Int) := by omega
    have e2 : List.drop (0 : Int).toNat (List.take (idx s) s) = s.take (idx s) := rfl
    have e3 : List.drop 0 (List.take (idx s) s) = s.take (idx s) := rfl
    have e4 : List.drop (idx s + 1) (List.take s.length s) = s.drop (idx s + 1) := by rw [List.take_length]
    have hz2 : (bs [47]).size = 1 := rfl
    simp (disch := (first | omega | (simp only [JlE]; omega))) only [↓JlH, JlF, hz, hz2, e1, Jji, e2, e3, e4, List.length_nil]
  · rw [if_neg h, if_neg h]
    simp (disch := (first | omega | (simp only [JlE]; omega))) only [↓JlH, JlF]
theorem UtJ (a : Nat) : ∀ c ∈ dec a, c ≠ 47 := by
  intro c hc h
  have := Uaz.1 (Ua2 a c hc)
  rw [h] at this
  exact absurd this.1 (by decide)
theorem UiW (z : Int) : ∀ c ∈ Lib.itoa z, c ≠ 47 := by
  have h := Udo (Lib.itoa z)
  rw [Uav] at h
  rw [h]
  intro c hc
  rcases List.mem_append.1 hc with h1 | h1
  · split at h1
    · rw [List.mem_singleton.1 h1]; decide
    · cases h1
  · exact UtJ _ c h1
theorem UeI {z : Int} (h : z.natAbs < 10 ^ 400) : (Lib.itoa z).length ≤ 401 := by
  have h1 := Udp h
  have h2 := Udo (Lib.itoa z)
  rw [Uav] at h2
  rw [h2, List.length_append]
  split <;> simp <;> omega
theorem UaW {q : Rat} (h : fits q) : (Uag q).length ≤ 802 := by
  unfold Uag
  have h1 := UeI h.1
  have h2 := Udp h.2
  rw [List.length_append]
  split <;> simp <;> omega
theorem UjA : dec 1 = [49] := Ua3 (by omega)
theorem Uch (q : Rat) : (Uag q).take (idx (Uag q)) = Lib.itoa q.num ∧ (idx (Uag q) < (Uag q).length ↔ q.den ≠ 1) ∧ (q.den ≠ 1 → (Uag q).drop (idx (Uag q) + 1) = dec q.den) := by
  unfold Uag
  by_cases h : q.den = 1
  · rw [if_pos h, List.append_nil, UmE (UiW _), List.take_length]
    exact ⟨rfl, by simp [h], fun q => absurd h q⟩
  · rw [if_neg h, UvU _ (UiW _), List.take_left]
    refine ⟨rfl, by simp [h], fun _ => ?_⟩
    rw [List.drop_append, List.drop_of_length_le (by omega), show (Lib.itoa q.num).length + 1 - (Lib.itoa q.num).length = 1 from by omega]
    rfl
theorem Uic {p q : Rat} (h : Uag p = Uag q) : p = q := by
  obtain ⟨a1, a2, a3⟩ := Uch p
  obtain ⟨b1, b2, b3⟩ := Uch q
  rw [h] at a1 a2 a3
  have hn : Lib.itoa p.num = Lib.itoa q.num := a1.symm.trans b1
  have hc := congrArg UbX hn
  rw [Uav, Uav] at hc
  have h1 := Ucv (Prod.mk.inj hc).2
  have h2 : (p.num < 0) = (q.num < 0) := by simpa using (Prod.mk.inj hc).1
  have hnum : p.num = q.num := by
    have : p.num < 0 ↔ q.num < 0 := by rw [h2]
    omega
  by_cases hd : q.den = 1
  · have : p.den = 1 := by
      apply Classical.byContradiction
      intro hp
      exact (b2.1 (a2.2 hp)) hd
    exact Rat.ext hnum (this.trans hd.symm)
  · have hp : p.den ≠ 1 := a2.1 (b2.2 hd)
    exact Rat.ext hnum (Ucv ((a3 hp).symm.trans (b3 hd)))
def isQ (s : List UInt8) : Prop := ∃ q : Rat, fits q ∧ s = Uag q
theorem UrF (n : Nat) (z w : Nat) (hz : z < 10 ^ 400) (hw : w < 10 ^ 400) (hw0 : w ≠ 0) (hn : 10 ^ 400 ≤ n) (x1 x3 : Bool) (x5 : List PV) (k0 : Bool → List PV → List PV → Bool → Option R) :
    UhQ n x1 (bs (dec w)) x3 (NN z) x5 k0 = k0 x3 (NN z) (NN w) (Nat.gcd w z == 1) := by
  have hN := Nat.le_trans (by decide +kernel : 2 ^ 20 ≤ 10 ^ 400) hn
  have m1 := UaA hz
  have m2 := UaA hw
  have lw := Udp hw
  have q2 := fun k0 => Uh9 (R := R) n (dec w) (Ua2 _) (by omega) (by omega) k0
  rw [Ucy] at q2
  have hg := fun k0 => UvQ (R := R) n z w (by omega) (by omega) (by omega) (by omega) (by omega) k0
  obtain ⟨g, hge⟩ : ∃ g, Nat.gcd w z = g := ⟨_, rfl⟩
  have hg0 : g ≠ 0 := by rw [← hge]; intro e; exact hw0 (Nat.gcd_eq_zero_iff.1 e).1
  rw [hge] at hg ⊢
  have hgl : (toL 1000000000 g).length ≤ 45 := UbM m2 (by rw [← hge]; exact Nat.le_of_dvd (by omega) (Nat.gcd_dvd_left _ _))
  unfold UhQ
  clear hz hw hn
  simp only [q2, hg, Uux]
  by_cases c : (toL 1000000000 g).length = 1
  · have hg1 : g < 1000000000 := by
      have := (Uah hB2 g 1).1 (by omega)
      rwa [Nat.pow_one] at this
    have hgi : ∀ (K : Int → Option R), Jj .u32 ((NN g).getD (0 : Int).toNat (PV.v (Value.bool false))) K = K (g : Int) := fun K => by rw [UgL hg0 hg1]; rfl
    have e1 : (((toL 1000000000 g).length : Int) == 1) = true := by rw [c]; rfl
    have e2 : ((g : Int) == 1) = (g == 1) := JdC g 1
    simp (disch := (first | omega | (simp only [JlE]; omega))) only [↓JlH, JlF, JlG, e1, hgi, e2]
  · have e1 : (((toL 1000000000 g).length : Int) == 1) = false := by
      simp only [beq_eq_false_iff_ne, ne_eq]; omega
    have e2 : (g == 1) = false := by
      simp only [beq_eq_false_iff_ne, ne_eq]
      intro e
      rw [e, Ueq hB2 (by omega) (by omega)] at c
      exact c rfl
    rw [e2]
    simp (disch := (first | omega | (simp only [JlE]; omega))) only [↓JlH, JlF, JlG, e1]
theorem Ujy (q : Rat) : Nat.gcd q.den q.num.natAbs = 1 := by rw [Nat.gcd_comm]; exact q.reduced
theorem UtA {s : List UInt8} : eqS (bs s) (⟨#[48]⟩ : ByteArray) = (s == [48]) := rfl
theorem UyK {s : List UInt8} : eqS (bs s) (⟨#[49]⟩ : ByteArray) = (s == [49]) := rfl
theorem UrI (z : Int) (w : Nat) (hz : z.natAbs < 10 ^ 400) (hw : w < 10 ^ 400) (h0 : w ≠ 0) (hc : Nat.gcd w z.natAbs = 1) : ∃ q : Rat, fits q ∧ q.num = z ∧ q.den = w :=
  ⟨⟨z, w, h0, by rw [Nat.gcd_comm] at hc; exact hc⟩, ⟨hz, hw⟩, rfl, rfl⟩
theorem UcD (n : Nat) (hn : 10 ^ 400 ≤ n) (q : Rat) (hq : fits q) (k0 : Bool → List PV → List PV → Bool → Option R) :
    p56 n (bs (Uag q)) k0 = k0 (sg q.num) (NN q.num.natAbs) (NN q.den) true := by
  have hN := Nat.le_trans (by decide +kernel : 2 ^ 20 ≤ 10 ^ 400) hn
  have hl := UaW hq
  obtain ⟨a1, a2, a3⟩ := Uch q
  have c1 := fun k0 => Uvi (R := R) n (Uag q) (by omega) k0
  have li := UeI hq.1
  have i1 := fun k0 => Udr (R := R) n (Lib.itoa q.num) (by omega) k0
  rw [Uav, Uft hq.1] at i1
  have ln := Udp hq.1
  have q1 := fun k0 => Uh9 (R := R) n (dec q.num.natAbs) (Ua2 _) (by omega) (by omega) k0
  rw [Ucy] at q1
  unfold p56
  by_cases hd : q.den = 1
  · have e1 : Uag q = Lib.itoa q.num := by unfold Uag; rw [if_pos hd, List.append_nil]
    simp only [if_neg (fun h => a2.1 h hd)] at c1
    rw [e1] at c1 ⊢
    simp only [c1, i1, q1, Bool.not_true, Bool.not_false, UaP, Uak]
    rw [hd, UAP]
  · simp only [if_pos (a2.2 hd), a1, a3 hd] at c1
    have d1 := fun k0 => Ufn (R := R) n (dec q.den) (by have := Udp hq.2; omega) k0
    rw [Ulw hq.2] at d1
    have g1 := fun x1 x3 x5 k0 => UrF (R := R) n q.num.natAbs q.den hq.1 hq.2 q.den_nz hn x1 x3 x5 k0
    rw [Ujy] at g1
    have e48 : (dec q.den == [48]) = false := by
      simp only [beq_eq_false_iff_ne, ne_eq]
      intro e; exact q.den_nz (Ucv (e.trans Uao.symm))
    have e49 : (dec q.den == [49]) = false := by
      simp only [beq_eq_false_iff_ne, ne_eq]
      intro e; exact hd (Ucv (e.trans UjA.symm))
    simp only [c1, i1, q1, d1, UtA, UyK, e48, e49, g1, Bool.not_true, Bool.not_false, UaP, Uak, show ((1 : Nat) == 1) = true from rfl]
theorem UAj (n : Nat) (hn : 10 ^ 400 ≤ n) (s : List UInt8) (hs : s.length < 2 ^ 20) :
    isQ s ∨ ∃ a b c, ∀ k0 : Bool → List PV → List PV → Bool → Option R, p56 n (bs s) k0 = k0 a b c false := by
  have hN := Nat.le_trans (by decide +kernel : 2 ^ 20 ≤ 10 ^ 400) hn
  have c1 := fun k0 => Uvi (R := R) n s (by omega) k0
  by_cases hsl : idx s < s.length
  · simp only [if_pos hsl] at c1
    have hspl := UiV hsl
    have lt : (s.take (idx s)).length < 2 ^ 20 := by rw [List.length_take]; omega
    have lb : (s.drop (idx s + 1)).length < 2 ^ 20 := by rw [List.length_drop]; omega
    generalize s.take (idx s) = t at *
    generalize s.drop (idx s + 1) = b at *
    have i1 := fun k0 => Udr (R := R) n t (by omega) k0
    have d1 := fun k0 => Ufn (R := R) n b (by omega) k0
    cases hI : Ujl t with
    | false =>
      rw [hI] at i1
      exact Or.inr ⟨false, [], [], fun k0 => by unfold p56; simp only [c1, i1, Bool.not_false, UaP]⟩
    | true =>
      rw [hI] at i1
      obtain ⟨z, hz, rfl⟩ := UeH hI
      rw [Uav] at i1
      have ln := Udp hz
      have q1 := fun k0 => Uh9 (R := R) n (dec z.natAbs) (Ua2 _) (by omega) (by omega) k0
      rw [Ucy] at q1
      cases hD : UiH b with
      | false =>
        rw [hD] at d1
        exact Or.inr ⟨false, [], [], fun k0 => by unfold p56; simp only [c1, i1, q1, d1, Bool.not_true, Bool.not_false, UaP, Uak]⟩
      | true =>
        rw [hD] at d1
        obtain ⟨hw, hb⟩ := Ulx hD
        by_cases h48 : b = [48]
        · have e48 : (b == [48]) = true := by simpa using h48
          exact Or.inr ⟨false, [], [], fun k0 => by unfold p56; simp only [c1, i1, q1, d1, UtA, e48, Bool.not_true, Bool.not_false, UaP, Uak]⟩
        have e48 : (b == [48]) = false := by simpa using h48
        by_cases h49 : b = [49]
        · have e49 : (b == [49]) = true := by simpa using h49
          exact Or.inr ⟨false, [], [], fun k0 => by unfold p56; simp only [c1, i1, q1, d1, UtA, UyK, e48, e49, Bool.not_true, Bool.not_false, UaP, Uak]⟩
        have e49 : (b == [49]) = false := by simpa using h49
        have hw0 : ofD b ≠ 0 := fun e => h48 (by rw [hb, e, Uao])
        have hw1 : ofD b ≠ 1 := fun e => h49 (by rw [hb, e, UjA])
        have g1 := fun x1 x3 x5 k0 => UrF (R := R) n z.natAbs (ofD b) hz hw hw0 hn x1 x3 x5 k0
        rw [← hb] at g1
        by_cases hg : Nat.gcd (ofD b) z.natAbs = 1
        · obtain ⟨q, f1, f2, f3⟩ := UrI z (ofD b) hz hw hw0 hg
          refine Or.inl ⟨q, f1, ?_⟩
          unfold Uag
          rw [f2, f3, if_neg hw1, ← hb]
          exact hspl
        · rw [show (Nat.gcd (ofD b) z.natAbs == 1) = false from by simpa using hg] at g1
          exact Or.inr ⟨decide (z < 0), NN z.natAbs, NN (ofD b), fun k0 => by unfold p56; simp only [c1, i1, q1, d1, UtA, UyK, e48, e49, g1, Bool.not_true, Bool.not_false, UaP, Uak]⟩
  · simp only [if_neg hsl] at c1
    have i1 := fun k0 => Udr (R := R) n s (by omega) k0
    cases hI : Ujl s with
    | false =>
      rw [hI] at i1
      exact Or.inr ⟨false, [], [], fun k0 => by unfold p56; simp only [c1, i1, Bool.not_false, UaP]⟩
    | true =>
      obtain ⟨z, hz, rfl⟩ := UeH hI
      obtain ⟨q, f1, f2, f3⟩ := UrI z 1 hz (by decide +kernel) (by omega) (Nat.gcd_one_left _)
      refine Or.inl ⟨q, f1, ?_⟩
      unfold Uag
      rw [f2, f3, if_pos rfl, List.append_nil]
theorem Uul (n : Nat) (hn : 10 ^ 400 ≤ n) (s : List UInt8) (hs : s.length < 2 ^ 20) (h : ¬ isQ s) : ∃ a b c, ∀ k0 : Bool → List PV → List PV → Bool → Option R, p56 n (bs s) k0 = k0 a b c false :=
  (UAj n hn s hs).resolve_left h
theorem Uaw (v : Int) : Lib.itoa v = Uag (v : Rat) := by
  unfold Uag
  rw [Rat.num_intCast, Rat.den_intCast, if_pos rfl, List.append_nil]
theorem Uhg {v : Int} (h : v.natAbs < 10 ^ 400) : fits (v : Rat) := by
  unfold fits
  rw [Rat.num_intCast, Rat.den_intCast]
  exact ⟨h, by decide +kernel⟩
theorem UnF (n : Nat) (hn : 10 ^ 400 ≤ n) (s : List UInt8) (hs : s.length < 2 ^ 20) (k0 : Bool → Option R) [Decidable (isQ s)] : p53 n (bs s) k0 = k0 (decide (isQ s)) := by
  have hN := Nat.le_trans (by decide +kernel : 2 ^ 20 ≤ 10 ^ 400) hn
  unfold p53
  by_cases hv : ∃ v : Int, v.natAbs < 10 ^ 9 ∧ s = Lib.itoa v
  · obtain ⟨v, h1, rfl⟩ := hv
    have hq : isQ (Lib.itoa v) := ⟨(v : Rat), Uhg (Nat.lt_trans h1 (by decide +kernel)), Uaw v⟩
    rw [Ue7 n (by omega) v h1, decide_eq_true hq]; rfl
  · rw [Ui5 n (by omega) s (by omega) hv, Uak]
    by_cases hq : isQ s
    · obtain ⟨q, h1, rfl⟩ := hq
      rw [UcD n hn q h1, decide_eq_true ⟨q, h1, rfl⟩]
    · obtain ⟨a, b, c, h⟩ := Uul (R := R) n hn s hs hq
      rw [h, decide_eq_false hq]
theorem UvW : ∀ {s : List UInt8} {i : Nat} (h : i < s.length), i < idx s → s[i] ≠ 47
  | c :: r, 0, _, h => by
    rw [UaK] at h
    intro e
    rw [if_pos (by simpa using e)] at h
    omega
  | c :: r, i + 1, hl, h => by
    rw [UaK] at h
    by_cases hc : c = 47
    · rw [if_pos hc] at h; omega
    · rw [if_neg hc] at h
      rw [List.getElem_cons_succ]
      exact UvW (by simpa using hl) (by omega)
theorem UvV : ∀ {s : List UInt8} (h : idx s < s.length), s[idx s] = 47
  | c :: r, h => by
    by_cases hc : c = 47
    · simp [UaK, hc]
    · have e : idx (c :: r) = idx r + 1 := by rw [UaK, if_neg hc]
      have h2 : idx r < r.length := by rw [e, List.length_cons] at h; omega
      simp only [e, List.getElem_cons_succ]
      exact UvV h2
theorem Uge (n : Nat) (s : List UInt8) (hs : s.length < 2 ^ 40) (x2 x3 : Bool) (k0 : ByteArray → Bool → Bool → Int → Option R) : ∀ (d m i : Nat), d + i = s.length → d < m →
    Ub1 n m (bs s) x2 x3 ((if idx s < i then idx s else s.length : Nat) : Int) i k0 = k0 (bs s) x2 x3 (idx s : Int)
  | 0, m + 1, i, hd, hm => by
    have h1 := UrG s
    have e : (if idx s < i then idx s else s.length) = idx s := by split <;> omega
    rw [e]
    simp only [Ub1, UeP]
    simp (disch := (first | omega | (simp only [JlE]; omega))) only [↓JlH, JlF]
  | d + 1, m + 1, i, hd, hm => by
    have hi : i < s.length := by omega
    have ih := Uge n s hs x2 x3 k0 d m (i + 1) (by omega) (by omega)
    have e1 : (i : Int) + 1 = ((i + 1 : Nat) : Int) := by omega
    have e2 : Jc6 (bs s) (i : Int) = (s[i].toNat : Int) := JjZ hi
    have hb := UxX s[i] 47
    rw [show ((47 : UInt8).toNat : Int) = 47 from rfl] at hb
    simp only [Ub1, UeP, Ufx]
    by_cases h1 : idx s < i
    · rw [if_pos (by omega)] at ih
      rw [if_pos h1]
      have e3 : ((idx s : Int) == (s.length : Int)) = false := by rw [JdC]; simp only [beq_eq_false_iff_ne, ne_eq]; omega
      cases hc : (s[i] == 47)
      · rw [hc] at hb
        simp (disch := (first | omega | (simp only [JlE]; omega))) only [↓JlH, JlF, e1, e2, hb, ih]
      · rw [hc] at hb
        simp (disch := (first | omega | (simp only [JlE]; omega))) only [↓JlH, JlF, e1, e2, hb, e3, ih]
    · rw [if_neg h1]
      have e3 : ((s.length : Int) == (s.length : Int)) = true := by simp
      by_cases h2 : idx s = i
      · subst h2
        have hc2 : (s[idx s] == 47) = true := by simpa using UvV hi
        rw [hc2] at hb
        rw [if_pos (by omega)] at ih
        simp (disch := (first | omega | (simp only [JlE]; omega))) only [↓JlH, JlF, e1, e2, hb, e3, ih]
      · have hc2 : (s[i] == 47) = false := by
          have := UvW hi (by omega)
          simpa using this
        rw [hc2] at hb
        rw [if_neg (by omega)] at ih
        simp (disch := (first | omega | (simp only [JlE]; omega))) only [↓JlH, JlF, e1, e2, hb, ih]
theorem UfL (n : Nat) (s : List UInt8) (hs : s.length < 2 ^ 40) (hn : s.length < n) (k0 : Bool → List PV → Bool → List PV → Bool → Option R) :
    Uv5 n (bs s) k0 = UaT n (bs s) false false (bs (s.take (idx s))) (bs (if idx s < s.length then s.drop (idx s + 1) else [49])) k0 := by
  have hl := fun k0 => Uge (R := R) n s hs false false k0 s.length n 0 (by omega) hn
  simp only [Nat.not_lt_zero, if_false] at hl
  rw [show ((0 : Nat) : Int) = 0 from rfl] at hl
  have h1 := UrG s
  have e2 : List.drop (0 : Int).toNat (List.take (idx s) s) = s.take (idx s) := rfl
  have e3 : List.drop 0 (List.take (idx s) s) = s.take (idx s) := rfl
  have e4 : List.drop (idx s + 1) (List.take s.length s) = s.drop (idx s + 1) := by rw [List.take_length]
  have e5 : (idx s : Int) + 1 = ((idx s + 1 : Nat) : Int) := by omega
  unfold Uv5 Ur1
  by_cases h : idx s < s.length
  · rw [if_pos h]
    simp (disch := (first | omega | (simp only [JlE]; omega))) only [↓JlH, JlF, hl, Jji, e2, e3, e4, e5]
  · rw [if_neg h]
    simp (disch := (first | omega | (simp only [JlE]; omega))) only [↓JlH, JlF, hl, Jji, e2, e3, e4, e5]
theorem Ugb (n : Nat) (hn : 10 ^ 400 ≤ n) (s : List UInt8) (z : Int) (w : Int) (hz : z.natAbs < 10 ^ 400) (hw : w.natAbs < 10 ^ 400) (hw0 : w ≠ 0) (x2 x3 : Bool) (k0 : Bool → List PV → Bool → List PV → Bool → Option R) :
    UaT n (bs s) x2 x3 (bs (Lib.itoa z)) (bs (Lib.itoa w)) k0 = k0 (sg (Rat.divInt z w).num) (II (Rat.divInt z w).num.natAbs) false (II (Rat.divInt z w).den) (Uag (Rat.divInt z w) == s) := by
  have hN := Uaq hn
  have l1 := UvZ hz
  have l2 := UvZ hw
  have wn : w.natAbs < n := Nat.lt_of_lt_of_le hw hn
  have li := UeI hz
  have lw := UeI hw
  have v1 := fun k => Ufb (R := R) n (Lib.itoa z) (by omega) (by omega) k
  have v2 := fun k => Ufb (R := R) n (Lib.itoa w) (by omega) (by omega) k
  rw [Uft hz] at v1
  rw [Uft hw] at v2
  have o1 := fun k => UtL (R := R) n z (by omega) hN k
  have o2 := fun k => UtL (R := R) n w (by omega) hN k
  have n1 := fun k => UrQ (R := R) n z w hw0 (by omega) (by omega) hN wn k
  have t1 := fun k => Ui6 (R := R) n (Rat.divInt z w) (Nat.le_trans (Ua5 (Uv4 z w hw0)) (by omega)) (Nat.le_trans (Ua5 (Uvj z w hw0)) (by omega)) hN k
  have e1 : (((ll w.natAbs : Nat) : Int) == 0) = false := by
    rw [Jk0]; simp only [beq_eq_false_iff_ne, ne_eq, Ucr]; omega
  simp only [UaT, UeO, v1, v2, o1, o2, p77, Uas, e1, n1, t1, Ji7, Bool.not_true, Uak]
theorem Um3 (n : Nat) (hn : 10 ^ 400 ≤ n) (q : Rat) (hq : fits q) (k0 : Bool → List PV → Bool → List PV → Bool → Option R) :
    Uv5 n (bs (Uag q)) k0 = k0 (sg q.num) (II q.num.natAbs) false (II q.den) true := by
  have hN := Uaq hn
  have hl := UaW hq
  obtain ⟨a1, a2, a3⟩ := Uch q
  have e : (if idx (Uag q) < (Uag q).length then (Uag q).drop (idx (Uag q) + 1) else [49]) = Lib.itoa (q.den : Int) := by
    rw [UbY]
    by_cases hd : q.den = 1
    · rw [if_neg (fun h => a2.1 h hd), hd, UjA]
    · rw [if_pos (a2.2 hd), a3 hd]
  have hd := q.den_nz
  rw [UfL n _ (by omega) (by omega), e, a1, Ugb n hn (Uag q) q.num q.den hq.1 (by rw [Int.natAbs_natCast]; exact hq.2) (by omega), Rat.num_divInt_den]
  rw [show (Uag q == Uag q) = true from by simp]
theorem Uuo (n : Nat) (hn : 10 ^ 400 ≤ n) (s : List UInt8) (hs : s.length < 2 ^ 17) :
    isQ s ∨ ∃ a b c d, ∀ k0 : Bool → List PV → Bool → List PV → Bool → Option R, Uv5 n (bs s) k0 = k0 a b c d false := by
  have hN := Uaq hn
  have sp := fun k0 => UfL (R := R) n s (by omega) (by omega) k0
  have lt : (s.take (idx s)).length < 2 ^ 17 := by rw [List.length_take]; omega
  have lb : (if idx s < s.length then s.drop (idx s + 1) else [49]).length < 2 ^ 17 := by
    split
    · rw [List.length_drop]; omega
    · simp
  have hspl : s.take (idx s) = s.take (idx s) := rfl
  generalize s.take (idx s) = t at *
  generalize (if idx s < s.length then s.drop (idx s + 1) else [49]) = b at *
  have v1 := fun k => Ufb (R := R) n t (by omega) (by omega) k
  have v2 := fun k => Ufb (R := R) n b (by omega) (by omega) k
  cases hI : Ujl t with
  | false =>
    rw [hI] at v1
    exact Or.inr ⟨false, [], false, [], fun k0 => by rw [sp]; simp only [UaT, v1, Bool.not_false, UaP]⟩
  | true =>
    rw [hI] at v1
    cases hJ : Ujl b with
    | false =>
      rw [hJ] at v2
      exact Or.inr ⟨false, [], false, [], fun k0 => by rw [sp]; simp only [UaT, v1, v2, Bool.not_false, Bool.not_true, UaP, Uak]⟩
    | true =>
      rw [hJ] at v2
      obtain ⟨z, hz, rfl⟩ := UeH hI
      obtain ⟨w, hw, rfl⟩ := UeH hJ
      by_cases hw0 : w = 0
      · subst hw0
        have o2 := fun k => UtL (R := R) n 0 (by rw [show (0 : Int).natAbs = 0 from rfl, Ubq]; omega) hN k
        have e1 : (((ll (0 : Int).natAbs : Nat) : Int) == 0) = true := by rw [show (0 : Int).natAbs = 0 from rfl, Ubq]; rfl
        exact Or.inr ⟨false, [], false, [], fun k0 => by rw [sp]; simp only [UaT, UeO, v1, v2, o2, p77, Uas, e1, Bool.not_false, Bool.not_true, UaP, Uak]⟩
      · have hc := fun k0 => Ugb (R := R) n hn s z w hz hw hw0 false false k0
        by_cases he : Uag (Rat.divInt z w) = s
        · exact Or.inl ⟨Rat.divInt z w, ⟨Nat.lt_of_le_of_lt (Uv4 z w hw0) hz, Nat.lt_of_le_of_lt (Uvj z w hw0) hw⟩, he.symm⟩
        · have e2 : (Uag (Rat.divInt z w) == s) = false := by simpa using he
          rw [e2] at hc
          exact Or.inr ⟨_, _, _, _, fun k0 => by rw [sp, hc]⟩
theorem UsG (n : Nat) (hn : 10 ^ 400 ≤ n) (s : List UInt8) (hs : s.length < 2 ^ 17) (h : ¬ isQ s) : ∃ a b c d, ∀ k0 : Bool → List PV → Bool → List PV → Bool → Option R, Uv5 n (bs s) k0 = k0 a b c d false :=
  (Uuo n hn s hs).resolve_left h
end Go.Proofs.YtmgfmlhdnadglaaGreatDoor
set_option linter.unusedVariables false
set_option maxRecDepth 100000
namespace Go.Proofs.YtmgfmlhdnadglaaGreatDoor
open Go Th Go.Proofs
noncomputable section
variable {R : Type}
def UgX : Ann := { loops := [(2, ids [5, 6, 7], ids [2])], cuts := [], frz := [], rm := [.id] }
abbrev UyA (n : Nat) : Env := eC 53 (UyY n) eN
theorem Up8 (n : Nat) : EnvOK Tryz.prog GI (UyA n) := .cons (.nil) (UAD n)
def UhV (n : Nat) (l0 : LP → Int → Int → O R) (x1 : LP) (x2 x3 : Int) (k0 : Bool → O R) (k1 : O R) : O R :=
  bif (decide (x3 < x2)) then (bif (inR x3 ((x1).length)) then (Jj3 ((x1).getD ((x3 : Int).toNat) (.v (.bool false))) fun e4 => p53 n e4 (fun y5 => bif (!y5) then (k0 false) else (l0 x1 x2 (IntKind.i64.wrap (x3 + 1))))) else none) else (k1)
def UdN (n : Nat) : Nat → LP → Int → Int → (Bool → O R) → (O R) → O R
  | 0, _, _, _, _, _ => none
  | m + 1, x1, x2, x3, k0, k1 => UhV n (fun x1 x2 x3 => UdN n m x1 x2 x3 k0 k1) x1 x2 x3 k0 k1
def Uwr (n : Nat) (x1 : LP) (x2 x3 : Int) (k0 : Bool → O R) (k1 : O R) : O R := UdN n n x1 x2 x3 k0 k1
def p66 (n : Nat) (x1 : LP) (k0 : Bool → O R) : O R :=
  Uwr n x1 ((x1).length : Int) 0 (fun y2 => k0 y2) (k0 true)
abbrev E66 (n : Nat) : Code → Fr → Kc R → O R := evC Tryz.prog (UyA n) UgX n (15, [])
noncomputable def Uu3 : Code := Jj4 (Jll Tryz.f66) [1, 0, 1, 0, 0]
abbrev UgA : Sl (List SV) := (cH (cI (cI .n)))
abbrev Urm (n m : Nat) (K : Kc R) : UgA.T (O R) := fun x1 x2 x3 => UdN n m x1 x2 x3 (fun y1 => xL UgX 2 K .ret [vB y1]) (xL UgX 2 K (.exit 0) [dD])
abbrev UBb (n : Nat) (K : Kc R) (l0 : UgA.T (O R)) : UgA.T (O R) := fun x1 x2 x3 => UhV n l0 x1 x2 x3 (fun y1 => xL UgX 2 K .ret [vB y1]) (xL UgX 2 K (.exit 0) [dD])
abbrev UKn (n : Nat) : Orc R := oL UgX (E66 n) n 2 Uu3 UgA (Urm n n) oN
abbrev UJc (n : Nat) : Orc R := oN
abbrev K66 (R : Type) (n : Nat) := JcH (R := R) Tryz.prog (UyA n) UgX n (15, []) (UKn n) (UJc n)
theorem UEb (n : Nat) : K66 R n (false, 2, Uu3) := JkF (lo := UKn n) (cu := UJc n) (pO pN (by kernel_rfl)) UgA (Urm n n) (JiE (F := Urm n) UgA (UBb n) (fun K _ _ _ => rfl) (fun _ _ => rfl) (fun L K _ _ _ => by show _ = _; kernel_rfl) n) fun _ _ => rfl
theorem UN2 (n : Nat) : Je6 (K66 R n) (JaJ UgX (Jll Tryz.f66)) := pO (pC (UEb n) pN) (by kernel_rfl)
abbrev t66 : Sl (List SV) := (cH .n)
abbrev f66 (n : Nat) (K : List SV → O R) : t66.T (O R) := fun x1 => p66 n x1 (fun y1 => K [vB y1])
abbrev UG (n : Nat) : FS := fT [false] t66 (f66 n)
theorem UKF (n : Nat) : FSound Tryz.prog GI 66 (UG n) := gd UgX n (Up8 n) Tryz.func66 (.cons (Up8 n) t66 (f66 n) (fun K _ => (Jkq (c := Jll Tryz.f66) (by kernel_rfl) (UN2 n) K).trans (by kernel_rfl)) .nil) (by kernel_rfl)
def Uxg : Ann := { loops := [], cuts := [], frz := [], rm := [.id] }
abbrev UB7 (n : Nat) : Env := eC 109 (UyP n) eN
theorem Uqp (n : Nat) : EnvOK Tryz.prog GI (UB7 n) := .cons (.nil) (UD n)
def p84 (n : Nat) (x1 : ByteArray) (k0 : Bool → O R) : O R :=
  Uv5 n x1 (fun y2 y3 y4 y5 y6 => k0 y6)
abbrev UMv (n : Nat) : Orc R := oN
abbrev ULP (n : Nat) : Orc R := oN
abbrev K84 (R : Type) (n : Nat) := JcH (R := R) Tryz.prog (UB7 n) Uxg n (11, []) (UMv n) (ULP n)
theorem UOi (n : Nat) : Je6 (K84 R n) (JaJ Uxg (Jll Tryz.f84)) := pO pN (by kernel_rfl)
abbrev t84 : Sl (List SV) := (cS .n)
abbrev f84 (n : Nat) (K : List SV → O R) : t84.T (O R) := fun x1 => p84 n x1 (fun y1 => K [vB y1])
abbrev UE4 (n : Nat) : FS := fT [false] t84 (f84 n)
theorem UHj (n : Nat) : FSound Tryz.prog GI 84 (UE4 n) := gd Uxg n (Uqp n) Tryz.func84 (.cons (Uqp n) t84 (f84 n) (fun K _ => (Jkq (c := Jll Tryz.f84) (by kernel_rfl) (UOi n) K).trans (by kernel_rfl)) .nil) (by kernel_rfl)
def UgU : Ann := { loops := [(2, ids [0, 3], ids [2])], cuts := [], frz := [], rm := [.id] }
abbrev Uyr (n : Nat) : Env := eC 84 (UE4 n) eN
theorem UpQ (n : Nat) : EnvOK Tryz.prog GI (Uyr n) := .cons (.nil) (UHj n)
def UhM (n : Nat) (l0 : LP → Int → O R) (x1 : LP) (x2 : Int) (k0 : Bool → O R) (k1 : O R) : O R :=
  bif (decide (x2 < ((x1).length : Int))) then (bif (inR x2 ((x1).length)) then (Jj3 ((x1).getD ((x2 : Int).toNat) (.v (.bool false))) fun e3 => p84 n e3 (fun y4 => bif (!y4) then (k0 false) else (l0 x1 (IntKind.i64.wrap (x2 + 1))))) else none) else (k1)
def UdH (n : Nat) : Nat → LP → Int → (Bool → O R) → (O R) → O R
  | 0, _, _, _, _ => none
  | m + 1, x1, x2, k0, k1 => UhM n (fun x1 x2 => UdH n m x1 x2 k0 k1) x1 x2 k0 k1
def Uwl (n : Nat) (x1 : LP) (x2 : Int) (k0 : Bool → O R) (k1 : O R) : O R := UdH n n x1 x2 k0 k1
def p41 (n : Nat) (x1 : LP) (k0 : Bool → O R) : O R :=
  Uwl n x1 0 (fun y2 => k0 y2) (k0 true)
abbrev E41 (n : Nat) : Code → Fr → Kc R → O R := evC Tryz.prog (Uyr n) UgU n (16, [])
noncomputable def UuU : Code := Jj4 (Jll Tryz.f41) [1, 0, 1, 0, 0]
abbrev Ugr : Sl (List SV) := (cH (cI .n))
abbrev Ura (n m : Nat) (K : Kc R) : Ugr.T (O R) := fun x1 x2 => UdH n m x1 x2 (fun y1 => xL UgU 2 K .ret [vB y1]) (xL UgU 2 K (.exit 0) [dD])
abbrev UA3 (n : Nat) (K : Kc R) (l0 : Ugr.T (O R)) : Ugr.T (O R) := fun x1 x2 => UhM n l0 x1 x2 (fun y1 => xL UgU 2 K .ret [vB y1]) (xL UgU 2 K (.exit 0) [dD])
abbrev UKj (n : Nat) : Orc R := oL UgU (E41 n) n 2 UuU Ugr (Ura n n) oN
abbrev UI9 (n : Nat) : Orc R := oN
abbrev K41 (R : Type) (n : Nat) := JcH (R := R) Tryz.prog (Uyr n) UgU n (16, []) (UKj n) (UI9 n)
theorem UD2 (n : Nat) : K41 R n (false, 2, UuU) := JkF (lo := UKj n) (cu := UI9 n) (pO pN (by kernel_rfl)) Ugr (Ura n n) (JiE (F := Ura n) Ugr (UA3 n) (fun K _ _ => rfl) (fun _ _ => rfl) (fun L K _ _ => by show _ = _; kernel_rfl) n) fun _ _ => rfl
theorem UNK (n : Nat) : Je6 (K41 R n) (JaJ UgU (Jll Tryz.f41)) := pO (pC (UD2 n) pN) (by kernel_rfl)
abbrev t41 : Sl (List SV) := (cH .n)
abbrev f41 (n : Nat) (K : List SV → O R) : t41.T (O R) := fun x1 => p41 n x1 (fun y1 => K [vB y1])
abbrev UJN (n : Nat) : FS := fT [false] t41 (f41 n)
theorem UMV (n : Nat) : FSound Tryz.prog GI 41 (UJN n) := gd UgU n (UpQ n) Tryz.func41 (.cons (UpQ n) t41 (f41 n) (fun K _ => (Jkq (c := Jll Tryz.f41) (by kernel_rfl) (UNK n) K).trans (by kernel_rfl)) .nil) (by kernel_rfl)
end
end Go.Proofs.YtmgfmlhdnadglaaGreatDoor
set_option linter.unusedVariables false
set_option linter.unusedSimpArgs false
namespace Go.Proofs.YtmgfmlhdnadglaaGreatDoor
open Go Th Go.Proofs
variable {R : Type}
theorem UeG {α β : Type} (f : α → β) {l : List α} {i : Nat} {d : β} (h : i < l.length) : (l.map f).getD i d = f l[i] := by
  rw [List.getD_eq_getElem?_getD, List.getElem?_map, List.getElem?_eq_getElem h]; rfl
abbrev TermT := Int × List UInt8
def tPV (t : TermT) : PV := .agg [.v (.int .i64 t.1), .v (.string (bs t.2))]
def tms (l : List TermT) : List PV := l.map tPV
theorem Ua (l : List TermT) : (tms l).length = l.length := by unfold tms; rw [List.length_map]
theorem Uat {l : List TermT} {i : Nat} {d : PV} (h : i < l.length) (K : Int → ByteArray → Option R) :
    (Jh2 ((tms l).getD i d) fun a => JdT a fun h1 t1 => Jj .i64 h1 fun e1 => JdT t1 fun h2 t2 => Jj3 h2 fun e2 => Ji2 t2 (K e1 e2)) = K (l[i]).1 (bs (l[i]).2) := by
  unfold tms; rw [UeG tPV h]; rfl
structure RowT where
  tm : List TermT
  c : List UInt8
  eq : Bool
  mark : Int
def rPV (r : RowT) : PV := .agg [.sh (tms r.tm), .v (.string (bs r.c)), .v (.bool r.eq), .v (.int .i64 r.mark)]
def rws (l : List RowT) : List PV := l.map rPV
theorem Uab (l : List RowT) : (rws l).length = l.length := by unfold rws; rw [List.length_map]
theorem UaH {l : List RowT} {i : Nat} {d : PV} (h : i < l.length) (K : List PV → ByteArray → Bool → Int → Option R) :
    (Jh2 ((rws l).getD i d) fun a => JdT a fun h1 t1 => Jkr h1 fun e1 => JdT t1 fun h2 t2 => Jj3 h2 fun e2 => JdT t2 fun h3 t3 => Jj2 h3 fun e3 => JdT t3 fun h4 t4 => Jj .i64 h4 fun e4 => Ji2 t4 (K e1 e2 e3 e4)) =
      K (tms (l[i]).tm) (bs (l[i]).c) (l[i]).eq (l[i]).mark := by
  unfold rws; rw [UeG rPV h]; rfl
def qPV (q : Rat) : PV := .agg [.v (.bool (sg q.num)), .sh (II q.num.natAbs), .v (.bool false), .sh (II q.den)]
def qs (l : List Rat) : List PV := l.map qPV
theorem UaE (l : List Rat) : (qs l).length = l.length := by unfold qs; rw [List.length_map]
theorem UdY {l : List Rat} {i : Nat} {d : PV} (h : i < l.length) (K : Bool → List PV → Bool → List PV → Option R) :
    (Jh2 ((qs l).getD i d) fun a => JdT a fun h1 t1 => Jj2 h1 fun e1 => JdT t1 fun h2 t2 => Jkr h2 fun e2 => JdT t2 fun h3 t3 => Jj2 h3 fun e3 => JdT t3 fun h4 t4 => Jkr h4 fun e4 => Ji2 t4 (K e1 e2 e3 e4)) =
      K (sg (l[i]).num) (II (l[i]).num.natAbs) false (II (l[i]).den) := by
  unfold qs; rw [UeG qPV h]; rfl
theorem UmZ (l : List Rat) (i : Nat) (q : Rat) : (qs l).set i (.agg [.v (.bool (sg q.num)), .sh (II q.num.natAbs), .v (.bool false), .sh (II q.den)]) = qs (l.set i q) := by
  unfold qs; rw [List.map_set]; rfl
theorem UEs (l : List Rat) (q : Rat) : qs l ++ [.agg [.v (.bool (sg q.num)), .sh (II q.num.natAbs), .v (.bool false), .sh (II q.den)]] = qs (l ++ [q]) := by
  unfold qs; rw [List.map_append]; rfl
theorem UbS {l : List (List UInt8)} {i : Nat} {d : PV} (h : i < l.length) (K : ByteArray → Option R) : Jj3 ((sl l).getD i d) K = K (bs l[i]) := by
  unfold sl; rw [UeG _ h]; rfl
theorem Ua4 {α : Type} {l : List α} {i : Nat} (h : i < l.length) : l.drop i = l[i] :: l.drop (i + 1) := List.drop_eq_getElem_cons h
theorem Uan {α : Type} {l : List α} {ok : α → Bool} {kbad kend : Option R} (L : Nat → Nat → Option R) (hend : ∀ m, L (m + 1) l.length = kend)
    (hstep : ∀ m i (h : i < l.length), L (m + 1) i = if ok l[i] then L m (i + 1) else kbad) : ∀ (d m i : Nat), d + i = l.length → d < m → L m i = if (l.drop i).all ok then kend else kbad
  | 0, m + 1, i, hd, hm => by
    have : i = l.length := by omega
    subst this
    rw [hend, List.drop_length]; rfl
  | d + 1, m + 1, i, hd, hm => by
    have hi : i < l.length := by omega
    rw [hstep m i hi, Uan L hend hstep d m (i + 1) (by omega) (by omega), Ua4 hi, List.all_cons]
    cases ok l[i] <;> simp
def UwB {α σ : Type} (step : σ → α → (σ → Option R) → Option R) (kend : σ → Option R) : σ → List α → Option R
  | s, [] => kend s
  | s, a :: l => step s a fun s' => UwB step kend s' l
theorem UfM {α σ : Type} {l : List α} {step : σ → α → (σ → Option R) → Option R} {kend : σ → Option R} (L : Nat → σ → Nat → Option R) (hend : ∀ m s, L (m + 1) s l.length = kend s)
    (hstep : ∀ m s i (h : i < l.length), L (m + 1) s i = step s l[i] fun s' => L m s' (i + 1)) : ∀ (d m i : Nat) (s : σ), d + i = l.length → d < m → L m s i = UwB step kend s (l.drop i)
  | 0, m + 1, i, s, hd, hm => by
    have : i = l.length := by omega
    subst this
    rw [hend, List.drop_length]; rfl
  | d + 1, m + 1, i, s, hd, hm => by
    have hi : i < l.length := by omega
    rw [hstep m s i hi, Ua4 hi]
    show step s l[i] _ = step s l[i] _
    congr 1
    funext s'
    exact UfM L hend hstep d m (i + 1) s' (by omega) (by omega)
theorem Ujt {a b : List UInt8} (h : a = b) : (a == b) = true := by rw [h]; exact beq_self_eq_true b
theorem UiL {a b : List UInt8} (h : ¬ a = b) : (a == b) = false := by rw [Bool.eq_false_iff]; intro q; exact h (eq_of_beq q)
theorem i1 (i : Nat) : (i : Int) + 1 = ((i + 1 : Nat) : Int) := by omega
noncomputable def qb (s : List UInt8) : Bool := @decide (isQ s) (Classical.propDecidable _)
theorem UEr {s : List UInt8} : qb s = true ↔ isQ s := by unfold qb; exact @decide_eq_true_iff _ (Classical.propDecidable _)
theorem Ues (n : Nat) (hn : 10 ^ 400 ≤ n) (s : List UInt8) (hs : s.length < 2 ^ 17) (k0 : Bool → Option R) : p53 n (bs s) k0 = k0 (qb s) := @UnF R n hn s (Nat.lt_trans hs (by decide)) k0 (Classical.propDecidable _)
theorem Ude (n : Nat) (hn : 10 ^ 400 ≤ n) (s : List UInt8) (hs : s.length < 2 ^ 17) (k0 : Bool → Option R) : p84 n (bs s) k0 = k0 (qb s) := by
  unfold p84
  cases h : qb s with
  | true =>
    obtain ⟨q, h1, rfl⟩ := UEr.1 h
    rw [Um3 n hn q h1]
  | false =>
    obtain ⟨a, b, c, d, h2⟩ := UsG (R := R) n hn s hs (fun q => by rw [UEr.2 q] at h; cases h)
    rw [h2]
noncomputable def Uuy (l : List (List UInt8)) : Bool := l.all qb
def smS (l : List (List UInt8)) : Prop := l.length < 2 ^ 17 ∧ ∀ s ∈ l, s.length < 2 ^ 17
theorem Uns (n : Nat) (hn : 10 ^ 400 ≤ n) (l : List (List UInt8)) (hl : smS l) (k0 : Bool → Option R) : p66 n (sl l) k0 = k0 (Uuy l) := by
  have hN := Uaq hn
  have hL := hl.1
  unfold p66 Uwr
  have h := Uan (R := R) (l := l) (ok := qb) (kbad := k0 false) (kend := k0 true) (fun m i => UdN n m (sl l) ((sl l).length : Int) (i : Int) k0 (k0 true))
    (fun m => by simp only [UdN, UhV]; simp (disch := (first | omega | (simp only [JlE]; omega))) only [↓JlH, JlF, Uaj])
    (fun m i hi => by
      have hv := fun k => Ues (R := R) n hn l[i] (hl.2 _ (List.getElem_mem hi)) k
      simp only [UdN, UhV]
      simp (disch := (first | omega | (simp only [JlE]; omega))) only [↓JlH, JlF, Uaj, Jji, UbS hi, hv, i1]
      cases qb l[i] <;> rfl) l.length n 0 (by omega) (by omega)
  rw [List.drop_zero] at h
  refine Eq.trans h ?_
  unfold Uuy
  cases l.all qb <;> rfl
theorem Ukr (n : Nat) (hn : 10 ^ 400 ≤ n) (l : List (List UInt8)) (hl : smS l) (k0 : Bool → Option R) : p41 n (sl l) k0 = k0 (Uuy l) := by
  have hN := Uaq hn
  have hL := hl.1
  unfold p41 Uwl
  have h := Uan (R := R) (l := l) (ok := qb) (kbad := k0 false) (kend := k0 true) (fun m i => UdH n m (sl l) (i : Int) k0 (k0 true))
    (fun m => by simp only [UdH, UhM]; simp (disch := (first | omega | (simp only [JlE]; omega))) only [↓JlH, JlF, Uaj])
    (fun m i hi => by
      have hv := fun k => Ude (R := R) n hn l[i] (hl.2 _ (List.getElem_mem hi)) k
      simp only [UdH, UhM]
      simp (disch := (first | omega | (simp only [JlE]; omega))) only [↓JlH, JlF, Uaj, Jji, UbS hi, hv, i1]
      cases qb l[i] <;> rfl) l.length n 0 (by omega) (by omega)
  rw [List.drop_zero] at h
  refine Eq.trans h ?_
  unfold Uuy
  cases l.all qb <;> rfl
end Go.Proofs.YtmgfmlhdnadglaaGreatDoor
set_option linter.unusedVariables false
set_option maxRecDepth 100000
namespace Go.Proofs.YtmgfmlhdnadglaaGreatDoor
open Go Th Go.Proofs
noncomputable section
variable {R : Type}
def UcL : Ann := { loops := [(3, ids [1, 2, 5, 9, 10, 11], ids [2, 4])], cuts := [], frz := [], rm := [.id] }
abbrev Uo7 (n : Nat) : Env := eC 53 (UyY n) eN
theorem UlH (n : Nat) : EnvOK Tryz.prog GI (Uo7 n) := .cons (.nil) (UAD n)
def UeN (n : Nat) (l0 : Int → LP → ByteArray → Bool → Int → Int → LP → Int → Int → O R) (x1 : Int) (x2 : LP) (x3 : ByteArray) (x4 : Bool) (x5 x6 : Int) (x7 : LP) (x8 x9 : Int) (k0 : LP → ByteArray → Bool → Int → Bool → O R) (k1 : LP → ByteArray → Bool → Int → O R) : O R :=
  bif (decide (x9 < x8)) then (bif (inR x9 ((x7).length)) then (Jh2 ((x7).getD ((x9 : Int).toNat) (.v (.bool false))) fun a10 => JdT a10 fun h11 t12 => Jj .i64 h11 fun e13 => JdT t12 fun h14 t15 => Jj3 h14 fun e16 => Ji2 t15 (bif (decide (e13 ≤ x6)) then (k0 x2 x3 x4 x5 false) else (bif (bif false then true else (decide (e13 ≥ x1))) then (k0 x2 x3 x4 x5 false) else (bif (bif false then true else eqS e16 (⟨#[48]⟩ : ByteArray)) then (k0 x2 x3 x4 x5 false) else (p53 n e16 (fun y17 => bif (bif false then true else (!y17)) then (k0 x2 x3 x4 x5 false) else (l0 x1 x2 x3 x4 x5 e13 x7 x8 (IntKind.i64.wrap (x9 + 1))))))))) else none) else (k1 x2 x3 x4 x5)
def Ub0 (n : Nat) : Nat → Int → LP → ByteArray → Bool → Int → Int → LP → Int → Int → (LP → ByteArray → Bool → Int → Bool → O R) → (LP → ByteArray → Bool → Int → O R) → O R
  | 0, _, _, _, _, _, _, _, _, _, _, _ => none
  | m + 1, x1, x2, x3, x4, x5, x6, x7, x8, x9, k0, k1 => UeN n (fun x1 x2 x3 x4 x5 x6 x7 x8 x9 => Ub0 n m x1 x2 x3 x4 x5 x6 x7 x8 x9 k0 k1) x1 x2 x3 x4 x5 x6 x7 x8 x9 k0 k1
def Ur0 (n : Nat) (x1 : Int) (x2 : LP) (x3 : ByteArray) (x4 : Bool) (x5 x6 : Int) (x7 : LP) (x8 x9 : Int) (k0 : LP → ByteArray → Bool → Int → Bool → O R) (k1 : LP → ByteArray → Bool → Int → O R) : O R := Ub0 n n x1 x2 x3 x4 x5 x6 x7 x8 x9 k0 k1
def UFi (n : Nat) (x1 : LP) (x2 : ByteArray) (x3 : Bool) (x4 x5 : Int) (k0 : Bool → O R) : O R :=
  Ur0 n x5 x1 x2 x3 x4 (-1) x1 ((x1).length : Int) 0 (fun y6 y7 y8 y9 y10 => k0 y10) (fun y11 y12 y13 y14 => p53 n y12 (fun y15 => k0 y15))
abbrev UKW (n : Nat) : Code → Fr → Kc R → O R := evC Tryz.prog (Uo7 n) UcL n (42, [])
noncomputable def Un5 : Code := Jj4 (Jll Tryz.f107) [1, 1, 0, 1, 0, 0]
abbrev Ud5 : Sl (List SV) := (cI (.c (sBx 70 (cH (cS (cB (cI .n))))) (cI (cH (cI (cI .n))))))
abbrev UjI (n m : Nat) (K : Kc R) : Ud5.T (O R) := fun x1 x2 x3 x4 x5 x6 x7 x8 x9 => Ub0 n m x1 x2 x3 x4 x5 x6 x7 x8 x9 (fun y1 y2 y3 y4 y5 => xL UcL 3 K .ret [.bx 70 [vH y1, vS y2, vB y3, vI y4], vB y5]) (fun y1 y2 y3 y4 => xL UcL 3 K (.exit 0) [.bx 70 [vH y1, vS y2, vB y3, vI y4], dD])
abbrev Uxu (n : Nat) (K : Kc R) (l0 : Ud5.T (O R)) : Ud5.T (O R) := fun x1 x2 x3 x4 x5 x6 x7 x8 x9 => UeN n l0 x1 x2 x3 x4 x5 x6 x7 x8 x9 (fun y1 y2 y3 y4 y5 => xL UcL 3 K .ret [.bx 70 [vH y1, vS y2, vB y3, vI y4], vB y5]) (fun y1 y2 y3 y4 => xL UcL 3 K (.exit 0) [.bx 70 [vH y1, vS y2, vB y3, vI y4], dD])
abbrev UC0 (n : Nat) : Orc R := oL UcL (UKW n) n 3 Un5 Ud5 (UjI n n) oN
abbrev UBs (n : Nat) : Orc R := oN
abbrev UIT (R : Type) (n : Nat) := JcH (R := R) Tryz.prog (Uo7 n) UcL n (42, []) (UC0 n) (UBs n)
theorem Uzr (n : Nat) : UIT R n (false, 3, Un5) := JkF (lo := UC0 n) (cu := UBs n) (pO pN (by kernel_rfl)) Ud5 (UjI n n) (JiE (F := UjI n) Ud5 (Uxu n) (fun K _ _ _ _ _ _ _ _ _ => rfl) (fun _ _ => rfl) (fun L K _ _ _ _ _ _ _ _ _ => by show _ = _; kernel_rfl) n) fun _ _ => rfl
theorem UHA (n : Nat) : Je6 (UIT R n) (JaJ UcL (Jll Tryz.f107)) := pO (pC (Uzr n) pN) (by kernel_rfl)
abbrev UIf : Sl (List SV) := (.c (sP (JlI (.c sSh (.c Jly (.c Jlf (.c (Jlv .i64) .n)))))) (cI .n))
abbrev f107 (n : Nat) (K : List SV → O R) : UIf.T (O R) := fun x1 x2 x3 x4 x5 => UFi n x1 x2 x3 x4 x5 (fun y1 => K [vB y1])
abbrev UCr (n : Nat) : FS := fT [false, false] UIf (f107 n)
theorem UGM (n : Nat) : FSound Tryz.prog GI 107 (UCr n) := gd UcL n (UlH n) Tryz.func107 (.cons (UlH n) UIf (f107 n) (fun K _ _ _ _ _ => (Jkq (c := Jll Tryz.f107) (by kernel_rfl) (UHA n) K).trans (by kernel_rfl)) .nil) (by kernel_rfl)
def UnI : Ann := { loops := [], cuts := [], frz := [], rm := [.id] }
abbrev Uvl (n : Nat) : Env := eC 107 (UCr n) eN
theorem UlG (n : Nat) : EnvOK Tryz.prog GI (Uvl n) := .cons (.nil) (UGM n)
def UHm (n : Nat) (x1 : LP) (x2 : ByteArray) (x3 : Bool) (x4 x5 : Int) (x6 : LP) (k0 : Bool → O R) : O R :=
  UFi n x1 x2 x3 x4 x5 (fun y7 => k0 (!y7))
abbrev UGm (n : Nat) : Orc R := oN
abbrev UFC (n : Nat) : Orc R := oN
abbrev UK5 (R : Type) (n : Nat) := JcH (R := R) Tryz.prog (Uvl n) UnI n (9, []) (UGm n) (UFC n)
theorem UHz (n : Nat) : Je6 (UK5 R n) (JaJ UnI (Jll Tryz.f106)) := pO pN (by kernel_rfl)
abbrev UIe : Sl (List SV) := (.c (sP (JlI (.c sSh (.c Jly (.c Jlf (.c (Jlv .i64) .n)))))) (.c (sP (sFb (.c (Jlv .i64) (.c sSh .n)))) .n))
abbrev f106 (n : Nat) (K : List SV → O R) : UIe.T (O R) := fun x1 x2 x3 x4 x5 x6 => UHm n x1 x2 x3 x4 x5 x6 (fun y1 => K [vB y1])
abbrev UCq (n : Nat) : FS := fT [false, false] UIe (f106 n)
theorem UGL (n : Nat) : FSound Tryz.prog GI 106 (UCq n) := gd UnI n (UlG n) Tryz.func106 (.cons (UlG n) UIe (f106 n) (fun K _ _ _ _ _ _ => (Jkq (c := Jll Tryz.f106) (by kernel_rfl) (UHz n) K).trans (by kernel_rfl)) .nil) (by kernel_rfl)
def UcP : Ann := { loops := [(2, ids [0, 1, 7, 8], ids [4])], cuts := [], frz := [], rm := [.id] }
abbrev Upg (n : Nat) : Env := eC 106 (UCq n) eN
theorem Ul1 (n : Nat) : EnvOK Tryz.prog GI (Upg n) := .cons (.nil) (UGL n)
def UeW (n : Nat) (l0 : LP → Int → LP → Int → Int → O R) (x1 : LP) (x2 : Int) (x3 : LP) (x4 x5 : Int) (k0 : Int → O R) (k1 : O R) : O R :=
  bif (decide (x5 < x4)) then (bif (inR x5 ((x1).length)) then (Jh2 ((x1).getD ((x5 : Int).toNat) (.v (.bool false))) fun a6 => JdT a6 fun h7 t8 => Jkr h7 fun e9 => JdT t8 fun h10 t11 => Jj3 h10 fun e12 => JdT t11 fun h13 t14 => Jj2 h13 fun e15 => JdT t14 fun h16 t17 => Jj .i64 h16 fun e18 => Ji2 t17 (UHm n e9 e12 e15 e18 x2 x3 (fun y19 => bif y19 then (k0 x5) else (l0 x1 x2 x3 x4 (IntKind.i64.wrap (x5 + 1)))))) else none) else (k1)
def Ubt (n : Nat) : Nat → LP → Int → LP → Int → Int → (Int → O R) → (O R) → O R
  | 0, _, _, _, _, _, _, _ => none
  | m + 1, x1, x2, x3, x4, x5, k0, k1 => UeW n (fun x1 x2 x3 x4 x5 => Ubt n m x1 x2 x3 x4 x5 k0 k1) x1 x2 x3 x4 x5 k0 k1
def Ur8 (n : Nat) (x1 : LP) (x2 : Int) (x3 : LP) (x4 x5 : Int) (k0 : Int → O R) (k1 : O R) : O R := Ubt n n x1 x2 x3 x4 x5 k0 k1
def UHq (n : Nat) (x1 : LP) (x2 : Int) (x3 : LP) (k0 : Int → O R) : O R :=
  Ur8 n x1 x2 x3 ((x1).length : Int) 0 (fun y4 => k0 y4) (k0 (-1))
abbrev UK0 (n : Nat) : Code → Fr → Kc R → O R := evC Tryz.prog (Upg n) UcP n (19, [])
noncomputable def Uom : Code := Jj4 (Jll Tryz.f135) [1, 0, 1, 0, 0]
abbrev Uec : Sl (List SV) := (cH (.c (sP (JlJ 106 (.c (sFb (.c (Jlv .i64) (.c sSh .n))) .n))) (cI (cI .n))))
abbrev UjQ (n m : Nat) (K : Kc R) : Uec.T (O R) := fun x1 x2 x3 x4 x5 => Ubt n m x1 x2 x3 x4 x5 (fun y1 => xL UcP 2 K .ret [vI y1]) (xL UcP 2 K (.exit 0) [dD])
abbrev UxC (n : Nat) (K : Kc R) (l0 : Uec.T (O R)) : Uec.T (O R) := fun x1 x2 x3 x4 x5 => UeW n l0 x1 x2 x3 x4 x5 (fun y1 => xL UcP 2 K .ret [vI y1]) (xL UcP 2 K (.exit 0) [dD])
abbrev UC4 (n : Nat) : Orc R := oL UcP (UK0 n) n 2 Uom Uec (UjQ n n) oN
abbrev UBw (n : Nat) : Orc R := oN
abbrev UIX (R : Type) (n : Nat) := JcH (R := R) Tryz.prog (Upg n) UcP n (19, []) (UC4 n) (UBw n)
theorem UzK (n : Nat) : UIX R n (false, 2, Uom) := JkF (lo := UC4 n) (cu := UBw n) (pO pN (by kernel_rfl)) Uec (UjQ n n) (JiE (F := UjQ n) Uec (UxC n) (fun K _ _ _ _ _ => rfl) (fun _ _ => rfl) (fun L K _ _ _ _ _ => by show _ = _; kernel_rfl) n) fun _ _ => rfl
theorem UHU (n : Nat) : Je6 (UIX R n) (JaJ UcP (Jll Tryz.f135)) := pO (pC (UzK n) pN) (by kernel_rfl)
abbrev UIu : Sl (List SV) := (cH (.c (sP (JlJ 106 (.c (sFb (.c (Jlv .i64) (.c sSh .n))) .n))) .n))
abbrev f135 (n : Nat) (K : List SV → O R) : UIu.T (O R) := fun x1 x2 x3 => UHq n x1 x2 x3 (fun y1 => K [vI y1])
abbrev UCF (n : Nat) : FS := fT [false, false] UIu (f135 n)
theorem UG0 (n : Nat) : FSound Tryz.prog GI 135 (UCF n) := gd UcP n (Ul1 n) Tryz.func135 (.cons (Ul1 n) UIu (f135 n) (fun K _ _ _ => (Jkq (c := Jll Tryz.f135) (by kernel_rfl) (UHU n) K).trans (by kernel_rfl)) .nil) (by kernel_rfl)
def UnH : Ann := { loops := [], cuts := [], frz := [], rm := [.id] }
abbrev Uvk (n : Nat) : Env := eC 135 (UCF n) eN
theorem UlF (n : Nat) : EnvOK Tryz.prog GI (Uvk n) := .cons (.nil) (UG0 n)
def UHl (n : Nat) (x1 : LP) (x2 : Int) (x3 : LP) (k0 : Bool → O R) : O R :=
  UHq n x1 x2 x3 (fun y4 => k0 (decide (y4 ≥ 0)))
abbrev UGl (n : Nat) : Orc R := oN
abbrev UFB (n : Nat) : Orc R := oN
abbrev UK4 (R : Type) (n : Nat) := JcH (R := R) Tryz.prog (Uvk n) UnH n (9, []) (UGl n) (UFB n)
theorem UHy (n : Nat) : Je6 (UK4 R n) (JaJ UnH (Jll Tryz.f105)) := pO pN (by kernel_rfl)
abbrev t105 : Sl (List SV) := (cH (.c (sP (JlJ 106 (.c (sFb (.c (Jlv .i64) (.c sSh .n))) .n))) .n))
abbrev f105 (n : Nat) (K : List SV → O R) : t105.T (O R) := fun x1 x2 x3 => UHl n x1 x2 x3 (fun y1 => K [vB y1])
abbrev UCp (n : Nat) : FS := fT [false, false] t105 (f105 n)
theorem UGK (n : Nat) : FSound Tryz.prog GI 105 (UCp n) := gd UnH n (UlF n) Tryz.func105 (.cons (UlF n) t105 (f105 n) (fun K _ _ _ => (Jkq (c := Jll Tryz.f105) (by kernel_rfl) (UHy n) K).trans (by kernel_rfl)) .nil) (by kernel_rfl)
def Uw6 : Ann := { loops := [], cuts := [], frz := [], rm := [.id] }
abbrev UBW (n : Nat) : Env := eC 105 (UCp n) eN
theorem Up7 (n : Nat) : EnvOK Tryz.prog GI (UBW n) := .cons (.nil) (UGK n)
def p65 (n : Nat) (x1 : Int) (x2 : LP) (k0 : Int → O R) : O R :=
  bif (decide (x1 < 0)) then (k0 2) else (bif (bif false then true else (decide (x1 > 2048))) then (k0 2) else (bif (decide (((x2).length : Int) > 2048)) then (k0 6) else (UHl n x2 x1 x2 (fun y3 => bif y3 then (k0 3) else (k0 0)))))
abbrev UMk (n : Nat) : Orc R := oN
abbrev ULE (n : Nat) : Orc R := oN
abbrev K65 (R : Type) (n : Nat) := JcH (R := R) Tryz.prog (UBW n) Uw6 n (19, []) (UMk n) (ULE n)
theorem UN1 (n : Nat) : Je6 (K65 R n) (JaJ Uw6 (Jll Tryz.f65)) := pO pN (by kernel_rfl)
abbrev t65 : Sl (List SV) := (.c (sP (JlI (.c (Jlv .i64) (.c sSh .n)))) .n)
abbrev f65 (n : Nat) (K : List SV → O R) : t65.T (O R) := fun x1 x2 => p65 n x1 x2 (fun y1 => K [vI y1])
abbrev UE2 (n : Nat) : FS := fT [false] t65 (f65 n)
theorem UHh (n : Nat) : FSound Tryz.prog GI 65 (UE2 n) := gd Uw6 n (Up7 n) Tryz.func65 (.cons (Up7 n) t65 (f65 n) (fun K _ _ => (Jkq (c := Jll Tryz.f65) (by kernel_rfl) (UN1 n) K).trans (by kernel_rfl)) .nil) (by kernel_rfl)
def UgZ : Ann := { loops := [(3, ids [1, 2, 5, 6], ids [2, 4])], cuts := [], frz := [], rm := [.id] }
abbrev UyG (n : Nat) : Env := eC 84 (UE4 n) eN
theorem Uqo (n : Nat) : EnvOK Tryz.prog GI (UyG n) := .cons (.nil) (UHj n)
def Uh2 (n : Nat) (l0 : Int → LP → ByteArray → Bool → Int → Int → Int → O R) (x1 : Int) (x2 : LP) (x3 : ByteArray) (x4 : Bool) (x5 x6 x7 : Int) (k0 : LP → ByteArray → Bool → Int → Bool → O R) (k1 : LP → ByteArray → Bool → Int → O R) : O R :=
  bif (decide (x7 < ((x2).length : Int))) then (bif (inR x7 ((x2).length)) then (Jh2 ((x2).getD ((x7 : Int).toNat) (.v (.bool false))) fun a8 => JdT a8 fun h9 t10 => Jj .i64 h9 fun e11 => JdT t10 fun h12 t13 => Jj3 h12 fun e14 => Ji2 t13 (bif (decide (e11 ≤ x6)) then (k0 x2 x3 x4 x5 false) else (bif (bif false then true else (decide (e11 ≥ x1))) then (k0 x2 x3 x4 x5 false) else (bif (bif false then true else eqS e14 (⟨#[48]⟩ : ByteArray)) then (k0 x2 x3 x4 x5 false) else (p84 n e14 (fun y15 => bif (bif false then true else (!y15)) then (k0 x2 x3 x4 x5 false) else (l0 x1 x2 x3 x4 x5 e11 (IntKind.i64.wrap (x7 + 1))))))))) else none) else (k1 x2 x3 x4 x5)
def UdS (n : Nat) : Nat → Int → LP → ByteArray → Bool → Int → Int → Int → (LP → ByteArray → Bool → Int → Bool → O R) → (LP → ByteArray → Bool → Int → O R) → O R
  | 0, _, _, _, _, _, _, _, _, _ => none
  | m + 1, x1, x2, x3, x4, x5, x6, x7, k0, k1 => Uh2 n (fun x1 x2 x3 x4 x5 x6 x7 => UdS n m x1 x2 x3 x4 x5 x6 x7 k0 k1) x1 x2 x3 x4 x5 x6 x7 k0 k1
def Uww (n : Nat) (x1 : Int) (x2 : LP) (x3 : ByteArray) (x4 : Bool) (x5 x6 x7 : Int) (k0 : LP → ByteArray → Bool → Int → Bool → O R) (k1 : LP → ByteArray → Bool → Int → O R) : O R := UdS n n x1 x2 x3 x4 x5 x6 x7 k0 k1
def p82 (n : Nat) (x1 : LP) (x2 : ByteArray) (x3 : Bool) (x4 x5 : Int) (k0 : Bool → O R) : O R :=
  Uww n x5 x1 x2 x3 x4 (-1) 0 (fun y6 y7 y8 y9 y10 => k0 y10) (fun y11 y12 y13 y14 => p84 n y12 (fun y15 => k0 y15))
abbrev E82 (n : Nat) : Code → Fr → Kc R → O R := evC Tryz.prog (UyG n) UgZ n (46, [])
noncomputable def Uv : Code := Jj4 (Jll Tryz.f82) [1, 1, 0, 1, 0, 0]
abbrev UgF : Sl (List SV) := (cI (.c (sBx 70 (cH (cS (cB (cI .n))))) (cI (cI .n))))
abbrev Uru (n m : Nat) (K : Kc R) : UgF.T (O R) := fun x1 x2 x3 x4 x5 x6 x7 => UdS n m x1 x2 x3 x4 x5 x6 x7 (fun y1 y2 y3 y4 y5 => xL UgZ 3 K .ret [.bx 70 [vH y1, vS y2, vB y3, vI y4], vB y5]) (fun y1 y2 y3 y4 => xL UgZ 3 K (.exit 0) [.bx 70 [vH y1, vS y2, vB y3, vI y4], dD])
abbrev UBg (n : Nat) (K : Kc R) (l0 : UgF.T (O R)) : UgF.T (O R) := fun x1 x2 x3 x4 x5 x6 x7 => Uh2 n l0 x1 x2 x3 x4 x5 x6 x7 (fun y1 y2 y3 y4 y5 => xL UgZ 3 K .ret [.bx 70 [vH y1, vS y2, vB y3, vI y4], vB y5]) (fun y1 y2 y3 y4 => xL UgZ 3 K (.exit 0) [.bx 70 [vH y1, vS y2, vB y3, vI y4], dD])
abbrev UKs (n : Nat) : Orc R := oL UgZ (E82 n) n 3 Uv UgF (Uru n n) oN
abbrev UJh (n : Nat) : Orc R := oN
abbrev K82 (R : Type) (n : Nat) := JcH (R := R) Tryz.prog (UyG n) UgZ n (46, []) (UKs n) (UJh n)
theorem UEi (n : Nat) : K82 R n (false, 3, Uv) := JkF (lo := UKs n) (cu := UJh n) (pO pN (by kernel_rfl)) UgF (Uru n n) (JiE (F := Uru n) UgF (UBg n) (fun K _ _ _ _ _ _ _ => rfl) (fun _ _ => rfl) (fun L K _ _ _ _ _ _ _ => by show _ = _; kernel_rfl) n) fun _ _ => rfl
theorem UOh (n : Nat) : Je6 (K82 R n) (JaJ UgZ (Jll Tryz.f82)) := pO (pC (UEi n) pN) (by kernel_rfl)
abbrev t82 : Sl (List SV) := (.c (sP (JlI (.c sSh (.c Jly (.c Jlf (.c (Jlv .i64) .n)))))) (cI .n))
abbrev f82 (n : Nat) (K : List SV → O R) : t82.T (O R) := fun x1 x2 x3 x4 x5 => p82 n x1 x2 x3 x4 x5 (fun y1 => K [vB y1])
abbrev UJ6 (n : Nat) : FS := fT [false, false] t82 (f82 n)
theorem UNd (n : Nat) : FSound Tryz.prog GI 82 (UJ6 n) := gd UgZ n (Uqo n) Tryz.func82 (.cons (Uqo n) t82 (f82 n) (fun K _ _ _ _ _ => (Jkq (c := Jll Tryz.f82) (by kernel_rfl) (UOh n) K).trans (by kernel_rfl)) .nil) (by kernel_rfl)
def Ufk : Ann := { loops := [(6, ids [1, 3], ids [2])], cuts := [(3, ids [1], ids [2])], frz := [], rm := [.id] }
abbrev Uyq (n : Nat) : Env := eC 82 (UJ6 n) eN
theorem UpP (n : Nat) : EnvOK Tryz.prog GI (Uyq n) := .cons (.nil) (UNd n)
def UhL (n : Nat) (l0 : Int → LP → Int → O R) (x1 : Int) (x2 : LP) (x3 : Int) (k0 : Int → O R) (k1 : O R) : O R :=
  bif (decide (x3 < ((x2).length : Int))) then (bif (inR x3 ((x2).length)) then (Jh2 ((x2).getD ((x3 : Int).toNat) (.v (.bool false))) fun a4 => JdT a4 fun h5 t6 => Jkr h5 fun e7 => JdT t6 fun h8 t9 => Jj3 h8 fun e10 => JdT t9 fun h11 t12 => Jj2 h11 fun e13 => JdT t12 fun h14 t15 => Jj .i64 h14 fun e16 => Ji2 t15 (p82 n e7 e10 e13 e16 x1 (fun y17 => bif (!y17) then (k0 3) else (l0 x1 x2 (IntKind.i64.wrap (x3 + 1)))))) else none) else (k1)
def UcB (n : Nat) : Nat → Int → LP → Int → (Int → O R) → (O R) → O R
  | 0, _, _, _, _, _ => none
  | m + 1, x1, x2, x3, k0, k1 => UhL n (fun x1 x2 x3 => UcB n m x1 x2 x3 k0 k1) x1 x2 x3 k0 k1
def Uwk (n : Nat) (x1 : Int) (x2 : LP) (x3 : Int) (k0 : Int → O R) (k1 : O R) : O R := UcB n n x1 x2 x3 k0 k1
def Uso (n : Nat) (x1 : Int) (x2 : LP) (k0 : Int → O R) : O R :=
  bif (decide (((x2).length : Int) > 2048)) then (k0 6) else (Uwk n x1 x2 0 (fun y3 => k0 y3) (k0 0))
def p39 (n : Nat) (x1 : Int) (x2 : LP) (k0 : Int → O R) : O R :=
  bif (decide (x1 < 0)) then (k0 2) else (bif (bif false then true else (decide (x1 > 2048))) then (k0 2) else (Uso n x1 x2 (fun y3 => k0 y3)))
abbrev E39 (n : Nat) : Code → Fr → Kc R → O R := evC Tryz.prog (Uyq n) Ufk n (32, [])
noncomputable def UuS : Code := Jj4 (Jll Tryz.f39) [1, 1]
abbrev UsV : Sl (List SV) := (.c (sBx 24 (cI (cH .n))) .n)
abbrev UvJ (n : Nat) (K : Kc R) : UsV.T (O R) := fun x1 x2 => Uso n x1 x2 (fun y1 => xC Ufk 3 K .ret [vI y1])
noncomputable def UuT : Code := Jj4 (Jll Tryz.f39) [1, 1, 1, 0, 1, 0, 0]
abbrev Ugq : Sl (List SV) := (.c (sBx 24 (cI (cH .n))) (cI .n))
abbrev Ur (n m : Nat) (K : Kc R) : Ugq.T (O R) := fun x1 x2 x3 => UcB n m x1 x2 x3 (fun y1 => xL Ufk 6 K .ret [vI y1]) (xL Ufk 6 K (.exit 0) [dD])
abbrev UA2 (n : Nat) (K : Kc R) (l0 : Ugq.T (O R)) : Ugq.T (O R) := fun x1 x2 x3 => UhL n l0 x1 x2 x3 (fun y1 => xL Ufk 6 K .ret [vI y1]) (xL Ufk 6 K (.exit 0) [dD])
abbrev UGE (n : Nat) : Orc R := oL Ufk (E39 n) n 6 UuT Ugq (Ur n n) oN
abbrev UFU (n : Nat) : Orc R := oC Ufk (E39 n) 3 UuS UsV (UvJ n) oN
abbrev K39 (R : Type) (n : Nat) := JcH (R := R) Tryz.prog (Uyq n) Ufk n (32, []) (UGE n) (UFU n)
theorem UD1 (n : Nat) : K39 R n (false, 6, UuT) := JkF (lo := UGE n) (cu := UFU n) (pO pN (by kernel_rfl)) Ugq (Ur n n) (JiE (F := Ur n) Ugq (UA2 n) (fun K _ _ _ => rfl) (fun _ _ => rfl) (fun L K _ _ _ => by show _ = _; kernel_rfl) n) fun _ _ => rfl
theorem UD0 (n : Nat) : K39 R n (true, 3, UuS) := JkW (lo := UGE n) (cu := UFU n) (pO (pC (UD1 n) pN) (by kernel_rfl)) UsV (UvJ n) (fun K _ _ => by show _ = _; kernel_rfl) fun _ _ => rfl
theorem UNJ (n : Nat) : Je6 (K39 R n) (JaJ Ufk (Jll Tryz.f39)) := pO (pC (UD0 n) pN) (by kernel_rfl)
abbrev t39 : Sl (List SV) := (.c (sP (JlI (.c (Jlv .i64) (.c sSh .n)))) .n)
abbrev f39 (n : Nat) (K : List SV → O R) : t39.T (O R) := fun x1 x2 => p39 n x1 x2 (fun y1 => K [vI y1])
abbrev UJM (n : Nat) : FS := fT [false] t39 (f39 n)
theorem UMU (n : Nat) : FSound Tryz.prog GI 39 (UJM n) := gd Ufk n (UpP n) Tryz.func39 (.cons (UpP n) t39 (f39 n) (fun K _ _ => (Jkq (c := Jll Tryz.f39) (by kernel_rfl) (UNJ n) K).trans (by kernel_rfl)) .nil) (by kernel_rfl)
def Uw2 : Ann := { loops := [], cuts := [], frz := [], rm := [.id] }
abbrev UBS (n : Nat) : Env := eN
theorem UpZ (n : Nat) : EnvOK Tryz.prog GI (UBS n) := .nil
def p55 (n : Nat) (x1 x2 : Int) (k0 : Int → O R) : O R :=
  bif (decide (x1 < x2)) then (k0 (-1)) else (bif (decide (x1 > x2)) then (k0 1) else (k0 0))
abbrev UMg (n : Nat) : Orc R := oN
abbrev ULA (n : Nat) : Orc R := oN
abbrev K55 (R : Type) (n : Nat) := JcH (R := R) Tryz.prog (UBS n) Uw2 n (13, []) (UMg n) (ULA n)
theorem UNT (n : Nat) : Je6 (K55 R n) (JaJ Uw2 (Jll Tryz.f55)) := pO pN (by kernel_rfl)
abbrev t55 : Sl (List SV) := (cI (cI .n))
abbrev f55 (n : Nat) (K : List SV → O R) : t55.T (O R) := fun x1 x2 => p55 n x1 x2 (fun y1 => K [vI y1])
abbrev UJT (n : Nat) : FS := fT [false, false] t55 (f55 n)
theorem UM1 (n : Nat) : FSound Tryz.prog GI 55 (UJT n) := gd Uw2 n (UpZ n) Tryz.func55 (.cons (UpZ n) t55 (f55 n) (fun K _ _ => (Jkq (c := Jll Tryz.f55) (by kernel_rfl) (UNT n) K).trans (by kernel_rfl)) .nil) (by kernel_rfl)
def UiJ : Ann := { loops := [], cuts := [(8, ids [8, 10], ids [4]), (12, ids [8, 10], ids [4])], frz := [], rm := [.id] }
abbrev Uyg (n : Nat) : Env := eC 58 (UCU n) (eC 57 (UE1 n) (eC 56 (UCT n) (eC 55 (UJT n) (eC 54 (UE0 n) eN))))
theorem Upx (n : Nat) : EnvOK Tryz.prog GI (Uyg n) := .cons (.cons (.cons (.cons (.cons (.nil) (UHf n)) (UM1 n)) (UFd n)) (UHg n)) (UFe n)
def Udx (n : Nat) (x1 : Bool) (x2 x3 : LP) (x4 : Bool) (x5 x6 : LP) (k0 : Int → O R) : O R :=
  p58 n x2 x6 (fun y7 => p58 n x5 x3 (fun y8 => p57 n y7 y8 (fun y9 => bif x1 then (k0 (IntKind.i64.wrap (0 - y9))) else (k0 y9))))
def Usg (n : Nat) (x1 : Bool) (x2 x3 : LP) (x4 : Bool) (x5 x6 : LP) (k0 : Int → O R) : O R :=
  bif x1 then (bif (bif true then (!x4) else false) then (k0 (-1)) else (bif x4 then (bif (bif true then (!x1) else false) then (k0 1) else (Udx n x1 x2 x3 x4 x5 x6 (fun y7 => k0 y7))) else (Udx n x1 x2 x3 x4 x5 x6 (fun y8 => k0 y8)))) else (bif x4 then (bif (bif true then (!x1) else false) then (k0 1) else (Udx n x1 x2 x3 x4 x5 x6 (fun y9 => k0 y9))) else (Udx n x1 x2 x3 x4 x5 x6 (fun y10 => k0 y10)))
def p19 (n : Nat) (x1 x2 : ByteArray) (k0 : Int → O R) : O R :=
  p54 n x1 x2 (fun y3 y4 y5 => bif y5 then (p55 n y3 y4 (fun y6 => k0 y6)) else (p56 n x1 (fun y7 y8 y9 y10 => p56 n x2 (fun y11 y12 y13 y14 => bif (!y10) then (k0 0) else (bif (bif false then true else (!y14)) then (k0 0) else (Usg n y7 y8 y9 y11 y12 y13 (fun y15 => k0 y15)))))))
abbrev E19 (n : Nat) : Code → Fr → Kc R → O R := evC Tryz.prog (Uyg n) UiJ n (72, [])
noncomputable def UuD : Code := Jj4 (Jll Tryz.f19) [1, 1, 1, 1, 1]
abbrev UsO : Sl (List SV) := (.c (sBx 99 (cB (cH (cH .n)))) (.c (sBx 99 (cB (cH (cH .n)))) .n))
abbrev UvC (n : Nat) (K : Kc R) : UsO.T (O R) := fun x1 x2 x3 x4 x5 x6 => Usg n x1 x2 x3 x4 x5 x6 (fun y1 => xC UiJ 8 K .ret [vI y1])
noncomputable def UoB : Code := Jj4 (Jll Tryz.f19) [1, 1, 1, 1, 1, 1]
abbrev UkL : Sl (List SV) := (.c (sBx 99 (cB (cH (cH .n)))) (.c (sBx 99 (cB (cH (cH .n)))) .n))
abbrev UqW (n : Nat) (K : Kc R) : UkL.T (O R) := fun x1 x2 x3 x4 x5 x6 => Udx n x1 x2 x3 x4 x5 x6 (fun y1 => xC UiJ 12 K .ret [vI y1])
abbrev UGB (n : Nat) : Orc R := oN
abbrev UFR (n : Nat) : Orc R := oC UiJ (E19 n) 12 UoB UkL (UqW n) (oC UiJ (E19 n) 8 UuD UsO (UvC n) oN)
abbrev K19 (R : Type) (n : Nat) := JcH (R := R) Tryz.prog (Uyg n) UiJ n (72, []) (UGB n) (UFR n)
theorem UzZ (n : Nat) : K19 R n (true, 12, UoB) := JkW (lo := UGB n) (cu := UFR n) (pO pN (by kernel_rfl)) UkL (UqW n) (fun K _ _ _ _ _ _ => by show _ = _; kernel_rfl) fun _ _ => rfl
theorem UDH (n : Nat) : K19 R n (true, 8, UuD) := JkW (lo := UGB n) (cu := UFR n) (pO (pC (UzZ n) pN) (by kernel_rfl)) UsO (UvC n) (fun K _ _ _ _ _ _ => by show _ = _; kernel_rfl) fun _ _ => rfl
theorem UNr (n : Nat) : Je6 (K19 R n) (JaJ UiJ (Jll Tryz.f19)) := pO (pC (UDH n) pN) (by kernel_rfl)
abbrev t19 : Sl (List SV) := (cS (cS .n))
abbrev f19 (n : Nat) (K : List SV → O R) : t19.T (O R) := fun x1 x2 => p19 n x1 x2 (fun y1 => K [vI y1])
abbrev UyX (n : Nat) : FS := fT [false, false] t19 (f19 n)
theorem UAC (n : Nat) : FSound Tryz.prog GI 19 (UyX n) := gd UiJ n (Upx n) Tryz.func19 (.cons (Upx n) t19 (f19 n) (fun K _ _ => (Jkq (c := Jll Tryz.f19) (by kernel_rfl) (UNr n) K).trans (by kernel_rfl)) .nil) (by kernel_rfl)
def UwZ : Ann := { loops := [], cuts := [], frz := [], rm := [.id] }
abbrev UBP (n : Nat) : Env := eC 19 (UyX n) eN
theorem UpU (n : Nat) : EnvOK Tryz.prog GI (UBP n) := .cons (.nil) (UAC n)
def p50 (n : Nat) (x1 : ByteArray) (k0 : Bool → O R) : O R :=
  p19 n x1 ⟨#[48]⟩ (fun y2 => k0 (decide (y2 < 0)))
abbrev UMd (n : Nat) : Orc R := oN
abbrev ULx (n : Nat) : Orc R := oN
abbrev K50 (R : Type) (n : Nat) := JcH (R := R) Tryz.prog (UBP n) UwZ n (6, []) (UMd n) (ULx n)
theorem UNO (n : Nat) : Je6 (K50 R n) (JaJ UwZ (Jll Tryz.f50)) := pO pN (by kernel_rfl)
abbrev t50 : Sl (List SV) := (cS .n)
abbrev f50 (n : Nat) (K : List SV → O R) : t50.T (O R) := fun x1 => p50 n x1 (fun y1 => K [vB y1])
abbrev UJR (n : Nat) : FS := fT [false] t50 (f50 n)
theorem UMZ (n : Nat) : FSound Tryz.prog GI 50 (UJR n) := gd UwZ n (UpU n) Tryz.func50 (.cons (UpU n) t50 (f50 n) (fun K _ => (Jkq (c := Jll Tryz.f50) (by kernel_rfl) (UNO n) K).trans (by kernel_rfl)) .nil) (by kernel_rfl)
def Uxl : Ann := { loops := [], cuts := [], frz := [], rm := [.id] }
abbrev UCb (n : Nat) : Env := eC 53 (UyY n) eN
theorem Uqv (n : Nat) : EnvOK Tryz.prog GI (UCb n) := .cons (.nil) (UAD n)
def p93 (n : Nat) (x1 : ByteArray) (k0 : Bool → O R) : O R :=
  p53 n x1 (fun y2 => k0 (!y2))
abbrev UMA (n : Nat) : Orc R := oN
abbrev ULU (n : Nat) : Orc R := oN
abbrev K93 (R : Type) (n : Nat) := JcH (R := R) Tryz.prog (UCb n) Uxl n (6, []) (UMA n) (ULU n)
theorem UOo (n : Nat) : Je6 (K93 R n) (JaJ Uxl (Jll Tryz.f93)) := pO pN (by kernel_rfl)
abbrev t93 : Sl (List SV) := (cS .n)
abbrev f93 (n : Nat) (K : List SV → O R) : t93.T (O R) := fun x1 => p93 n x1 (fun y1 => K [vB y1])
abbrev UJ8 (n : Nat) : FS := fT [false] t93 (f93 n)
theorem UNf (n : Nat) : FSound Tryz.prog GI 93 (UJ8 n) := gd Uxl n (Uqv n) Tryz.func93 (.cons (Uqv n) t93 (f93 n) (fun K _ => (Jkq (c := Jll Tryz.f93) (by kernel_rfl) (UOo n) K).trans (by kernel_rfl)) .nil) (by kernel_rfl)
def UbE : Ann := { loops := [(2, ids [0, 1, 7, 8], ids [4])], cuts := [], frz := [], rm := [.id] }
abbrev Upp (n : Nat) : Env := eC 93 (UJ8 n) (eC 50 (UJR n) eN)
theorem UjD (n : Nat) : EnvOK Tryz.prog GI (Upp n) := .cons (.cons (.nil) (UMZ n)) (UNf n)
def Usu (n : Nat) (l0 : LP → Int → Int → O R) (x1 : LP) (x2 x3 : Int) (k0 : Int → O R) (k1 : O R) : O R :=
  bif (decide (x3 < x2)) then (bif (inR x3 ((x1).length)) then (Jj3 ((x1).getD ((x3 : Int).toNat) (.v (.bool false))) fun e4 => p93 n e4 (fun y5 => bif y5 then (k0 x3) else (l0 x1 x2 (IntKind.i64.wrap (x3 + 1))))) else none) else (k1)
def Ukm (n : Nat) : Nat → LP → Int → Int → (Int → O R) → (O R) → O R
  | 0, _, _, _, _, _ => none
  | m + 1, x1, x2, x3, k0, k1 => Usu n (fun x1 x2 x3 => Ukm n m x1 x2 x3 k0 k1) x1 x2 x3 k0 k1
def UDB (n : Nat) (x1 : LP) (x2 x3 : Int) (k0 : Int → O R) (k1 : O R) : O R := Ukm n n x1 x2 x3 k0 k1
def p94 (n : Nat) (x1 : LP) (k0 : Int → O R) : O R :=
  UDB n x1 ((x1).length : Int) 0 (fun y2 => k0 y2) (k0 (-1))
def Ui1 (n : Nat) (l0 : LP → Int → Int → O R) (x1 : LP) (x2 x3 : Int) (k0 : Int → O R) (k1 : O R) : O R :=
  bif (decide (x3 < x2)) then (bif (inR x3 ((x1).length)) then (Jj3 ((x1).getD ((x3 : Int).toNat) (.v (.bool false))) fun e4 => p50 n e4 (fun y5 => bif y5 then (k0 x3) else (l0 x1 x2 (IntKind.i64.wrap (x3 + 1))))) else none) else (k1)
def UfI (n : Nat) : Nat → LP → Int → Int → (Int → O R) → (O R) → O R
  | 0, _, _, _, _, _ => none
  | m + 1, x1, x2, x3, k0, k1 => Ui1 n (fun x1 x2 x3 => UfI n m x1 x2 x3 k0 k1) x1 x2 x3 k0 k1
def UtT (n : Nat) (x1 : LP) (x2 x3 : Int) (k0 : Int → O R) (k1 : O R) : O R := UfI n n x1 x2 x3 k0 k1
def UDC (n : Nat) (x1 : LP) (k0 : Int → O R) : O R :=
  UtT n x1 ((x1).length : Int) 0 (fun y2 => k0 y2) (k0 (-1))
abbrev E94 (n : Nat) : Code → Fr → Kc R → O R := evC Tryz.prog (Upp n) UbE n (19, [])
noncomputable def UiN : Code := Jj4 (Jll Tryz.f94) [1, 0, 1, 0, 0]
abbrev UcI : Sl (List SV) := (cH (.c (sP (sFn 93)) (cI (cI .n))))
abbrev UcJ : Sl (List SV) := (cH (.c (sP (sFn 50)) (cI (cI .n))))
abbrev Uhe (n m : Nat) (K : Kc R) : UcI.T (O R) := fun x1 x2 x3 => Ukm n m x1 x2 x3 (fun y1 => xL UbE 2 K .ret [vI y1]) (xL UbE 2 K (.exit 0) [dD])
abbrev UxV (n : Nat) (K : Kc R) (l0 : UcI.T (O R)) : UcI.T (O R) := fun x1 x2 x3 => Usu n l0 x1 x2 x3 (fun y1 => xL UbE 2 K .ret [vI y1]) (xL UbE 2 K (.exit 0) [dD])
abbrev Uhf (n m : Nat) (K : Kc R) : UcJ.T (O R) := fun x1 x2 x3 => UfI n m x1 x2 x3 (fun y1 => xL UbE 2 K .ret [vI y1]) (xL UbE 2 K (.exit 0) [dD])
abbrev UxW (n : Nat) (K : Kc R) (l0 : UcJ.T (O R)) : UcJ.T (O R) := fun x1 x2 x3 => Ui1 n l0 x1 x2 x3 (fun y1 => xL UbE 2 K .ret [vI y1]) (xL UbE 2 K (.exit 0) [dD])
abbrev UC8 (n : Nat) : Orc R := fun i vs K => JfK (Nat.beq i 2) (Jjg (UcI.ap vs (Uhe n n K)) (Jjg (UcJ.ap vs (Uhf n n K)) (JcB UbE 2 (E94 n UiN) n vs K))) (oN i vs K)
abbrev UBA (n : Nat) : Orc R := oN
abbrev K94 (R : Type) (n : Nat) := JcH (R := R) Tryz.prog (Upp n) UbE n (19, []) (UC8 n) (UBA n)
theorem Usy (n : Nat) : Je6 (K94 R n) (JaJ UbE UiN) := pO pN (by kernel_rfl)
theorem Uyb (n : Nat) : ∀ m (K : Kc R), UcI.all (fun vs r => JcB UbE 2 (JcU Tryz.prog (Upp n) UbE (19, []) (UC8 n) (UBA n) UiN) m vs K = r) (Uhe n m K) := JiE (F := Uhe n) UcI (UxV n) (fun K _ _ _ => rfl) (fun _ _ => rfl) (fun L K _ _ _ => by show _ = _; kernel_rfl)
theorem Uyc (n : Nat) : ∀ m (K : Kc R), UcJ.all (fun vs r => JcB UbE 2 (JcU Tryz.prog (Upp n) UbE (19, []) (UC8 n) (UBA n) UiN) m vs K = r) (Uhf n m K) := JiE (F := Uhf n) UcJ (UxW n) (fun K _ _ _ => rfl) (fun _ _ => rfl) (fun L K _ _ _ => by show _ = _; kernel_rfl)
theorem UEl (n : Nat) : K94 R n (false, 2, UiN) := JkF (lo := UC8 n) (cu := UBA n) (Usy n) UcI (Uhe n n) (Uyb n n) (JkF (lo := UC8 n) (cu := UBA n) (Usy n) UcJ (Uhf n n) (Uyc n n) fun _ _ => rfl)
theorem UKS (n : Nat) : Je6 (K94 R n) (JaJ UbE (Jll Tryz.f94)) := pO (pC (UEl n) pN) (by kernel_rfl)
abbrev UIJ : Sl (List SV) := (cH (.c (sP (sFn 93)) .n))
abbrev UJt (n : Nat) (K : List SV → O R) : UIJ.T (O R) := fun x1 => p94 n x1 (fun y1 => K [vI y1])
abbrev UIK : Sl (List SV) := (cH (.c (sP (sFn 50)) .n))
abbrev UJu (n : Nat) (K : List SV → O R) : UIK.T (O R) := fun x1 => UDC n x1 (fun y1 => K [vI y1])
abbrev UJ9 (n : Nat) : FS := { om := [false, false], run := fun args K => Jjg (UIJ.ap args (UJt n K)) (Jjg (UIK.ap args (UJu n K)) none) }
theorem UNg (n : Nat) : FSound Tryz.prog GI 94 (UJ9 n) := gd UbE n (UjD n) Tryz.func94 (.cons (UjD n) UIJ (UJt n) (fun K _ => (Jkq (c := Jll Tryz.f94) (by kernel_rfl) (UKS n) K).trans (by kernel_rfl)) (.cons (UjD n) UIK (UJu n) (fun K _ => (Jkq (c := Jll Tryz.f94) (by kernel_rfl) (UKS n) K).trans (by kernel_rfl)) .nil)) (by kernel_rfl)
def UwY : Ann := { loops := [], cuts := [], frz := [], rm := [.id] }
abbrev UBO (n : Nat) : Env := eC 94 (UJ9 n) eN
theorem UjB (n : Nat) : EnvOK Tryz.prog GI (UBO n) := .cons (.nil) (UNg n)
def p49 (n : Nat) (x1 : LP) (k0 : Bool → O R) : O R :=
  p94 n x1 (fun y2 => k0 (decide (y2 ≥ 0)))
def UDw (n : Nat) (x1 : LP) (k0 : Bool → O R) : O R :=
  UDC n x1 (fun y2 => k0 (decide (y2 ≥ 0)))
abbrev UMc (n : Nat) : Orc R := oN
abbrev ULw (n : Nat) : Orc R := oN
abbrev K49 (R : Type) (n : Nat) := JcH (R := R) Tryz.prog (UBO n) UwY n (9, []) (UMc n) (ULw n)
theorem UKQ (n : Nat) : Je6 (K49 R n) (JaJ UwY (Jll Tryz.f49)) := pO pN (by kernel_rfl)
abbrev UIF : Sl (List SV) := (cH (.c (sP (sFn 93)) .n))
abbrev UJp (n : Nat) (K : List SV → O R) : UIF.T (O R) := fun x1 => p49 n x1 (fun y1 => K [vB y1])
abbrev UIG : Sl (List SV) := (cH (.c (sP (sFn 50)) .n))
abbrev UJq (n : Nat) (K : List SV → O R) : UIG.T (O R) := fun x1 => UDw n x1 (fun y1 => K [vB y1])
abbrev UF7 (n : Nat) : FS := { om := [false, false], run := fun args K => Jjg (UIF.ap args (UJp n K)) (Jjg (UIG.ap args (UJq n K)) none) }
theorem UKC (n : Nat) : FSound Tryz.prog GI 49 (UF7 n) := gd UwY n (UjB n) Tryz.func49 (.cons (UjB n) UIF (UJp n) (fun K _ => (Jkq (c := Jll Tryz.f49) (by kernel_rfl) (UKQ n) K).trans (by kernel_rfl)) (.cons (UjB n) UIG (UJq n) (fun K _ => (Jkq (c := Jll Tryz.f49) (by kernel_rfl) (UKQ n) K).trans (by kernel_rfl)) .nil)) (by kernel_rfl)
def UwX : Ann := { loops := [], cuts := [], frz := [], rm := [.id] }
abbrev UBN (n : Nat) : Env := eC 65 (UE2 n) (eC 49 (UF7 n) eN)
theorem UpT (n : Nat) : EnvOK Tryz.prog GI (UBN n) := .cons (.cons (.nil) (UKC n)) (UHh n)
def p48 (n : Nat) (x1 : Int) (x2 x3 : LP) (k0 : Int → O R) : O R :=
  p65 n x1 x2 (fun y4 => bif (y4 != 0) then (k0 3) else (bif (((x3).length : Int) != x1) then (k0 2) else (p49 n x3 (fun y5 => bif y5 then (k0 3) else (k0 0)))))
abbrev UMb (n : Nat) : Orc R := oN
abbrev ULv (n : Nat) : Orc R := oN
abbrev K48 (R : Type) (n : Nat) := JcH (R := R) Tryz.prog (UBN n) UwX n (15, []) (UMb n) (ULv n)
theorem UNN (n : Nat) : Je6 (K48 R n) (JaJ UwX (Jll Tryz.f48)) := pO pN (by kernel_rfl)
abbrev t48 : Sl (List SV) := (.c (sP (JlI (.c (Jlv .i64) (.c sSh .n)))) (cH .n))
abbrev f48 (n : Nat) (K : List SV → O R) : t48.T (O R) := fun x1 x2 x3 => p48 n x1 x2 x3 (fun y1 => K [vI y1])
abbrev UJQ (n : Nat) : FS := fT [false, false] t48 (f48 n)
theorem UMY (n : Nat) : FSound Tryz.prog GI 48 (UJQ n) := gd UwX n (UpT n) Tryz.func48 (.cons (UpT n) t48 (f48 n) (fun K _ _ _ => (Jkq (c := Jll Tryz.f48) (by kernel_rfl) (UNN n) K).trans (by kernel_rfl)) .nil) (by kernel_rfl)
end
end Go.Proofs.YtmgfmlhdnadglaaGreatDoor
set_option linter.unusedVariables false
set_option linter.unusedSimpArgs false
namespace Go.Proofs.YtmgfmlhdnadglaaGreatDoor
open Go Th Go.Proofs
variable {R : Type}
noncomputable def okT (cols : Int) : Int → List TermT → Bool
  | _, [] => true
  | last, t :: r => if t.1 ≤ last then false else if t.1 ≥ cols then false else if t.2 = [48] then false else qb t.2 && okT cols t.1 r
noncomputable def okR (cols : Int) (r : RowT) : Bool := okT cols (-1) r.tm && qb r.c
def smT (l : List TermT) : Prop := l.length < 2 ^ 17 ∧ ∀ t ∈ l, t.2.length < 2 ^ 17
def smR (r : RowT) : Prop := smT r.tm ∧ r.c.length < 2 ^ 17
noncomputable def UnA (cols : Int) (kbad : Option R) (last : Int) (t : TermT) (K : Int → Option R) : Option R :=
  if t.1 ≤ last then kbad else if t.1 ≥ cols then kbad else if t.2 = [48] then kbad else if qb t.2 = true then K t.1 else kbad
theorem UH9 (cols : Int) (kbad kend : Option R) : ∀ (l : List TermT) (last : Int), UwB (UnA cols kbad) (fun _ => kend) last l = if okT cols last l then kend else kbad
  | [], last => rfl
  | t :: l, last => by
    have ih := UH9 cols kbad kend l t.1
    simp only [UwB, UnA, okT]
    by_cases h1 : t.1 ≤ last
    · simp [h1]
    · by_cases h2 : t.1 ≥ cols
      · simp [h1, h2]
      · by_cases h3 : t.2 = [48]
        · simp [h1, h2, h3]
        · rcases Bool.eq_false_or_eq_true (qb t.2) with h4 | h4 <;> simp [h1, h2, h3, h4, ih]
theorem e48 (s : List UInt8) : eqS (bs s) (⟨#[48]⟩ : ByteArray) = decide (s = [48]) := by
  rw [show eqS (bs s) (⟨#[48]⟩ : ByteArray) = (s == [48]) from rfl, Bool.eq_iff_iff]; simp
theorem Ukq (n : Nat) (hn : 10 ^ 400 ≤ n) (cols : Int) (r : RowT) (hr : smR r) (k0 : Bool → Option R) : UFi n (tms r.tm) (bs r.c) r.eq r.mark cols k0 = k0 (okR cols r) := by
  have hN := Uaq hn
  have hL := hr.1.1
  have hv1 := fun k => Ues (R := R) n hn r.c hr.2 k
  unfold UFi Ur0
  have h := UfM (R := R) (l := r.tm) (step := UnA cols (k0 false)) (kend := fun _ => k0 (qb r.c))
    (fun m s i => Ub0 n m cols (tms r.tm) (bs r.c) r.eq r.mark s (tms r.tm) ((tms r.tm).length : Int) (i : Int) (fun _ _ _ _ y => k0 y) (fun _ y _ _ => p53 n y fun y15 => k0 y15))
    (fun m s => by simp only [Ub0, UeN]; simp (disch := (first | omega | (simp only [JlE]; omega))) only [↓JlH, JlF, Ua, hv1])
    (fun m s i hi => by
      have hv := fun k => Ues (R := R) n hn (r.tm[i]).2 (hr.1.2 _ (List.getElem_mem hi)) k
      simp only [Ub0, UeN, UnA]
      by_cases h1 : (r.tm[i]).1 ≤ s
      · simp (disch := (first | omega | (simp only [JlE]; omega))) only [↓JlH, JlF, Ua, Jji, Uat hi, i1]
      · by_cases h2 : (r.tm[i]).1 ≥ cols
        · simp (disch := (first | omega | (simp only [JlE]; omega))) only [↓JlH, JlF, Ua, Jji, Uat hi, i1]
        · by_cases h3 : (r.tm[i]).2 = [48]
          · simp (disch := (first | omega | (simp only [JlE]; omega))) only [↓JlH, JlF, Ua, Jji, Uat hi, i1, Ujt h3]
          · simp (disch := (first | omega | (simp only [JlE]; omega))) only [↓JlH, JlF, Ua, Jji, Uat hi, i1, UiL h3, hv]
            cases qb (r.tm[i]).2 <;> rfl) r.tm.length n 0 (-1) (by omega) (by omega)
  rw [List.drop_zero, UH9] at h
  refine Eq.trans h ?_
  unfold okR
  cases okT cols (-1) r.tm <;> rfl
theorem Uun (n : Nat) (hn : 10 ^ 400 ≤ n) (cols : Int) (r : RowT) (hr : smR r) (k0 : Bool → Option R) : p82 n (tms r.tm) (bs r.c) r.eq r.mark cols k0 = k0 (okR cols r) := by
  have hN := Uaq hn
  have hL := hr.1.1
  have hv1 := fun k => Ude (R := R) n hn r.c hr.2 k
  unfold p82 Uww
  have h := UfM (R := R) (l := r.tm) (step := UnA cols (k0 false)) (kend := fun _ => k0 (qb r.c))
    (fun m s i => UdS n m cols (tms r.tm) (bs r.c) r.eq r.mark s (i : Int) (fun _ _ _ _ y => k0 y) (fun _ y _ _ => p84 n y fun y15 => k0 y15))
    (fun m s => by simp only [UdS, Uh2]; simp (disch := (first | omega | (simp only [JlE]; omega))) only [↓JlH, JlF, Ua, hv1])
    (fun m s i hi => by
      have hv := fun k => Ude (R := R) n hn (r.tm[i]).2 (hr.1.2 _ (List.getElem_mem hi)) k
      simp only [UdS, Uh2, UnA]
      by_cases h1 : (r.tm[i]).1 ≤ s
      · simp (disch := (first | omega | (simp only [JlE]; omega))) only [↓JlH, JlF, Ua, Jji, Uat hi, i1]
      · by_cases h2 : (r.tm[i]).1 ≥ cols
        · simp (disch := (first | omega | (simp only [JlE]; omega))) only [↓JlH, JlF, Ua, Jji, Uat hi, i1]
        · by_cases h3 : (r.tm[i]).2 = [48]
          · simp (disch := (first | omega | (simp only [JlE]; omega))) only [↓JlH, JlF, Ua, Jji, Uat hi, i1, Ujt h3]
          · simp (disch := (first | omega | (simp only [JlE]; omega))) only [↓JlH, JlF, Ua, Jji, Uat hi, i1, UiL h3, hv]
            cases qb (r.tm[i]).2 <;> rfl) r.tm.length n 0 (-1) (by omega) (by omega)
  rw [List.drop_zero, UH9] at h
  refine Eq.trans h ?_
  unfold okR
  cases okT cols (-1) r.tm <;> rfl
noncomputable def Um7 (cols : Int) (rows : List RowT) : Int := if cols < 0 then 2 else if cols > 2048 then 2 else if rows.length > 2048 then 6 else if rows.all (okR cols) then 0 else 3
def smA (rows : List RowT) : Prop := rows.length < 2 ^ 17 ∧ ∀ r ∈ rows, smR r
theorem UAp (n : Nat) (hn : 10 ^ 400 ≤ n) (cols : Int) (rows : List RowT) (hr : smA rows) (k0 : Int → Option R) : p39 n cols (rws rows) k0 = k0 (Um7 cols rows) := by
  have hN := Uaq hn
  have hL := hr.1
  unfold p39 Uso Uwk Um7
  by_cases h1 : cols < 0
  · simp (disch := (first | omega | (simp only [JlE]; omega))) only [↓JlH, JlF]
  · by_cases h2 : cols > 2048
    · simp (disch := (first | omega | (simp only [JlE]; omega))) only [↓JlH, JlF]
    · by_cases h3 : rows.length > 2048
      · have h3' : ((rows.length : Nat) : Int) > 2048 := by omega
        simp (disch := (first | omega | (simp only [JlE]; omega))) only [↓JlH, JlF, Uab]
      · have h3' : ¬ ((rows.length : Nat) : Int) > 2048 := by omega
        have h := Uan (R := R) (l := rows) (ok := okR cols) (kbad := k0 3) (kend := k0 0) (fun m i => UcB n m cols (rws rows) (i : Int) k0 (k0 0))
          (fun m => by simp only [UcB, UhL]; simp (disch := (first | omega | (simp only [JlE]; omega))) only [↓JlH, JlF, Uab])
          (fun m i hi => by
            have hv := fun k => Uun (R := R) n hn cols rows[i] (hr.2 _ (List.getElem_mem hi)) k
            simp only [UcB, UhL]
            simp (disch := (first | omega | (simp only [JlE]; omega))) only [↓JlH, JlF, Uab, Jji, UaH hi, hv, i1]
            cases okR cols rows[i] <;> rfl) rows.length n 0 (by omega) (by omega)
        rw [List.drop_zero] at h
        have h' : UcB n n cols (rws rows) 0 k0 (k0 0) = _ := h
        simp (disch := (first | omega | (simp only [JlE]; omega))) only [↓JlH, JlF, Uab, h']
        cases rows.all (okR cols) <;> rfl
theorem UEG (n : Nat) (hn : 10 ^ 400 ≤ n) (cols : Int) (rows : List RowT) (hr : smA rows) (k0 : Int → Option R) : p65 n cols (rws rows) k0 = k0 (Um7 cols rows) := by
  have hN := Uaq hn
  have hL := hr.1
  unfold p65 UHl UHq Ur8 Um7
  by_cases h1 : cols < 0
  · simp (disch := (first | omega | (simp only [JlE]; omega))) only [↓JlH, JlF]
  · by_cases h2 : cols > 2048
    · simp (disch := (first | omega | (simp only [JlE]; omega))) only [↓JlH, JlF]
    · by_cases h3 : rows.length > 2048
      · have h3' : ((rows.length : Nat) : Int) > 2048 := by omega
        simp (disch := (first | omega | (simp only [JlE]; omega))) only [↓JlH, JlF, Uab]
      · have h3' : ¬ ((rows.length : Nat) : Int) > 2048 := by omega
        have h := Uan (R := R) (l := rows) (ok := okR cols) (kbad := k0 3) (kend := k0 0)
          (fun m i => Ubt n m (rws rows) cols (rws rows) ((rws rows).length : Int) (i : Int) (fun y => bif decide (y ≥ 0) then k0 3 else k0 0) (bif decide ((-1 : Int) ≥ 0) then k0 3 else k0 0))
          (fun m => by simp only [Ubt, UeW]; simp (disch := (first | omega | (simp only [JlE]; omega))) only [↓JlH, JlF, Uab])
          (fun m i hi => by
            have hv := fun k => Ukq (R := R) n hn cols rows[i] (hr.2 _ (List.getElem_mem hi)) k
            simp only [Ubt, UeW, UHm]
            simp (disch := (first | omega | (simp only [JlE]; omega))) only [↓JlH, JlF, Uab, Jji, UaH hi, hv, i1]
            cases okR cols rows[i] <;> simp (disch := (first | omega | (simp only [JlE]; omega))) only [↓JlH, JlF] <;> rfl) rows.length n 0 (by omega) (by omega)
        rw [List.drop_zero] at h
        have h' : Ubt n n (rws rows) cols (rws rows) ((rws rows).length : Int) 0 (fun y => bif decide (y ≥ 0) then k0 3 else k0 0) (bif decide ((-1 : Int) ≥ 0) then k0 3 else k0 0) = _ := h
        have e : ∀ a b : Option R, (bif decide (((rws rows).length : Int) > 2048) then a else b) = b := fun a b => by rw [Uab, decide_eq_false h3']; rfl
        simp only [c_neg h1, c_neg h2, Uak, e, h']
        rw [if_neg h1, if_neg h2, if_neg h3]
        cases rows.all (okR cols) <;> rfl
abbrev SpT := Nat × Rat
noncomputable def vt (l : List SpT) : List TermT := l.map fun t => ((t.1 : Int), Uag t.2)
theorem Uau (l : List SpT) : (vt l).length = l.length := by unfold vt; rw [List.length_map]
theorem UEJ {l : List SpT} {i : Nat} (h : i < (vt l).length) : (vt l)[i] = (((l[i]'(by rw [← Uau]; exact h)).1 : Int), Uag (l[i]'(by rw [← Uau]; exact h)).2) := by
  simp only [vt, List.getElem_map]
def asc : Int → List SpT → Prop
  | _, [] => True
  | last, t :: r => last < (t.1 : Int) ∧ asc t.1 r
def okN (cols : Int) (l : List SpT) : Prop := ∀ t ∈ l, t.2 ≠ 0 ∧ fits t.2 ∧ (t.1 : Int) < cols
def okS (cols : Int) (l : List SpT) : Prop := asc (-1) l ∧ okN cols l
theorem UcX {q : Rat} (h : fits q) : qb (Uag q) = true := UEr.2 ⟨q, h, rfl⟩
theorem Uey : fits 0 := Uhg (v := 0) (by decide +kernel)
theorem Ujb : Uag 0 = [48] := by rw [← show ((0 : Int) : Rat) = 0 from rfl, ← Uaw]; decide +kernel
theorem Ueu {q : Rat} : Uag q = [48] ↔ q = 0 := ⟨fun h => Uic (h.trans Ujb.symm), fun h => by rw [h, Ujb]⟩
theorem UrU {cols : Int} : ∀ {l : List SpT} {last : Int}, asc last l → okN cols l → okT cols last (vt l) = true
  | [], last, _, _ => rfl
  | t :: l, last, h1, h2 => by
    obtain ⟨e1, e2, e3⟩ := h2 t (List.mem_cons_self ..)
    show okT cols last (((t.1 : Int), Uag t.2) :: vt l) = true
    simp only [okT]
    have h1' := h1.1
    rw [if_neg (by omega), if_neg (by omega), if_neg (fun q => e1 (Ueu.1 q)), UcX e2, UrU h1.2 (fun x hx => h2 x (List.mem_cons_of_mem _ hx))]
    rfl
theorem UrT {cols : Int} : ∀ {l : List TermT} {last : Int}, -1 ≤ last → okT cols last l = true → ∃ l' : List SpT, l = vt l' ∧ asc last l' ∧ okN cols l'
  | [], last, _, _ => ⟨[], rfl, trivial, by intro t h; cases h⟩
  | t :: l, last, h0, h => by
    simp only [okT] at h
    by_cases h1 : t.1 ≤ last
    · rw [if_pos h1] at h; cases h
    rw [if_neg h1] at h
    by_cases h2 : t.1 ≥ cols
    · rw [if_pos h2] at h; cases h
    rw [if_neg h2] at h
    by_cases h3 : t.2 = [48]
    · rw [if_pos h3] at h; cases h
    rw [if_neg h3, Bool.and_eq_true] at h
    obtain ⟨q, hq, e⟩ := UEr.1 h.1
    obtain ⟨l', e1, e2, e3⟩ := UrT (by omega : -1 ≤ t.1) h.2
    have hc : ((t.1.toNat : Nat) : Int) = t.1 := by omega
    refine ⟨(t.1.toNat, q) :: l', ?_, ⟨by show last < ((t.1.toNat : Nat) : Int); omega, by show asc ((t.1.toNat : Nat) : Int) l'; rw [hc]; exact e2⟩, ?_⟩
    · rw [e1]
      show t :: vt l' = (((t.1.toNat : Nat) : Int), Uag q) :: vt l'
      rw [hc, ← e]
    · intro x hx
      rcases List.mem_cons.1 hx with rfl | hx
      · refine ⟨fun q0 => h3 (by rw [e]; exact Ueu.2 q0), hq, ?_⟩
        show ((t.1.toNat : Nat) : Int) < cols
        omega
      · exact e3 x hx
theorem Utb {l : List SpT} {a b : Int} (h : asc b l) (hab : a ≤ b) : asc a l := by
  cases l with
  | nil => trivial
  | cons t r => exact ⟨by have := h.1; omega, h.2⟩
theorem Ujs : ∀ {l : List SpT} {a : Int}, asc a l → ∀ t ∈ l, a < (t.1 : Int)
  | t :: l, a, h, x, hx => by
    rcases List.mem_cons.1 hx with rfl | hx
    · exact h.1
    · have := Ujs h.2 x hx; have := h.1; omega
def cf : List SpT → Nat → Rat
  | [], _ => 0
  | t :: r, i => if t.1 = i then t.2 else cf r i
theorem UbJ (t : SpT) (r : List SpT) (i : Nat) : cf (t :: r) i = if t.1 = i then t.2 else cf r i := rfl
theorem UoQ : ∀ {l : List SpT} {i : Nat}, (∀ t ∈ l, t.1 ≠ i) → cf l i = 0
  | [], _, _ => rfl
  | t :: l, i, h => by rw [cf, if_neg (h t (List.mem_cons_self ..)), UoQ fun x hx => h x (List.mem_cons_of_mem _ hx)]
theorem UbK {l : List SpT} {a : Int} (h : asc a l) {i : Nat} (hi : (i : Int) ≤ a) : cf l i = 0 := UoQ fun t ht => by have := Ujs h t ht; omega
theorem UoP : ∀ {l : List SpT} {a : Int}, asc a l → ∀ t ∈ l, cf l t.1 = t.2
  | t :: l, a, h, x, hx => by
    rcases List.mem_cons.1 hx with rfl | hx
    · rw [cf, if_pos rfl]
    · have := Ujs h.2 x hx
      rw [cf, if_neg (by omega), UoP h.2 x hx]
theorem Ux0 {l : List SpT} {i : Nat} (h : cf l i ≠ 0) : ∃ t ∈ l, t.1 = i ∧ t.2 = cf l i := by
  induction l with
  | nil => exact absurd rfl h
  | cons t l ih =>
    rw [cf] at h ⊢
    by_cases e : t.1 = i
    · rw [if_pos e]; exact ⟨t, List.mem_cons_self .., e, rfl⟩
    · rw [if_neg e] at h ⊢
      obtain ⟨x, hx, h1, h2⟩ := ih h
      exact ⟨x, List.mem_cons_of_mem _ hx, h1, h2⟩
theorem Ujx {cols : Int} {l : List SpT} (h : okN cols l) (i : Nat) : fits (cf l i) := by
  by_cases h0 : cf l i = 0
  · rw [h0]; exact Uey
  · obtain ⟨t, ht, _, e⟩ := Ux0 h0
    rw [← e]; exact (h t ht).2.1
open Classical in
noncomputable def scO (q : Rat) (l : List SpT) : Option (List SpT) := if ∀ t ∈ l, fits (t.2 * q) then some (l.map fun t => (t.1, t.2 * q)) else none
theorem UnX (f : SpT → Rat) : ∀ {l : List SpT} {a : Int}, asc a l → asc a (l.map fun t => (t.1, f t))
  | [], _, _ => trivial
  | t :: l, a, h => ⟨h.1, UnX f h.2⟩
theorem UBm (q : Rat) : ∀ (l : List SpT) (i : Nat), cf (l.map fun t => (t.1, t.2 * q)) i = cf l i * q
  | [], i => by simp [cf, Rat.zero_mul]
  | t :: l, i => by
    rw [List.map_cons, cf, cf, UBm q l i]
    split <;> rfl
theorem UI {cols : Int} {q : Rat} (h0 : q ≠ 0) {l r : List SpT} (h : okS cols l) (he : scO q l = some r) : okS cols r ∧ ∀ i, cf r i = cf l i * q := by
  unfold scO at he
  split at he
  · rename_i hf
    simp only [Option.some.injEq] at he
    subst he
    refine ⟨⟨UnX _ h.1, fun t ht => ?_⟩, UBm q l⟩
    obtain ⟨x, hx, rfl⟩ := List.mem_map.1 ht
    obtain ⟨e1, e2, e3⟩ := h.2 x hx
    refine ⟨fun e => ?_, hf x hx, e3⟩
    rcases Rat.mul_eq_zero.1 e with q1 | q1
    · exact e1 q1
    · exact h0 q1
  · cases he
theorem UAm {q : Rat} {l : List SpT} {a : Int} (ha : asc a l) : scO q l = none ↔ ∃ i, ¬ fits (cf l i * q) := by
  unfold scO
  split
  · rename_i hf
    refine ⟨fun h => (by cases h), fun ⟨i, hi⟩ => ?_⟩
    by_cases h0 : cf l i = 0
    · rw [h0, Rat.zero_mul] at hi; exact absurd Uey hi
    · obtain ⟨t, ht, _, e⟩ := Ux0 h0
      rw [← e] at hi; exact absurd (hf t ht) hi
  · rename_i hf
    refine ⟨fun _ => ?_, fun _ => rfl⟩
    apply Classical.byContradiction
    intro hn
    apply hf
    intro t ht
    apply Classical.byContradiction
    intro hq
    exact hn ⟨t.1, by rw [UoP ha t ht]; exact hq⟩
open Classical in
noncomputable def Uez : List SpT → List SpT → Option (List SpT)
  | [], b => some b
  | a :: xs, [] => some (a :: xs)
  | a :: xs, b :: ys => if a.1 < b.1 then (Uez xs (b :: ys)).map (a :: ·) else if b.1 < a.1 then (Uez (a :: xs) ys).map (b :: ·)
      else if fits (a.2 + b.2) then (Uez xs ys).map (fun r => if a.2 + b.2 = 0 then r else (a.1, a.2 + b.2) :: r) else none
termination_by a b => a.length + b.length
theorem UrO (a : List SpT) : Uez a [] = some a := by cases a <;> simp [Uez]
theorem UmL {cols : Int} : ∀ (k : Nat) {a b : List SpT} {last : Int}, a.length + b.length ≤ k → asc last a → asc last b → okN cols a → okN cols b → ∀ {r : List SpT}, Uez a b = some r → asc last r ∧ okN cols r ∧ ∀ i, cf r i = cf a i + cf b i
  | k, [], b, last, hk, ha, hb, na, nb, r, h => by
    simp only [Uez, Option.some.injEq] at h
    subst h
    exact ⟨hb, nb, fun i => by simp [cf, Rat.zero_add]⟩
  | k, a :: xs, [], last, hk, ha, hb, na, nb, r, h => by
    simp only [Uez, Option.some.injEq] at h
    subst h
    exact ⟨ha, na, fun i => by simp [cf, Rat.add_zero]⟩
  | k + 1, a :: xs, b :: ys, last, hk, ha, hb, na, nb, r, h => by
    have na' : okN cols xs := fun x hx => na x (List.mem_cons_of_mem _ hx)
    have nb' : okN cols ys := fun x hx => nb x (List.mem_cons_of_mem _ hx)
    rw [Uez] at h
    simp only [List.length_cons] at hk
    by_cases h1 : a.1 < b.1
    · rw [if_pos h1] at h
      obtain ⟨r', e, rfl⟩ := Option.map_eq_some_iff.1 h
      have hb2 : asc (a.1 : Int) (b :: ys) := ⟨by omega, hb.2⟩
      obtain ⟨p1, p2, p3⟩ := UmL k (by simp only [List.length_cons]; omega) ha.2 hb2 na' nb e
      refine ⟨⟨ha.1, p1⟩, fun x hx => ?_, fun i => ?_⟩
      · rcases List.mem_cons.1 hx with rfl | hx
        · exact na _ (List.mem_cons_self ..)
        · exact p2 x hx
      · rw [UbJ a r' i, UbJ a xs i, p3 i]
        by_cases hi : a.1 = i
        · rw [if_pos hi, if_pos hi, UbK hb2 (by omega), Rat.add_zero]
        · rw [if_neg hi, if_neg hi]
    · rw [if_neg h1] at h
      by_cases h2 : b.1 < a.1
      · rw [if_pos h2] at h
        obtain ⟨r', e, rfl⟩ := Option.map_eq_some_iff.1 h
        have ha2 : asc (b.1 : Int) (a :: xs) := ⟨by omega, ha.2⟩
        obtain ⟨p1, p2, p3⟩ := UmL k (by simp only [List.length_cons]; omega) ha2 hb.2 na nb' e
        refine ⟨⟨hb.1, p1⟩, fun x hx => ?_, fun i => ?_⟩
        · rcases List.mem_cons.1 hx with rfl | hx
          · exact nb _ (List.mem_cons_self ..)
          · exact p2 x hx
        · rw [UbJ b r' i, UbJ b ys i, p3 i]
          by_cases hi : b.1 = i
          · rw [if_pos hi, if_pos hi, UbK ha2 (by omega), Rat.zero_add]
          · rw [if_neg hi, if_neg hi]
      · rw [if_neg h2] at h
        have e0 : a.1 = b.1 := by omega
        by_cases hf : fits (a.2 + b.2)
        · rw [if_pos hf] at h
          obtain ⟨r', e, rfl⟩ := Option.map_eq_some_iff.1 h
          obtain ⟨p1, p2, p3⟩ := UmL k (by omega) ha.2 (by rw [e0]; exact hb.2) na' nb' e
          by_cases hz : a.2 + b.2 = 0
          · rw [if_pos hz]
            refine ⟨Utb p1 (by have := ha.1; omega), p2, fun i => ?_⟩
            rw [p3 i, cf, cf]
            by_cases hi : a.1 = i
            · rw [if_pos hi, if_pos (by omega), hz, UbK ha.2 (by omega), UbK hb.2 (by omega), Rat.add_zero]
            · rw [if_neg hi, if_neg (by omega)]
          · rw [if_neg hz]
            refine ⟨⟨ha.1, p1⟩, fun x hx => ?_, fun i => ?_⟩
            · rcases List.mem_cons.1 hx with rfl | hx
              · exact ⟨hz, hf, (na a (List.mem_cons_self ..)).2.2⟩
              · exact p2 x hx
            · rw [UbJ (a.1, a.2 + b.2) r' i, UbJ a xs i, UbJ b ys i, p3 i]
              by_cases hi : a.1 = i
              · rw [if_pos hi, if_pos hi, if_pos (by omega)]
              · rw [if_neg hi, if_neg hi, if_neg (by omega)]
        · rw [if_neg hf] at h; cases h
theorem UeJ {cols : Int} : ∀ (k : Nat) {a b : List SpT} {last : Int}, a.length + b.length ≤ k → asc last a → asc last b → okN cols a → okN cols b → (Uez a b = none ↔ ∃ i, ¬ fits (cf a i + cf b i))
  | k, [], b, last, hk, ha, hb, na, nb => by
    simp only [Uez, reduceCtorEq, false_iff]
    rintro ⟨i, hi⟩
    rw [cf, Rat.zero_add] at hi
    exact hi (Ujx nb i)
  | k, a :: xs, [], last, hk, ha, hb, na, nb => by
    simp only [Uez, reduceCtorEq, false_iff]
    rintro ⟨i, hi⟩
    rw [show cf [] i = 0 from rfl, Rat.add_zero] at hi
    exact hi (Ujx na i)
  | k + 1, a :: xs, b :: ys, last, hk, ha, hb, na, nb => by
    have na' : okN cols xs := fun x hx => na x (List.mem_cons_of_mem _ hx)
    have nb' : okN cols ys := fun x hx => nb x (List.mem_cons_of_mem _ hx)
    have fa := (na a (List.mem_cons_self ..)).2.1
    have fb := (nb b (List.mem_cons_self ..)).2.1
    rw [Uez]
    simp only [List.length_cons] at hk
    by_cases h1 : a.1 < b.1
    · have hb2 : asc (a.1 : Int) (b :: ys) := ⟨by omega, hb.2⟩
      rw [if_pos h1, Option.map_eq_none_iff, UeJ k (by simp only [List.length_cons]; omega) ha.2 hb2 na' nb]
      refine exists_congr fun i => ?_
      rw [show cf (a :: xs) i = if a.1 = i then a.2 else cf xs i from rfl]
      by_cases hi : a.1 = i
      · rw [if_pos hi, UbK ha.2 (by omega), UbK hb2 (by omega), Rat.add_zero, Rat.add_zero]
        exact ⟨fun h => absurd Uey h, fun h => absurd fa h⟩
      · rw [if_neg hi]
    · rw [if_neg h1]
      by_cases h2 : b.1 < a.1
      · have ha2 : asc (b.1 : Int) (a :: xs) := ⟨by omega, ha.2⟩
        rw [if_pos h2, Option.map_eq_none_iff, UeJ k (by simp only [List.length_cons]; omega) ha2 hb.2 na nb']
        refine exists_congr fun i => ?_
        rw [show cf (b :: ys) i = if b.1 = i then b.2 else cf ys i from rfl]
        by_cases hi : b.1 = i
        · rw [if_pos hi, UbK hb.2 (by omega), UbK ha2 (by omega), Rat.add_zero, Rat.zero_add]
          exact ⟨fun h => absurd Uey h, fun h => absurd fb h⟩
        · rw [if_neg hi]
      · have e0 : a.1 = b.1 := by omega
        rw [if_neg h2]
        have at_ : ∀ i, a.1 = i → cf (a :: xs) i + cf (b :: ys) i = a.2 + b.2 := fun i hi => by rw [cf, cf, if_pos hi, if_pos (by omega)]
        have off : ∀ i, a.1 ≠ i → cf (a :: xs) i + cf (b :: ys) i = cf xs i + cf ys i := fun i hi => by rw [cf, cf, if_neg hi, if_neg (by omega)]
        by_cases hf : fits (a.2 + b.2)
        · rw [if_pos hf, Option.map_eq_none_iff, UeJ k (by omega) ha.2 (by rw [e0]; exact hb.2) na' nb']
          refine exists_congr fun i => ?_
          by_cases hi : a.1 = i
          · rw [at_ i hi, UbK ha.2 (by omega), UbK hb.2 (by omega), Rat.add_zero]
            exact ⟨fun h => absurd Uey h, fun h => absurd hf h⟩
          · rw [off i hi]
        · rw [if_neg hf]
          exact ⟨fun _ => ⟨a.1, by rw [at_ _ rfl]; exact hf⟩, fun _ => rfl⟩
end Go.Proofs.YtmgfmlhdnadglaaGreatDoor
