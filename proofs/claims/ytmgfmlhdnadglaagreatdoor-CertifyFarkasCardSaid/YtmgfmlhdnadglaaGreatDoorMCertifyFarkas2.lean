/- Proved: part 6 of the proof that the law CertifyFarkas returns true at all its arguments (no further conditions). -/
import Derived.Test.YtmgfmlhdnadglaaGreatDoorMCertifyFarkas1
import Derived.Test.YtmgfmlhdnadglaaGreatDoorMCertifyFarkas0
set_option linter.unusedVariables false
set_option linter.unusedSimpArgs false
namespace Go.Proofs.YtmgfmlhdnadglaaGreatDoor
open Go Th Go.Proofs
variable {R : Type}
abbrev SpR := List SpT × Rat
open Classical in
noncomputable def tmO (q : Rat) (r : SpR) : Option SpR := if Ual (r.2 * q) then (scO q r.1).map fun x => (x, r.2 * q) else none
open Classical in
noncomputable def plO (a b : SpR) : Option SpR := if Ual (a.2 + b.2) then (UeB a.1 b.1).map fun x => (x, a.2 + b.2) else none
open Classical in
noncomputable def UeC (q : Rat) (r s : SpR) : Option SpR := if q = 0 then some s else (tmO q r).bind fun x => plO s x
noncomputable def Ucw : List (SpR × Rat) → SpR → Option SpR
  | [], s => some s
  | x :: t, s => (UeC x.2 x.1 s).bind (Ucw t)
def okF (cols : Int) (r : SpR) : Prop := okS cols r.1 ∧ Ual r.2
abbrev DnR := List Rat × Rat
def Uuu (s : SpR) (d : DnR) : Prop := s.2 = d.2 ∧ ∀ i, d.1.getD i 0 = cf s.1 i
def UaU (d : DnR) : Prop := (∀ x ∈ d.1, Ual x) ∧ Ual d.2
def scD (q : Rat) (d : DnR) : DnR := (d.1.map (· * q), d.2 * q)
def adD (a b : DnR) : DnR := ((List.range (max a.1.length b.1.length)).map fun i => a.1.getD i 0 + b.1.getD i 0, a.2 + b.2)
open Classical in
noncomputable def Uba (q : Rat) (r s : DnR) : Option DnR := if q = 0 then some s else if UaU (scD q r) then (if UaU (adD s (scD q r)) then some (adD s (scD q r)) else none) else none
noncomputable def Ug4 : List (DnR × Rat) → DnR → Option DnR
  | [], s => some s
  | x :: t, s => (Uba x.2 x.1 s).bind (Ug4 t)
theorem UbN {d : DnR} : UaU d ↔ (∀ i, Ual (d.1.getD i 0)) ∧ Ual d.2 := by
  unfold UaU
  refine and_congr_left fun _ => ⟨fun h i => ?_, fun h x hx => ?_⟩
  · by_cases hi : i < d.1.length
    · rw [List.getD_eq_getElem?_getD, List.getElem?_eq_getElem hi]; exact h _ (List.getElem_mem hi)
    · rw [List.getD_eq_getElem?_getD, List.getElem?_eq_none (by omega)]; exact UeA
  · obtain ⟨i, hi, rfl⟩ := List.getElem_of_mem hx
    have := h i
    rwa [List.getD_eq_getElem?_getD, List.getElem?_eq_getElem hi] at this
theorem Ufb (q : Rat) (d : DnR) (i : Nat) : (scD q d).1.getD i 0 = d.1.getD i 0 * q := by
  show (d.1.map (· * q)).getD i 0 = _
  simp only [List.getD_eq_getElem?_getD, List.getElem?_map]
  cases d.1[i]? <;> simp [Rat.zero_mul]
theorem UgO (a b : DnR) (i : Nat) : (adD a b).1.getD i 0 = a.1.getD i 0 + b.1.getD i 0 := by
  show ((List.range (max a.1.length b.1.length)).map _).getD i 0 = _
  by_cases hi : i < max a.1.length b.1.length
  · rw [List.getD_eq_getElem?_getD, List.getElem?_map, List.getElem?_range hi]; rfl
  · rw [List.getD_eq_getElem?_getD, List.getElem?_eq_none (by simp; omega)]
    simp only [List.getD_eq_getElem?_getD]
    rw [List.getElem?_eq_none (by omega), List.getElem?_eq_none (by omega)]
    show (0 : Rat) = 0 + 0
    rw [Rat.add_zero]
theorem Uux {cols : Int} {q : Rat} (h0 : q ≠ 0) {r x : SpR} (h : okF cols r) (he : tmO q r = some x) : okF cols x ∧ x.2 = r.2 * q ∧ ∀ i, cf x.1 i = cf r.1 i * q := by
  unfold tmO at he
  split at he
  · rename_i hf
    obtain ⟨y, e, rfl⟩ := Option.map_eq_some_iff.1 he
    obtain ⟨e1, e2⟩ := UIf h0 h.1 e
    exact ⟨⟨e1, hf⟩, rfl, e2⟩
  · cases he
theorem Uzo {cols : Int} {a b x : SpR} (ha : okF cols a) (hb : okF cols b) (he : plO a b = some x) : okF cols x ∧ x.2 = a.2 + b.2 ∧ ∀ i, cf x.1 i = cf a.1 i + cf b.1 i := by
  unfold plO at he
  split at he
  · rename_i hf
    obtain ⟨y, e, rfl⟩ := Option.map_eq_some_iff.1 he
    obtain ⟨e1, e2, e3⟩ := UmN _ (Nat.le_refl _) ha.1.1 hb.1.1 ha.1.2 hb.1.2 e
    exact ⟨⟨⟨e1, e2⟩, hf⟩, rfl, e3⟩
  · cases he
theorem Us7 {cols : Int} {q : Rat} {r : SpR} (h : okF cols r) : tmO q r = none ↔ ¬ (Ual (r.2 * q) ∧ ∀ i, Ual (cf r.1 i * q)) := by
  unfold tmO
  split
  · rename_i hf
    rw [Option.map_eq_none_iff, UAr h.1.1]
    exact ⟨fun ⟨i, hi⟩ q => hi (q.2 i), fun q => Classical.byContradiction fun hn => q ⟨hf, fun i => Classical.byContradiction fun hi => hn ⟨i, hi⟩⟩⟩
  · rename_i hf
    exact ⟨fun _ q => hf q.1, fun _ => rfl⟩
theorem UsC {cols : Int} {a b : SpR} (ha : okF cols a) (hb : okF cols b) : plO a b = none ↔ ¬ (Ual (a.2 + b.2) ∧ ∀ i, Ual (cf a.1 i + cf b.1 i)) := by
  unfold plO
  split
  · rename_i hf
    rw [Option.map_eq_none_iff, UeL _ (Nat.le_refl _) ha.1.1 hb.1.1 ha.1.2 hb.1.2]
    exact ⟨fun ⟨i, hi⟩ q => hi (q.2 i), fun q => Classical.byContradiction fun hn => q ⟨hf, fun i => Classical.byContradiction fun hi => hn ⟨i, hi⟩⟩⟩
  · rename_i hf
    exact ⟨fun _ q => hf q.1, fun _ => rfl⟩
theorem UsO {cols : Int} {q : Rat} {r s : SpR} {rd sd : DnR} (hr : okF cols r) (hs : okF cols s) (er : Uuu r rd) (es : Uuu s sd) :
    (UeC q r s = none ∧ Uba q rd sd = none) ∨ ∃ x xd, UeC q r s = some x ∧ Uba q rd sd = some xd ∧ okF cols x ∧ Uuu x xd := by
  unfold UeC Uba
  by_cases h0 : q = 0
  · rw [if_pos h0, if_pos h0]; exact .inr ⟨s, sd, rfl, rfl, hs, es⟩
  rw [if_neg h0, if_neg h0]
  have k1 : UaU (scD q rd) ↔ (Ual (r.2 * q) ∧ ∀ i, Ual (cf r.1 i * q)) := by
    rw [UbN, and_comm, show (scD q rd).2 = rd.2 * q from rfl, ← er.1]
    refine and_congr_right fun _ => forall_congr' fun i => ?_
    rw [Ufb, er.2 i]
  cases h1 : tmO q r with
  | none =>
    have := (Us7 hr).1 h1
    rw [if_neg (fun q => this (k1.1 q))]
    exact .inl ⟨rfl, rfl⟩
  | some x =>
    have hx : UaU (scD q rd) := Classical.byContradiction fun hn => by
      have := (Us7 hr).2 (fun q => hn (k1.2 q))
      rw [h1] at this; cases this
    rw [if_pos hx]
    obtain ⟨e1, e2, e3⟩ := Uux h0 hr h1
    have k2 : UaU (adD sd (scD q rd)) ↔ (Ual (s.2 + x.2) ∧ ∀ i, Ual (cf s.1 i + cf x.1 i)) := by
      rw [UbN, and_comm, show (adD sd (scD q rd)).2 = sd.2 + rd.2 * q from rfl, ← es.1, ← er.1, e2]
      refine and_congr_right fun _ => forall_congr' fun i => ?_
      rw [UgO, Ufb, er.2 i, es.2 i, e3 i]
    rw [Option.bind_some]
    cases h2 : plO s x with
    | none =>
      have := (UsC hs e1).1 h2
      rw [if_neg (fun q => this (k2.1 q))]
      exact .inl ⟨rfl, rfl⟩
    | some y =>
      have hy : UaU (adD sd (scD q rd)) := Classical.byContradiction fun hn => by
        have := (UsC hs e1).2 (fun q => hn (k2.2 q))
        rw [h2] at this; cases this
      rw [if_pos hy]
      obtain ⟨g1, g2, g3⟩ := Uzo hs e1 h2
      refine .inr ⟨y, _, rfl, rfl, g1, ?_, fun i => ?_⟩
      · rw [g2, e2, es.1, er.1]; rfl
      · rw [UgO, Ufb, er.2 i, es.2 i, g3 i, e3 i]
theorem UiR {cols : Int} : ∀ {l : List (SpR × Rat)} {ld : List (DnR × Rat)} {s : SpR} {sd : DnR}, l.length = ld.length → (∀ i (h : i < l.length) (h' : i < ld.length), okF cols l[i].1 ∧ Uuu l[i].1 ld[i].1 ∧ l[i].2 = ld[i].2) →
    okF cols s → Uuu s sd → (Ucw l s = none ∧ Ug4 ld sd = none) ∨ ∃ x xd, Ucw l s = some x ∧ Ug4 ld sd = some xd ∧ okF cols x ∧ Uuu x xd
  | [], [], s, sd, _, _, hs, es => .inr ⟨s, sd, rfl, rfl, hs, es⟩
  | [], _ :: _, _, _, hl, _, _, _ => by simp at hl
  | _ :: _, [], _, _, hl, _, _, _ => by simp at hl
  | x :: l, y :: ld, s, sd, hl, h, hs, es => by
    obtain ⟨a1, a2, a3⟩ := h 0 (by simp) (by simp)
    simp only [List.getElem_cons_zero] at a1 a2 a3
    rw [Ucw, Ug4, ← a3]
    rcases UsO (q := x.2) a1 hs a2 es with ⟨e1, e2⟩ | ⟨z, zd, e1, e2, e3, e4⟩
    · rw [e1, e2]; exact .inl ⟨rfl, rfl⟩
    · rw [e1, e2, Option.bind_some, Option.bind_some]
      refine UiR (by simpa using hl) (fun i h1 h2 => ?_) e3 e4
      have := h (i + 1) (by simp; omega) (by simp; omega)
      simpa using this
theorem Ux7 {cols : Int} {l : List (SpR × Rat)} {s x : SpR} (h : ∀ y ∈ l, okF cols y.1) (hs : okF cols s) (he : Ucw l s = some x) : okF cols x := by
  induction l generalizing s with
  | nil => simp only [Ucw, Option.some.injEq] at he; rwa [← he]
  | cons y l ih =>
    rw [Ucw] at he
    obtain ⟨z, e1, e2⟩ := Option.bind_eq_some_iff.1 he
    refine ih (fun w hw => h w (List.mem_cons_of_mem _ hw)) ?_ e2
    unfold UeC at e1
    by_cases h0 : y.2 = 0
    · rw [if_pos h0, Option.some.injEq] at e1; rwa [← e1]
    · rw [if_neg h0] at e1
      obtain ⟨w, f1, f2⟩ := Option.bind_eq_some_iff.1 e1
      exact (Uzo hs (Uux h0 (h y (List.mem_cons_self ..)) f1).1 f2).1
def UaO {α σ : Type} (step : σ → α → Option σ) : σ → List α → Option σ
  | s, [] => some s
  | s, a :: l => (step s a).bind fun s' => UaO step s' l
def UAD {σ : Type} (kerr : Option R) (kend : σ → Option R) : Option σ → Option R
  | none => kerr
  | some s => kend s
theorem Udi {α σ : Type} {l : List α} {step : σ → α → Option σ} {kerr : Option R} {kend : σ → Option R} {Inv : Nat → σ → Prop} (L : Nat → σ → Nat → Option R)
    (hend : ∀ m s, Inv l.length s → L (m + 1) s l.length = kend s)
    (hinv : ∀ s s' i (h : i < l.length), Inv i s → step s l[i] = some s' → Inv (i + 1) s')
    (hstep : ∀ m s i (h : i < l.length), Inv i s → L (m + 1) s i = UAD kerr (fun s' => L m s' (i + 1)) (step s l[i])) :
    ∀ (d m i : Nat) (s : σ), d + i = l.length → d < m → Inv i s → L m s i = UAD kerr kend (UaO step s (l.drop i))
  | 0, m + 1, i, s, hd, hm, hs => by
    have : i = l.length := by omega
    subst this
    rw [hend m s hs, List.drop_length]; rfl
  | d + 1, m + 1, i, s, hd, hm, hs => by
    have hi : i < l.length := by omega
    rw [hstep m s i hi hs, Ua6 hi]
    show _ = UAD kerr kend ((step s l[i]).bind fun s' => UaO step s' (l.drop (i + 1)))
    cases h : step s l[i] with
    | none => rfl
    | some s' => exact Udi L hend hinv hstep d m (i + 1) s' (by omega) (by omega) (hinv s s' i hi hs h)
theorem Ufs {α σ : Type} {step : σ → α → Option σ} {P : α → Prop} {Inv : σ → Prop} (hstep : ∀ s s' a, P a → Inv s → step s a = some s' → Inv s') : ∀ {l : List α} {s s' : σ}, (∀ a ∈ l, P a) → Inv s → UaO step s l = some s' → Inv s'
  | [], s, s', _, hs, h => by simp only [UaO, Option.some.injEq] at h; rwa [← h]
  | a :: l, s, s', hl, hs, h => by
    obtain ⟨x, e1, e2⟩ := Option.bind_eq_some_iff.1 h
    exact Ufs hstep (fun y hy => hl y (List.mem_cons_of_mem _ hy)) (hstep s x a (hl a (List.mem_cons_self ..)) hs e1) e2
open Classical in
noncomputable def rq (s : List UInt8) : Rat := if h : isQ s then Classical.choose h else 0
theorem UsI {s : List UInt8} (h : qb s = true) : Ual (rq s) ∧ s = Uag (rq s) := by
  have h' := UEw.1 h
  unfold rq
  rw [dif_pos h']
  exact Classical.choose_spec h'
theorem UAq {q : Rat} (h : Ual q) : rq (Uag q) = q := (Uie (UsI (UcZ h)).2).symm
noncomputable def spL (l : List Uar) : List SpT := l.map fun t => (t.1.toNat, rq t.2)
noncomputable def spR (r : RowT) : SpR := (spL r.tm, rq r.c)
theorem UEI {cols : Int} {l : List SpT} (h : okN cols l) : spL (vt l) = l := by
  unfold spL vt
  rw [List.map_map]
  conv => rhs; rw [← List.map_id l]
  refine List.map_congr_left fun t ht => ?_
  simp only [Function.comp, id_eq]
  rw [UAq (h t ht).2.1]
  rfl
theorem UDn {cols : Int} {l : List Uar} (h : okT cols (-1) l = true) : okS cols (spL l) ∧ l = vt (spL l) := by
  obtain ⟨l', e1, e2, e3⟩ := UrW (by omega) h
  subst e1
  rw [UEI e3]
  exact ⟨⟨e2, e3⟩, rfl⟩
theorem Uf4 {cols : Int} {r : RowT} (h : okR cols r = true) : okF cols (spR r) ∧ r.tm = vt (spR r).1 ∧ r.c = Uag (spR r).2 := by
  unfold okR at h
  rw [Bool.and_eq_true] at h
  obtain ⟨e1, e2⟩ := UDn h.1
  obtain ⟨f1, f2⟩ := UsI h.2
  exact ⟨⟨e1, f1⟩, e2, f2⟩
open Classical in
noncomputable def rdT (d : List Rat) (t : SpT) : Option (List Rat) := if Ual (d.getD t.1 0 + t.2) then some (d.set t.1 (d.getD t.1 0 + t.2)) else none
theorem Uhj (d : List Rat) (k i : Nat) (y : Rat) (h : k < d.length) : (d.set k y).getD i 0 = if k = i then y else d.getD i 0 := by
  simp only [List.getD_eq_getElem?_getD]
  rw [List.getElem?_set]
  by_cases hi : k = i
  · subst hi; rw [if_pos rfl, if_pos rfl, if_pos h]; rfl
  · rw [if_neg hi, if_neg hi]
theorem UEA {l : List SpT} {d d' : List Rat} (h : UaO rdT d l = some d') : d'.length = d.length := by
  refine Ufs (step := rdT) (P := fun _ => True) (Inv := fun x => x.length = d.length) (fun s s' a _ hs he => ?_) (fun _ _ => trivial) rfl h
  unfold rdT at he
  split at he
  · simp only [Option.some.injEq] at he
    rw [← he, List.length_set, hs]
  · cases he
theorem UEB {cols : Int} : ∀ {l : List SpT} {last : Int} {d : List Rat}, asc last l → okN cols l → (∀ i : Nat, last < (i : Int) → d.getD i 0 = 0) → (∀ t ∈ l, t.1 < d.length) →
    ∃ d', UaO rdT d l = some d' ∧ ∀ i, d'.getD i 0 = d.getD i 0 + cf l i
  | [], last, d, _, _, _, _ => ⟨d, rfl, fun i => by rw [cf, Rat.add_zero]⟩
  | t :: l, last, d, h1, h2, h3, h4 => by
    have ht := h4 t (List.mem_cons_self ..)
    have hf := (h2 t (List.mem_cons_self ..)).2.1
    have h0 : d.getD t.1 0 = 0 := h3 t.1 h1.1
    have hg := fun i => Uhj d t.1 i (d.getD t.1 0 + t.2) ht
    obtain ⟨d', e1, e2⟩ := UEB (d := d.set t.1 (d.getD t.1 0 + t.2)) h1.2 (fun x hx => h2 x (List.mem_cons_of_mem _ hx))
      (fun i hi => by
        have := h1.1
        rw [hg, if_neg (by omega), h3 i (by omega)])
      (fun x hx => by rw [List.length_set]; exact h4 x (List.mem_cons_of_mem _ hx))
    refine ⟨d', ?_, fun i => ?_⟩
    · rw [UaO, rdT, if_pos (by rw [h0, Rat.zero_add]; exact hf)]
      exact e1
    · rw [e2 i, hg i, UbL]
      by_cases hi : t.1 = i
      · subst hi
        rw [if_pos rfl, if_pos rfl, UbM h1.2 (by omega), Rat.add_zero]
      · rw [if_neg hi, if_neg hi]
noncomputable def wrD : Nat → List Rat → List SpT
  | _, [] => []
  | k, x :: d => if x = 0 then wrD (k + 1) d else (k, x) :: wrD (k + 1) d
theorem UtS {a b : Int} (h : a ≤ b) {l : List SpT} (hl : okN a l) : okN b l := fun t ht => ⟨(hl t ht).1, (hl t ht).2.1, by have := (hl t ht).2.2; omega⟩
end Go.Proofs.YtmgfmlhdnadglaaGreatDoor
set_option linter.unusedVariables false
set_option maxRecDepth 100000
namespace Go.Proofs.YtmgfmlhdnadglaaGreatDoor
open Go Th Go.Proofs
noncomputable section
variable {R : Type}
def Uw8 : Ann := { loops := [], cuts := [], frz := [], rm := [.id, .id] }
abbrev UBY (n : Nat) : Env := eC 58 (UCZ n) eN
theorem Up6 (n : Nat) : EnvOK Tryz.prog GI (UBY n) := .cons (.nil) (UFj n)
def p62 (n : Nat) (x1 : Bool) (x2 x3 : LP) (x4 : Bool) (x5 x6 : LP) (k0 : Bool → LP → LP → Int → O R) : O R :=
  p58 n x2 x5 (fun y7 => p58 n x3 x6 (fun y8 => k0 (!(x1 == x4)) y7 y8 0))
abbrev UMx (n : Nat) : Orc R := oN
abbrev ULR (n : Nat) : Orc R := oN
abbrev K62 (R : Type) (n : Nat) := JcK (R := R) Tryz.prog (UBY n) Uw8 n (22, []) (UMx n) (ULR n)
theorem UOd (n : Nat) : Jfb (K62 R n) (JaJ Uw8 (Jls Tryz.f62)) := pO pN (by kernel_rfl)
abbrev t62 : Sl (List SV) := (.c (sP (JlP (.c Jlm (.c sSh (.c sSh .n))))) (.c (sP (JlP (.c Jlm (.c sSh (.c sSh .n))))) .n))
abbrev f62 (n : Nat) (K : List SV → O R) : t62.T (O R) := fun x1 x2 x3 x4 x5 x6 => p62 n x1 x2 x3 x4 x5 x6 (fun y1 y2 y3 y4 => K [.p (.agg [.v (.bool y1), .sh y2, .sh y3]), vI y4])
abbrev UKa (n : Nat) : FS := fT [false, false] t62 (f62 n)
theorem UNi (n : Nat) : FSound Tryz.prog GI 62 (UKa n) := gd Uw8 n (Up6 n) Tryz.func62 (.cons (Up6 n) t62 (f62 n) (fun K _ _ _ _ _ _ => (Jkx (c := Jls Tryz.f62) (by kernel_rfl) (UOd n) K).trans (by kernel_rfl)) .nil) (by kernel_rfl)
def Ux : Ann := { loops := [], cuts := [], frz := [], rm := [.id] }
abbrev UB0 (n : Nat) : Env := eC 104 (UCt n) (eC 103 (UCs n) (eC 58 (UCZ n) (eC 57 (UE6 n) eN)))
theorem Up8 (n : Nat) : EnvOK Tryz.prog GI (UB0 n) := .cons (.cons (.cons (.cons (.nil) (UHm n)) (UFj n)) (UGO n)) (UGP n)
def p64 (n : Nat) (x1 : Bool) (x2 x3 : LP) (x4 : Bool) (x5 x6 : LP) (k0 : Bool → LP → LP → O R) : O R :=
  p58 n x2 x6 (fun y7 => p58 n x5 x3 (fun y8 => p58 n x3 x6 (fun y9 => bif (x1 == x4) then (UFm n y7 y8 (fun y10 => k0 x1 y10 y9)) else (p57 n y7 y8 (fun y11 => bif (decide (y11 < 0)) then (UDp n y8 y7 (fun y12 => k0 x4 y12 y9)) else (UDp n y7 y8 (fun y13 => k0 x1 y13 y9)))))))
abbrev UMz (n : Nat) : Orc R := oN
abbrev ULT (n : Nat) : Orc R := oN
abbrev K64 (R : Type) (n : Nat) := JcK (R := R) Tryz.prog (UB0 n) Ux n (53, []) (UMz n) (ULT n)
theorem UOf (n : Nat) : Jfb (K64 R n) (JaJ Ux (Jls Tryz.f64)) := pO pN (by kernel_rfl)
abbrev t64 : Sl (List SV) := (.c (sP (JlP (.c Jlm (.c sSh (.c sSh .n))))) (.c (sP (JlP (.c Jlm (.c sSh (.c sSh .n))))) .n))
abbrev f64 (n : Nat) (K : List SV → O R) : t64.T (O R) := fun x1 x2 x3 x4 x5 x6 => p64 n x1 x2 x3 x4 x5 x6 (fun y1 y2 y3 => K [.p (.agg [.v (.bool y1), .sh y2, .sh y3])])
abbrev UKc (n : Nat) : FS := fT [false, false] t64 (f64 n)
theorem UNk (n : Nat) : FSound Tryz.prog GI 64 (UKc n) := gd Ux n (Up8 n) Tryz.func64 (.cons (Up8 n) t64 (f64 n) (fun K _ _ _ _ _ _ => (Jkx (c := Jls Tryz.f64) (by kernel_rfl) (UOf n) K).trans (by kernel_rfl)) .nil) (by kernel_rfl)
def Uw9 : Ann := { loops := [], cuts := [], frz := [], rm := [.id, .id] }
abbrev UBZ (n : Nat) : Env := eC 64 (UKc n) eN
theorem Up7 (n : Nat) : EnvOK Tryz.prog GI (UBZ n) := .cons (.nil) (UNk n)
def p63 (n : Nat) (x1 : Bool) (x2 x3 : LP) (x4 : Bool) (x5 x6 : LP) (k0 : Bool → LP → LP → Int → O R) : O R :=
  p64 n x1 x2 x3 x4 x5 x6 (fun y7 y8 y9 => k0 y7 y8 y9 0)
abbrev UMy (n : Nat) : Orc R := oN
abbrev ULS (n : Nat) : Orc R := oN
abbrev K63 (R : Type) (n : Nat) := JcK (R := R) Tryz.prog (UBZ n) Uw9 n (9, []) (UMy n) (ULS n)
theorem UOe (n : Nat) : Jfb (K63 R n) (JaJ Uw9 (Jls Tryz.f63)) := pO pN (by kernel_rfl)
abbrev t63 : Sl (List SV) := (.c (sP (JlP (.c Jlm (.c sSh (.c sSh .n))))) (.c (sP (JlP (.c Jlm (.c sSh (.c sSh .n))))) .n))
abbrev f63 (n : Nat) (K : List SV → O R) : t63.T (O R) := fun x1 x2 x3 x4 x5 x6 => p63 n x1 x2 x3 x4 x5 x6 (fun y1 y2 y3 y4 => K [.p (.agg [.v (.bool y1), .sh y2, .sh y3]), vI y4])
abbrev UKb (n : Nat) : FS := fT [false, false] t63 (f63 n)
theorem UNj (n : Nat) : FSound Tryz.prog GI 63 (UKb n) := gd Uw9 n (Up7 n) Tryz.func63 (.cons (Up7 n) t63 (f63 n) (fun K _ _ _ _ _ _ => (Jkx (c := Jls Tryz.f63) (by kernel_rfl) (UOe n) K).trans (by kernel_rfl)) .nil) (by kernel_rfl)
def UiM : Ann := { loops := [], cuts := [(5, ids [2, 8, 10], ids [6, 7])], frz := [], rm := [.id, .id] }
abbrev UyE (n : Nat) : Env := eC 79 (UGi n) (eC 63 (UKb n) (eC 62 (UKa n) (eC 56 (UCY n) eN)))
theorem UjE (n : Nat) : EnvOK Tryz.prog GI (UyE n) := .cons (.cons (.cons (.cons (.nil) (UFi n)) (UNi n)) (UNj n)) (UKY n)
def Usv (n : Nat) (x1 : Bool) (x2 x3 : LP) (x4 : Bool) (x5 x6 : LP) (k0 : ByteArray → Int → O R) : O R :=
  p62 n x1 x2 x3 x4 x5 x6 (fun y7 y8 y9 y10 => bif (y10 != 0) then (k0 ⟨#[]⟩ y10) else (p79 n y7 y8 y9 (fun y11 y12 => k0 y11 y12)))
def p61 (n : Nat) (x1 x2 : ByteArray) (k0 : ByteArray → Int → O R) : O R :=
  p56 n x1 (fun y3 y4 y5 y6 => p56 n x2 (fun y7 y8 y9 y10 => bif (!y6) then (k0 ⟨#[]⟩ 3) else (bif (bif false then true else (!y10)) then (k0 ⟨#[]⟩ 3) else (Usv n y3 y4 y5 y7 y8 y9 (fun y11 y12 => k0 y11 y12)))))
def UhW (n : Nat) (x1 : Bool) (x2 x3 : LP) (x4 : Bool) (x5 x6 : LP) (k0 : ByteArray → Int → O R) : O R :=
  p63 n x1 x2 x3 x4 x5 x6 (fun y7 y8 y9 y10 => bif (y10 != 0) then (k0 ⟨#[]⟩ y10) else (p79 n y7 y8 y9 (fun y11 y12 => k0 y11 y12)))
def UtW (n : Nat) (x1 x2 : ByteArray) (k0 : ByteArray → Int → O R) : O R :=
  p56 n x1 (fun y3 y4 y5 y6 => p56 n x2 (fun y7 y8 y9 y10 => bif (!y6) then (k0 ⟨#[]⟩ 3) else (bif (bif false then true else (!y10)) then (k0 ⟨#[]⟩ 3) else (UhW n y3 y4 y5 y7 y8 y9 (fun y11 y12 => k0 y11 y12)))))
abbrev E61 (n : Nat) : Code → Fr → Kc R → O R := evC Tryz.prog (UyE n) UiM n (44, [])
noncomputable def UoL : Code := Jk (Jls Tryz.f61) [1, 1, 1, 1]
abbrev UkU : Sl (List SV) := (.c (sP (sFn 62)) (.c (sBx 99 (cB (cH (cH .n)))) (.c (sBx 99 (cB (cH (cH .n)))) .n)))
abbrev UkV : Sl (List SV) := (.c (sP (sFn 63)) (.c (sBx 99 (cB (cH (cH .n)))) (.c (sBx 99 (cB (cH (cH .n)))) .n)))
abbrev Urm (n : Nat) (K : Kc R) : UkU.T (O R) := fun x1 x2 x3 x4 x5 x6 => Usv n x1 x2 x3 x4 x5 x6 (fun y1 y2 => xC UiM 5 K .ret [vS y1, vI y2])
abbrev Urn (n : Nat) (K : Kc R) : UkV.T (O R) := fun x1 x2 x3 x4 x5 x6 => UhW n x1 x2 x3 x4 x5 x6 (fun y1 y2 => xC UiM 5 K .ret [vS y1, vI y2])
abbrev UGN (n : Nat) : Orc R := oN
abbrev UF3 (n : Nat) : Orc R := fun i vs K => JfQ (Nat.beq i 5) (Jjm (UkU.ap vs (Urm n K)) (Jjm (UkV.ap vs (Urn n K)) (Jkp UiM 5 (E61 n UoL) vs K))) (oN i vs K)
abbrev K61 (R : Type) (n : Nat) := JcK (R := R) Tryz.prog (UyE n) UiM n (44, []) (UGN n) (UF3 n)
theorem UsA (n : Nat) : Jfb (K61 R n) (JaJ UiM UoL) := pO pN (by kernel_rfl)
theorem UEf (n : Nat) : K61 R n (true, 5, UoL) := Jk3 (lo := UGN n) (cu := UF3 n) (UsA n) UkU (Urm n) (fun K _ _ _ _ _ _ => by show _ = _; kernel_rfl) (Jk3 (lo := UGN n) (cu := UF3 n) (UsA n) UkV (Urn n) (fun K _ _ _ _ _ _ => by show _ = _; kernel_rfl) fun _ _ => rfl)
theorem UK7 (n : Nat) : Jfb (K61 R n) (JaJ UiM (Jls Tryz.f61)) := pO (pC (UEf n) pN) (by kernel_rfl)
abbrev UIX : Sl (List SV) := (cS (cS (.c (sP (sFn 62)) .n)))
abbrev UJH (n : Nat) (K : List SV → O R) : UIX.T (O R) := fun x1 x2 => p61 n x1 x2 (fun y1 y2 => K [vS y1, vI y2])
abbrev UIY : Sl (List SV) := (cS (cS (.c (sP (sFn 63)) .n)))
abbrev UJI (n : Nat) (K : List SV → O R) : UIY.T (O R) := fun x1 x2 => UtW n x1 x2 (fun y1 y2 => K [vS y1, vI y2])
abbrev UGe (n : Nat) : FS := { om := [false, false, false], run := fun args K => Jjm (UIX.ap args (UJH n K)) (Jjm (UIY.ap args (UJI n K)) none) }
theorem UKU (n : Nat) : FSound Tryz.prog GI 61 (UGe n) := gd UiM n (UjE n) Tryz.func61 (.cons (UjE n) UIX (UJH n) (fun K _ _ => (Jkx (c := Jls Tryz.f61) (by kernel_rfl) (UK7 n) K).trans (by kernel_rfl)) (.cons (UjE n) UIY (UJI n) (fun K _ _ => (Jkx (c := Jls Tryz.f61) (by kernel_rfl) (UK7 n) K).trans (by kernel_rfl)) .nil)) (by kernel_rfl)
def Uxi : Ann := { loops := [], cuts := [], frz := [], rm := [.id] }
abbrev UB9 (n : Nat) : Env := eN
theorem Uqm (n : Nat) : EnvOK Tryz.prog GI (UB9 n) := .nil
def p78 (n : Nat) (x1 : Bool) (x2 x3 : LP) (k0 : Bool → LP → LP → O R) : O R :=
  bif (!x1) then (k0 (bif true then (decide (((x2).length : Int) > 0)) else false) x2 x3) else (k0 false x2 x3)
abbrev UMI (n : Nat) : Orc R := oN
abbrev UL2 (n : Nat) : Orc R := oN
abbrev K78 (R : Type) (n : Nat) := JcK (R := R) Tryz.prog (UB9 n) Uxi n (14, []) (UMI n) (UL2 n)
theorem UOt (n : Nat) : Jfb (K78 R n) (JaJ Uxi (Jls Tryz.f78)) := pO pN (by kernel_rfl)
abbrev t78 : Sl (List SV) := (.c (sP (JlP (.c Jlm (.c sSh (.c sSh .n))))) .n)
abbrev f78 (n : Nat) (K : List SV → O R) : t78.T (O R) := fun x1 x2 x3 => p78 n x1 x2 x3 (fun y1 y2 y3 => K [.p (.agg [.v (.bool y1), .sh y2, .sh y3])])
abbrev UKj (n : Nat) : FS := fT [false] t78 (f78 n)
theorem UNr (n : Nat) : FSound Tryz.prog GI 78 (UKj n) := gd Uxi n (Uqm n) Tryz.func78 (.cons (Uqm n) t78 (f78 n) (fun K _ _ _ => (Jkx (c := Jls Tryz.f78) (by kernel_rfl) (UOt n) K).trans (by kernel_rfl)) .nil) (by kernel_rfl)
def UwW : Ann := { loops := [], cuts := [], frz := [], rm := [.id, .id] }
abbrev UBM (n : Nat) : Env := eC 61 (UGe n) (eC 60 (UGd n) (eC 54 (UE5 n) eN))
theorem UpC (n : Nat) : EnvOK Tryz.prog GI (UBM n) := .cons (.cons (.cons (.nil) (UHl n)) (UKT n)) (UKU n)
def p22 (n : Nat) (x1 x2 : ByteArray) (k0 : ByteArray → Int → O R) : O R :=
  p54 n x1 x2 (fun y3 y4 y5 => bif y5 then (bif (Jk0 (IntKind.i64.wrap (y3 + y4))) then (k0 (JiH (IntKind.i64.wrap (y3 + y4))) 0) else none) else (UtW n x1 x2 (fun y6 y7 => k0 y6 y7)))
abbrev UMl (n : Nat) : Orc R := oN
abbrev ULF (n : Nat) : Orc R := oN
abbrev K22 (R : Type) (n : Nat) := JcK (R := R) Tryz.prog (UBM n) UwW n (26, []) (UMl n) (ULF n)
theorem UNK (n : Nat) : Jfb (K22 R n) (JaJ UwW (Jls Tryz.f22)) := pO pN (by kernel_rfl)
abbrev t22 : Sl (List SV) := (cS (cS .n))
abbrev f22 (n : Nat) (K : List SV → O R) : t22.T (O R) := fun x1 x2 => p22 n x1 x2 (fun y1 y2 => K [vS y1, vI y2])
abbrev UF9 (n : Nat) : FS := fT [false, false] t22 (f22 n)
theorem UKO (n : Nat) : FSound Tryz.prog GI 22 (UF9 n) := gd UwW n (UpC n) Tryz.func22 (.cons (UpC n) t22 (f22 n) (fun K _ _ => (Jkx (c := Jls Tryz.f22) (by kernel_rfl) (UNK n) K).trans (by kernel_rfl)) .nil) (by kernel_rfl)
def UwV : Ann := { loops := [], cuts := [], frz := [], rm := [.id, .id] }
abbrev UBL (n : Nat) : Env := eC 61 (UGe n) (eC 60 (UGd n) (eC 54 (UE5 n) eN))
theorem UpB (n : Nat) : EnvOK Tryz.prog GI (UBL n) := .cons (.cons (.cons (.nil) (UHl n)) (UKT n)) (UKU n)
def p21 (n : Nat) (x1 x2 : ByteArray) (k0 : ByteArray → Int → O R) : O R :=
  p54 n x1 x2 (fun y3 y4 y5 => bif y5 then (bif (Jk0 (IntKind.i64.wrap (y3 * y4))) then (k0 (JiH (IntKind.i64.wrap (y3 * y4))) 0) else none) else (p61 n x1 x2 (fun y6 y7 => k0 y6 y7)))
abbrev UMk (n : Nat) : Orc R := oN
abbrev ULE (n : Nat) : Orc R := oN
abbrev K21 (R : Type) (n : Nat) := JcK (R := R) Tryz.prog (UBL n) UwV n (26, []) (UMk n) (ULE n)
theorem UNJ (n : Nat) : Jfb (K21 R n) (JaJ UwV (Jls Tryz.f21)) := pO pN (by kernel_rfl)
abbrev t21 : Sl (List SV) := (cS (cS .n))
abbrev f21 (n : Nat) (K : List SV → O R) : t21.T (O R) := fun x1 x2 => p21 n x1 x2 (fun y1 y2 => K [vS y1, vI y2])
abbrev UF8 (n : Nat) : FS := fT [false, false] t21 (f21 n)
theorem UKN (n : Nat) : FSound Tryz.prog GI 21 (UF8 n) := gd UwV n (UpB n) Tryz.func21 (.cons (UpB n) t21 (f21 n) (fun K _ _ => (Jkx (c := Jls Tryz.f21) (by kernel_rfl) (UNJ n) K).trans (by kernel_rfl)) .nil) (by kernel_rfl)
def Uw0 : Ann := { loops := [], cuts := [], frz := [], rm := [.id] }
abbrev UBQ (n : Nat) : Env := eC 79 (UGi n) (eC 78 (UKj n) (eC 56 (UCY n) eN))
theorem UpP (n : Nat) : EnvOK Tryz.prog GI (UBQ n) := .cons (.cons (.cons (.nil) (UFi n)) (UNr n)) (UKY n)
def p37 (n : Nat) (x1 : ByteArray) (k0 : ByteArray → O R) : O R :=
  p56 n x1 (fun y2 y3 y4 y5 => bif (!y5) then (k0 ⟨#[]⟩) else (p78 n y2 y3 y4 (fun y6 y7 y8 => p79 n y6 y7 y8 (fun y9 y10 => k0 y9))))
abbrev UMp (n : Nat) : Orc R := oN
abbrev ULJ (n : Nat) : Orc R := oN
abbrev K37 (R : Type) (n : Nat) := JcK (R := R) Tryz.prog (UBQ n) Uw0 n (21, []) (UMp n) (ULJ n)
theorem UNX (n : Nat) : Jfb (K37 R n) (JaJ Uw0 (Jls Tryz.f37)) := pO pN (by kernel_rfl)
abbrev t37 : Sl (List SV) := (cS .n)
abbrev f37 (n : Nat) (K : List SV → O R) : t37.T (O R) := fun x1 => p37 n x1 (fun y1 => K [vS y1])
abbrev UJ0 (n : Nat) : FS := fT [false] t37 (f37 n)
theorem UM8 (n : Nat) : FSound Tryz.prog GI 37 (UJ0 n) := gd Uw0 n (UpP n) Tryz.func37 (.cons (UpP n) t37 (f37 n) (fun K _ => (Jkx (c := Jls Tryz.f37) (by kernel_rfl) (UNX n) K).trans (by kernel_rfl)) .nil) (by kernel_rfl)
end
end Go.Proofs.YtmgfmlhdnadglaaGreatDoor
set_option linter.unusedVariables false
set_option linter.unusedSimpArgs false
namespace Go.Proofs.YtmgfmlhdnadglaaGreatDoor
open Go Th Go.Proofs
variable {R : Type}
def Unz (q : Rat) (k0 : ByteArray → Int → Option R) : Option R := if Ual q then k0 (bs (Uag q)) 0 else k0 (bs []) 5
theorem UfQ {a b i j : Nat} (ha : (toL 1000000000 a).length ≤ i) (hb : (toL 1000000000 b).length ≤ j) : (toL 1000000000 (a * b)).length ≤ i + j := by
  rw [Uah hB2] at *
  rw [Nat.pow_add]
  exact Nat.mul_lt_mul_of_lt_of_lt ha hb
theorem UEN {a b i : Nat} (ha : (toL 1000000000 a).length ≤ i) (hb : (toL 1000000000 b).length ≤ i) : (toL 1000000000 (a + b)).length ≤ i + 1 := by
  rw [Uah hB2] at *
  rw [Nat.pow_succ]; omega
theorem Us6 {a b i : Nat} (h : a ≤ b) (hb : (toL 1000000000 b).length ≤ i) : (toL 1000000000 a).length ≤ i := UbO hb h
theorem Uzf {a b i j : Nat} (ha : a < 10 ^ i) (hb : b < 10 ^ j) : a * b < 10 ^ (i + j) := by
  rw [Nat.pow_add]; exact Nat.mul_lt_mul_of_lt_of_lt ha hb
theorem UrQ {a b : Nat} (ha : a < 10 ^ 400) (hb : b < 10 ^ 400) : a * b < 10 ^ 800 := by
  have h := Uzf ha hb
  have e : 400 + 400 = 800 := rfl
  rw [e] at h; exact h
theorem UEK (n : Nat) (hn : 2 ^ 20 ≤ n) (neg neg2 : Bool) (a b c d : Nat) (ha : (toL 1000000000 a).length ≤ 100) (hb : (toL 1000000000 b).length ≤ 100) (hc : (toL 1000000000 c).length ≤ 100) (hd : (toL 1000000000 d).length ≤ 100) :
    ∃ (ng : Bool) (e : Nat), (∀ k0 : Bool → List PV → List PV → Option R, p64 n neg (NN a) (NN b) neg2 (NN c) (NN d) k0 = k0 ng (NN e) (NN (b * d))) ∧ zs ng e = zs neg a * d + zs neg2 c * b ∧ (toL 1000000000 e).length ≤ 201 := by
  have l1 := UfQ ha hd
  have l2 := UfQ hc hb
  have m1 := fun k0 => Ua0 (R := R) n a d (by omega) (by omega) (by omega) k0
  have m2 := fun k0 => Ua0 (R := R) n c b (by omega) (by omega) (by omega) k0
  have m3 := fun k0 => Ua0 (R := R) n b d (by omega) (by omega) (by omega) k0
  have z1 : zs neg a * (d : Int) = zs neg (a * d) := by cases neg <;> simp [zs, Int.neg_mul]
  have z2 : zs neg2 c * (b : Int) = zs neg2 (c * b) := by cases neg2 <;> simp [zs, Int.neg_mul]
  rw [z1, z2]
  by_cases hs : neg = neg2
  · subst hs
    have p1 := fun k0 => Uzp (R := R) n (a * d) (c * b) (by omega) (by omega) (by omega) (by omega) k0
    refine ⟨neg, a * d + c * b, fun k0 => ?_, ?_, UEN l1 l2⟩
    · unfold p64
      have e : (neg == neg) = true := by simp
      simp only [m1, m2, m3, e, UaR, p1]
    · generalize a * d = x
      generalize c * b = y
      cases neg
      · simp only [zs, Bool.false_eq_true, if_false]; omega
      · simp only [zs, if_true]; omega
  · have e : (neg == neg2) = false := by simpa using hs
    have hneg : neg2 = !neg := by cases neg <;> cases neg2 <;> simp_all
    have c1 := fun k0 => UoW (R := R) n (a * d) (c * b) (by omega) (by omega) (by omega) k0
    by_cases hlt : a * d < c * b
    · have p1 := fun k0 => UmK (R := R) n (c * b) (a * d) (by omega) (by omega) (by omega) k0
      have e2 : decide (Ucv (a * d) (c * b) < 0) = true := by rw [show Ucv (a * d) (c * b) = -1 from by unfold Ucv; rw [if_pos hlt]]; rfl
      refine ⟨neg2, c * b - a * d, fun k0 => ?_, ?_, Us6 (Nat.sub_le _ _) (Nat.le_trans l2 (by omega))⟩
      · unfold p64
        simp only [m1, m2, m3, e, Uak, c1, e2, UaR, p1]
      · rw [hneg]
        generalize a * d = x at *
        generalize c * b = y at *
        cases neg
        · simp only [zs, Bool.not_false, if_true, Bool.false_eq_true, if_false]; omega
        · simp only [zs, Bool.not_true, if_true, Bool.false_eq_true, if_false]; omega
    · have p1 := fun k0 => UmK (R := R) n (a * d) (c * b) (by omega) (by omega) (by omega) k0
      have e2 : decide (Ucv (a * d) (c * b) < 0) = false := by
        apply decide_eq_false
        unfold Ucv; rw [if_neg hlt]; split <;> omega
      refine ⟨neg, a * d - c * b, fun k0 => ?_, ?_, Us6 (Nat.sub_le _ _) (Nat.le_trans l1 (by omega))⟩
      · unfold p64
        simp only [m1, m2, m3, e, Uak, c1, e2, p1]
      · rw [hneg]
        generalize a * d = x at *
        generalize c * b = y at *
        cases neg
        · simp only [zs, Bool.not_false, if_true, Bool.false_eq_true, if_false]; omega
        · simp only [zs, Bool.not_true, if_true, Bool.false_eq_true, if_false]; omega
theorem Uv6 (p q : Rat) : mkRat (p.num * q.den + q.num * p.den) (p.den * q.den) = p + q := by
  rw [← Rat.mkRat_add_mkRat _ _ p.den_nz q.den_nz, Rat.mkRat_self, Rat.mkRat_self]
theorem Uv7 (p q : Rat) : mkRat (p.num * q.num) (p.den * q.den) = p * q := by
  rw [← Rat.mkRat_mul_mkRat, Rat.mkRat_self, Rat.mkRat_self]
theorem n20 {n : Nat} (hn : 10 ^ 1000 ≤ n) : 2 ^ 20 < n := Nat.lt_of_lt_of_le (by decide +kernel) hn
theorem UaT {n : Nat} (hn : 10 ^ 1000 ≤ n) : 10 ^ 400 ≤ n := Nat.le_trans (by decide +kernel) hn
theorem UFf {n a b : Nat} (hn : 10 ^ 1000 ≤ n) (ha : a < 10 ^ 400) (hb : b < 10 ^ 400) : a * b < n := Nat.lt_of_lt_of_le (UrQ ha hb) (Nat.le_trans (by decide +kernel) hn)
theorem UwI (n : Nat) (hn : 10 ^ 1000 ≤ n) (ng : Bool) (e f : Nat) (hf : f ≠ 0) (he : (toL 1000000000 e).length ≤ 300) (hfl : (toL 1000000000 f).length ≤ 300) (hfn : f < n) (q : Rat) (hq : mkRat (zs ng e) f = q) (k0 : ByteArray → Int → Option R) : p79 n ng (NN e) (NN f) k0 = Unz q k0 := by
  have h20 := n20 hn
  rw [Uny n ng e f hf (by omega) (by omega) h20 hfn, hq]; rfl
theorem Us9 (n : Nat) (hn : 10 ^ 1000 ≤ n) (p q : Rat) (hp : Ual p) (hq : Ual q) (k0 : ByteArray → Int → Option R) : UtW n (bs (Uag p)) (bs (Uag q)) k0 = Unz (p + q) k0 := by
  have h20 := n20 hn
  have r1 := fun k0 => UcF (R := R) n (UaT hn) p hp k0
  have r2 := fun k0 => UcF (R := R) n (UaT hn) q hq k0
  have m1 := UaC hp.1
  have m2 := UaC hp.2
  have m3 := UaC hq.1
  have m4 := UaC hq.2
  obtain ⟨ng, e, s1, s2, s3⟩ := UEK (R := R) n (by omega) (sg p.num) (sg q.num) p.num.natAbs p.den q.num.natAbs q.den (by omega) (by omega) (by omega) (by omega)
  rw [show zs (sg p.num) p.num.natAbs = p.num from UbY _, show zs (sg q.num) q.num.natAbs = q.num from UbY _] at s2
  have t := fun k0 => UwI (R := R) n hn ng e (p.den * q.den) (Nat.mul_ne_zero p.den_nz q.den_nz) (by omega) (Nat.le_trans (UfQ m2 m4) (by omega)) (UFf hn hp.2 hq.2) (p + q) (by rw [s2, Uv6]) k0
  have e0 : ((0 : Int) != 0) = false := rfl
  simp only [UtW, UhW, p63, r1, r2, s1, t, e0, Bool.not_true, Uak]
theorem UEQ (x y : Int) : zs (!(sg x == sg y)) (x.natAbs * y.natAbs) = x * y := by
  have hx := UbY x
  have hy := UbY y
  generalize hsx : decide (x < 0) = sx at *
  generalize hsy : decide (y < 0) = sy at *
  have e1 : sg x = sx := hsx
  have e2 : sg y = sy := hsy
  rw [e1, e2]
  conv => rhs; rw [← hx, ← hy]
  generalize x.natAbs = a
  generalize y.natAbs = b
  cases sx <;> cases sy <;> simp [zs, Int.neg_mul, Int.mul_neg]
theorem Ut (n : Nat) (hn : 10 ^ 1000 ≤ n) (p q : Rat) (hp : Ual p) (hq : Ual q) (k0 : ByteArray → Int → Option R) : p61 n (bs (Uag p)) (bs (Uag q)) k0 = Unz (p * q) k0 := by
  have h20 := n20 hn
  have r1 := fun k0 => UcF (R := R) n (UaT hn) p hp k0
  have r2 := fun k0 => UcF (R := R) n (UaT hn) q hq k0
  have m1 := UaC hp.1
  have m2 := UaC hp.2
  have m3 := UaC hq.1
  have m4 := UaC hq.2
  have s1 := fun k0 => Ua0 (R := R) n p.num.natAbs q.num.natAbs (by omega) (by omega) (by omega) k0
  have s2 := fun k0 => Ua0 (R := R) n p.den q.den (by omega) (by omega) (by omega) k0
  have t := fun k0 => UwI (R := R) n hn (!(sg p.num == sg q.num)) (p.num.natAbs * q.num.natAbs) (p.den * q.den) (Nat.mul_ne_zero p.den_nz q.den_nz) (Nat.le_trans (UfQ m1 m3) (by omega)) (Nat.le_trans (UfQ m2 m4) (by omega)) (UFf hn hp.2 hq.2) (p * q) (by rw [UEQ, Uv7]) k0
  have e0 : ((0 : Int) != 0) = false := rfl
  simp only [p61, Usv, p62, r1, r2, s1, s2, t, e0, Bool.not_true, Uak]
theorem Utc (neg : Bool) (a : Nat) (d : Nat) : zs neg a * (d : Int) = zs neg (a * d) := by cases neg <;> simp [zs, Int.neg_mul]
def Ubj (s : List UInt8) : Prop := ∃ v : Int, v.natAbs < 10 ^ 9 ∧ s = Lib.itoa v
theorem Ui6 (n : Nat) (hn : 20 ≤ n) (s : List UInt8) (hs : s.length < 2 ^ 40) : ∃ a d, (∀ k0 : Int → Bool → Option R, p95 n (bs s) k0 = k0 a d) ∧ (¬ Ubj s → d = false) := by
  by_cases h : Ubj s
  · obtain ⟨v, h1, rfl⟩ := h
    exact ⟨v, true, fun k0 => Ue9 n hn v h1 k0, fun h => absurd ⟨v, h1, rfl⟩ h⟩
  · exact ⟨0, false, fun k0 => Ui7 n hn s hs h k0, fun _ => rfl⟩
theorem Ujw (n : Nat) (hn : 20 ≤ n) (v w : Int) (hv : v.natAbs < 10 ^ 9) (hw : w.natAbs < 10 ^ 9) (k0 : Int → Int → Bool → Option R) : p54 n (bs (Lib.itoa v)) (bs (Lib.itoa w)) k0 = k0 v w true := by
  have q1 := fun k0 => Ue9 (R := R) n hn v hv k0
  have q2 := fun k0 => Ue9 (R := R) n hn w hw k0
  simp only [p54, q1, q2, UaR]
theorem Ug2 (n : Nat) (hn : 20 ≤ n) (s t : List UInt8) (hs : s.length < 2 ^ 40) (ht : t.length < 2 ^ 40) (h : ¬ (Ubj s ∧ Ubj t)) : ∃ a b, ∀ k0 : Int → Int → Bool → Option R, p54 n (bs s) (bs t) k0 = k0 a b false := by
  obtain ⟨a, d, q1, f1⟩ := Ui6 (R := R) n hn s hs
  obtain ⟨b, e, q2, f2⟩ := Ui6 (R := R) n hn t ht
  cases d with
  | false => exact ⟨a, b, fun k0 => by simp only [p54, q1, q2, Uak]⟩
  | true =>
    have hS : Ubj s := Classical.byContradiction fun h => by have := f1 h; cases this
    have hT : ¬ Ubj t := fun hT => h ⟨hS, hT⟩
    have e0 := f2 hT
    subst e0
    exact ⟨a, b, fun k0 => by simp only [p54, q1, q2, UaR]⟩
theorem UmH (x : Int) : JiH x = bs (Lib.itoa x) := rfl
theorem Um3 (v : Int) (h : v.natAbs < 10 ^ 400) (k0 : ByteArray → Int → Option R) : Unz (v : Rat) k0 = k0 (bs (Lib.itoa v)) 0 := by
  unfold Unz
  rw [if_pos (Uhi h), Uay]
theorem Ubk {p : Rat} (h : Ubj (Uag p)) : ∃ v : Int, v.natAbs < 10 ^ 9 ∧ p = (v : Rat) := by
  obtain ⟨v, h1, h2⟩ := h
  exact ⟨v, h1, Uie (h2.trans (Uay v))⟩
theorem UvY {x : Int} (h1 : -9223372036854775808 ≤ x) (h2 : x < 9223372036854775808) : Jk0 x = true := by
  unfold Jk0; simp; omega
theorem UuB (n : Nat) (hn : 10 ^ 1000 ≤ n) (p q : Rat) (hp : Ual p) (hq : Ual q) (k0 : ByteArray → Int → Option R) : p22 n (bs (Uag p)) (bs (Uag q)) k0 = Unz (p + q) k0 := by
  have h20 := n20 hn
  have lp := UaY hp
  have lq := UaY hq
  by_cases hb : Ubj (Uag p) ∧ Ubj (Uag q)
  · obtain ⟨v, hv, rfl⟩ := Ubk hb.1
    obtain ⟨w, hw, rfl⟩ := Ubk hb.2
    have b1 := fun k0 => Ujw (R := R) n (by omega) v w hv hw k0
    rw [← Rat.intCast_add, Um3 _ (Nat.lt_of_le_of_lt (by omega : (v + w).natAbs ≤ 2000000000) (by decide +kernel)), ← Uay, ← Uay]
    have e1 : IntKind.i64.wrap (v + w) = v + w := w64 (by omega) (by omega)
    have e2 : Jk0 (v + w) = true := UvY (by omega) (by omega)
    simp only [p22, b1, UaR, e1, e2, UmH]
  · obtain ⟨a, b, b1⟩ := Ug2 (R := R) n (by omega) (Uag p) (Uag q) (by omega) (by omega) hb
    have t := fun k0 => Us9 (R := R) n hn p q hp hq k0
    simp only [p22, b1, Uak, t]
theorem UAT (n : Nat) (hn : 10 ^ 1000 ≤ n) (p q : Rat) (hp : Ual p) (hq : Ual q) (k0 : ByteArray → Int → Option R) : p21 n (bs (Uag p)) (bs (Uag q)) k0 = Unz (p * q) k0 := by
  have h20 := n20 hn
  have lp := UaY hp
  have lq := UaY hq
  by_cases hb : Ubj (Uag p) ∧ Ubj (Uag q)
  · obtain ⟨v, hv, rfl⟩ := Ubk hb.1
    obtain ⟨w, hw, rfl⟩ := Ubk hb.2
    have b1 := fun k0 => Ujw (R := R) n (by omega) v w hv hw k0
    have hvw : (v * w).natAbs ≤ 10 ^ 9 * 10 ^ 9 := by
      rw [Int.natAbs_mul]; exact Nat.mul_le_mul (Nat.le_of_lt hv) (Nat.le_of_lt hw)
    rw [← Rat.intCast_mul, Um3 _ (Nat.lt_of_le_of_lt hvw (by decide +kernel)), ← Uay, ← Uay]
    generalize hx : v * w = x at *
    have e1 : IntKind.i64.wrap x = x := w64 (by omega) (by omega)
    have e2 : Jk0 x = true := UvY (by omega) (by omega)
    simp only [p21, b1, UaR, hx, e1, e2, UmH]
  · obtain ⟨a, b, b1⟩ := Ug2 (R := R) n (by omega) (Uag p) (Uag q) (by omega) (by omega) hb
    have t := fun k0 => Ut (R := R) n hn p q hp hq k0
    simp only [p21, b1, Uak, t]
theorem Uts (a b : Nat) : UiI (a : Int) (b : Int) = Ucv a b := by
  unfold UiI Ucv
  by_cases h1 : a < b
  · rw [if_pos (by omega), if_pos h1]
  · rw [if_neg (by omega), if_neg h1]
    by_cases h2 : b < a
    · rw [if_neg (by omega), if_pos h2]
    · rw [if_pos (by omega), if_neg h2]
theorem Utr (a b : Nat) : UiI (-(a : Int)) (-(b : Int)) = 0 - Ucv a b := by
  unfold UiI Ucv
  by_cases h1 : a < b
  · rw [if_neg (by omega), if_neg (by omega), if_pos h1]; rfl
  · rw [if_neg h1]
    by_cases h2 : b < a
    · rw [if_pos (by omega), if_pos h2]; rfl
    · rw [if_neg (by omega), if_pos (by omega), if_neg h2]; rfl
theorem Ux6 (a b : Nat) : -1 ≤ Ucv a b ∧ Ucv a b ≤ 1 := by unfold Ucv; split <;> (try split) <;> omega
theorem UAM (n : Nat) (hn : 10 ^ 1000 ≤ n) (p q : Rat) (hp : Ual p) (hq : Ual q) (k0 : Int → Option R) : p19 n (bs (Uag p)) (bs (Uag q)) k0 = k0 (UiI (p.num * q.den) (q.num * p.den)) := by
  have h20 := n20 hn
  have lp := UaY hp
  have lq := UaY hq
  by_cases hb : Ubj (Uag p) ∧ Ubj (Uag q)
  · obtain ⟨v, hv, rfl⟩ := Ubk hb.1
    obtain ⟨w, hw, rfl⟩ := Ubk hb.2
    have b1 := fun k0 => Ujw (R := R) n (by omega) v w hv hw k0
    rw [← Uay, ← Uay, Rat.num_intCast, Rat.num_intCast, Rat.den_intCast, Rat.den_intCast, show ((1 : Nat) : Int) = 1 from rfl, Int.mul_one, Int.mul_one]
    simp only [p19, b1, UaR, p55]
    unfold UiI
    by_cases h1 : v < w
    · rw [Jkm h1, if_pos h1]
    · rw [Jkl h1, if_neg h1]
      by_cases h2 : v > w
      · rw [Jkm h2, if_neg (by omega)]
      · rw [Jkl h2, if_pos (by omega)]
  · obtain ⟨a, b, b1⟩ := Ug2 (R := R) n (by omega) (Uag p) (Uag q) (by omega) (by omega) hb
    have r1 := fun k0 => UcF (R := R) n (UaT hn) p hp k0
    have r2 := fun k0 => UcF (R := R) n (UaT hn) q hq k0
    have m1 := UaC hp.1
    have m2 := UaC hp.2
    have m3 := UaC hq.1
    have m4 := UaC hq.2
    have s1 := fun k0 => Ua0 (R := R) n p.num.natAbs q.den (by omega) (by omega) (by omega) k0
    have s2 := fun k0 => Ua0 (R := R) n q.num.natAbs p.den (by omega) (by omega) (by omega) k0
    have l1 := UfQ m1 m4
    have l2 := UfQ m3 m2
    have c1 := fun k0 => UoW (R := R) n (p.num.natAbs * q.den) (q.num.natAbs * p.den) (by omega) (by omega) (by omega) k0
    have hpd := p.den_nz
    have hqd := q.den_nz
    have z1 : p.num * (q.den : Int) = zs (sg p.num) (p.num.natAbs * q.den) := by rw [← Utc, show zs (sg p.num) p.num.natAbs = p.num from UbY _]
    have z2 : q.num * (p.den : Int) = zs (sg q.num) (q.num.natAbs * p.den) := by rw [← Utc, show zs (sg q.num) q.num.natAbs = q.num from UbY _]
    have h1 : sg p.num = true → 1 ≤ p.num.natAbs * q.den := by
      intro h
      have : p.num < 0 := by simpa [sg] using h
      exact Nat.mul_le_mul (by omega : 1 ≤ p.num.natAbs) (by omega : 1 ≤ q.den)
    have h2 : sg q.num = true → 1 ≤ q.num.natAbs * p.den := by
      intro h
      have : q.num < 0 := by simpa [sg] using h
      exact Nat.mul_le_mul (by omega : 1 ≤ q.num.natAbs) (by omega : 1 ≤ p.den)
    rw [z1, z2]
    simp only [p19, b1, r1, r2, UFh, Uak, Usj, Udz, s1, s2, c1]
    generalize sg p.num = u at *
    generalize sg q.num = v at *
    generalize p.num.natAbs * q.den = x at *
    generalize q.num.natAbs * p.den = y at *
    have hc := Ux6 x y
    cases u <;> cases v
    · simp only [Uak, zs, Bool.false_eq_true, if_false, Uts]
    · have := h2 rfl
      simp only [UaR, Uak, UFg, zs, Bool.false_eq_true, if_false, if_true]
      unfold UiI
      rw [if_neg (by omega), if_neg (by omega)]
    · have := h1 rfl
      simp only [UaR, Uak, UFg, zs, Bool.false_eq_true, if_false, if_true]
      unfold UiI
      rw [if_pos (by omega)]
    · have e : IntKind.i64.wrap (0 - Ucv x y) = 0 - Ucv x y := w64 (by omega) (by omega)
      simp only [UaR, Uak, UFh, zs, if_true, Utr, e]
theorem Uf {q : Rat} (h : Ual q) (k0 : ByteArray → Int → Option R) : Unz q k0 = k0 (bs (Uag q)) 0 := by unfold Unz; rw [if_pos h]
def Ulr (p q : Rat) : Int := UiI (p.num * q.den) (q.num * p.den)
theorem UCk (p q : Rat) : p = q ↔ p.num * (q.den : Int) = q.num * (p.den : Int) := by
  rw [← Rat.mkRat_eq_iff p.den_nz q.den_nz, Rat.mkRat_self, Rat.mkRat_self]
theorem UoV {p q : Rat} (h : p < q) : Ulr p q = -1 := by
  unfold Ulr UiI; rw [if_pos ((Rat.lt_iff p q).1 h)]
theorem UiQ (p : Rat) : Ulr p p = 0 := by
  unfold Ulr UiI; rw [if_neg (by omega), if_pos rfl]
theorem UoU {p q : Rat} (h : q < p) : Ulr p q = 1 := by
  have h1 := (Rat.lt_iff q p).1 h
  unfold Ulr UiI; rw [if_neg (by omega), if_neg (by omega)]
theorem tri (p q : Rat) : p < q ∨ p = q ∨ q < p := by
  rw [Rat.lt_iff, Rat.lt_iff, UCk]; omega
theorem UwL (n : Nat) (hn : 10 ^ 1000 ≤ n) (p q : Rat) (hp : Ual p) (hq : Ual q) (k0 : Int → Option R) : p19 n (bs (Uag p)) (bs (Uag q)) k0 = k0 (Ulr p q) := UAM n hn p q hp hq k0
end Go.Proofs.YtmgfmlhdnadglaaGreatDoor
set_option linter.unusedVariables false
set_option maxRecDepth 100000
namespace Go.Proofs.YtmgfmlhdnadglaaGreatDoor
open Go Th Go.Proofs
noncomputable section
variable {R : Type}
def Uxj : Ann := { loops := [], cuts := [], frz := [], rm := [.id] }
abbrev UC (n : Nat) : Env := eN
theorem Uqo (n : Nat) : EnvOK Tryz.prog GI (UC n) := .nil
def p80 (n : Nat) (x1 : Int) (k0 : Bool → O R) : O R :=
  bif (decide (x1 ≥ 0)) then (k0 (bif true then (decide (x1 < 2048)) else false)) else (k0 false)
abbrev UMJ (n : Nat) : Orc R := oN
abbrev UL3 (n : Nat) : Orc R := oN
abbrev K80 (R : Type) (n : Nat) := JcK (R := R) Tryz.prog (UC n) Uxj n (9, []) (UMJ n) (UL3 n)
theorem UOv (n : Nat) : Jfb (K80 R n) (JaJ Uxj (Jls Tryz.f80)) := pO pN (by kernel_rfl)
abbrev t80 : Sl (List SV) := (cI .n)
abbrev f80 (n : Nat) (K : List SV → O R) : t80.T (O R) := fun x1 => p80 n x1 (fun y1 => K [vB y1])
abbrev UGj (n : Nat) : FS := fT [false] t80 (f80 n)
theorem UKZ (n : Nat) : FSound Tryz.prog GI 80 (UGj n) := gd Uxj n (Uqo n) Tryz.func80 (.cons (Uqo n) t80 (f80 n) (fun K _ => (Jkx (c := Jls Tryz.f80) (by kernel_rfl) (UOv n) K).trans (by kernel_rfl)) .nil) (by kernel_rfl)
def Ubo : Ann := { loops := [(4, ids [1, 15, 16, 17], ids [1, 2]), (10, ids [1, 27, 28, 29], ids [1, 2]), (17, ids [7, 39, 40, 41], ids [2])], cuts := [], frz := [], rm := [.id] }
abbrev Uyz (n : Nat) : Env := eC 80 (UGj n) (eC 53 (Uy3 n) eN)
theorem UpY (n : Nat) : EnvOK Tryz.prog GI (Uyz n) := .cons (.cons (.nil) (UAI n)) (UKZ n)
def UhR (n : Nat) (l0 : LP → ByteArray → LP → Int → Int → O R) (x1 : LP) (x2 : ByteArray) (x3 : LP) (x4 x5 : Int) (k0 : LP → ByteArray → Int → O R) (k1 : LP → ByteArray → O R) : O R :=
  bif (decide (x5 < x4)) then (bif (inR x5 ((x3).length)) then (Jh8 ((x3).getD ((x5 : Int).toNat) (.v (.bool false))) fun a6 => JdW a6 fun h7 t8 => Jjf .i64 h7 fun e9 => JdW t8 fun h10 t11 => Jj9 h10 fun e12 => Ji8 t11 (p53 n e12 (fun y13 => bif (!y13) then (k0 x1 x2 3) else (l0 x1 x2 x3 x4 (IntKind.i64.wrap (x5 + 1)))))) else none) else (k1 x1 x2)
def UdL (n : Nat) : Nat → LP → ByteArray → LP → Int → Int → (LP → ByteArray → Int → O R) → (LP → ByteArray → O R) → O R
  | 0, _, _, _, _, _, _, _ => none
  | m + 1, x1, x2, x3, x4, x5, k0, k1 => UhR n (fun x1 x2 x3 x4 x5 => UdL n m x1 x2 x3 x4 x5 k0 k1) x1 x2 x3 x4 x5 k0 k1
def Uws (n : Nat) (x1 : LP) (x2 : ByteArray) (x3 : LP) (x4 x5 : Int) (k0 : LP → ByteArray → Int → O R) (k1 : LP → ByteArray → O R) : O R := UdL n n x1 x2 x3 x4 x5 k0 k1
def Ue6 (n : Nat) (l0 : LP → ByteArray → LP → Int → Int → O R) (x1 : LP) (x2 : ByteArray) (x3 : LP) (x4 x5 : Int) (k0 : LP → ByteArray → Int → O R) (k1 : LP → ByteArray → O R) : O R :=
  bif (decide (x5 < x4)) then (bif (inR x5 ((x3).length)) then (Jh8 ((x3).getD ((x5 : Int).toNat) (.v (.bool false))) fun a6 => JdW a6 fun h7 t8 => Jjf .i64 h7 fun e9 => JdW t8 fun h10 t11 => Jj9 h10 fun e12 => Ji8 t11 (p80 n e9 (fun y13 => bif (!y13) then (k0 x1 x2 2) else (l0 x1 x2 x3 x4 (IntKind.i64.wrap (x5 + 1)))))) else none) else (k1 x1 x2)
def Ucg (n : Nat) : Nat → LP → ByteArray → LP → Int → Int → (LP → ByteArray → Int → O R) → (LP → ByteArray → O R) → O R
  | 0, _, _, _, _, _, _, _ => none
  | m + 1, x1, x2, x3, x4, x5, k0, k1 => Ue6 n (fun x1 x2 x3 x4 x5 => Ucg n m x1 x2 x3 x4 x5 k0 k1) x1 x2 x3 x4 x5 k0 k1
def Ukk (n : Nat) (x1 : LP) (x2 : ByteArray) (x3 : LP) (x4 x5 : Int) (k0 : LP → ByteArray → Int → O R) (k1 : LP → ByteArray → O R) : O R := Ucg n n x1 x2 x3 x4 x5 k0 k1
def Ue7 (n : Nat) (l0 : Int → LP → Int → Int → O R) (x1 : Int) (x2 : LP) (x3 x4 : Int) (k0 : Int → O R) (k1 : O R) : O R :=
  bif (decide (x4 < x3)) then (bif (inR x4 ((x2).length)) then (Jh8 ((x2).getD ((x4 : Int).toNat) (.v (.bool false))) fun a5 => JdW a5 fun h6 t7 => Jjf .i64 h6 fun e8 => JdW t7 fun h9 t10 => Jj9 h9 fun e11 => Ji8 t10 (bif (eqS e11 (⟨#[48]⟩ : ByteArray)) then (k0 3) else (bif (bif false then true else (decide (e8 ≤ x1))) then (k0 3) else (l0 e8 x2 x3 (IntKind.i64.wrap (x4 + 1)))))) else none) else (k1)
def Uch (n : Nat) : Nat → Int → LP → Int → Int → (Int → O R) → (O R) → O R
  | 0, _, _, _, _, _, _ => none
  | m + 1, x1, x2, x3, x4, k0, k1 => Ue7 n (fun x1 x2 x3 x4 => Uch n m x1 x2 x3 x4 k0 k1) x1 x2 x3 x4 k0 k1
def UfJ (n : Nat) (x1 : Int) (x2 : LP) (x3 x4 : Int) (k0 : Int → O R) (k1 : O R) : O R := Uch n n x1 x2 x3 x4 k0 k1
def p52 (n : Nat) (x1 : LP) (x2 : ByteArray) (k0 : Int → O R) : O R :=
  p53 n x2 (fun y3 => bif (!y3) then (k0 3) else (Uws n x1 x2 x1 ((x1).length : Int) 0 (fun y4 y5 y6 => k0 y6) (fun y7 y8 => Ukk n y7 y8 y7 ((y7).length : Int) 0 (fun y9 y10 y11 => k0 y11) (fun y12 y13 => UfJ n (-1) y12 ((y12).length : Int) 0 (fun y14 => k0 y14) (k0 0)))))
abbrev E52 (n : Nat) : Code → Fr → Kc R → O R := evC Tryz.prog (Uyz n) Ubo n (57, [])
noncomputable def Uu2 : Code := Jk (Jls Tryz.f52) [1, 1, 0, 1, 0, 0]
abbrev Ugw : Sl (List SV) := (.c (sBx 43 (cH (cS .n))) (cH (cI (cI .n))))
abbrev Urf (n m : Nat) (K : Kc R) : Ugw.T (O R) := fun x1 x2 x3 x4 x5 => UdL n m x1 x2 x3 x4 x5 (fun y1 y2 y3 => xL Ubo 4 K .ret [.bx 43 [vH y1, vS y2], vI y3]) (fun y1 y2 => xL Ubo 4 K (.exit 0) [.bx 43 [vH y1, vS y2], dD])
abbrev UBa (n : Nat) (K : Kc R) (l0 : Ugw.T (O R)) : Ugw.T (O R) := fun x1 x2 x3 x4 x5 => UhR n l0 x1 x2 x3 x4 x5 (fun y1 y2 y3 => xL Ubo 4 K .ret [.bx 43 [vH y1, vS y2], vI y3]) (fun y1 y2 => xL Ubo 4 K (.exit 0) [.bx 43 [vH y1, vS y2], dD])
noncomputable def UoI : Code := Jk (Jls Tryz.f52) [1, 1, 1, 0, 1, 0, 0]
abbrev Uep : Sl (List SV) := (.c (sBx 43 (cH (cS .n))) (cH (cI (cI .n))))
abbrev Uj3 (n m : Nat) (K : Kc R) : Uep.T (O R) := fun x1 x2 x3 x4 x5 => Ucg n m x1 x2 x3 x4 x5 (fun y1 y2 y3 => xL Ubo 10 K .ret [.bx 43 [vH y1, vS y2], vI y3]) (fun y1 y2 => xL Ubo 10 K (.exit 2) [.bx 43 [vH y1, vS y2], dD])
abbrev UxX (n : Nat) (K : Kc R) (l0 : Uep.T (O R)) : Uep.T (O R) := fun x1 x2 x3 x4 x5 => Ue6 n l0 x1 x2 x3 x4 x5 (fun y1 y2 y3 => xL Ubo 10 K .ret [.bx 43 [vH y1, vS y2], vI y3]) (fun y1 y2 => xL Ubo 10 K (.exit 2) [.bx 43 [vH y1, vS y2], dD])
noncomputable def UoJ : Code := Jk (Jls Tryz.f52) [1, 1, 1, 1, 1, 0, 1, 0, 0]
abbrev Ueq : Sl (List SV) := (cI (cH (cI (cI .n))))
abbrev Uj4 (n m : Nat) (K : Kc R) : Ueq.T (O R) := fun x1 x2 x3 x4 => Uch n m x1 x2 x3 x4 (fun y1 => xL Ubo 17 K .ret [vI y1]) (xL Ubo 17 K (.exit 4) [dD])
abbrev UxY (n : Nat) (K : Kc R) (l0 : Ueq.T (O R)) : Ueq.T (O R) := fun x1 x2 x3 x4 => Ue7 n l0 x1 x2 x3 x4 (fun y1 => xL Ubo 17 K .ret [vI y1]) (xL Ubo 17 K (.exit 4) [dD])
abbrev UFd (n : Nat) : Orc R := oL Ubo (E52 n) n 17 UoJ Ueq (Uj4 n n) (oL Ubo (E52 n) n 10 UoI Uep (Uj3 n n) (oL Ubo (E52 n) n 4 Uu2 Ugw (Urf n n) oN))
abbrev UE1 (n : Nat) : Orc R := oN
abbrev K52 (R : Type) (n : Nat) := JcK (R := R) Tryz.prog (Uyz n) Ubo n (57, []) (UFd n) (UE1 n)
theorem UE (n : Nat) : K52 R n (false, 4, Uu2) := JkM (lo := UFd n) (cu := UE1 n) (pO pN (by kernel_rfl)) Ugw (Urf n n) (JiK (F := Urf n) Ugw (UBa n) (fun K _ _ _ _ _ => rfl) (fun _ _ => rfl) (fun L K _ _ _ _ _ => by show _ = _; kernel_rfl) n) fun _ _ => rfl
theorem UA (n : Nat) : K52 R n (false, 10, UoI) := JkM (lo := UFd n) (cu := UE1 n) (pO pN (by kernel_rfl)) Uep (Uj3 n n) (JiK (F := Uj3 n) Uep (UxX n) (fun K _ _ _ _ _ => rfl) (fun _ _ => rfl) (fun L K _ _ _ _ _ => by show _ = _; kernel_rfl) n) fun _ _ => rfl
theorem UAa (n : Nat) : K52 R n (false, 17, UoJ) := JkM (lo := UFd n) (cu := UE1 n) (pO pN (by kernel_rfl)) Ueq (Uj4 n n) (JiK (F := Uj4 n) Ueq (UxY n) (fun K _ _ _ _ => rfl) (fun _ _ => rfl) (fun L K _ _ _ _ => by show _ = _; kernel_rfl) n) fun _ _ => rfl
theorem UN6 (n : Nat) : Jfb (K52 R n) (JaJ Ubo (Jls Tryz.f52)) := pO (pC (UE n) (pC (UA n) (pC (UAa n) pN))) (by kernel_rfl)
abbrev t52 : Sl (List SV) := (.c (sP (JlP (.c sSh (.c JlF .n)))) .n)
abbrev f52 (n : Nat) (K : List SV → O R) : t52.T (O R) := fun x1 x2 => p52 n x1 x2 (fun y1 => K [vI y1])
abbrev UAE (n : Nat) : FS := fT [false] t52 (f52 n)
theorem UDm (n : Nat) : FSound Tryz.prog GI 52 (UAE n) := gd Ubo n (UpY n) Tryz.func52 (.cons (UpY n) t52 (f52 n) (fun K _ _ => (Jkx (c := Jls Tryz.f52) (by kernel_rfl) (UN6 n) K).trans (by kernel_rfl)) .nil) (by kernel_rfl)
def Ug0 : Ann := { loops := [(2, ids [0, 1, 7, 8, 9], ids [1, 4])], cuts := [], frz := [], rm := [.id] }
abbrev UyJ (n : Nat) : Env := eC 52 (UAE n) eN
theorem Uqk (n : Nat) : EnvOK Tryz.prog GI (UyJ n) := .cons (.nil) (UDm n)
def Uh1 (n : Nat) (l0 : Int → LP → LP → Int → Int → O R) (x1 : Int) (x2 x3 : LP) (x4 x5 : Int) (k0 : LP → Bool → O R) (k1 : LP → O R) : O R :=
  bif (decide (x5 < x4)) then (bif (inR x5 ((x3).length)) then (Jh8 ((x3).getD ((x5 : Int).toNat) (.v (.bool false))) fun a6 => JdW a6 fun h7 t8 => Jjf .i64 h7 fun e9 => JdW t8 fun h10 t11 => Jj9 h10 fun e12 => Ji8 t11 (bif (decide (e9 ≥ x1)) then (k0 x2 false) else (l0 x1 x2 x3 x4 (IntKind.i64.wrap (x5 + 1))))) else none) else (k1 x2)
def UdT (n : Nat) : Nat → Int → LP → LP → Int → Int → (LP → Bool → O R) → (LP → O R) → O R
  | 0, _, _, _, _, _, _, _ => none
  | m + 1, x1, x2, x3, x4, x5, k0, k1 => Uh1 n (fun x1 x2 x3 x4 x5 => UdT n m x1 x2 x3 x4 x5 k0 k1) x1 x2 x3 x4 x5 k0 k1
def UwA (n : Nat) (x1 : Int) (x2 x3 : LP) (x4 x5 : Int) (k0 : LP → Bool → O R) (k1 : LP → O R) : O R := UdT n n x1 x2 x3 x4 x5 k0 k1
def p76 (n : Nat) (x1 : Int) (x2 : LP) (k0 : Bool → O R) : O R :=
  UwA n x1 x2 x2 ((x2).length : Int) 0 (fun y3 y4 => k0 y4) (fun y5 => p52 n y5 ⟨#[48]⟩ (fun y6 => k0 (y6 == 0)))
abbrev E76 (n : Nat) : Code → Fr → Kc R → O R := evC Tryz.prog (UyJ n) Ug0 n (22, [])
noncomputable def Uvb : Code := Jk (Jls Tryz.f76) [1, 0, 1, 0, 0]
abbrev UgG : Sl (List SV) := (cI (cH (cH (cI (cI .n)))))
abbrev Urs (n m : Nat) (K : Kc R) : UgG.T (O R) := fun x1 x2 x3 x4 x5 => UdT n m x1 x2 x3 x4 x5 (fun y1 y2 => xL Ug0 2 K .ret [vH y1, vB y2]) (fun y1 => xL Ug0 2 K (.exit 0) [vH y1, dD])
abbrev UBk (n : Nat) (K : Kc R) (l0 : UgG.T (O R)) : UgG.T (O R) := fun x1 x2 x3 x4 x5 => Uh1 n l0 x1 x2 x3 x4 x5 (fun y1 y2 => xL Ug0 2 K .ret [vH y1, vB y2]) (fun y1 => xL Ug0 2 K (.exit 0) [vH y1, dD])
abbrev UKH (n : Nat) : Orc R := oL Ug0 (E76 n) n 2 Uvb UgG (Urs n n) oN
abbrev UJw (n : Nat) : Orc R := oN
abbrev K76 (R : Type) (n : Nat) := JcK (R := R) Tryz.prog (UyJ n) Ug0 n (22, []) (UKH n) (UJw n)
theorem UEk (n : Nat) : K76 R n (false, 2, Uvb) := JkM (lo := UKH n) (cu := UJw n) (pO pN (by kernel_rfl)) UgG (Urs n n) (JiK (F := Urs n) UgG (UBk n) (fun K _ _ _ _ _ => rfl) (fun _ _ => rfl) (fun L K _ _ _ _ _ => by show _ = _; kernel_rfl) n) fun _ _ => rfl
theorem UOr (n : Nat) : Jfb (K76 R n) (JaJ Ug0 (Jls Tryz.f76)) := pO (pC (UEk n) pN) (by kernel_rfl)
abbrev t76 : Sl (List SV) := (cI (cH .n))
abbrev f76 (n : Nat) (K : List SV → O R) : t76.T (O R) := fun x1 x2 => p76 n x1 x2 (fun y1 => K [vB y1])
abbrev UKi (n : Nat) : FS := fT [false, false] t76 (f76 n)
theorem UNq (n : Nat) : FSound Tryz.prog GI 76 (UKi n) := gd Ug0 n (Uqk n) Tryz.func76 (.cons (Uqk n) t76 (f76 n) (fun K _ _ => (Jkx (c := Jls Tryz.f76) (by kernel_rfl) (UOr n) K).trans (by kernel_rfl)) .nil) (by kernel_rfl)
def UcP : Ann := { loops := [(8, [(1, .id), (4, .id), (8, .cs [some 66, none]), (30, .id), (31, .id), (32, .id)], ids [4, 5, 8])], cuts := [], frz := [1000015, 1000025, 1000028, 1000045], rm := [.id, .id] }
abbrev Upb (n : Nat) : Env := eC 21 (UF8 n) eN
theorem UlP (n : Nat) : EnvOK Tryz.prog GI (Upb n) := .cons (.nil) (UKN n)
def UeT (n : Nat) (l0 : ByteArray → ByteArray → LP → ByteArray → LP → Int → Int → O R) (x1 x2 : ByteArray) (x3 : LP) (x4 : ByteArray) (x5 : LP) (x6 x7 : Int) (k0 : ByteArray → Int → LP → ByteArray → O R) (k1 : ByteArray → LP → ByteArray → O R) : O R :=
  bif (decide (x7 < x6)) then (bif (inR x7 ((x5).length)) then (Jh8 ((x5).getD ((x7 : Int).toNat) (.v (.bool false))) fun a8 => JdW a8 fun h9 t10 => Jjf .i64 h9 fun e11 => JdW t10 fun h12 t13 => Jj9 h12 fun e14 => Ji8 t13 (p21 n e14 x1 (fun y15 y16 => bif (y16 != 0) then (k0 ByteArray.empty y16 x3 x4) else (bif (Jbv ((x3).length + 1) 24) then (l0 x1 x2 (x3 ++ ([.agg [.v (.int .i64 e11), .v (.string y15)]] : LP)) x4 x5 x6 (IntKind.i64.wrap (x7 + 1))) else none)))) else none) else (k1 x2 x3 x4)
def Ub5 (n : Nat) : Nat → ByteArray → ByteArray → LP → ByteArray → LP → Int → Int → (ByteArray → Int → LP → ByteArray → O R) → (ByteArray → LP → ByteArray → O R) → O R
  | 0, _, _, _, _, _, _, _, _, _ => none
  | m + 1, x1, x2, x3, x4, x5, x6, x7, k0, k1 => UeT n (fun x1 x2 x3 x4 x5 x6 x7 => Ub5 n m x1 x2 x3 x4 x5 x6 x7 k0 k1) x1 x2 x3 x4 x5 x6 x7 k0 k1
def Ur6 (n : Nat) (x1 x2 : ByteArray) (x3 : LP) (x4 : ByteArray) (x5 : LP) (x6 x7 : Int) (k0 : ByteArray → Int → LP → ByteArray → O R) (k1 : ByteArray → LP → ByteArray → O R) : O R := Ub5 n n x1 x2 x3 x4 x5 x6 x7 k0 k1
def UFp (n : Nat) (x1 : LP) (x2 x3 : ByteArray) (k0 : LP → ByteArray → Int → O R) : O R :=
  bif (eqS x3 (⟨#[48]⟩ : ByteArray)) then (k0 [] ⟨#[48]⟩ 0) else (p21 n x2 x3 (fun y4 y5 => bif (y5 != 0) then (k0 [] ByteArray.empty y5) else (Ur6 n x3 ByteArray.empty [] y4 x1 ((x1).length : Int) 0 (fun y6 y7 y8 y9 => k0 [] y6 y7) (fun y10 y11 y12 => k0 y11 y12 0))))
abbrev ULc (n : Nat) : Code → Fr → Kc R → O R := evC Tryz.prog (Upb n) UcP n (58, [])
noncomputable def Uob : Code := Jk (Jls Tryz.f113) [1, 1, 1, 1, 1, 0, 1, 0, 0]
abbrev Ue : Sl (List SV) := (cS (.c (sBx 43 (.c sNl (cS .n))) (.c (sBx 43 (cO 66 (cS .n))) (cH (cI (cI .n))))))
abbrev UjN (n m : Nat) (K : Kc R) : Ue.T (O R) := fun x1 x2 x3 x4 x5 x6 x7 => Ub5 n m x1 x2 x3 x4 x5 x6 x7 (fun y1 y2 y3 y4 => xL UcP 8 K .ret [.bx 43 [.nl, vS y1], vI y2, .bx 43 [.own 66 y3, vS y4]]) (fun y1 y2 y3 => xL UcP 8 K (.exit 0) [.bx 43 [.nl, vS y1], dD, .bx 43 [.own 66 y2, vS y3]])
abbrev UxC (n : Nat) (K : Kc R) (l0 : Ue.T (O R)) : Ue.T (O R) := fun x1 x2 x3 x4 x5 x6 x7 => UeT n l0 x1 x2 x3 x4 x5 x6 x7 (fun y1 y2 y3 y4 => xL UcP 8 K .ret [.bx 43 [.nl, vS y1], vI y2, .bx 43 [.own 66 y3, vS y4]]) (fun y1 y2 y3 => xL UcP 8 K (.exit 0) [.bx 43 [.nl, vS y1], dD, .bx 43 [.own 66 y2, vS y3]])
abbrev UC6 (n : Nat) : Orc R := oL UcP (ULc n) n 8 Uob Ue (UjN n n) oN
abbrev UBy (n : Nat) : Orc R := oN
abbrev UJ (R : Type) (n : Nat) := JcK (R := R) Tryz.prog (Upb n) UcP n (58, []) (UC6 n) (UBy n)
theorem UzB (n : Nat) : UJ R n (false, 8, Uob) := JkM (lo := UC6 n) (cu := UBy n) (pO pN (by kernel_rfl)) Ue (UjN n n) (JiK (F := UjN n) Ue (UxC n) (fun K _ _ _ _ _ _ _ => rfl) (fun _ _ => rfl) (fun L K _ _ _ _ _ _ _ => by show _ = _; kernel_rfl) n) fun _ _ => rfl
theorem UHM (n : Nat) : Jfb (UJ R n) (JaJ UcP (Jls Tryz.f113)) := pO (pC (UzB n) pN) (by kernel_rfl)
abbrev UIs : Sl (List SV) := (.c (sP (JlP (.c sSh (.c JlF .n)))) (cS .n))
abbrev f113 (n : Nat) (K : List SV → O R) : UIs.T (O R) := fun x1 x2 x3 => UFp n x1 x2 x3 (fun y1 y2 y3 => K [.p (.agg [.sh y1, .v (.string y2)]), vI y3])
abbrev UCA (n : Nat) : FS := fT [false, false] UIs (f113 n)
theorem UGW (n : Nat) : FSound Tryz.prog GI 113 (UCA n) := gd UcP n (UlP n) Tryz.func113 (.cons (UlP n) UIs (f113 n) (fun K _ _ _ => (Jkx (c := Jls Tryz.f113) (by kernel_rfl) (UHM n) K).trans (by kernel_rfl)) .nil) (by kernel_rfl)
def Uxf : Ann := { loops := [], cuts := [], frz := [], rm := [.id, .id] }
abbrev UB6 (n : Nat) : Env := eC 113 (UCA n) (eC 53 (Uy3 n) (eC 52 (UAE n) eN))
theorem Uqi (n : Nat) : EnvOK Tryz.prog GI (UB6 n) := .cons (.cons (.cons (.nil) (UDm n)) (UAI n)) (UGW n)
def p74 (n : Nat) (x1 : LP) (x2 x3 : ByteArray) (k0 : LP → ByteArray → Int → O R) : O R :=
  p52 n x1 x2 (fun y4 => bif (y4 != 0) then (k0 [] ByteArray.empty 3) else (p53 n x3 (fun y5 => bif (bif false then true else (!y5)) then (k0 [] ByteArray.empty 3) else (UFp n x1 x2 x3 (fun y6 y7 y8 => k0 y6 y7 y8)))))
abbrev UMF (n : Nat) : Orc R := oN
abbrev ULZ (n : Nat) : Orc R := oN
abbrev K74 (R : Type) (n : Nat) := JcK (R := R) Tryz.prog (UB6 n) Uxf n (20, []) (UMF n) (ULZ n)
theorem UOp (n : Nat) : Jfb (K74 R n) (JaJ Uxf (Jls Tryz.f74)) := pO pN (by kernel_rfl)
abbrev t74 : Sl (List SV) := (.c (sP (JlP (.c sSh (.c JlF .n)))) (cS .n))
abbrev f74 (n : Nat) (K : List SV → O R) : t74.T (O R) := fun x1 x2 x3 => p74 n x1 x2 x3 (fun y1 y2 y3 => K [.p (.agg [.sh y1, .v (.string y2)]), vI y3])
abbrev UKg (n : Nat) : FS := fT [false, false] t74 (f74 n)
theorem UNo (n : Nat) : FSound Tryz.prog GI 74 (UKg n) := gd Uxf n (Uqi n) Tryz.func74 (.cons (Uqi n) t74 (f74 n) (fun K _ _ _ => (Jkx (c := Jls Tryz.f74) (by kernel_rfl) (UOp n) K).trans (by kernel_rfl)) .nil) (by kernel_rfl)
def UaA : Ann := { loops := [(6, [(2, .id), (3, .id), (4, .id), (8, .cs [some 66, none]), (9, .id), (10, .id)], ids [4, 5, 8])], cuts := [(12, ids [2, 3, 4, 8, 9, 10], ids [2, 3, 4, 5, 8, 9, 10]), (14, ids [2, 3, 4, 8, 9, 10], ids [2, 3, 4, 5, 8, 9, 10]), (15, ids [2, 3, 4, 8, 9, 10, 78], ids [2, 3, 4, 5, 8, 9, 10]), (18, ids [2, 3, 4, 8, 9, 10, 118], ids [2, 3, 4, 5, 8, 9, 10])], frz := [1000023, 1000026, 1000057], rm := [.id, .id] }
abbrev Upc (n : Nat) : Env := eC 22 (UF9 n) eN
theorem UlQ (n : Nat) : EnvOK Tryz.prog GI (Upc n) := .cons (.nil) (UKO n)
def Ub6 (n : Nat) (x1 : LP) (x2 : ByteArray) (x3 : LP) (x4 x5 : ByteArray) (x6 : LP) (x7 : ByteArray) (x8 x9 : Int) (k0 : LP → ByteArray → LP → ByteArray → ByteArray → LP → ByteArray → Int → Int → O R) : O R :=
  k0 x1 x2 x3 x4 x5 x6 x7 (IntKind.i64.wrap (x8 + 1)) (IntKind.i64.wrap (x9 + 1))
def Ubb (n : Nat) (x1 : LP) (x2 : ByteArray) (x3 : LP) (x4 x5 : ByteArray) (x6 : LP) (x7 : ByteArray) (x8 x9 : Int) (x10 : Bool) (k0 : LP → ByteArray → LP → ByteArray → ByteArray → LP → ByteArray → Int → Int → O R) (k1 : LP → ByteArray → LP → ByteArray → ByteArray → Int → LP → ByteArray → Int → Int → O R) : O R :=
  bif x10 then (bif (inR x9 ((x3).length)) then (Jh8 ((x3).getD ((x9 : Int).toNat) (.v (.bool false))) fun a11 => JdW a11 fun h12 t13 => Jjf .i64 h12 fun e14 => JdW t13 fun h15 t16 => Jj9 h15 fun e17 => Ji8 t16 (bif (Jbv ((x6).length + 1) 24) then (k0 x1 x2 x3 x4 x5 (x6 ++ ([.agg [.v (.int .i64 e14), .v (.string e17)]] : LP)) x7 x8 (IntKind.i64.wrap (x9 + 1))) else none)) else none) else (bif (inR x8 ((x1).length)) then (Jh8 ((x1).getD ((x8 : Int).toNat) (.v (.bool false))) fun a18 => JdW a18 fun h19 t20 => Jjf .i64 h19 fun e21 => JdW t20 fun h22 t23 => Jj9 h22 fun e24 => Ji8 t23 (bif (inR x9 ((x3).length)) then (Jh8 ((x3).getD ((x9 : Int).toNat) (.v (.bool false))) fun a25 => JdW a25 fun h26 t27 => Jjf .i64 h26 fun e28 => JdW t27 fun h29 t30 => Jj9 h29 fun e31 => Ji8 t30 (p22 n e24 e31 (fun y32 y33 => bif (y33 != 0) then (k1 x1 x2 x3 x4 ByteArray.empty y33 x6 x7 x8 x9) else (bif (!eqS y32 (⟨#[48]⟩ : ByteArray)) then (bif (inR x8 ((x1).length)) then (Jh8 ((x1).getD ((x8 : Int).toNat) (.v (.bool false))) fun a34 => JdW a34 fun h35 t36 => Jjf .i64 h35 fun e37 => JdW t36 fun h38 t39 => Jj9 h38 fun e40 => Ji8 t39 (bif (Jbv ((x6).length + 1) 24) then (Ub6 n x1 x2 x3 x4 x5 (x6 ++ ([.agg [.v (.int .i64 e37), .v (.string y32)]] : LP)) x7 x8 x9 (fun y41 y42 y43 y44 y45 y46 y47 y48 y49 => k0 y41 y42 y43 y44 y45 y46 y47 y48 y49)) else none)) else none) else (Ub6 n x1 x2 x3 x4 x5 x6 x7 x8 x9 (fun y50 y51 y52 y53 y54 y55 y56 y57 y58 => k0 y50 y51 y52 y53 y54 y55 y56 y57 y58)))))) else none)) else none)
def UaE (n : Nat) (x1 : LP) (x2 : ByteArray) (x3 : LP) (x4 x5 : ByteArray) (x6 : LP) (x7 : ByteArray) (x8 x9 : Int) (x10 : Bool) (k0 : LP → ByteArray → LP → ByteArray → ByteArray → LP → ByteArray → Int → Int → O R) (k1 : LP → ByteArray → LP → ByteArray → ByteArray → Int → LP → ByteArray → Int → Int → O R) : O R :=
  bif x10 then (bif (inR x8 ((x1).length)) then (Jh8 ((x1).getD ((x8 : Int).toNat) (.v (.bool false))) fun a11 => JdW a11 fun h12 t13 => Jjf .i64 h12 fun e14 => JdW t13 fun h15 t16 => Jj9 h15 fun e17 => Ji8 t16 (bif (Jbv ((x6).length + 1) 24) then (k0 x1 x2 x3 x4 x5 (x6 ++ ([.agg [.v (.int .i64 e14), .v (.string e17)]] : LP)) x7 (IntKind.i64.wrap (x8 + 1)) x9) else none)) else none) else (bif (x8 == ((x1).length : Int)) then (Ubb n x1 x2 x3 x4 x5 x6 x7 x8 x9 true (fun y18 y19 y20 y21 y22 y23 y24 y25 y26 => k0 y18 y19 y20 y21 y22 y23 y24 y25 y26) (fun y27 y28 y29 y30 y31 y32 y33 y34 y35 y36 => k1 y27 y28 y29 y30 y31 y32 y33 y34 y35 y36)) else (bif (inR x9 ((x3).length)) then (Jh8 ((x3).getD ((x9 : Int).toNat) (.v (.bool false))) fun a37 => JdW a37 fun h38 t39 => Jjf .i64 h38 fun e40 => JdW t39 fun h41 t42 => Jj9 h41 fun e43 => Ji8 t42 (bif (inR x8 ((x1).length)) then (Jh8 ((x1).getD ((x8 : Int).toNat) (.v (.bool false))) fun a44 => JdW a44 fun h45 t46 => Jjf .i64 h45 fun e47 => JdW t46 fun h48 t49 => Jj9 h48 fun e50 => Ji8 t49 (Ubb n x1 x2 x3 x4 x5 x6 x7 x8 x9 (bif false then true else (decide (e40 < e47))) (fun y51 y52 y53 y54 y55 y56 y57 y58 y59 => k0 y51 y52 y53 y54 y55 y56 y57 y58 y59) (fun y60 y61 y62 y63 y64 y65 y66 y67 y68 y69 => k1 y60 y61 y62 y63 y64 y65 y66 y67 y68 y69))) else none)) else none))
def UaN (n : Nat) (x1 : LP) (x2 : ByteArray) (x3 : LP) (x4 x5 : ByteArray) (x6 : LP) (x7 : ByteArray) (x8 x9 : Int) (k0 : LP → ByteArray → LP → ByteArray → ByteArray → LP → ByteArray → Int → Int → O R) (k1 : LP → ByteArray → LP → ByteArray → ByteArray → Int → LP → ByteArray → Int → Int → O R) : O R :=
  bif (x9 == ((x3).length : Int)) then (UaE n x1 x2 x3 x4 x5 x6 x7 x8 x9 true (fun y10 y11 y12 y13 y14 y15 y16 y17 y18 => k0 y10 y11 y12 y13 y14 y15 y16 y17 y18) (fun y19 y20 y21 y22 y23 y24 y25 y26 y27 y28 => k1 y19 y20 y21 y22 y23 y24 y25 y26 y27 y28)) else (bif (decide (x8 < ((x1).length : Int))) then (bif (inR x8 ((x1).length)) then (Jh8 ((x1).getD ((x8 : Int).toNat) (.v (.bool false))) fun a29 => JdW a29 fun h30 t31 => Jjf .i64 h30 fun e32 => JdW t31 fun h33 t34 => Jj9 h33 fun e35 => Ji8 t34 (bif (inR x9 ((x3).length)) then (Jh8 ((x3).getD ((x9 : Int).toNat) (.v (.bool false))) fun a36 => JdW a36 fun h37 t38 => Jjf .i64 h37 fun e39 => JdW t38 fun h40 t41 => Jj9 h40 fun e42 => Ji8 t41 (UaE n x1 x2 x3 x4 x5 x6 x7 x8 x9 (bif false then true else (bif true then (decide (e32 < e39)) else false)) (fun y43 y44 y45 y46 y47 y48 y49 y50 y51 => k0 y43 y44 y45 y46 y47 y48 y49 y50 y51) (fun y52 y53 y54 y55 y56 y57 y58 y59 y60 y61 => k1 y52 y53 y54 y55 y56 y57 y58 y59 y60 y61))) else none)) else none) else (UaE n x1 x2 x3 x4 x5 x6 x7 x8 x9 false (fun y62 y63 y64 y65 y66 y67 y68 y69 y70 => k0 y62 y63 y64 y65 y66 y67 y68 y69 y70) (fun y71 y72 y73 y74 y75 y76 y77 y78 y79 y80 => k1 y71 y72 y73 y74 y75 y76 y77 y78 y79 y80)))
def Uhp (n : Nat) (l0 : LP → ByteArray → LP → ByteArray → ByteArray → LP → ByteArray → Int → Int → O R) (x1 : LP) (x2 : ByteArray) (x3 : LP) (x4 x5 : ByteArray) (x6 : LP) (x7 : ByteArray) (x8 x9 : Int) (k0 : ByteArray → Int → LP → ByteArray → O R) (k1 : ByteArray → LP → ByteArray → O R) : O R :=
  bif (decide (x8 < ((x1).length : Int))) then (UaN n x1 x2 x3 x4 x5 x6 x7 x8 x9 (fun y10 y11 y12 y13 y14 y15 y16 y17 y18 => l0 y10 y11 y12 y13 y14 y15 y16 y17 y18) (fun y19 y20 y21 y22 y23 y24 y25 y26 y27 y28 => k0 y23 y24 y25 y26)) else (bif (bif false then true else (decide (x9 < ((x3).length : Int)))) then (UaN n x1 x2 x3 x4 x5 x6 x7 x8 x9 (fun y29 y30 y31 y32 y33 y34 y35 y36 y37 => l0 y29 y30 y31 y32 y33 y34 y35 y36 y37) (fun y38 y39 y40 y41 y42 y43 y44 y45 y46 y47 => k0 y42 y43 y44 y45)) else (k1 x5 x6 x7))
def Uc6 (n : Nat) : Nat → LP → ByteArray → LP → ByteArray → ByteArray → LP → ByteArray → Int → Int → (ByteArray → Int → LP → ByteArray → O R) → (ByteArray → LP → ByteArray → O R) → O R
  | 0, _, _, _, _, _, _, _, _, _, _, _ => none
  | m + 1, x1, x2, x3, x4, x5, x6, x7, x8, x9, k0, k1 => Uhp n (fun x1 x2 x3 x4 x5 x6 x7 x8 x9 => Uc6 n m x1 x2 x3 x4 x5 x6 x7 x8 x9 k0 k1) x1 x2 x3 x4 x5 x6 x7 x8 x9 k0 k1
def Ur7 (n : Nat) (x1 : LP) (x2 : ByteArray) (x3 : LP) (x4 x5 : ByteArray) (x6 : LP) (x7 : ByteArray) (x8 x9 : Int) (k0 : ByteArray → Int → LP → ByteArray → O R) (k1 : ByteArray → LP → ByteArray → O R) : O R := Uc6 n n x1 x2 x3 x4 x5 x6 x7 x8 x9 k0 k1
def UFq (n : Nat) (x1 : LP) (x2 : ByteArray) (x3 : LP) (x4 : ByteArray) (k0 : LP → ByteArray → Int → O R) : O R :=
  p22 n x2 x4 (fun y5 y6 => bif (y6 != 0) then (k0 [] ByteArray.empty y6) else (Ur7 n x1 x2 x3 x4 ByteArray.empty [] y5 0 0 (fun y7 y8 y9 y10 => k0 [] y7 y8) (fun y11 y12 y13 => k0 y12 y13 0)))
abbrev UAQ (n : Nat) : Code → Fr → Kc R → O R := evC Tryz.prog (Upc n) UaA n (152, [])
noncomputable def Uk8 : Code := Jk (Jls Tryz.f114) [1, 1, 1, 1, 1, 0, 0, 0, 1, 0, 0, 1, 1, 1, 1, 1, 1, 1]
abbrev Uim : Sl (List SV) := (.c (sBx 43 (cH (cS .n))) (.c (sBx 43 (cH (cS .n))) (.c (sBx 43 (.c sNl (cS .n))) (.c (sBx 43 (cO 66 (cS .n))) (cI (cI .n))))))
abbrev Umj (n : Nat) (K : Kc R) : Uim.T (O R) := fun x1 x2 x3 x4 x5 x6 x7 x8 x9 => Ub6 n x1 x2 x3 x4 x5 x6 x7 x8 x9 (fun y1 y2 y3 y4 y5 y6 y7 y8 y9 => xC UaA 12 K .normal [.bx 43 [vH y1, vS y2], .bx 43 [vH y3, vS y4], .bx 43 [.nl, vS y5], dD, .bx 43 [.own 66 y6, vS y7], vI y8, vI y9])
noncomputable def Uk9 : Code := Jk (Jls Tryz.f114) [1, 1, 1, 1, 1, 0, 0, 0, 1]
abbrev Uin : Sl (List SV) := (.c (sBx 43 (cH (cS .n))) (.c (sBx 43 (cH (cS .n))) (.c (sBx 43 (.c sNl (cS .n))) (.c (sBx 43 (cO 66 (cS .n))) (cI (cI .n))))))
abbrev Umk (n : Nat) (K : Kc R) : Uin.T (O R) := fun x1 x2 x3 x4 x5 x6 x7 x8 x9 => UaN n x1 x2 x3 x4 x5 x6 x7 x8 x9 (fun y1 y2 y3 y4 y5 y6 y7 y8 y9 => xC UaA 14 K .normal [.bx 43 [vH y1, vS y2], .bx 43 [vH y3, vS y4], .bx 43 [.nl, vS y5], dD, .bx 43 [.own 66 y6, vS y7], vI y8, vI y9]) (fun y1 y2 y3 y4 y5 y6 y7 y8 y9 y10 => xC UaA 14 K .ret [.bx 43 [vH y1, vS y2], .bx 43 [vH y3, vS y4], .bx 43 [.nl, vS y5], vI y6, .bx 43 [.own 66 y7, vS y8], vI y9, vI y10])
noncomputable def Ul : Code := Jk (Jls Tryz.f114) [1, 1, 1, 1, 1, 0, 0, 0, 1, 0, 0, 1]
abbrev Uio : Sl (List SV) := (.c (sBx 43 (cH (cS .n))) (.c (sBx 43 (cH (cS .n))) (.c (sBx 43 (.c sNl (cS .n))) (.c (sBx 43 (cO 66 (cS .n))) (cI (cI (cB .n)))))))
abbrev Uml (n : Nat) (K : Kc R) : Uio.T (O R) := fun x1 x2 x3 x4 x5 x6 x7 x8 x9 x10 => UaE n x1 x2 x3 x4 x5 x6 x7 x8 x9 x10 (fun y1 y2 y3 y4 y5 y6 y7 y8 y9 => xC UaA 15 K .normal [.bx 43 [vH y1, vS y2], .bx 43 [vH y3, vS y4], .bx 43 [.nl, vS y5], dD, .bx 43 [.own 66 y6, vS y7], vI y8, vI y9]) (fun y1 y2 y3 y4 y5 y6 y7 y8 y9 y10 => xC UaA 15 K .ret [.bx 43 [vH y1, vS y2], .bx 43 [vH y3, vS y4], .bx 43 [.nl, vS y5], vI y6, .bx 43 [.own 66 y7, vS y8], vI y9, vI y10])
noncomputable def Ula : Code := Jk (Jls Tryz.f114) [1, 1, 1, 1, 1, 0, 0, 0, 1, 0, 0, 1, 1, 1]
abbrev Uip : Sl (List SV) := (.c (sBx 43 (cH (cS .n))) (.c (sBx 43 (cH (cS .n))) (.c (sBx 43 (.c sNl (cS .n))) (.c (sBx 43 (cO 66 (cS .n))) (cI (cI (cB .n)))))))
abbrev Umm (n : Nat) (K : Kc R) : Uip.T (O R) := fun x1 x2 x3 x4 x5 x6 x7 x8 x9 x10 => Ubb n x1 x2 x3 x4 x5 x6 x7 x8 x9 x10 (fun y1 y2 y3 y4 y5 y6 y7 y8 y9 => xC UaA 18 K .normal [.bx 43 [vH y1, vS y2], .bx 43 [vH y3, vS y4], .bx 43 [.nl, vS y5], dD, .bx 43 [.own 66 y6, vS y7], vI y8, vI y9]) (fun y1 y2 y3 y4 y5 y6 y7 y8 y9 y10 => xC UaA 18 K .ret [.bx 43 [vH y1, vS y2], .bx 43 [vH y3, vS y4], .bx 43 [.nl, vS y5], vI y6, .bx 43 [.own 66 y7, vS y8], vI y9, vI y10])
noncomputable def Uoc : Code := Jk (Jls Tryz.f114) [1, 1, 1, 1, 1, 0, 0, 0]
abbrev Uea : Sl (List SV) := (.c (sBx 43 (cH (cS .n))) (.c (sBx 43 (cH (cS .n))) (.c (sBx 43 (.c sNl (cS .n))) (.c (sBx 43 (cO 66 (cS .n))) (cI (cI .n))))))
abbrev UjO (n m : Nat) (K : Kc R) : Uea.T (O R) := fun x1 x2 x3 x4 x5 x6 x7 x8 x9 => Uc6 n m x1 x2 x3 x4 x5 x6 x7 x8 x9 (fun y1 y2 y3 y4 => xL UaA 6 K .ret [.bx 43 [.nl, vS y1], vI y2, .bx 43 [.own 66 y3, vS y4]]) (fun y1 y2 y3 => xL UaA 6 K (.exit 0) [.bx 43 [.nl, vS y1], dD, .bx 43 [.own 66 y2, vS y3]])
abbrev UxD (n : Nat) (K : Kc R) (l0 : Uea.T (O R)) : Uea.T (O R) := fun x1 x2 x3 x4 x5 x6 x7 x8 x9 => Uhp n l0 x1 x2 x3 x4 x5 x6 x7 x8 x9 (fun y1 y2 y3 y4 => xL UaA 6 K .ret [.bx 43 [.nl, vS y1], vI y2, .bx 43 [.own 66 y3, vS y4]]) (fun y1 y2 y3 => xL UaA 6 K (.exit 0) [.bx 43 [.nl, vS y1], dD, .bx 43 [.own 66 y2, vS y3]])
abbrev Unq (n : Nat) : Orc R := oL UaA (UAQ n) n 6 Uoc Uea (UjO n n) oN
abbrev Unj (n : Nat) : Orc R := oC UaA (UAQ n) 18 Ula Uip (Umm n) (oC UaA (UAQ n) 15 Ul Uio (Uml n) (oC UaA (UAQ n) 14 Uk9 Uin (Umk n) (oC UaA (UAQ n) 12 Uk8 Uim (Umj n) oN)))
abbrev UAy (R : Type) (n : Nat) := JcK (R := R) Tryz.prog (Upc n) UaA n (152, []) (Unq n) (Unj n)
theorem Ut4 (n : Nat) : UAy R n (true, 12, Uk8) := Jk3 (lo := Unq n) (cu := Unj n) (pO pN (by kernel_rfl)) Uim (Umj n) (fun K _ _ _ _ _ _ _ _ _ => by show _ = _; kernel_rfl) fun _ _ => rfl
theorem Ut7 (n : Nat) : UAy R n (true, 18, Ula) := Jk3 (lo := Unq n) (cu := Unj n) (pO (pC (Ut4 n) pN) (by kernel_rfl)) Uip (Umm n) (fun K _ _ _ _ _ _ _ _ _ _ => by show _ = _; kernel_rfl) fun _ _ => rfl
theorem Ut6 (n : Nat) : UAy R n (true, 15, Ul) := Jk3 (lo := Unq n) (cu := Unj n) (pO (pC (Ut7 n) pN) (by kernel_rfl)) Uio (Uml n) (fun K _ _ _ _ _ _ _ _ _ _ => by show _ = _; kernel_rfl) fun _ _ => rfl
theorem Ut5 (n : Nat) : UAy R n (true, 14, Uk9) := Jk3 (lo := Unq n) (cu := Unj n) (pO (pC (Ut6 n) pN) (by kernel_rfl)) Uin (Umk n) (fun K _ _ _ _ _ _ _ _ _ => by show _ = _; kernel_rfl) fun _ _ => rfl
theorem UzC (n : Nat) : UAy R n (false, 6, Uoc) := JkM (lo := Unq n) (cu := Unj n) (pO (pC (Ut5 n) pN) (by kernel_rfl)) Uea (UjO n n) (JiK (F := UjO n) Uea (UxD n) (fun K _ _ _ _ _ _ _ _ _ => rfl) (fun _ _ => rfl) (fun L K _ _ _ _ _ _ _ _ _ => by show _ = _; kernel_rfl) n) fun _ _ => rfl
theorem UHN (n : Nat) : Jfb (UAy R n) (JaJ UaA (Jls Tryz.f114)) := pO (pC (UzC n) pN) (by kernel_rfl)
abbrev UIt : Sl (List SV) := (.c (sP (JlP (.c sSh (.c JlF .n)))) (.c (sP (JlP (.c sSh (.c JlF .n)))) .n))
abbrev f114 (n : Nat) (K : List SV → O R) : UIt.T (O R) := fun x1 x2 x3 x4 => UFq n x1 x2 x3 x4 (fun y1 y2 y3 => K [.p (.agg [.sh y1, .v (.string y2)]), vI y3])
abbrev UCB (n : Nat) : FS := fT [false, false] UIt (f114 n)
theorem UGX (n : Nat) : FSound Tryz.prog GI 114 (UCB n) := gd UaA n (UlQ n) Tryz.func114 (.cons (UlQ n) UIt (f114 n) (fun K _ _ _ _ => (Jkx (c := Jls Tryz.f114) (by kernel_rfl) (UHN n) K).trans (by kernel_rfl)) .nil) (by kernel_rfl)
def Uxg : Ann := { loops := [], cuts := [], frz := [], rm := [.id, .id] }
abbrev UB7 (n : Nat) : Env := eC 114 (UCB n) (eC 52 (UAE n) eN)
theorem Uqj (n : Nat) : EnvOK Tryz.prog GI (UB7 n) := .cons (.cons (.nil) (UDm n)) (UGX n)
def p75 (n : Nat) (x1 : LP) (x2 : ByteArray) (x3 : LP) (x4 : ByteArray) (k0 : LP → ByteArray → Int → O R) : O R :=
  p52 n x1 x2 (fun y5 => bif (y5 != 0) then (k0 [] ByteArray.empty 3) else (p52 n x3 x4 (fun y6 => bif (bif false then true else (y6 != 0)) then (k0 [] ByteArray.empty 3) else (UFq n x1 x2 x3 x4 (fun y7 y8 y9 => k0 y7 y8 y9)))))
abbrev UMG (n : Nat) : Orc R := oN
abbrev UL0 (n : Nat) : Orc R := oN
abbrev K75 (R : Type) (n : Nat) := JcK (R := R) Tryz.prog (UB7 n) Uxg n (20, []) (UMG n) (UL0 n)
theorem UOq (n : Nat) : Jfb (K75 R n) (JaJ Uxg (Jls Tryz.f75)) := pO pN (by kernel_rfl)
abbrev t75 : Sl (List SV) := (.c (sP (JlP (.c sSh (.c JlF .n)))) (.c (sP (JlP (.c sSh (.c JlF .n)))) .n))
abbrev f75 (n : Nat) (K : List SV → O R) : t75.T (O R) := fun x1 x2 x3 x4 => p75 n x1 x2 x3 x4 (fun y1 y2 y3 => K [.p (.agg [.sh y1, .v (.string y2)]), vI y3])
abbrev UKh (n : Nat) : FS := fT [false, false] t75 (f75 n)
theorem UNp (n : Nat) : FSound Tryz.prog GI 75 (UKh n) := gd Uxg n (Uqj n) Tryz.func75 (.cons (Uqj n) t75 (f75 n) (fun K _ _ _ _ => (Jkx (c := Jls Tryz.f75) (by kernel_rfl) (UOq n) K).trans (by kernel_rfl)) .nil) (by kernel_rfl)
end
end Go.Proofs.YtmgfmlhdnadglaaGreatDoor
set_option linter.unusedVariables false
set_option linter.unusedSimpArgs false
namespace Go.Proofs.YtmgfmlhdnadglaaGreatDoor
open Go Th Go.Proofs
variable {R : Type}
noncomputable def aQ (l : List Uar) : Bool := l.all fun t => qb t.2
def inC (c : Int) : Bool := decide (0 ≤ c) && decide (c < 2048)
def aC (l : List Uar) : Bool := l.all fun t => inC t.1
def aO : Int → List Uar → Bool
  | _, [] => true
  | last, t :: r => if t.2 = [48] then false else if t.1 ≤ last then false else aO t.1 r
noncomputable def Uy9 (l : List Uar) (c : List UInt8) : Int := if qb c = true then (if aQ l = true then (if aC l = true then (if aO (-1) l = true then 0 else 3) else 2) else 3) else 3
theorem Ufw : ∀ {l : List Uar} {last : Int}, -1 ≤ last → (okT 2048 last l = true ↔ (aQ l = true ∧ aC l = true ∧ aO last l = true))
  | [], last, _ => by simp [okT, aQ, aC, aO]
  | t :: l, last, h => by
    have ih := fun (h' : -1 ≤ t.1) => Ufw (l := l) (last := t.1) h'
    simp only [okT, aQ, aC, aO, List.all_cons, Bool.and_eq_true] at ih ⊢
    by_cases h1 : t.1 ≤ last
    · simp [h1]
    · have h1' := ih (by omega)
      have e0 : inC t.1 = decide (t.1 < 2048) := by
        unfold inC
        rw [decide_eq_true (by omega : 0 ≤ t.1), Bool.true_and]
      by_cases h2 : t.1 ≥ 2048
      · have e1 : inC t.1 = false := by rw [e0]; simp; omega
        simp [h1, h2, e1]
      · have e1 : inC t.1 = true := by rw [e0]; simp; omega
        by_cases h3 : t.2 = [48]
        · simp [h1, h2, h3]
        · rw [if_neg h1, if_neg h2, if_neg h3, if_neg h3, if_neg h1, Bool.and_eq_true, h1', e1]
          grind
theorem Uv2 {l : List Uar} {c : List UInt8} : Uy9 l c = 0 ↔ (okT 2048 (-1) l = true ∧ qb c = true) := by
  rw [Ufw (by omega)]
  unfold Uy9
  cases qb c <;> cases aQ l <;> cases aC l <;> cases aO (-1) l <;> simp
theorem UDF (n : Nat) (x : Int) (k0 : Bool → Option R) : p80 n x k0 = k0 (inC x) := by
  unfold p80 inC
  by_cases h : x ≥ 0
  · have e : decide (x ≥ 0) = true := decide_eq_true h
    rw [e]; rfl
  · have e : decide (x ≥ 0) = false := decide_eq_false h
    rw [e]; rfl
theorem Ux4 (n : Nat) (l : List Uar) (hn : l.length < n) (hl : l.length < 2 ^ 17) (k0 : Int → Option R) (k1 : Option R) : UfJ n (-1) (tms l) ((tms l).length : Int) 0 k0 k1 = if aO (-1) l = true then k1 else k0 3 := by
  unfold UfJ
  have key : ∀ (r : List Uar) (last : Int), UwG (fun (s : Int) (t : Uar) K => if t.2 = [48] then k0 3 else if t.1 ≤ s then k0 3 else K t.1) (fun _ => k1) last r = if aO last r = true then k1 else k0 3 := by
    intro r
    induction r with
    | nil => intro last; rfl
    | cons t r ih =>
      intro last
      simp only [UwG, aO]
      by_cases h1 : t.2 = [48]
      · simp [h1]
      · by_cases h2 : t.1 ≤ last
        · simp [h1, h2]
        · simp [h1, h2, ih]
  have h := UfO (R := R) (l := l) (step := fun (s : Int) (t : Uar) K => if t.2 = [48] then k0 3 else if t.1 ≤ s then k0 3 else K t.1) (kend := fun _ => k1)
    (fun m s i => Uch n m s (tms l) ((tms l).length : Int) (i : Int) k0 k1)
    (fun m s => by simp only [Uch, Ue7]; simp (disch := (first | omega | (simp only [JlL]; omega))) only [↓JlO, JlM, Ua])
    (fun m s i hi => by
      simp only [Uch, Ue7]
      by_cases h1 : (l[i]).2 = [48]
      · simp (disch := (first | omega | (simp only [JlL]; omega))) only [↓JlO, JlM, Ua, Jjo, Uav hi, i1, Ujv h1]
      · by_cases h2 : (l[i]).1 ≤ s
        · simp (disch := (first | omega | (simp only [JlL]; omega))) only [↓JlO, JlM, Ua, Jjo, Uav hi, i1, UiN h1]
        · simp (disch := (first | omega | (simp only [JlL]; omega))) only [↓JlO, JlM, Ua, Jjo, Uav hi, i1, UiN h1]) l.length n 0 (-1) (by omega) (by omega)
  rw [List.drop_zero, key] at h
  exact h
theorem Ulq (n : Nat) (hn : 10 ^ 400 ≤ n) (l : List Uar) (c : List UInt8) (hl : smT l) (hc : c.length < 2 ^ 17) (k0 : Int → Option R) : p52 n (tms l) (bs c) k0 = k0 (Uy9 l c) := by
  have hN := Uas hn
  have hL := hl.1
  have e3 := Ux4 (R := R) n l (by omega) hL k0 (k0 0)
  have h4 := Uao (R := R) (l := l) (ok := fun t => qb t.2) (kbad := k0 3) (kend := if aC l = true then (if aO (-1) l = true then k0 0 else k0 3) else k0 2)
    (fun m i => UdL n m (tms l) (bs c) (tms l) ((tms l).length : Int) (i : Int) (fun y4 y5 y6 => k0 y6) (fun y7 y8 => Ukk n y7 y8 y7 ((y7).length : Int) 0 (fun y9 y10 y11 => k0 y11) (fun y12 y13 => UfJ n (-1) y12 ((y12).length : Int) 0 (fun y14 => k0 y14) (k0 0))))
    (fun m => by
      have h10 := Uao (R := R) (l := l) (ok := fun t => inC t.1) (kbad := k0 2) (kend := if aO (-1) l = true then k0 0 else k0 3)
        (fun m i => Ucg n m (tms l) (bs c) (tms l) ((tms l).length : Int) (i : Int) (fun y9 y10 y11 => k0 y11) (fun y12 y13 => UfJ n (-1) y12 ((y12).length : Int) 0 (fun y14 => k0 y14) (k0 0)))
        (fun m => by
          simp only [Ucg, Ue6]
          simp (disch := (first | omega | (simp only [JlL]; omega))) only [↓JlO, JlM, Ua]
          rw [Ua] at e3
          exact e3)
        (fun m i hi => by
          have hv := fun k => UDF (R := R) n (l[i]).1 k
          simp only [Ucg, Ue6]
          simp (disch := (first | omega | (simp only [JlL]; omega))) only [↓JlO, JlM, Ua, Jjo, Uav hi, i1, hv]
          cases inC (l[i]).1 <;> rfl) l.length n 0 (by omega) (by omega)
      rw [List.drop_zero] at h10
      simp only [UdL, UhR]
      unfold Ukk
      simp (disch := (first | omega | (simp only [JlL]; omega))) only [↓JlO, JlM, Ua]
      rw [Ua] at h10
      exact h10)
    (fun m i hi => by
      have hv := fun k => Ueu (R := R) n hn (l[i]).2 (hl.2 _ (List.getElem_mem hi)) k
      simp only [UdL, UhR]
      simp (disch := (first | omega | (simp only [JlL]; omega))) only [↓JlO, JlM, Ua, Jjo, Uav hi, i1, hv]
      cases qb (l[i]).2 <;> rfl) l.length n 0 (by omega) (by omega)
  rw [List.drop_zero] at h4
  unfold p52
  rw [Ueu n hn c hc]
  unfold Uy9 Uws
  cases qb c with
  | false => rfl
  | true =>
    refine Eq.trans h4 ?_
    unfold aQ
    cases (l.all fun t => qb t.2) <;> cases aC l <;> cases aO (-1) l <;> rfl
theorem Uif {q : Rat} (h : Ual q) : (Uag q).length < 2 ^ 17 := Nat.lt_of_le_of_lt (UaY h) (by decide)
theorem UEP {cols : Int} {l : List SpT} (h : okN cols l) (hl : l.length < 2 ^ 17) : smT (vt l) := by
  refine ⟨by rw [Uaw]; exact hl, fun t ht => ?_⟩
  unfold vt at ht
  obtain ⟨x, hx, rfl⟩ := List.mem_map.1 ht
  exact Uif (h x hx).2.1
theorem UnY {cols : Int} : ∀ {l : List SpT} {a : Int}, asc a l → okN cols l → a < cols → (l.length : Int) ≤ cols - a - 1
  | [], a, _, _, h => by simp only [List.length_nil]; omega
  | t :: l, a, h1, h2, h => by
    have h3 := (h2 t (List.mem_cons_self ..)).2.2
    have := UnY h1.2 (fun x hx => h2 x (List.mem_cons_of_mem _ hx)) h3
    have := h1.1
    rw [List.length_cons]
    omega
theorem UbP {l : List SpT} (h : okS 2048 l) : l.length ≤ 2048 := by
  have := UnY h.1 h.2 (by decide)
  omega
theorem Ufo (n : Nat) (hn : 10 ^ 400 ≤ n) {r : SpR} (hr : okF 2048 r) (k0 : Int → Option R) : p52 n (tms (vt r.1)) (bs (Uag r.2)) k0 = k0 0 := by
  have := UbP hr.1
  rw [Ulq n hn (vt r.1) (Uag r.2) (UEP hr.1.2 (by omega)) (Uif hr.2), Uv2.2 ⟨UrX hr.1.1 hr.1.2, UcZ hr.2⟩]
noncomputable def UBu (cols : Int) (l : List Uar) : Bool := okT cols (-1) l
theorem UmO {cols : Int} (hc : cols ≤ 2048) : ∀ {l : List Uar} {last : Int}, okT cols last l = true ↔ ((l.all fun t => decide (t.1 < cols)) = true ∧ okT 2048 last l = true)
  | [], last => by simp [okT]
  | t :: l, last => by
    have ih := UmO hc (l := l) (last := t.1)
    simp only [okT, List.all_cons, Bool.and_eq_true]
    by_cases h1 : t.1 ≤ last
    · simp [h1]
    · by_cases h2 : t.1 ≥ cols
      · have : ¬ t.1 < cols := by omega
        simp [h1, h2, this]
      · have h3 : ¬ t.1 ≥ 2048 := by omega
        have h4 : t.1 < cols := by omega
        by_cases h5 : t.2 = [48]
        · simp [h1, h5]
        · rw [if_neg h1, if_neg h1, if_neg h2, if_neg h3, if_neg h5, if_neg h5, Bool.and_eq_true, Bool.and_eq_true, ih, decide_eq_true h4]
          grind
theorem UOK : qb [48] = true := by rw [← Ujd]; exact UcZ UeA
theorem Utt (n : Nat) (hn : 10 ^ 400 ≤ n) (cols : Int) (hcol : cols ≤ 2048) (l : List Uar) (hl : smT l) (k0 : Bool → Option R) : p76 n cols (tms l) k0 = k0 (UBu cols l) := by
  have hN := Uas hn
  have hL := hl.1
  have hc := fun k => Ulq (R := R) n hn l [48] hl (by decide) k
  have hc' : ∀ k : Int → Option R, p52 n (tms l) (⟨#[48]⟩ : ByteArray) k = k (Uy9 l [48]) := hc
  unfold p76 UwA
  have h := Uao (R := R) (l := l) (ok := fun t => decide (t.1 < cols)) (kbad := k0 false) (kend := k0 (Uy9 l [48] == 0))
    (fun m i => UdT n m cols (tms l) (tms l) ((tms l).length : Int) (i : Int) (fun y3 y4 => k0 y4) (fun y5 => p52 n y5 ⟨#[48]⟩ (fun y6 => k0 (y6 == 0))))
    (fun m => by simp only [UdT, Uh1]; simp (disch := (first | omega | (simp only [JlL]; omega))) only [↓JlO, JlM, Ua, hc])
    (fun m i hi => by
      simp only [UdT, Uh1]
      by_cases h1 : (l[i]).1 < cols
      · simp (disch := (first | omega | (simp only [JlL]; omega))) only [↓JlO, JlM, Ua, Jjo, Uav hi, i1]
      · simp (disch := (first | omega | (simp only [JlL]; omega))) only [↓JlO, JlM, Ua, Jjo, Uav hi, i1]
        simp [h1]) l.length n 0 (by omega) (by omega)
  rw [List.drop_zero] at h
  refine Eq.trans h ?_
  unfold UBu
  have e1 : (Uy9 l [48] == 0) = okT 2048 (-1) l := by
    rw [Bool.eq_iff_iff, beq_iff_eq, Uv2, UOK]
    simp
  have e2 := UmO hcol (l := l) (last := -1)
  rw [e1]
  cases h3 : (l.all fun t => decide (t.1 < cols)) with
  | true =>
    rw [h3] at e2
    rw [if_pos rfl]
    congr 1
    rw [Bool.eq_iff_iff, e2]; simp
  | false =>
    rw [h3] at e2
    rw [if_neg (by decide)]
    congr 1
    symm
    rw [Bool.eq_false_iff]
    intro h4
    cases (e2.1 h4).1
end Go.Proofs.YtmgfmlhdnadglaaGreatDoor
set_option linter.unusedVariables false
set_option maxRecDepth 100000
namespace Go.Proofs.YtmgfmlhdnadglaaGreatDoor
open Go Th Go.Proofs
noncomputable section
variable {R : Type}
def UgS : Ann := { loops := [(3, ids [1, 2, 4, 6, 13, 14], ids [4, 5, 6])], cuts := [], frz := [], rm := [.id, .id] }
abbrev Uyq (n : Nat) : Env := eC 75 (UKh n) (eC 74 (UKg n) eN)
theorem UpJ (n : Nat) : EnvOK Tryz.prog GI (Uyq n) := .cons (.cons (.nil) (UNo n)) (UNp n)
def UhG (n : Nat) (l0 : LP → Int → LP → ByteArray → LP → ByteArray → Int → Int → O R) (x1 : LP) (x2 : Int) (x3 : LP) (x4 : ByteArray) (x5 : LP) (x6 : ByteArray) (x7 x8 : Int) (k0 : LP → ByteArray → Int → LP → ByteArray → O R) (k1 : ByteArray → LP → ByteArray → O R) : O R :=
  bif (decide (x8 < x7)) then (bif (inR x8 ((x1).length)) then (Jj9 ((x1).getD ((x8 : Int).toNat) (.v (.bool false))) fun e9 => bif (eqS e9 (⟨#[48]⟩ : ByteArray)) then (l0 x1 x2 x3 x4 x5 x6 x7 (IntKind.i64.wrap (x8 + 1))) else (bif (inR x8 ((x3).length)) then (Jh8 ((x3).getD ((x8 : Int).toNat) (.v (.bool false))) fun a10 => JdW a10 fun h11 t12 => Jky h11 fun e13 => JdW t12 fun h14 t15 => Jj9 h14 fun e16 => JdW t15 fun h17 t18 => Jj8 h17 fun e19 => JdW t18 fun h20 t21 => Jjf .i64 h20 fun e22 => Ji8 t21 (bif (inR x8 ((x3).length)) then (Jh8 ((x3).getD ((x8 : Int).toNat) (.v (.bool false))) fun a23 => JdW a23 fun h24 t25 => Jky h24 fun e26 => JdW t25 fun h27 t28 => Jj9 h27 fun e29 => JdW t28 fun h30 t31 => Jj8 h30 fun e32 => JdW t31 fun h33 t34 => Jjf .i64 h33 fun e35 => Ji8 t34 (bif (inR x8 ((x1).length)) then (Jj9 ((x1).getD ((x8 : Int).toNat) (.v (.bool false))) fun e36 => p74 n e13 e29 e36 (fun y37 y38 y39 => bif (y39 != 0) then (k0 [] ByteArray.empty y39 x5 x6) else (p75 n x5 x6 y37 y38 (fun y40 y41 y42 => bif (y42 != 0) then (k0 [] ByteArray.empty y42 y40 y41) else (l0 x1 x2 x3 x4 y40 y41 x7 (IntKind.i64.wrap (x8 + 1))))))) else none)) else none)) else none)) else none) else (k1 x4 x5 x6)
def UdE (n : Nat) : Nat → LP → Int → LP → ByteArray → LP → ByteArray → Int → Int → (LP → ByteArray → Int → LP → ByteArray → O R) → (ByteArray → LP → ByteArray → O R) → O R
  | 0, _, _, _, _, _, _, _, _, _, _ => none
  | m + 1, x1, x2, x3, x4, x5, x6, x7, x8, k0, k1 => UhG n (fun x1 x2 x3 x4 x5 x6 x7 x8 => UdE n m x1 x2 x3 x4 x5 x6 x7 x8 k0 k1) x1 x2 x3 x4 x5 x6 x7 x8 k0 k1
def Uwk (n : Nat) (x1 : LP) (x2 : Int) (x3 : LP) (x4 : ByteArray) (x5 : LP) (x6 : ByteArray) (x7 x8 : Int) (k0 : LP → ByteArray → Int → LP → ByteArray → O R) (k1 : ByteArray → LP → ByteArray → O R) : O R := UdE n n x1 x2 x3 x4 x5 x6 x7 x8 k0 k1
def p30 (n : Nat) (x1 : Int) (x2 x3 : LP) (k0 : LP → ByteArray → Int → O R) : O R :=
  Uwk n x3 x1 x2 ByteArray.empty [] ⟨#[48]⟩ ((x2).length : Int) 0 (fun y4 y5 y6 y7 y8 => k0 y4 y5 y6) (fun y9 y10 y11 => k0 y10 y11 0)
abbrev E30 (n : Nat) : Code → Fr → Kc R → O R := evC Tryz.prog (Uyq n) UgS n (59, [])
noncomputable def UuR : Code := Jk (Jls Tryz.f30) [1, 1, 0, 1, 0, 0]
abbrev Ugo : Sl (List SV) := (cH (.c (sBx 24 (cI (cH .n))) (.c (sBx 43 (.c sNl (cS .n))) (.c (sBx 43 (cH (cS .n))) (cI (cI .n))))))
abbrev Uq5 (n m : Nat) (K : Kc R) : Ugo.T (O R) := fun x1 x2 x3 x4 x5 x6 x7 x8 => UdE n m x1 x2 x3 x4 x5 x6 x7 x8 (fun y1 y2 y3 y4 y5 => xL UgS 3 K .ret [.bx 43 [vH y1, vS y2], vI y3, .bx 43 [vH y4, vS y5]]) (fun y1 y2 y3 => xL UgS 3 K (.exit 0) [.bx 43 [.nl, vS y1], dD, .bx 43 [vH y2, vS y3]])
abbrev UA3 (n : Nat) (K : Kc R) (l0 : Ugo.T (O R)) : Ugo.T (O R) := fun x1 x2 x3 x4 x5 x6 x7 x8 => UhG n l0 x1 x2 x3 x4 x5 x6 x7 x8 (fun y1 y2 y3 y4 y5 => xL UgS 3 K .ret [.bx 43 [vH y1, vS y2], vI y3, .bx 43 [vH y4, vS y5]]) (fun y1 y2 y3 => xL UgS 3 K (.exit 0) [.bx 43 [.nl, vS y1], dD, .bx 43 [vH y2, vS y3]])
abbrev UKv (n : Nat) : Orc R := oL UgS (E30 n) n 3 UuR Ugo (Uq5 n n) oN
abbrev UJk (n : Nat) : Orc R := oN
abbrev K30 (R : Type) (n : Nat) := JcK (R := R) Tryz.prog (Uyq n) UgS n (59, []) (UKv n) (UJk n)
theorem UDX (n : Nat) : K30 R n (false, 3, UuR) := JkM (lo := UKv n) (cu := UJk n) (pO pN (by kernel_rfl)) Ugo (Uq5 n n) (JiK (F := Uq5 n) Ugo (UA3 n) (fun K _ _ _ _ _ _ _ _ => rfl) (fun _ _ => rfl) (fun L K _ _ _ _ _ _ _ _ => by show _ = _; kernel_rfl) n) fun _ _ => rfl
theorem UNR (n : Nat) : Jfb (K30 R n) (JaJ UgS (Jls Tryz.f30)) := pO (pC (UDX n) pN) (by kernel_rfl)
abbrev t30 : Sl (List SV) := (.c (sP (JlP (.c (JlC .i64) (.c sSh .n)))) (cH .n))
abbrev f30 (n : Nat) (K : List SV → O R) : t30.T (O R) := fun x1 x2 x3 => p30 n x1 x2 x3 (fun y1 y2 y3 => K [.p (.agg [.sh y1, .v (.string y2)]), vI y3])
abbrev UE3 (n : Nat) : FS := fT [false, false] t30 (f30 n)
theorem UHj (n : Nat) : FSound Tryz.prog GI 30 (UE3 n) := gd UgS n (UpJ n) Tryz.func30 (.cons (UpJ n) t30 (f30 n) (fun K _ _ _ => (Jkx (c := Jls Tryz.f30) (by kernel_rfl) (UNR n) K).trans (by kernel_rfl)) .nil) (by kernel_rfl)
def Unf : Ann := { loops := [], cuts := [(3, ids [1, 2, 4], ids [4, 5])], frz := [], rm := [.id, .id] }
abbrev Uym (n : Nat) : Env := eC 66 (UGf n) (eC 65 (UE7 n) (eC 30 (UE3 n) eN))
theorem UpD (n : Nat) : EnvOK Tryz.prog GI (Uym n) := .cons (.cons (.cons (.nil) (UHj n)) (UHn n)) (UKV n)
def Uwe (n : Nat) (x1 : LP) (x2 : Int) (x3 : LP) (x4 : ByteArray) (k0 : LP → ByteArray → Int → O R) : O R :=
  bif (((x1).length : Int) != ((x3).length : Int)) then (k0 [] ByteArray.empty 6) else (p30 n x2 x3 x1 (fun y5 y6 y7 => k0 y5 y6 y7))
def p23 (n : Nat) (x1 : Int) (x2 x3 : LP) (k0 : LP → ByteArray → Int → O R) : O R :=
  p65 n x1 x2 (fun y4 => bif (y4 != 0) then (k0 [] ByteArray.empty 3) else (p66 n x3 (fun y5 => bif (bif false then true else (!y5)) then (k0 [] ByteArray.empty 3) else (Uwe n x3 x1 x2 ByteArray.empty (fun y6 y7 y8 => k0 y6 y7 y8)))))
abbrev E23 (n : Nat) : Code → Fr → Kc R → O R := evC Tryz.prog (Uym n) Unf n (27, [])
noncomputable def UuJ : Code := Jk (Jls Tryz.f23) [1, 1]
abbrev UsS : Sl (List SV) := (cH (.c (sBx 24 (cI (cH .n))) (.c (sBx 43 (.c sNl (cS .n))) .n)))
abbrev UvI (n : Nat) (K : Kc R) : UsS.T (O R) := fun x1 x2 x3 x4 => Uwe n x1 x2 x3 x4 (fun y1 y2 y3 => xC Unf 3 K .ret [.bx 43 [vH y1, vS y2], vI y3])
abbrev UKt (n : Nat) : Orc R := oN
abbrev UJi (n : Nat) : Orc R := oC Unf (E23 n) 3 UuJ UsS (UvI n) oN
abbrev K23 (R : Type) (n : Nat) := JcK (R := R) Tryz.prog (Uym n) Unf n (27, []) (UKt n) (UJi n)
theorem UDN (n : Nat) : K23 R n (true, 3, UuJ) := Jk3 (lo := UKt n) (cu := UJi n) (pO pN (by kernel_rfl)) UsS (UvI n) (fun K _ _ _ _ => by show _ = _; kernel_rfl) fun _ _ => rfl
theorem UNL (n : Nat) : Jfb (K23 R n) (JaJ Unf (Jls Tryz.f23)) := pO (pC (UDN n) pN) (by kernel_rfl)
abbrev t23 : Sl (List SV) := (.c (sP (JlP (.c (JlC .i64) (.c sSh .n)))) (cH .n))
abbrev f23 (n : Nat) (K : List SV → O R) : t23.T (O R) := fun x1 x2 x3 => p23 n x1 x2 x3 (fun y1 y2 y3 => K [.p (.agg [.sh y1, .v (.string y2)]), vI y3])
abbrev UJS (n : Nat) : FS := fT [false, false] t23 (f23 n)
theorem UM0 (n : Nat) : FSound Tryz.prog GI 23 (UJS n) := gd Unf n (UpD n) Tryz.func23 (.cons (UpD n) t23 (f23 n) (fun K _ _ _ => (Jkx (c := Jls Tryz.f23) (by kernel_rfl) (UNL n) K).trans (by kernel_rfl)) .nil) (by kernel_rfl)
def UgT : Ann := { loops := [(2, ids [1, 2, 8, 9], ids [4])], cuts := [], frz := [], rm := [.id] }
abbrev Uyr (n : Nat) : Env := eC 19 (Uy2 n) eN
theorem UpK (n : Nat) : EnvOK Tryz.prog GI (Uyr n) := .cons (.nil) (UAH n)
def UhH (n : Nat) (l0 : LP → Int → LP → Int → Int → O R) (x1 : LP) (x2 : Int) (x3 : LP) (x4 x5 : Int) (k0 : Bool → O R) (k1 : O R) : O R :=
  bif (decide (x5 < x4)) then (bif (inR x5 ((x3).length)) then (Jh8 ((x3).getD ((x5 : Int).toNat) (.v (.bool false))) fun a6 => JdW a6 fun h7 t8 => Jky h7 fun e9 => JdW t8 fun h10 t11 => Jj9 h10 fun e12 => JdW t11 fun h13 t14 => Jj8 h13 fun e15 => JdW t14 fun h16 t17 => Jjf .i64 h16 fun e18 => Ji8 t17 (bif (!e15) then (bif (inR x5 ((x1).length)) then (Jj9 ((x1).getD ((x5 : Int).toNat) (.v (.bool false))) fun e19 => p19 n e19 ⟨#[48]⟩ (fun y20 => bif (bif true then (decide (y20 < 0)) else false) then (k0 false) else (l0 x1 x2 x3 x4 (IntKind.i64.wrap (x5 + 1))))) else none) else (l0 x1 x2 x3 x4 (IntKind.i64.wrap (x5 + 1))))) else none) else (k1)
def UdF (n : Nat) : Nat → LP → Int → LP → Int → Int → (Bool → O R) → (O R) → O R
  | 0, _, _, _, _, _, _, _ => none
  | m + 1, x1, x2, x3, x4, x5, k0, k1 => UhH n (fun x1 x2 x3 x4 x5 => UdF n m x1 x2 x3 x4 x5 k0 k1) x1 x2 x3 x4 x5 k0 k1
def Uwl (n : Nat) (x1 : LP) (x2 : Int) (x3 : LP) (x4 x5 : Int) (k0 : Bool → O R) (k1 : O R) : O R := UdF n n x1 x2 x3 x4 x5 k0 k1
def p31 (n : Nat) (x1 : Int) (x2 x3 : LP) (k0 : Bool → O R) : O R :=
  Uwl n x3 x1 x2 ((x2).length : Int) 0 (fun y4 => k0 y4) (k0 true)
abbrev E31 (n : Nat) : Code → Fr → Kc R → O R := evC Tryz.prog (Uyr n) UgT n (28, [])
noncomputable def UuS : Code := Jk (Jls Tryz.f31) [1, 0, 1, 0, 0]
abbrev Ugp : Sl (List SV) := (cH (.c (sBx 24 (cI (cH .n))) (cI (cI .n))))
abbrev Uq6 (n m : Nat) (K : Kc R) : Ugp.T (O R) := fun x1 x2 x3 x4 x5 => UdF n m x1 x2 x3 x4 x5 (fun y1 => xL UgT 2 K .ret [vB y1]) (xL UgT 2 K (.exit 0) [dD])
abbrev UA4 (n : Nat) (K : Kc R) (l0 : Ugp.T (O R)) : Ugp.T (O R) := fun x1 x2 x3 x4 x5 => UhH n l0 x1 x2 x3 x4 x5 (fun y1 => xL UgT 2 K .ret [vB y1]) (xL UgT 2 K (.exit 0) [dD])
abbrev UKw (n : Nat) : Orc R := oL UgT (E31 n) n 2 UuS Ugp (Uq6 n n) oN
abbrev UJl (n : Nat) : Orc R := oN
abbrev K31 (R : Type) (n : Nat) := JcK (R := R) Tryz.prog (Uyr n) UgT n (28, []) (UKw n) (UJl n)
theorem UDY (n : Nat) : K31 R n (false, 2, UuS) := JkM (lo := UKw n) (cu := UJl n) (pO pN (by kernel_rfl)) Ugp (Uq6 n n) (JiK (F := Uq6 n) Ugp (UA4 n) (fun K _ _ _ _ _ => rfl) (fun _ _ => rfl) (fun L K _ _ _ _ _ => by show _ = _; kernel_rfl) n) fun _ _ => rfl
theorem UNS (n : Nat) : Jfb (K31 R n) (JaJ UgT (Jls Tryz.f31)) := pO (pC (UDY n) pN) (by kernel_rfl)
abbrev t31 : Sl (List SV) := (.c (sP (JlP (.c (JlC .i64) (.c sSh .n)))) (cH .n))
abbrev f31 (n : Nat) (K : List SV → O R) : t31.T (O R) := fun x1 x2 x3 => p31 n x1 x2 x3 (fun y1 => K [vB y1])
abbrev UG (n : Nat) : FS := fT [false, false] t31 (f31 n)
theorem UKP (n : Nat) : FSound Tryz.prog GI 31 (UG n) := gd UgT n (UpK n) Tryz.func31 (.cons (UpK n) t31 (f31 n) (fun K _ _ _ => (Jkx (c := Jls Tryz.f31) (by kernel_rfl) (UNS n) K).trans (by kernel_rfl)) .nil) (by kernel_rfl)
end
end Go.Proofs.YtmgfmlhdnadglaaGreatDoor
set_option linter.unusedVariables false
set_option linter.unusedSimpArgs false
namespace Go.Proofs.YtmgfmlhdnadglaaGreatDoor
open Go Th Go.Proofs
variable {R : Type}
theorem UKK : ((5 : Int) != 0) = true := rfl
theorem UnE : ((0 : Int) != 0) = false := rfl
theorem UaK {l : List SpT} {i : Nat} {d : PV} (h : i < l.length) (K : Int → ByteArray → Option R) :
    (Jh8 ((tms (vt l)).getD i d) fun a => JdW a fun h1 t1 => Jjf .i64 h1 fun e1 => JdW t1 fun h2 t2 => Jj9 h2 fun e2 => Ji8 t2 (K e1 e2)) = K ((l[i]).1 : Int) (bs (Uag (l[i]).2)) := by
  rw [Uav (by rw [Uaw]; exact h), UEO]
theorem Udj (acc : List SpT) (k : Nat) (y : Rat) : tms (vt acc) ++ [.agg [.v (.int .i64 (k : Int)), .v (.string (bs (Uag y)))]] = tms (vt (acc ++ [(k, y)])) := by
  unfold tms vt
  rw [List.map_append, List.map_append]; rfl
theorem UMd (q : Rat) : eqS (bs (Uag q)) (⟨#[48]⟩ : ByteArray) = decide (q = 0) := by
  rw [e48, Bool.eq_iff_iff, decide_eq_true_iff, decide_eq_true_iff, Uew]
noncomputable def Utd (k0 : List PV → ByteArray → Int → Option R) : Option SpR → Option R
  | none => k0 [] (bs []) 5
  | some x => k0 (tms (vt x.1)) (bs (Uag x.2)) 0
open Classical in
noncomputable def scS (q : Rat) (acc : List SpT) (t : SpT) : Option (List SpT) := if Ual (t.2 * q) then some (acc ++ [(t.1, t.2 * q)]) else none
theorem UsL (q : Rat) : ∀ (l acc : List SpT), UaO (scS q) acc l = (scO q l).map (acc ++ ·)
  | [], acc => by simp [UaO, scO]
  | t :: l, acc => by
    rw [UaO, scS]
    by_cases h : Ual (t.2 * q)
    · rw [if_pos h, Option.bind_some, UsL q l]
      unfold scO
      by_cases h2 : ∀ x ∈ l, Ual (x.2 * q)
      · rw [if_pos h2, if_pos (by intro x hx; rcases List.mem_cons.1 hx with rfl | hx; exact h; exact h2 x hx)]
        simp
      · rw [if_neg h2, if_neg (fun h3 => h2 fun x hx => h3 x (List.mem_cons_of_mem _ hx))]; rfl
    · rw [if_neg h]
      unfold scO
      rw [if_neg (fun h3 => h (h3 t (List.mem_cons_self ..)))]; rfl
theorem UrG (n : Nat) (hn : 10 ^ 1000 ≤ n) {r : SpR} (hr : okF 2048 r) {q : Rat} (hq : Ual q) (h0 : q ≠ 0) (k0 : List PV → ByteArray → Int → Option R) :
    UFp n (tms (vt r.1)) (bs (Uag r.2)) (bs (Uag q)) k0 = Utd k0 (tmO q r) := by
  have hN := Uas (UaT hn)
  have hL := UbP hr.1
  have hm := fun (t : Rat) (ht : Ual t) k => UAT (R := R) n hn t q ht hq k
  unfold UFp
  rw [UMd, decide_eq_false h0, Uak, hm r.2 hr.2]
  unfold tmO
  by_cases hf : Ual (r.2 * q)
  · rw [Uf hf, if_pos hf, UnE, Uak]
    have h := Udi (R := R) (l := r.1) (step := scS q) (kerr := k0 [] (bs []) 5) (kend := fun acc => k0 (tms (vt acc)) (bs (Uag (r.2 * q))) 0) (Inv := fun i acc => acc.length = i)
      (fun m acc i => Ub5 n m (bs (Uag q)) ByteArray.empty (tms (vt acc)) (bs (Uag (r.2 * q))) (tms (vt r.1)) ((tms (vt r.1)).length : Int) (i : Int) (fun y6 y7 y8 y9 => k0 [] y6 y7) (fun y10 y11 y12 => k0 y11 y12 0))
      (fun m acc ha => by simp only [Ub5, UeT]; simp (disch := (first | omega | (simp only [JlL]; omega))) only [↓JlO, JlM, Ua, Uaw])
      (fun acc acc' i hi ha he => by
        unfold scS at he
        split at he
        · simp only [Option.some.injEq] at he
          rw [← he, List.length_append, ha]; rfl
        · cases he)
      (fun m acc i hi ha => by
        have hv := hm (r.1[i]).2 (hr.1.2 _ (List.getElem_mem hi)).2.1
        simp only [Ub5, UeT]
        unfold scS
        by_cases h1 : Ual ((r.1[i]).2 * q)
        · have hv' : ∀ k, p21 n (bs (Uag (r.1[i]).2)) (bs (Uag q)) k = k (bs (Uag ((r.1[i]).2 * q))) 0 := fun k => by rw [hv, Uf h1]
          rw [if_pos h1]
          simp (disch := (first | omega | (simp only [JlL]; omega))) only [↓JlO, JlM, Ua, Uaw, Jjo, UaK hi, i1, hv', UnE, Udj]
          rfl
        · have hv' : ∀ k, p21 n (bs (Uag (r.1[i]).2)) (bs (Uag q)) k = k (bs []) 5 := fun k => by rw [hv]; unfold Unz; rw [if_neg h1]
          rw [if_neg h1]
          simp (disch := (first | omega | (simp only [JlL]; omega))) only [↓JlO, JlM, Ua, Uaw, Jjo, UaK hi, i1, hv', UKK]
          rfl) r.1.length n 0 [] (by omega) (by omega) rfl
    rw [List.drop_zero, UsL] at h
    unfold Ur6
    refine Eq.trans h ?_
    cases scO q r.1 <;> rfl
  · unfold Unz
    rw [if_neg hf, if_neg hf]; rfl
theorem UrF (n : Nat) (hn : 10 ^ 1000 ≤ n) {r : SpR} (hr : okF 2048 r) {q : Rat} (hq : Ual q) (h0 : q ≠ 0) (k0 : List PV → ByteArray → Int → Option R) :
    p74 n (tms (vt r.1)) (bs (Uag r.2)) (bs (Uag q)) k0 = Utd k0 (tmO q r) := by
  have hN := Uas (UaT hn)
  unfold p74
  rw [Ufo n (UaT hn) hr, UnE, Uak, Ueu n (UaT hn) _ (Uif hq), UcZ hq]
  exact UrG n hn hr hq h0 k0
theorem UaL (n : Nat) (hn : 10 ^ 1000 ≤ n) {a b : List SpT} (ha : okS 2048 a) (hb : okS 2048 b) (x2 x4 x7 : ByteArray) (k0 : List PV → ByteArray → Int → Option R) (k1 : ByteArray → List PV → ByteArray → Option R) :
    ∀ (d m i k : Nat) (acc : List SpT), a.length - i + (b.length - k) = d → i ≤ a.length → k ≤ b.length → d < m → acc.length ≤ i + k →
      Uc6 n m (tms (vt a)) x2 (tms (vt b)) x4 (bs []) (tms (vt acc)) x7 (i : Int) (k : Int) (fun y7 y8 y9 y10 => k0 [] y7 y8) k1 =
        match UeB (a.drop i) (b.drop k) with
        | none => k0 [] (bs []) 5
        | some r => k1 (bs []) (tms (vt (acc ++ r))) x7
  | d, 0, i, k, acc, hd, hi, hk, hm, hl => by omega
  | d, m + 1, i, k, acc, hd, hi, hk, hm, hl => by
    have la := UbP ha
    have lb := UbP hb
    have hN := Uas (UaT hn)
    simp only [Uc6, Uhp]
    by_cases hi' : i < a.length
    · have hda := Ua6 hi'
      by_cases hk' : k < b.length
      · have hdb := Ua6 hk'
        have e1 : ((k : Int) == (b.length : Int)) = false := by simp; omega
        have e2 : ((i : Int) == (a.length : Int)) = false := by simp; omega
        by_cases hlt : (a[i]).1 < (b[k]).1
        · have ih := UaL n hn ha hb x2 x4 x7 k0 k1 (d - 1) m (i + 1) k (acc ++ [((a[i]).1, (a[i]).2)]) (by omega) (by omega) hk (by omega) (by simp; omega)
          simp (disch := (first | omega | (simp only [JlL]; omega))) only [↓JlO, JlM, UaN, UaE, Ua, Uaw, e1, Jjo, UaK hi', UaK hk', Udj, i1]
          rw [ih, hda, hdb, UeB, if_pos hlt]
          cases UeB (a.drop (i + 1)) (b[k] :: b.drop (k + 1)) <;> simp
        · by_cases hgt : (b[k]).1 < (a[i]).1
          · have ih := UaL n hn ha hb x2 x4 x7 k0 k1 (d - 1) m i (k + 1) (acc ++ [((b[k]).1, (b[k]).2)]) (by omega) hi (by omega) (by omega) (by simp; omega)
            simp (disch := (first | omega | (simp only [JlL]; omega))) only [↓JlO, JlM, UaN, UaE, Ubb, Ua, Uaw, e1, e2, Jjo, UaK hi', UaK hk', Udj, i1]
            rw [ih, hda, hdb, UeB, if_neg hlt, if_pos hgt]
            cases UeB (a[i] :: a.drop (i + 1)) (b.drop (k + 1)) <;> simp
          · have hv := UuB (R := R) n hn (a[i]).2 (b[k]).2 (ha.2 _ (List.getElem_mem hi')).2.1 (hb.2 _ (List.getElem_mem hk')).2.1
            rw [hda, hdb, UeB, if_neg hlt, if_neg hgt]
            by_cases hf : Ual ((a[i]).2 + (b[k]).2)
            · have hv' : ∀ kk, p22 n (bs (Uag (a[i]).2)) (bs (Uag (b[k]).2)) kk = kk (bs (Uag ((a[i]).2 + (b[k]).2))) 0 := fun kk => by rw [hv, Uf hf]
              rw [if_pos hf]
              by_cases hz : (a[i]).2 + (b[k]).2 = 0
              · have ih := UaL n hn ha hb x2 x4 x7 k0 k1 (d - 2) m (i + 1) (k + 1) acc (by omega) (by omega) (by omega) (by omega) (by omega)
                have e3 := Ujv (Uew.2 hz)
                simp (disch := (first | omega | (simp only [JlL]; omega))) only [↓JlO, JlM, UaN, UaE, Ubb, Ub6, Ua, Uaw, e1, e2, Jjo, UaK hi', UaK hk', Udj, i1, hv', UnE, e3]
                rw [ih]
                cases UeB (a.drop (i + 1)) (b.drop (k + 1)) <;> simp
              · have ih := UaL n hn ha hb x2 x4 x7 k0 k1 (d - 2) m (i + 1) (k + 1) (acc ++ [((a[i]).1, (a[i]).2 + (b[k]).2)]) (by omega) (by omega) (by omega) (by omega) (by simp; omega)
                have e3 := UiN (fun q => hz (Uew.1 q))
                simp (disch := (first | omega | (simp only [JlL]; omega))) only [↓JlO, JlM, UaN, UaE, Ubb, Ub6, Ua, Uaw, e1, e2, Jjo, UaK hi', UaK hk', Udj, i1, hv', UnE, e3]
                rw [ih]
                cases UeB (a.drop (i + 1)) (b.drop (k + 1)) <;> simp
            · have hv' : ∀ kk, p22 n (bs (Uag (a[i]).2)) (bs (Uag (b[k]).2)) kk = kk (bs []) 5 := fun kk => by rw [hv]; unfold Unz; rw [if_neg hf]
              rw [if_neg hf]
              simp (disch := (first | omega | (simp only [JlL]; omega))) only [↓JlO, JlM, UaN, UaE, Ubb, Ub6, Ua, Uaw, e1, e2, Jjo, UaK hi', UaK hk', Udj, i1, hv', UKK]
      · have hk'' : k = b.length := by omega
        have e1 : ((k : Int) == (b.length : Int)) = true := by simp; omega
        have ih := UaL n hn ha hb x2 x4 x7 k0 k1 (d - 1) m (i + 1) k (acc ++ [((a[i]).1, (a[i]).2)]) (by omega) (by omega) hk (by omega) (by simp; omega)
        simp (disch := (first | omega | (simp only [JlL]; omega))) only [↓JlO, JlM, UaN, UaE, Ua, Uaw, e1, Jjo, UaK hi', Udj, i1]
        rw [ih, hda, List.drop_eq_nil_of_le (by omega : b.length ≤ k), UrR, UrR]
        simp only [List.append_assoc, List.singleton_append]
    · have hi'' : i = a.length := by omega
      have e2 : ((i : Int) == (a.length : Int)) = true := by simp; omega
      rw [List.drop_eq_nil_of_le (by omega : a.length ≤ i)]
      by_cases hk' : k < b.length
      · have hdb := Ua6 hk'
        have e1 : ((k : Int) == (b.length : Int)) = false := by simp; omega
        have ih := UaL n hn ha hb x2 x4 x7 k0 k1 (d - 1) m i (k + 1) (acc ++ [((b[k]).1, (b[k]).2)]) (by omega) hi (by omega) (by omega) (by simp; omega)
        rw [List.drop_eq_nil_of_le (by omega : a.length ≤ i)] at ih
        simp (disch := (first | omega | (simp only [JlL]; omega))) only [↓JlO, JlM, UaN, UaE, Ubb, Ua, Uaw, e1, e2, Jjo, UaK hk', Udj, i1]
        rw [ih, hdb]
        simp only [UeB, List.append_assoc, List.singleton_append]
      · simp (disch := (first | omega | (simp only [JlL]; omega))) only [↓JlO, JlM, Ua, Uaw]
        rw [List.drop_eq_nil_of_le (by omega : b.length ≤ k)]
        simp [UeB, JfL]
theorem UtF (n : Nat) (hn : 10 ^ 1000 ≤ n) {a b : SpR} (ha : okF 2048 a) (hb : okF 2048 b) (k0 : List PV → ByteArray → Int → Option R) :
    UFq n (tms (vt a.1)) (bs (Uag a.2)) (tms (vt b.1)) (bs (Uag b.2)) k0 = Utd k0 (plO a b) := by
  have hN := Uas (UaT hn)
  have la := UbP ha.1
  have lb := UbP hb.1
  unfold UFq
  rw [UuB n hn a.2 b.2 ha.2 hb.2]
  unfold plO
  by_cases hf : Ual (a.2 + b.2)
  · rw [Uf hf, if_pos hf, UnE, Uak]
    unfold Ur7
    refine Eq.trans (UaL n hn ha.1 hb.1 _ _ _ k0 _ (a.1.length + b.1.length) n 0 0 [] (by omega) (by omega) (by omega) (by omega) (by simp)) ?_
    rw [List.drop_zero, List.drop_zero]
    cases UeB a.1 b.1 <;> rfl
  · unfold Unz
    rw [if_neg hf, if_neg hf]; rfl
theorem UyR (n : Nat) (hn : 10 ^ 1000 ≤ n) {a b : SpR} (ha : okF 2048 a) (hb : okF 2048 b) (k0 : List PV → ByteArray → Int → Option R) :
    p75 n (tms (vt a.1)) (bs (Uag a.2)) (tms (vt b.1)) (bs (Uag b.2)) k0 = Utd k0 (plO a b) := by
  unfold p75
  rw [Ufo n (UaT hn) ha, UnE, Uak, Ufo n (UaT hn) hb]
  exact UtF n hn ha hb k0
end Go.Proofs.YtmgfmlhdnadglaaGreatDoor
set_option linter.unusedVariables false
set_option maxRecDepth 100000
namespace Go.Proofs.YtmgfmlhdnadglaaGreatDoor
open Go Th Go.Proofs
noncomputable section
variable {R : Type}
def Ucq : Ann := { loops := [(4, ids [1, 2, 17, 18, 19], ids [1, 2, 4, 5]), (14, ids [1, 9, 47, 48, 49], ids [4, 5, 9])], cuts := [(12, ids [1, 2], ids [4, 5])], frz := [], rm := [.id, .id] }
abbrev Uyk (n : Nat) : Env := eC 53 (Uy3 n) (eC 52 (UAE n) (eC 22 (UF9 n) (eC 21 (UF8 n) eN)))
theorem Upy (n : Nat) : EnvOK Tryz.prog GI (Uyk n) := .cons (.cons (.cons (.cons (.nil) (UKN n)) (UKO n)) (UDm n)) (UAI n)
def Usi (n : Nat) (l0 : LP → LP → ByteArray → LP → Int → Int → O R) (x1 x2 : LP) (x3 : ByteArray) (x4 : LP) (x5 x6 : Int) (k0 : LP → LP → ByteArray → ByteArray → Int → O R) (k1 : LP → LP → ByteArray → O R) : O R :=
  bif (decide (x6 < x5)) then (bif (inR x6 ((x4).length)) then (Jj9 ((x4).getD ((x6 : Int).toNat) (.v (.bool false))) fun e7 => p53 n e7 (fun y8 => bif (!y8) then (k0 x1 x2 x3 ⟨#[]⟩ 3) else (l0 x1 x2 x3 x4 x5 (IntKind.i64.wrap (x6 + 1))))) else none) else (k1 x1 x2 x3)
def Ukg (n : Nat) : Nat → LP → LP → ByteArray → LP → Int → Int → (LP → LP → ByteArray → ByteArray → Int → O R) → (LP → LP → ByteArray → O R) → O R
  | 0, _, _, _, _, _, _, _, _ => none
  | m + 1, x1, x2, x3, x4, x5, x6, k0, k1 => Usi n (fun x1 x2 x3 x4 x5 x6 => Ukg n m x1 x2 x3 x4 x5 x6 k0 k1) x1 x2 x3 x4 x5 x6 k0 k1
def UDx (n : Nat) (x1 x2 : LP) (x3 : ByteArray) (x4 : LP) (x5 x6 : Int) (k0 : LP → LP → ByteArray → ByteArray → Int → O R) (k1 : LP → LP → ByteArray → O R) : O R := Ukg n n x1 x2 x3 x4 x5 x6 k0 k1
def UmV (n : Nat) (l0 : LP → ByteArray → LP → Int → Int → O R) (x1 : LP) (x2 : ByteArray) (x3 : LP) (x4 x5 : Int) (k0 : ByteArray → Int → ByteArray → O R) (k1 : ByteArray → O R) : O R :=
  bif (decide (x5 < x4)) then (bif (inR x5 ((x3).length)) then (Jh8 ((x3).getD ((x5 : Int).toNat) (.v (.bool false))) fun a6 => JdW a6 fun h7 t8 => Jjf .i64 h7 fun e9 => JdW t8 fun h10 t11 => Jj9 h10 fun e12 => Ji8 t11 (bif (inR e9 ((x1).length)) then (Jj9 ((x1).getD ((e9 : Int).toNat) (.v (.bool false))) fun e13 => p21 n e12 e13 (fun y14 y15 => bif (y15 != 0) then (k0 ⟨#[]⟩ y15 x2) else (p22 n x2 y14 (fun y16 y17 => bif (y17 != 0) then (k0 ⟨#[]⟩ y17 y16) else (l0 x1 y16 x3 x4 (IntKind.i64.wrap (x5 + 1))))))) else none)) else none) else (k1 x2)
def UhB (n : Nat) : Nat → LP → ByteArray → LP → Int → Int → (ByteArray → Int → ByteArray → O R) → (ByteArray → O R) → O R
  | 0, _, _, _, _, _, _, _ => none
  | m + 1, x1, x2, x3, x4, x5, k0, k1 => UmV n (fun x1 x2 x3 x4 x5 => UhB n m x1 x2 x3 x4 x5 k0 k1) x1 x2 x3 x4 x5 k0 k1
def Uzn (n : Nat) (x1 : LP) (x2 : ByteArray) (x3 : LP) (x4 x5 : Int) (k0 : ByteArray → Int → ByteArray → O R) (k1 : ByteArray → O R) : O R := UhB n n x1 x2 x3 x4 x5 k0 k1
def Ukf (n : Nat) (x1 x2 : LP) (x3 : ByteArray) (k0 : ByteArray → Int → O R) : O R :=
  Uzn n x1 x3 x2 ((x2).length : Int) 0 (fun y4 y5 y6 => k0 y4 y5) (fun y7 => k0 y7 0)
def p18 (n : Nat) (x1 : LP) (x2 : ByteArray) (x3 : LP) (k0 : ByteArray → Int → O R) : O R :=
  p52 n x1 x2 (fun y4 => bif (y4 != 0) then (k0 ⟨#[]⟩ 3) else (UDx n x3 x1 x2 x3 ((x3).length : Int) 0 (fun y5 y6 y7 y8 y9 => k0 y8 y9) (fun y10 y11 y12 => bif (decide (((y11).length : Int) > 0)) then (let v13 := IntKind.i64.wrap (((y11).length : Int) - 1); bif (inR v13 ((y11).length)) then (Jh8 ((y11).getD ((v13 : Int).toNat) (.v (.bool false))) fun a14 => JdW a14 fun h15 t16 => Jjf .i64 h15 fun e17 => JdW t16 fun h18 t19 => Jj9 h18 fun e20 => Ji8 t19 (bif (bif true then (decide (e17 ≥ ((y10).length : Int))) else false) then (k0 ⟨#[]⟩ 2) else (Ukf n y10 y11 y12 (fun y21 y22 => k0 y21 y22)))) else none) else (Ukf n y10 y11 y12 (fun y23 y24 => k0 y23 y24)))))
abbrev E18 (n : Nat) : Code → Fr → Kc R → O R := evC Tryz.prog (Uyk n) Ucq n (78, [])
noncomputable def UoB : Code := Jk (Jls Tryz.f18) [1, 1, 1, 1]
abbrev UkM : Sl (List SV) := (cH (.c (sBx 43 (cH (cS .n))) .n))
abbrev UqW (n : Nat) (K : Kc R) : UkM.T (O R) := fun x1 x2 x3 => Ukf n x1 x2 x3 (fun y1 y2 => xC Ucq 12 K .ret [vS y1, vI y2])
noncomputable def UuH : Code := Jk (Jls Tryz.f18) [1, 1, 0, 1, 0, 0]
abbrev Ugj : Sl (List SV) := (cH (.c (sBx 43 (cH (cS .n))) (cH (cI (cI .n)))))
abbrev UqX (n m : Nat) (K : Kc R) : Ugj.T (O R) := fun x1 x2 x3 x4 x5 x6 => Ukg n m x1 x2 x3 x4 x5 x6 (fun y1 y2 y3 y4 y5 => xL Ucq 4 K .ret [vH y1, .bx 43 [vH y2, vS y3], vS y4, vI y5]) (fun y1 y2 y3 => xL Ucq 4 K (.exit 0) [vH y1, .bx 43 [vH y2, vS y3], dD, dD])
abbrev UAY (n : Nat) (K : Kc R) (l0 : Ugj.T (O R)) : Ugj.T (O R) := fun x1 x2 x3 x4 x5 x6 => Usi n l0 x1 x2 x3 x4 x5 x6 (fun y1 y2 y3 y4 y5 => xL Ucq 4 K .ret [vH y1, .bx 43 [vH y2, vS y3], vS y4, vI y5]) (fun y1 y2 y3 => xL Ucq 4 K (.exit 0) [vH y1, .bx 43 [vH y2, vS y3], dD, dD])
noncomputable def UoC : Code := Jk (Jls Tryz.f18) [1, 1, 1, 1, 1, 0, 1, 0, 0]
abbrev Uem : Sl (List SV) := (cH (cS (cH (cI (cI .n)))))
abbrev Uj0 (n m : Nat) (K : Kc R) : Uem.T (O R) := fun x1 x2 x3 x4 x5 => UhB n m x1 x2 x3 x4 x5 (fun y1 y2 y3 => xL Ucq 14 K .ret [vS y1, vI y2, vS y3]) (fun y1 => xL Ucq 14 K (.exit 2) [dD, dD, vS y1])
abbrev UxP (n : Nat) (K : Kc R) (l0 : Uem.T (O R)) : Uem.T (O R) := fun x1 x2 x3 x4 x5 => UmV n l0 x1 x2 x3 x4 x5 (fun y1 y2 y3 => xL Ucq 14 K .ret [vS y1, vI y2, vS y3]) (fun y1 => xL Ucq 14 K (.exit 2) [dD, dD, vS y1])
abbrev UFa (n : Nat) : Orc R := oL Ucq (E18 n) n 14 UoC Uem (Uj0 n n) (oL Ucq (E18 n) n 4 UuH Ugj (UqX n n) oN)
abbrev UEY (n : Nat) : Orc R := oC Ucq (E18 n) 12 UoB UkM (UqW n) oN
abbrev K18 (R : Type) (n : Nat) := JcK (R := R) Tryz.prog (Uyk n) Ucq n (78, []) (UFa n) (UEY n)
theorem UDL (n : Nat) : K18 R n (false, 4, UuH) := JkM (lo := UFa n) (cu := UEY n) (pO pN (by kernel_rfl)) Ugj (UqX n n) (JiK (F := UqX n) Ugj (UAY n) (fun K _ _ _ _ _ _ => rfl) (fun _ _ => rfl) (fun L K _ _ _ _ _ _ => by show _ = _; kernel_rfl) n) fun _ _ => rfl
theorem Uz3 (n : Nat) : K18 R n (false, 14, UoC) := JkM (lo := UFa n) (cu := UEY n) (pO pN (by kernel_rfl)) Uem (Uj0 n n) (JiK (F := Uj0 n) Uem (UxP n) (fun K _ _ _ _ _ => rfl) (fun _ _ => rfl) (fun L K _ _ _ _ _ => by show _ = _; kernel_rfl) n) fun _ _ => rfl
theorem Uz2 (n : Nat) : K18 R n (true, 12, UoB) := Jk3 (lo := UFa n) (cu := UEY n) (pO (pC (Uz3 n) pN) (by kernel_rfl)) UkM (UqW n) (fun K _ _ _ => by show _ = _; kernel_rfl) fun _ _ => rfl
theorem UNG (n : Nat) : Jfb (K18 R n) (JaJ Ucq (Jls Tryz.f18)) := pO (pC (UDL n) (pC (Uz2 n) pN)) (by kernel_rfl)
abbrev t18 : Sl (List SV) := (.c (sP (JlP (.c sSh (.c JlF .n)))) (cH .n))
abbrev f18 (n : Nat) (K : List SV → O R) : t18.T (O R) := fun x1 x2 x3 => p18 n x1 x2 x3 (fun y1 y2 => K [vS y1, vI y2])
abbrev UF7 (n : Nat) : FS := fT [false, false] t18 (f18 n)
theorem UKM (n : Nat) : FSound Tryz.prog GI 18 (UF7 n) := gd Ucq n (Upy n) Tryz.func18 (.cons (Upy n) t18 (f18 n) (fun K _ _ _ => (Jkx (c := Jls Tryz.f18) (by kernel_rfl) (UNG n) K).trans (by kernel_rfl)) .nil) (by kernel_rfl)
def UgX : Ann := { loops := [(2, ids [1, 12, 13, 14], ids [4, 5])], cuts := [], frz := [], rm := [.id, .id] }
abbrev Uyy (n : Nat) : Env := eC 19 (Uy2 n) (eC 18 (UF7 n) eN)
theorem UpX (n : Nat) : EnvOK Tryz.prog GI (Uyy n) := .cons (.cons (.nil) (UKM n)) (UAH n)
def Uss (n : Nat) (l0 : LP → LP → Int → Int → O R) (x1 x2 : LP) (x3 x4 : Int) (k0 : Int → Int → O R) (k1 : O R) : O R :=
  bif (decide (x4 < x3)) then (bif (inR x4 ((x2).length)) then (Jh8 ((x2).getD ((x4 : Int).toNat) (.v (.bool false))) fun a5 => JdW a5 fun h6 t7 => Jky h6 fun e8 => JdW t7 fun h9 t10 => Jj9 h9 fun e11 => JdW t10 fun h12 t13 => Jj8 h12 fun e14 => JdW t13 fun h15 t16 => Jjf .i64 h15 fun e17 => Ji8 t16 (p18 n e8 e11 x1 (fun y18 y19 => bif (y19 != 0) then (k0 0 y19) else (p19 n y18 ⟨#[48]⟩ (fun y20 => bif (decide (y20 < 0)) then (k0 x4 0) else (bif (decide (y20 > 0)) then (bif (bif false then true else (bif true then e14 else false)) then (k0 x4 0) else (l0 x1 x2 x3 (IntKind.i64.wrap (x4 + 1)))) else (l0 x1 x2 x3 (IntKind.i64.wrap (x4 + 1))))))))) else none) else (k1)
def Ukj (n : Nat) : Nat → LP → LP → Int → Int → (Int → Int → O R) → (O R) → O R
  | 0, _, _, _, _, _, _ => none
  | m + 1, x1, x2, x3, x4, k0, k1 => Uss n (fun x1 x2 x3 x4 => Ukj n m x1 x2 x3 x4 k0 k1) x1 x2 x3 x4 k0 k1
def UDC (n : Nat) (x1 x2 : LP) (x3 x4 : Int) (k0 : Int → Int → O R) (k1 : O R) : O R := Ukj n n x1 x2 x3 x4 k0 k1
def p51 (n : Nat) (x1 : Int) (x2 x3 : LP) (k0 : Int → Int → O R) : O R :=
  UDC n x3 x2 ((x2).length : Int) 0 (fun y4 y5 => k0 y4 y5) (k0 (-1) 0)
abbrev E51 (n : Nat) : Code → Fr → Kc R → O R := evC Tryz.prog (Uyy n) UgX n (46, [])
noncomputable def Uu1 : Code := Jk (Jls Tryz.f51) [1, 0, 1, 0, 0]
abbrev Ugv : Sl (List SV) := (cH (cH (cI (cI .n))))
abbrev Ure (n m : Nat) (K : Kc R) : Ugv.T (O R) := fun x1 x2 x3 x4 => Ukj n m x1 x2 x3 x4 (fun y1 y2 => xL UgX 2 K .ret [vI y1, vI y2]) (xL UgX 2 K (.exit 0) [dD, dD])
abbrev UB (n : Nat) (K : Kc R) (l0 : Ugv.T (O R)) : Ugv.T (O R) := fun x1 x2 x3 x4 => Uss n l0 x1 x2 x3 x4 (fun y1 y2 => xL UgX 2 K .ret [vI y1, vI y2]) (xL UgX 2 K (.exit 0) [dD, dD])
abbrev UKA (n : Nat) : Orc R := oL UgX (E51 n) n 2 Uu1 Ugv (Ure n n) oN
abbrev UJp (n : Nat) : Orc R := oN
abbrev K51 (R : Type) (n : Nat) := JcK (R := R) Tryz.prog (Uyy n) UgX n (46, []) (UKA n) (UJp n)
theorem UD9 (n : Nat) : K51 R n (false, 2, Uu1) := JkM (lo := UKA n) (cu := UJp n) (pO pN (by kernel_rfl)) Ugv (Ure n n) (JiK (F := Ure n) Ugv (UB n) (fun K _ _ _ _ => rfl) (fun _ _ => rfl) (fun L K _ _ _ _ => by show _ = _; kernel_rfl) n) fun _ _ => rfl
theorem UN5 (n : Nat) : Jfb (K51 R n) (JaJ UgX (Jls Tryz.f51)) := pO (pC (UD9 n) pN) (by kernel_rfl)
abbrev t51 : Sl (List SV) := (.c (sP (JlP (.c (JlC .i64) (.c sSh .n)))) (cH .n))
abbrev f51 (n : Nat) (K : List SV → O R) : t51.T (O R) := fun x1 x2 x3 => p51 n x1 x2 x3 (fun y1 y2 => K [vI y1, vI y2])
abbrev UJ8 (n : Nat) : FS := fT [false, false] t51 (f51 n)
theorem UNf (n : Nat) : FSound Tryz.prog GI 51 (UJ8 n) := gd UgX n (UpX n) Tryz.func51 (.cons (UpX n) t51 (f51 n) (fun K _ _ _ => (Jkx (c := Jls Tryz.f51) (by kernel_rfl) (UN5 n) K).trans (by kernel_rfl)) .nil) (by kernel_rfl)
def UwT : Ann := { loops := [], cuts := [], frz := [], rm := [.id, .id] }
abbrev UBJ (n : Nat) : Env := eC 51 (UJ8 n) (eC 49 (UGc n) (eC 48 (UJ6 n) eN))
theorem Upx (n : Nat) : EnvOK Tryz.prog GI (UBJ n) := .cons (.cons (.cons (.nil) (UNd n)) (UKS n)) (UNf n)
def p17 (n : Nat) (x1 : Int) (x2 x3 : LP) (k0 : Bool → Int → O R) : O R :=
  p48 n x1 x2 x3 (fun y4 => bif (y4 != 0) then (k0 false y4) else (UDB n x3 (fun y5 => bif y5 then (k0 false 0) else (p51 n x1 x2 x3 (fun y6 y7 => bif (y7 == 0) then (k0 (bif true then (decide (y6 < 0)) else false) y7) else (k0 false y7))))))
abbrev UMi (n : Nat) : Orc R := oN
abbrev ULC (n : Nat) : Orc R := oN
abbrev K17 (R : Type) (n : Nat) := JcK (R := R) Tryz.prog (UBJ n) UwT n (30, []) (UMi n) (ULC n)
theorem UNF (n : Nat) : Jfb (K17 R n) (JaJ UwT (Jls Tryz.f17)) := pO pN (by kernel_rfl)
abbrev t17 : Sl (List SV) := (.c (sP (JlP (.c (JlC .i64) (.c sSh .n)))) (cH .n))
abbrev f17 (n : Nat) (K : List SV → O R) : t17.T (O R) := fun x1 x2 x3 => p17 n x1 x2 x3 (fun y1 y2 => K [vB y1, vI y2])
abbrev UJQ (n : Nat) : FS := fT [false, false] t17 (f17 n)
theorem UMY (n : Nat) : FSound Tryz.prog GI 17 (UJQ n) := gd UwT n (Upx n) Tryz.func17 (.cons (Upx n) t17 (f17 n) (fun K _ _ _ => (Jkx (c := Jls Tryz.f17) (by kernel_rfl) (UNF n) K).trans (by kernel_rfl)) .nil) (by kernel_rfl)
def UgR : Ann := { loops := [(5, ids [0, 1, 4, 18, 19, 20], ids [0, 1, 2, 3, 4])], cuts := [], frz := [], rm := [.id, .id] }
abbrev Uyp (n : Nat) : Env := eC 31 (UG n) (eC 30 (UE3 n) (eC 19 (Uy2 n) eN))
theorem UpI (n : Nat) : EnvOK Tryz.prog GI (Uyp n) := .cons (.cons (.cons (.nil) (UAH n)) (UHj n)) (UKP n)
def UhF (n : Nat) (l0 : Int → LP → LP → LP → ByteArray → LP → Int → Int → O R) (x1 : Int) (x2 x3 x4 : LP) (x5 : ByteArray) (x6 : LP) (x7 x8 : Int) (k0 : Int → LP → LP → Bool → Int → LP → ByteArray → O R) (k1 : Int → LP → LP → LP → ByteArray → O R) : O R :=
  bif (decide (x8 < x7)) then (bif (inR x8 ((x6).length)) then (Jh8 ((x6).getD ((x8 : Int).toNat) (.v (.bool false))) fun a9 => JdW a9 fun h10 t11 => Jjf .i64 h10 fun e12 => JdW t11 fun h13 t14 => Jj9 h13 fun e15 => Ji8 t14 (p19 n e15 ⟨#[48]⟩ (fun y16 => bif (decide (y16 > 0)) then (k0 x1 x2 x3 false 0 x4 x5) else (l0 x1 x2 x3 x4 x5 x6 x7 (IntKind.i64.wrap (x8 + 1)))))) else none) else (k1 x1 x2 x3 x4 x5)
def UdD (n : Nat) : Nat → Int → LP → LP → LP → ByteArray → LP → Int → Int → (Int → LP → LP → Bool → Int → LP → ByteArray → O R) → (Int → LP → LP → LP → ByteArray → O R) → O R
  | 0, _, _, _, _, _, _, _, _, _, _ => none
  | m + 1, x1, x2, x3, x4, x5, x6, x7, x8, k0, k1 => UhF n (fun x1 x2 x3 x4 x5 x6 x7 x8 => UdD n m x1 x2 x3 x4 x5 x6 x7 x8 k0 k1) x1 x2 x3 x4 x5 x6 x7 x8 k0 k1
def Uwj (n : Nat) (x1 : Int) (x2 x3 x4 : LP) (x5 : ByteArray) (x6 : LP) (x7 x8 : Int) (k0 : Int → LP → LP → Bool → Int → LP → ByteArray → O R) (k1 : Int → LP → LP → LP → ByteArray → O R) : O R := UdD n n x1 x2 x3 x4 x5 x6 x7 x8 k0 k1
def p29 (n : Nat) (x1 : Int) (x2 x3 : LP) (k0 : Bool → Int → O R) : O R :=
  p30 n x1 x2 x3 (fun y4 y5 y6 => bif (y6 != 0) then (k0 false y6) else (Uwj n x1 x2 x3 y4 y5 y4 ((y4).length : Int) 0 (fun y7 y8 y9 y10 y11 y12 y13 => k0 y10 y11) (fun y14 y15 y16 y17 y18 => p31 n y14 y15 y16 (fun y19 => bif y19 then (p19 n y18 ⟨#[48]⟩ (fun y20 => k0 (bif true then (decide (y20 < 0)) else false) 0)) else (k0 false 0)))))
abbrev E29 (n : Nat) : Code → Fr → Kc R → O R := evC Tryz.prog (Uyp n) UgR n (38, [])
noncomputable def UuQ : Code := Jk (Jls Tryz.f29) [1, 1, 1, 0, 1, 0, 0]
abbrev Ugn : Sl (List SV) := (.c (sP (sFb (.c (JlC .i64) (.c sSh .n)))) (.c (sP (sFb (.c sSh .n))) (.c (sBx 43 (cH (cS .n))) (cH (cI (cI .n))))))
abbrev Uq4 (n m : Nat) (K : Kc R) : Ugn.T (O R) := fun x1 x2 x3 x4 x5 x6 x7 x8 => UdD n m x1 x2 x3 x4 x5 x6 x7 x8 (fun y1 y2 y3 y4 y5 y6 y7 => xL UgR 5 K .ret [.p (.fb [.v (.int .i64 y1), .sh y2]), .p (.fb [.sh y3]), vB y4, vI y5, .bx 43 [vH y6, vS y7]]) (fun y1 y2 y3 y4 y5 => xL UgR 5 K (.exit 0) [.p (.fb [.v (.int .i64 y1), .sh y2]), .p (.fb [.sh y3]), dD, dD, .bx 43 [vH y4, vS y5]])
abbrev UA2 (n : Nat) (K : Kc R) (l0 : Ugn.T (O R)) : Ugn.T (O R) := fun x1 x2 x3 x4 x5 x6 x7 x8 => UhF n l0 x1 x2 x3 x4 x5 x6 x7 x8 (fun y1 y2 y3 y4 y5 y6 y7 => xL UgR 5 K .ret [.p (.fb [.v (.int .i64 y1), .sh y2]), .p (.fb [.sh y3]), vB y4, vI y5, .bx 43 [vH y6, vS y7]]) (fun y1 y2 y3 y4 y5 => xL UgR 5 K (.exit 0) [.p (.fb [.v (.int .i64 y1), .sh y2]), .p (.fb [.sh y3]), dD, dD, .bx 43 [vH y4, vS y5]])
abbrev UKu (n : Nat) : Orc R := oL UgR (E29 n) n 5 UuQ Ugn (Uq4 n n) oN
abbrev UJj (n : Nat) : Orc R := oN
abbrev K29 (R : Type) (n : Nat) := JcK (R := R) Tryz.prog (Uyp n) UgR n (38, []) (UKu n) (UJj n)
theorem UDW (n : Nat) : K29 R n (false, 5, UuQ) := JkM (lo := UKu n) (cu := UJj n) (pO pN (by kernel_rfl)) Ugn (Uq4 n n) (JiK (F := Uq4 n) Ugn (UA2 n) (fun K _ _ _ _ _ _ _ _ => rfl) (fun _ _ => rfl) (fun L K _ _ _ _ _ _ _ _ => by show _ = _; kernel_rfl) n) fun _ _ => rfl
theorem UNQ (n : Nat) : Jfb (K29 R n) (JaJ UgR (Jls Tryz.f29)) := pO (pC (UDW n) pN) (by kernel_rfl)
abbrev t29 : Sl (List SV) := (.c (sP (sFb (.c (JlC .i64) (.c sSh .n)))) (.c (sP (sFb (.c sSh .n))) .n))
abbrev f29 (n : Nat) (K : List SV → O R) : t29.T (O R) := fun x1 x2 x3 => p29 n x1 x2 x3 (fun y1 y2 => K [vB y1, vI y2])
abbrev UJX (n : Nat) : FS := fT [false, false] t29 (f29 n)
theorem UM5 (n : Nat) : FSound Tryz.prog GI 29 (UJX n) := gd UgR n (UpI n) Tryz.func29 (.cons (UpI n) t29 (f29 n) (fun K _ _ _ => (Jkx (c := Jls Tryz.f29) (by kernel_rfl) (UNQ n) K).trans (by kernel_rfl)) .nil) (by kernel_rfl)
def UwZ : Ann := { loops := [], cuts := [], frz := [], rm := [.id, .id] }
abbrev UBP (n : Nat) : Env := eC 18 (UF7 n) eN
theorem UpO (n : Nat) : EnvOK Tryz.prog GI (UBP n) := .cons (.nil) (UKM n)
def p36 (n : Nat) (x1 x2 : LP) (k0 : ByteArray → Int → O R) : O R :=
  p18 n x1 ⟨#[48]⟩ x2 (fun y3 y4 => k0 y3 y4)
abbrev UMo (n : Nat) : Orc R := oN
abbrev ULI (n : Nat) : Orc R := oN
abbrev K36 (R : Type) (n : Nat) := JcK (R := R) Tryz.prog (UBP n) UwZ n (12, []) (UMo n) (ULI n)
theorem UNW (n : Nat) : Jfb (K36 R n) (JaJ UwZ (Jls Tryz.f36)) := pO pN (by kernel_rfl)
abbrev t36 : Sl (List SV) := (cH (cH .n))
abbrev f36 (n : Nat) (K : List SV → O R) : t36.T (O R) := fun x1 x2 => p36 n x1 x2 (fun y1 y2 => K [vS y1, vI y2])
abbrev UGb (n : Nat) : FS := fT [false, false] t36 (f36 n)
theorem UKR (n : Nat) : FSound Tryz.prog GI 36 (UGb n) := gd UwZ n (UpO n) Tryz.func36 (.cons (UpO n) t36 (f36 n) (fun K _ _ => (Jkx (c := Jls Tryz.f36) (by kernel_rfl) (UNW n) K).trans (by kernel_rfl)) .nil) (by kernel_rfl)
def UnO : Ann := { loops := [], cuts := [], frz := [], rm := [.id] }
abbrev Uvu (n : Nat) : Env := eN
theorem UlU (n : Nat) : EnvOK Tryz.prog GI (Uvu n) := .nil
def UHt (n : Nat) (x1 : Int) (x2 : ByteArray) (x3 : Int) (k0 : Int → O R) : O R :=
  k0 (IntKind.i64.wrap (x1 - x3))
abbrev UGw (n : Nat) : Orc R := oN
abbrev UFM (n : Nat) : Orc R := oN
abbrev ULo (R : Type) (n : Nat) := JcK (R := R) Tryz.prog (Uvu n) UnO n (9, []) (UGw n) (UFM n)
theorem UHR (n : Nat) : Jfb (ULo R n) (JaJ UnO (Jls Tryz.f118)) := pO pN (by kernel_rfl)
abbrev UIx : Sl (List SV) := (.c (sP (JlP (.c (JlC .i64) (.c JlF .n)))) (cI .n))
abbrev f118 (n : Nat) (K : List SV → O R) : UIx.T (O R) := fun x1 x2 x3 => UHt n x1 x2 x3 (fun y1 => K [vI y1])
abbrev UCE (n : Nat) : FS := fT [false, false] UIx (f118 n)
theorem UG0 (n : Nat) : FSound Tryz.prog GI 118 (UCE n) := gd UnO n (UlU n) Tryz.func118 (.cons (UlU n) UIx (f118 n) (fun K _ _ _ => (Jkx (c := Jls Tryz.f118) (by kernel_rfl) (UHR n) K).trans (by kernel_rfl)) .nil) (by kernel_rfl)
def Ufg : Ann := { loops := [(3, ids [0, 1, 2, 8, 9, 10], ids [0, 1, 2, 6, 7, 8, 9])], cuts := [], frz := [], rm := [.id, .id] }
abbrev Upe (n : Nat) : Env := eC 118 (UCE n) eN
theorem UlT (n : Nat) : EnvOK Tryz.prog GI (Upe n) := .cons (.nil) (UG0 n)
def UmR (n : Nat) (l0 : LP → Int → Int → Int → Int → O R) (x1 : LP) (x2 x3 x4 x5 : Int) (k0 : LP → Int → Int → Int → O R) : O R :=
  bif (decide (x4 < x5)) then (let v6 := IntKind.u64.wrap (IntKind.i64.wrap (x4 + x5)); bif decide ((1 : Int) < 0) then none else (let v7 := Int.fdiv v6 (2 ^ (min ((1 : Int)).toNat IntKind.u64.bits)); bif (inR (IntKind.i64.wrap (v7)) ((x1).length)) then (Jh8 ((x1).getD ((IntKind.i64.wrap (v7) : Int).toNat) (.v (.bool false))) fun a8 => JdW a8 fun h9 t10 => Jjf .i64 h9 fun e11 => JdW t10 fun h12 t13 => Jj9 h12 fun e14 => Ji8 t13 (UHt n e11 e14 x2 (fun y15 => bif (decide (y15 < 0)) then (let v16 := IntKind.i64.wrap ((IntKind.i64.wrap (v7)) + 1); l0 x1 x2 x3 v16 x5) else (l0 x1 x2 x3 x4 (IntKind.i64.wrap (v7)))))) else none)) else (k0 x1 x2 x3 x4)
def Uhw (n : Nat) : Nat → LP → Int → Int → Int → Int → (LP → Int → Int → Int → O R) → O R
  | 0, _, _, _, _, _, _ => none
  | m + 1, x1, x2, x3, x4, x5, k0 => UmR n (fun x1 x2 x3 x4 x5 => Uhw n m x1 x2 x3 x4 x5 k0) x1 x2 x3 x4 x5 k0
def Uzh (n : Nat) (x1 : LP) (x2 x3 x4 x5 : Int) (k0 : LP → Int → Int → Int → O R) : O R := Uhw n n x1 x2 x3 x4 x5 k0
def UK5 (n : Nat) (x1 : LP) (x2 : Int) (k0 : Int → Bool → O R) : O R :=
  Uzh n x1 x2 ((x1).length : Int) 0 ((x1).length : Int) (fun y3 y4 y5 y6 => bif (decide (y6 < y5)) then (bif (inR y6 ((y3).length)) then (Jh8 ((y3).getD ((y6 : Int).toNat) (.v (.bool false))) fun a7 => JdW a7 fun h8 t9 => Jjf .i64 h8 fun e10 => JdW t9 fun h11 t12 => Jj9 h11 fun e13 => Ji8 t12 (UHt n e10 e13 y4 (fun y14 => k0 y6 (bif true then (y14 == 0) else false)))) else none) else (k0 y6 false))
abbrev ULd (n : Nat) : Code → Fr → Kc R → O R := evC Tryz.prog (Upe n) Ufg n (49, [])
noncomputable def Uoj : Code := Jk (Jls Tryz.f117) [1, 1, 1, 0, 0, 0]
abbrev Ueb : Sl (List SV) := (cH (cI (.c (sP (sFn 118)) (cI (cI (cI .n))))))
abbrev UjP (n m : Nat) (K : Kc R) : Ueb.T (O R) := fun x1 x2 x3 x4 x5 => Uhw n m x1 x2 x3 x4 x5 (fun y1 y2 y3 y4 => xL Ufg 3 K (.exit 0) [vH y1, vI y2, .p (.v (.func (.func 118) #[] #[])), dD, dD, vI y3, vI y4])
abbrev UxE (n : Nat) (K : Kc R) (l0 : Ueb.T (O R)) : Ueb.T (O R) := fun x1 x2 x3 x4 x5 => UmR n l0 x1 x2 x3 x4 x5 (fun y1 y2 y3 y4 => xL Ufg 3 K (.exit 0) [vH y1, vI y2, .p (.v (.func (.func 118) #[] #[])), dD, dD, vI y3, vI y4])
abbrev UC7 (n : Nat) : Orc R := oL Ufg (ULd n) n 3 Uoj Ueb (UjP n n) oN
abbrev UBz (n : Nat) : Orc R := oN
abbrev UJa (R : Type) (n : Nat) := JcK (R := R) Tryz.prog (Upe n) Ufg n (49, []) (UC7 n) (UBz n)
theorem UzK (n : Nat) : UJa R n (false, 3, Uoj) := JkM (lo := UC7 n) (cu := UBz n) (pO pN (by kernel_rfl)) Ueb (UjP n n) (JiK (F := UjP n) Ueb (UxE n) (fun K _ _ _ _ _ => rfl) (fun _ _ => rfl) (fun L K _ _ _ _ _ => by show _ = _; kernel_rfl) n) fun _ _ => rfl
theorem UHQ (n : Nat) : Jfb (UJa R n) (JaJ Ufg (Jls Tryz.f117)) := pO (pC (UzK n) pN) (by kernel_rfl)
abbrev UIw : Sl (List SV) := (cH (cI (.c (sP (sFn 118)) .n)))
abbrev f117 (n : Nat) (K : List SV → O R) : UIw.T (O R) := fun x1 x2 => UK5 n x1 x2 (fun y1 y2 => K [vI y1, vB y2])
abbrev UCD (n : Nat) : FS := fT [false, false, false] UIw (f117 n)
theorem UGZ (n : Nat) : FSound Tryz.prog GI 117 (UCD n) := gd Ufg n (UlT n) Tryz.func117 (.cons (UlT n) UIw (f117 n) (fun K _ _ => (Jkx (c := Jls Tryz.f117) (by kernel_rfl) (UHQ n) K).trans (by kernel_rfl)) .nil) (by kernel_rfl)
def Uxk : Ann := { loops := [], cuts := [], frz := [], rm := [.id, .id] }
abbrev UCa (n : Nat) : Env := eC 117 (UCD n) eN
theorem Uqp (n : Nat) : EnvOK Tryz.prog GI (UCa n) := .cons (.nil) (UGZ n)
def p81 (n : Nat) (x1 : LP) (x2 : ByteArray) (x3 : Int) (k0 : Int → Bool → O R) : O R :=
  UK5 n x1 x3 (fun y4 y5 => k0 y4 y5)
abbrev UMK (n : Nat) : Orc R := oN
abbrev UL4 (n : Nat) : Orc R := oN
abbrev K81 (R : Type) (n : Nat) := JcK (R := R) Tryz.prog (UCa n) Uxk n (12, []) (UMK n) (UL4 n)
theorem UOw (n : Nat) : Jfb (K81 R n) (JaJ Uxk (Jls Tryz.f81)) := pO pN (by kernel_rfl)
abbrev t81 : Sl (List SV) := (.c (sP (JlP (.c sSh (.c JlF .n)))) (cI .n))
abbrev f81 (n : Nat) (K : List SV → O R) : t81.T (O R) := fun x1 x2 x3 => p81 n x1 x2 x3 (fun y1 y2 => K [vI y1, vB y2])
abbrev UKk (n : Nat) : FS := fT [false, false] t81 (f81 n)
theorem UNs (n : Nat) : FSound Tryz.prog GI 81 (UKk n) := gd Uxk n (Uqp n) Tryz.func81 (.cons (Uqp n) t81 (f81 n) (fun K _ _ _ => (Jkx (c := Jls Tryz.f81) (by kernel_rfl) (UOw n) K).trans (by kernel_rfl)) .nil) (by kernel_rfl)
def Ung : Ann := { loops := [], cuts := [(3, ids [1, 2], ids [4])], frz := [], rm := [.id] }
abbrev Uyu (n : Nat) : Env := eC 81 (UKk n) (eC 80 (UGj n) (eC 52 (UAE n) eN))
theorem UpQ (n : Nat) : EnvOK Tryz.prog GI (Uyu n) := .cons (.cons (.cons (.nil) (UDm n)) (UKZ n)) (UNs n)
def Uwo (n : Nat) (x1 : Int) (x2 : LP) (x3 : ByteArray) (k0 : ByteArray → O R) : O R :=
  p81 n x2 x3 x1 (fun y4 y5 => bif y5 then (bif (inR y4 ((x2).length)) then (Jh8 ((x2).getD ((y4 : Int).toNat) (.v (.bool false))) fun a6 => JdW a6 fun h7 t8 => Jjf .i64 h7 fun e9 => JdW t8 fun h10 t11 => Jj9 h10 fun e12 => Ji8 t11 (k0 e12)) else none) else (k0 ⟨#[48]⟩))
def p38 (n : Nat) (x1 : LP) (x2 : ByteArray) (x3 : Int) (k0 : ByteArray → O R) : O R :=
  p52 n x1 x2 (fun y4 => bif (y4 != 0) then (k0 ⟨#[48]⟩) else (p80 n x3 (fun y5 => bif (bif false then true else (!y5)) then (k0 ⟨#[48]⟩) else (Uwo n x3 x1 x2 (fun y6 => k0 y6)))))
abbrev E38 (n : Nat) : Code → Fr → Kc R → O R := evC Tryz.prog (Uyu n) Ung n (28, [])
noncomputable def UuW : Code := Jk (Jls Tryz.f38) [1, 1]
abbrev UsX : Sl (List SV) := (cI (.c (sBx 43 (cH (cS .n))) .n))
abbrev UvN (n : Nat) (K : Kc R) : UsX.T (O R) := fun x1 x2 x3 => Uwo n x1 x2 x3 (fun y1 => xC Ung 3 K .ret [vS y1])
abbrev UKy (n : Nat) : Orc R := oN
abbrev UJn (n : Nat) : Orc R := oC Ung (E38 n) 3 UuW UsX (UvN n) oN
abbrev K38 (R : Type) (n : Nat) := JcK (R := R) Tryz.prog (Uyu n) Ung n (28, []) (UKy n) (UJn n)
theorem UD4 (n : Nat) : K38 R n (true, 3, UuW) := Jk3 (lo := UKy n) (cu := UJn n) (pO pN (by kernel_rfl)) UsX (UvN n) (fun K _ _ _ => by show _ = _; kernel_rfl) fun _ _ => rfl
theorem UNY (n : Nat) : Jfb (K38 R n) (JaJ Ung (Jls Tryz.f38)) := pO (pC (UD4 n) pN) (by kernel_rfl)
abbrev t38 : Sl (List SV) := (.c (sP (JlP (.c sSh (.c JlF .n)))) (cI .n))
abbrev f38 (n : Nat) (K : List SV → O R) : t38.T (O R) := fun x1 x2 x3 => p38 n x1 x2 x3 (fun y1 => K [vS y1])
abbrev UJ1 (n : Nat) : FS := fT [false, false] t38 (f38 n)
theorem UM9 (n : Nat) : FSound Tryz.prog GI 38 (UJ1 n) := gd Ung n (UpQ n) Tryz.func38 (.cons (UpQ n) t38 (f38 n) (fun K _ _ _ => (Jkx (c := Jls Tryz.f38) (by kernel_rfl) (UNY n) K).trans (by kernel_rfl)) .nil) (by kernel_rfl)
def UgV : Ann := { loops := [(9, ids [2, 6, 9, 40, 41], ids [4, 5, 9])], cuts := [(8, ids [0, 2, 6, 9], ids [4, 5])], frz := [], rm := [.id, .id] }
abbrev Uyt (n : Nat) : Env := eC 38 (UJ1 n) (eC 37 (UJ0 n) (eC 36 (UGb n) (eC 31 (UG n) (eC 30 (UE3 n) (eC 19 (Uy2 n) eN)))))
theorem UpN (n : Nat) : EnvOK Tryz.prog GI (Uyt n) := .cons (.cons (.cons (.cons (.cons (.cons (.nil) (UAH n)) (UHj n)) (UKP n)) (UKR n)) (UM8 n)) (UM9 n)
def Usq (n : Nat) (l0 : LP → LP → ByteArray → Bool → Int → Int → O R) (x1 x2 : LP) (x3 : ByteArray) (x4 : Bool) (x5 x6 : Int) (k0 : Bool → O R) : O R :=
  bif (decide (x6 < x5)) then (bif x4 then (bif true then (bif true then (p38 n x2 x3 x6 (fun y7 => bif true then (bif true then (bif true then (bif true then (p38 n x1 ⟨#[48]⟩ x6 (fun y8 => bif true then (p19 n y7 y8 (fun y9 => bif true then (l0 x1 x2 x3 (bif true then (decide (y9 ≤ 0)) else false) x5 (IntKind.i64.wrap (x6 + 1))) else none)) else none)) else none) else none) else none) else none)) else none) else none) else (bif false then none else (bif false then none else (bif false then none else (bif false then none else (bif false then none else (bif false then none else (bif false then none else (bif false then none else (bif false then none else (l0 x1 x2 x3 false x5 (IntKind.i64.wrap (x6 + 1))))))))))))) else (k0 x4)
def Uki (n : Nat) : Nat → LP → LP → ByteArray → Bool → Int → Int → (Bool → O R) → O R
  | 0, _, _, _, _, _, _, _ => none
  | m + 1, x1, x2, x3, x4, x5, x6, k0 => Usq n (fun x1 x2 x3 x4 x5 x6 => Uki n m x1 x2 x3 x4 x5 x6 k0) x1 x2 x3 x4 x5 x6 k0
def UDA (n : Nat) (x1 x2 : LP) (x3 : ByteArray) (x4 : Bool) (x5 x6 : Int) (k0 : Bool → O R) : O R := Uki n n x1 x2 x3 x4 x5 x6 k0
def Usp (n : Nat) (x1 : Int) (x2 x3 x4 : LP) (x5 : ByteArray) (x6 : Bool) (k0 : Bool → Int → O R) : O R :=
  UDA n x3 x4 x5 x6 x1 0 (fun y7 => k0 y7 0)
def p35 (n : Nat) (x1 : Int) (x2 x3 x4 x5 : LP) (k0 : Bool → Int → O R) : O R :=
  p30 n x1 x2 x3 (fun y6 y7 y8 => bif (y8 != 0) then (k0 false y8) else (p36 n x4 x5 (fun y9 y10 => bif (y10 != 0) then (k0 false y10) else (p31 n x1 x2 x3 (fun y11 => bif y11 then (bif true then (bif true then (bif true then (p37 n y7 (fun y12 => bif true then (Usp n x1 x2 x4 y6 y7 (bif true then eqS y9 y12 else false) (fun y13 y14 => k0 y13 y14)) else none)) else none) else none) else none) else (bif false then none else (bif false then none else (bif false then none else (bif false then none else (bif false then none else (Usp n x1 x2 x4 y6 y7 false (fun y15 y16 => k0 y15 y16))))))))))))
abbrev E35 (n : Nat) : Code → Fr → Kc R → O R := evC Tryz.prog (Uyt n) UgV n (58, [])
noncomputable def UuU : Code := Jk (Jls Tryz.f35) [1, 1, 1, 1, 1, 1]
abbrev UsW : Sl (List SV) := (.c (sP (sFb (.c (JlC .i64) (.c sSh .n)))) (.c (sP (sFb (.c sSh .n))) (.c (sBx 43 (cH (cS .n))) (cB .n))))
abbrev UvM (n : Nat) (K : Kc R) : UsW.T (O R) := fun x1 x2 x3 x4 x5 x6 => Usp n x1 x2 x3 x4 x5 x6 (fun y1 y2 => xC UgV 8 K .ret [vB y1, vI y2])
noncomputable def UuV : Code := Jk (Jls Tryz.f35) [1, 1, 1, 1, 1, 1, 0, 1, 0, 0]
abbrev Ugr : Sl (List SV) := (.c (sP (sFb (.c sSh .n))) (.c (sBx 43 (cH (cS .n))) (cB (cI (cI .n)))))
abbrev Ura (n m : Nat) (K : Kc R) : Ugr.T (O R) := fun x1 x2 x3 x4 x5 x6 => Uki n m x1 x2 x3 x4 x5 x6 (fun y1 => xL UgV 9 K (.exit 0) [dD, dD, vB y1])
abbrev UA6 (n : Nat) (K : Kc R) (l0 : Ugr.T (O R)) : Ugr.T (O R) := fun x1 x2 x3 x4 x5 x6 => Usq n l0 x1 x2 x3 x4 x5 x6 (fun y1 => xL UgV 9 K (.exit 0) [dD, dD, vB y1])
abbrev UGJ (n : Nat) : Orc R := oL UgV (E35 n) n 9 UuV Ugr (Ura n n) oN
abbrev UFZ (n : Nat) : Orc R := oC UgV (E35 n) 8 UuU UsW (UvM n) oN
abbrev K35 (R : Type) (n : Nat) := JcK (R := R) Tryz.prog (Uyt n) UgV n (58, []) (UGJ n) (UFZ n)
theorem UD3 (n : Nat) : K35 R n (false, 9, UuV) := JkM (lo := UGJ n) (cu := UFZ n) (pO pN (by kernel_rfl)) Ugr (Ura n n) (JiK (F := Ura n) Ugr (UA6 n) (fun K _ _ _ _ _ _ => rfl) (fun _ _ => rfl) (fun L K _ _ _ _ _ _ => by show _ = _; kernel_rfl) n) fun _ _ => rfl
theorem UD2 (n : Nat) : K35 R n (true, 8, UuU) := Jk3 (lo := UGJ n) (cu := UFZ n) (pO (pC (UD3 n) pN) (by kernel_rfl)) UsW (UvM n) (fun K _ _ _ _ _ _ => by show _ = _; kernel_rfl) fun _ _ => rfl
theorem UNV (n : Nat) : Jfb (K35 R n) (JaJ UgV (Jls Tryz.f35)) := pO (pC (UD2 n) pN) (by kernel_rfl)
abbrev t35 : Sl (List SV) := (.c (sP (sFb (.c (JlC .i64) (.c sSh .n)))) (.c (sP (sFb (.c sSh .n))) (.c (sP (sFb (.c sSh .n))) (.c (sP (sFb (.c sSh .n))) .n))))
abbrev f35 (n : Nat) (K : List SV → O R) : t35.T (O R) := fun x1 x2 x3 x4 x5 => p35 n x1 x2 x3 x4 x5 (fun y1 y2 => K [vB y1, vI y2])
abbrev UJZ (n : Nat) : FS := fT [false, false, false, false] t35 (f35 n)
theorem UM7 (n : Nat) : FSound Tryz.prog GI 35 (UJZ n) := gd UgV n (UpN n) Tryz.func35 (.cons (UpN n) t35 (f35 n) (fun K _ _ _ _ _ => (Jkx (c := Jls Tryz.f35) (by kernel_rfl) (UNV n) K).trans (by kernel_rfl)) .nil) (by kernel_rfl)
def Uez : Ann := { loops := [(3, ids [0, 1, 2, 5, 15, 16, 17], ids [0, 1, 2, 3, 4, 5]), (8, ids [0, 2, 5, 29, 30, 31], ids [0, 2, 3, 4, 5])], cuts := [], frz := [], rm := [.id, .id] }
abbrev UyD (n : Nat) : Env := eC 36 (UGb n) (eC 19 (Uy2 n) eN)
theorem Up5 (n : Nat) : EnvOK Tryz.prog GI (UyD n) := .cons (.cons (.nil) (UAH n)) (UKR n)
def Ust (n : Nat) (l0 : LP → Int → LP → LP → Bool → LP → Int → Int → O R) (x1 : LP) (x2 : Int) (x3 x4 : LP) (x5 : Bool) (x6 : LP) (x7 x8 : Int) (k0 : LP → Int → LP → LP → Bool → O R) : O R :=
  bif (decide (x8 < x7)) then (bif (inR x8 ((x6).length)) then (Jj9 ((x6).getD ((x8 : Int).toNat) (.v (.bool false))) fun e9 => bif x5 then (bif true then (p19 n e9 ⟨#[48]⟩ (fun y10 => bif true then (l0 x1 x2 x3 x4 (bif true then (decide (y10 ≥ 0)) else false) x6 x7 (IntKind.i64.wrap (x8 + 1))) else none)) else none) else (bif false then none else (bif false then none else (bif false then none else (l0 x1 x2 x3 x4 false x6 x7 (IntKind.i64.wrap (x8 + 1))))))) else none) else (k0 x1 x2 x3 x4 x5)
def Ukl (n : Nat) : Nat → LP → Int → LP → LP → Bool → LP → Int → Int → (LP → Int → LP → LP → Bool → O R) → O R
  | 0, _, _, _, _, _, _, _, _, _ => none
  | m + 1, x1, x2, x3, x4, x5, x6, x7, x8, k0 => Ust n (fun x1 x2 x3 x4 x5 x6 x7 x8 => Ukl n m x1 x2 x3 x4 x5 x6 x7 x8 k0) x1 x2 x3 x4 x5 x6 x7 x8 k0
def UDD (n : Nat) (x1 : LP) (x2 : Int) (x3 x4 : LP) (x5 : Bool) (x6 : LP) (x7 x8 : Int) (k0 : LP → Int → LP → LP → Bool → O R) : O R := Ukl n n x1 x2 x3 x4 x5 x6 x7 x8 k0
def Usu (n : Nat) (l0 : LP → LP → Bool → LP → Int → Int → O R) (x1 x2 : LP) (x3 : Bool) (x4 : LP) (x5 x6 : Int) (k0 : LP → LP → Bool → Int → Bool → O R) (k1 : LP → LP → Bool → O R) : O R :=
  bif (decide (x6 < x5)) then (bif (inR x6 ((x4).length)) then (Jh8 ((x4).getD ((x6 : Int).toNat) (.v (.bool false))) fun a7 => JdW a7 fun h8 t9 => Jky h8 fun e10 => JdW t9 fun h11 t12 => Jj9 h11 fun e13 => JdW t12 fun h14 t15 => Jj8 h14 fun e16 => JdW t15 fun h17 t18 => Jjf .i64 h17 fun e19 => Ji8 t18 (p36 n e10 x1 (fun y20 y21 => bif (y21 != 0) then (k0 x1 x2 false y21 x3) else (p19 n y20 ⟨#[48]⟩ (fun y22 => bif x3 then (bif true then (bif true then (bif (y22 == 0) then (bif true then (bif true then (bif true then (bif true then (bif true then (l0 x1 x2 true x4 x5 (IntKind.i64.wrap (x6 + 1))) else none) else none) else none) else none) else none) else (bif false then none else (bif false then none else (bif (decide (y22 > 0)) then (bif true then (bif true then (bif false then none else (bif true then (l0 x1 x2 (bif true then (bif false then true else (bif true then (!e16) else false)) else false) x4 x5 (IntKind.i64.wrap (x6 + 1))) else none)) else none) else none) else (bif false then none else (bif false then none else (bif false then none else (bif false then none else (bif true then (l0 x1 x2 false x4 x5 (IntKind.i64.wrap (x6 + 1))) else none))))))))) else none) else none) else (bif false then none else (bif false then none else (bif false then none else (bif false then none else (l0 x1 x2 false x4 x5 (IntKind.i64.wrap (x6 + 1)))))))))))) else none) else (k1 x1 x2 x3)
def Ukm (n : Nat) : Nat → LP → LP → Bool → LP → Int → Int → (LP → LP → Bool → Int → Bool → O R) → (LP → LP → Bool → O R) → O R
  | 0, _, _, _, _, _, _, _, _ => none
  | m + 1, x1, x2, x3, x4, x5, x6, k0, k1 => Usu n (fun x1 x2 x3 x4 x5 x6 => Ukm n m x1 x2 x3 x4 x5 x6 k0 k1) x1 x2 x3 x4 x5 x6 k0 k1
def UDE (n : Nat) (x1 x2 : LP) (x3 : Bool) (x4 : LP) (x5 x6 : Int) (k0 : LP → LP → Bool → Int → Bool → O R) (k1 : LP → LP → Bool → O R) : O R := Ukm n n x1 x2 x3 x4 x5 x6 k0 k1
def p59 (n : Nat) (x1 : LP) (x2 : Int) (x3 x4 : LP) (k0 : Bool → Int → O R) : O R :=
  UDD n x1 x2 x3 x4 true x1 ((x1).length : Int) 0 (fun y5 y6 y7 y8 y9 => UDE n y5 y8 y9 y7 ((y7).length : Int) 0 (fun y10 y11 y12 y13 y14 => k0 y12 y13) (fun y15 y16 y17 => p36 n y16 y15 (fun y18 y19 => bif y17 then (bif true then (p19 n y18 ⟨#[48]⟩ (fun y20 => bif true then (k0 (bif true then (decide (y20 < 0)) else false) y19) else none)) else none) else (bif false then none else (bif false then none else (bif false then none else (k0 false y19)))))))
abbrev E59 (n : Nat) : Code → Fr → Kc R → O R := evC Tryz.prog (UyD n) Uez n (75, [])
noncomputable def Uu6 : Code := Jk (Jls Tryz.f59) [1, 1, 0, 1, 0, 0]
abbrev UgA : Sl (List SV) := (.c (sP (sFb (.c sSh .n))) (.c (sP (sFb (.c (JlC .i64) (.c sSh .n)))) (.c (sP (sFb (.c sSh .n))) (cB (cH (cI (cI .n)))))))
abbrev Urk (n m : Nat) (K : Kc R) : UgA.T (O R) := fun x1 x2 x3 x4 x5 x6 x7 x8 => Ukl n m x1 x2 x3 x4 x5 x6 x7 x8 (fun y1 y2 y3 y4 y5 => xL Uez 3 K (.exit 0) [.p (.fb [.sh y1]), .p (.fb [.v (.int .i64 y2), .sh y3]), .p (.fb [.sh y4]), dD, dD, vB y5])
abbrev UBe (n : Nat) (K : Kc R) (l0 : UgA.T (O R)) : UgA.T (O R) := fun x1 x2 x3 x4 x5 x6 x7 x8 => Ust n l0 x1 x2 x3 x4 x5 x6 x7 x8 (fun y1 y2 y3 y4 y5 => xL Uez 3 K (.exit 0) [.p (.fb [.sh y1]), .p (.fb [.v (.int .i64 y2), .sh y3]), .p (.fb [.sh y4]), dD, dD, vB y5])
noncomputable def Uu7 : Code := Jk (Jls Tryz.f59) [1, 1, 1, 0, 1, 0, 0]
abbrev UgB : Sl (List SV) := (.c (sP (sFb (.c sSh .n))) (.c (sP (sFb (.c sSh .n))) (cB (cH (cI (cI .n))))))
abbrev Url (n m : Nat) (K : Kc R) : UgB.T (O R) := fun x1 x2 x3 x4 x5 x6 => Ukm n m x1 x2 x3 x4 x5 x6 (fun y1 y2 y3 y4 y5 => xL Uez 8 K .ret [.p (.fb [.sh y1]), .p (.fb [.sh y2]), vB y3, vI y4, vB y5]) (fun y1 y2 y3 => xL Uez 8 K (.exit 2) [.p (.fb [.sh y1]), .p (.fb [.sh y2]), dD, dD, vB y3])
abbrev UBf (n : Nat) (K : Kc R) (l0 : UgB.T (O R)) : UgB.T (O R) := fun x1 x2 x3 x4 x5 x6 => Usu n l0 x1 x2 x3 x4 x5 x6 (fun y1 y2 y3 y4 y5 => xL Uez 8 K .ret [.p (.fb [.sh y1]), .p (.fb [.sh y2]), vB y3, vI y4, vB y5]) (fun y1 y2 y3 => xL Uez 8 K (.exit 2) [.p (.fb [.sh y1]), .p (.fb [.sh y2]), dD, dD, vB y3])
abbrev UGM (n : Nat) : Orc R := oL Uez (E59 n) n 8 Uu7 UgB (Url n n) (oL Uez (E59 n) n 3 Uu6 UgA (Urk n n) oN)
abbrev UF2 (n : Nat) : Orc R := oN
abbrev K59 (R : Type) (n : Nat) := JcK (R := R) Tryz.prog (UyD n) Uez n (75, []) (UGM n) (UF2 n)
theorem UEd (n : Nat) : K59 R n (false, 3, Uu6) := JkM (lo := UGM n) (cu := UF2 n) (pO pN (by kernel_rfl)) UgA (Urk n n) (JiK (F := Urk n) UgA (UBe n) (fun K _ _ _ _ _ _ _ _ => rfl) (fun _ _ => rfl) (fun L K _ _ _ _ _ _ _ _ => by show _ = _; kernel_rfl) n) fun _ _ => rfl
theorem UEe (n : Nat) : K59 R n (false, 8, Uu7) := JkM (lo := UGM n) (cu := UF2 n) (pO pN (by kernel_rfl)) UgB (Url n n) (JiK (F := Url n) UgB (UBf n) (fun K _ _ _ _ _ _ => rfl) (fun _ _ => rfl) (fun L K _ _ _ _ _ _ => by show _ = _; kernel_rfl) n) fun _ _ => rfl
theorem UOc (n : Nat) : Jfb (K59 R n) (JaJ Uez (Jls Tryz.f59)) := pO (pC (UEd n) (pC (UEe n) pN)) (by kernel_rfl)
abbrev t59 : Sl (List SV) := (.c (sP (sFb (.c sSh .n))) (.c (sP (sFb (.c (JlC .i64) (.c sSh .n)))) (.c (sP (sFb (.c sSh .n))) .n)))
abbrev f59 (n : Nat) (K : List SV → O R) : t59.T (O R) := fun x1 x2 x3 x4 => p59 n x1 x2 x3 x4 (fun y1 y2 => K [vB y1, vI y2])
abbrev UK (n : Nat) : FS := fT [false, false, false] t59 (f59 n)
theorem UNh (n : Nat) : FSound Tryz.prog GI 59 (UK n) := gd Uez n (Up5 n) Tryz.func59 (.cons (Up5 n) t59 (f59 n) (fun K _ _ _ _ => (Jkx (c := Jls Tryz.f59) (by kernel_rfl) (UOc n) K).trans (by kernel_rfl)) .nil) (by kernel_rfl)
def Uae : Ann := { loops := [(4, ids [1, 31, 32, 33], ids [1, 2]), (10, ids [1, 42, 43, 44], ids [1, 2])], cuts := [(3, ids [1], ids [2]), (17, ids [1], ids [2]), (23, ids [1], ids [2])], frz := [], rm := [.id] }
abbrev Ug6 (n : Nat) : Env := eC 76 (UKi n) (eC 66 (UGf n) (eC 65 (UE7 n) (eC 59 (UK n) (eC 35 (UJZ n) (eC 29 (UJX n) (eC 17 (UJQ n) eN))))))
theorem Ug7 (n : Nat) : EnvOK Tryz.prog GI (Ug6 n) := .cons (.cons (.cons (.cons (.cons (.cons (.cons (.nil) (UMY n)) (UM5 n)) (UM7 n)) (UNh n)) (UHn n)) (UKV n)) (UNq n)
def Ukh (n : Nat) (l0 : Int → LP → LP → LP → LP → Bool → Int → LP → LP → LP → Int → Int → O R) (x1 : Int) (x2 x3 x4 x5 : LP) (x6 : Bool) (x7 : Int) (x8 x9 x10 : LP) (x11 x12 : Int) (k0 : Int → LP → LP → LP → LP → Bool → Int → LP → LP → Int → O R) (k1 : Int → LP → LP → LP → LP → Bool → Int → LP → LP → O R) : O R :=
  bif (decide (x12 < x11)) then (bif (inR x12 ((x10).length)) then (Jky ((x10).getD ((x12 : Int).toNat) (.v (.bool false))) fun e13 => p66 n e13 (fun y14 => bif (!y14) then (k0 x1 x2 x3 x4 x5 x6 x7 x8 x9 3) else (l0 x1 x2 x3 x4 x5 x6 x7 x8 x9 x10 x11 (IntKind.i64.wrap (x12 + 1))))) else none) else (k1 x1 x2 x3 x4 x5 x6 x7 x8 x9)
def UhL (n : Nat) : Nat → Int → LP → LP → LP → LP → Bool → Int → LP → LP → LP → Int → Int → (Int → LP → LP → LP → LP → Bool → Int → LP → LP → Int → O R) → (Int → LP → LP → LP → LP → Bool → Int → LP → LP → O R) → O R
  | 0, _, _, _, _, _, _, _, _, _, _, _, _, _, _ => none
  | m + 1, x1, x2, x3, x4, x5, x6, x7, x8, x9, x10, x11, x12, k0, k1 => Ukh n (fun x1 x2 x3 x4 x5 x6 x7 x8 x9 x10 x11 x12 => UhL n m x1 x2 x3 x4 x5 x6 x7 x8 x9 x10 x11 x12 k0 k1) x1 x2 x3 x4 x5 x6 x7 x8 x9 x10 x11 x12 k0 k1
def Uwm (n : Nat) (x1 : Int) (x2 x3 x4 x5 : LP) (x6 : Bool) (x7 : Int) (x8 x9 x10 : LP) (x11 x12 : Int) (k0 : Int → LP → LP → LP → LP → Bool → Int → LP → LP → Int → O R) (k1 : Int → LP → LP → LP → LP → Bool → Int → LP → LP → O R) : O R := UhL n n x1 x2 x3 x4 x5 x6 x7 x8 x9 x10 x11 x12 k0 k1
def UhK (n : Nat) (l0 : Int → LP → LP → LP → LP → Bool → Int → LP → LP → LP → Int → Int → O R) (x1 : Int) (x2 x3 x4 x5 : LP) (x6 : Bool) (x7 : Int) (x8 x9 x10 : LP) (x11 x12 : Int) (k0 : Int → LP → LP → LP → LP → Bool → Int → LP → LP → Int → O R) (k1 : Int → LP → LP → LP → LP → Bool → Int → LP → LP → O R) : O R :=
  bif (decide (x12 < x11)) then (bif (inR x12 ((x10).length)) then (Jky ((x10).getD ((x12 : Int).toNat) (.v (.bool false))) fun e13 => bif (((e13).length : Int) != x1) then (k0 x1 x2 x3 x4 x5 x6 x7 x8 x9 6) else (l0 x1 x2 x3 x4 x5 x6 x7 x8 x9 x10 x11 (IntKind.i64.wrap (x12 + 1)))) else none) else (k1 x1 x2 x3 x4 x5 x6 x7 x8 x9)
def Ue3 (n : Nat) : Nat → Int → LP → LP → LP → LP → Bool → Int → LP → LP → LP → Int → Int → (Int → LP → LP → LP → LP → Bool → Int → LP → LP → Int → O R) → (Int → LP → LP → LP → LP → Bool → Int → LP → LP → O R) → O R
  | 0, _, _, _, _, _, _, _, _, _, _, _, _, _, _ => none
  | m + 1, x1, x2, x3, x4, x5, x6, x7, x8, x9, x10, x11, x12, k0, k1 => UhK n (fun x1 x2 x3 x4 x5 x6 x7 x8 x9 x10 x11 x12 => Ue3 n m x1 x2 x3 x4 x5 x6 x7 x8 x9 x10 x11 x12 k0 k1) x1 x2 x3 x4 x5 x6 x7 x8 x9 x10 x11 x12 k0 k1
def Usm (n : Nat) (x1 : Int) (x2 x3 x4 x5 : LP) (x6 : Bool) (x7 : Int) (x8 x9 x10 : LP) (x11 x12 : Int) (k0 : Int → LP → LP → LP → LP → Bool → Int → LP → LP → Int → O R) (k1 : Int → LP → LP → LP → LP → Bool → Int → LP → LP → O R) : O R := Ue3 n n x1 x2 x3 x4 x5 x6 x7 x8 x9 x10 x11 x12 k0 k1
def UhJ (n : Nat) (x1 : Int) (x2 x3 x4 x5 : LP) (x6 : Bool) (x7 : Int) (x8 x9 : LP) (k0 : Int → O R) : O R :=
  p29 n x7 x8 x9 (fun y10 y11 => bif (y11 != 0) then (k0 y11) else (bif (!y10) then (k0 16) else (k0 0)))
def UhI (n : Nat) (x1 : Int) (x2 x3 x4 x5 : LP) (x6 : Bool) (x7 : Int) (x8 x9 : LP) (k0 : Int → O R) : O R :=
  bif (decide (((x4).length : Int) > 0)) then (bif (inR 0 ((x4).length)) then (Jky ((x4).getD ((0 : Int).toNat) (.v (.bool false))) fun e10 => p17 n x1 x2 e10 (fun y11 y12 => bif (y12 != 0) then (k0 y12) else (bif (!y11) then (k0 15) else (UhJ n x1 x2 x3 x4 x5 x6 x7 x8 x9 (fun y13 => k0 y13))))) else none) else (UhJ n x1 x2 x3 x4 x5 x6 x7 x8 x9 (fun y14 => k0 y14))
def Usl (n : Nat) (x1 : Int) (x2 x3 x4 x5 : LP) (x6 : Bool) (x7 : Int) (x8 x9 : LP) (k0 : Int → O R) : O R :=
  Uwm n x1 x2 x3 x4 x5 x6 x7 x8 x9 x4 ((x4).length : Int) 0 (fun y10 y11 y12 y13 y14 y15 y16 y17 y18 y19 => k0 y19) (fun y20 y21 y22 y23 y24 y25 y26 y27 y28 => Usm n y20 y21 y22 y23 y24 y25 y26 y27 y28 y23 ((y23).length : Int) 0 (fun y29 y30 y31 y32 y33 y34 y35 y36 y37 y38 => k0 y38) (fun y39 y40 y41 y42 y43 y44 y45 y46 y47 => bif y44 then (bif (bif true then (((y43).length : Int) != ((y40).length : Int)) else false) then (k0 6) else (UhI n y39 y40 y41 y42 y43 y44 y45 y46 y47 (fun y48 => k0 y48))) else (UhI n y39 y40 y41 y42 y43 y44 y45 y46 y47 (fun y49 => k0 y49))))
def p32 (n : Nat) (x1 : Int) (x2 x3 x4 x5 : LP) (x6 : Bool) (x7 : Int) (x8 x9 : LP) (k0 : Int → O R) : O R :=
  p65 n x1 x2 (fun y10 => bif (y10 != 0) then (k0 3) else (p76 n x1 x3 (fun y11 => bif (bif false then true else (!y11)) then (k0 3) else (p66 n x5 (fun y12 => bif (bif false then true else (!y12)) then (k0 3) else (Usl n x1 x2 x3 x4 x5 x6 x7 x8 x9 (fun y13 => k0 y13)))))))
def Ui0 (n : Nat) (l0 : Int → LP → LP → LP → LP → Bool → Int → LP → LP → LP → LP → LP → Int → Int → O R) (x1 : Int) (x2 x3 x4 x5 : LP) (x6 : Bool) (x7 : Int) (x8 x9 x10 x11 x12 : LP) (x13 x14 : Int) (k0 : Int → LP → LP → LP → LP → Bool → Int → LP → LP → LP → LP → Int → O R) (k1 : Int → LP → LP → LP → LP → Bool → Int → LP → LP → LP → LP → O R) : O R :=
  bif (decide (x14 < x13)) then (bif (inR x14 ((x12).length)) then (Jky ((x12).getD ((x14 : Int).toNat) (.v (.bool false))) fun e15 => p66 n e15 (fun y16 => bif (!y16) then (k0 x1 x2 x3 x4 x5 x6 x7 x8 x9 x10 x11 3) else (l0 x1 x2 x3 x4 x5 x6 x7 x8 x9 x10 x11 x12 x13 (IntKind.i64.wrap (x14 + 1))))) else none) else (k1 x1 x2 x3 x4 x5 x6 x7 x8 x9 x10 x11)
def UfH (n : Nat) : Nat → Int → LP → LP → LP → LP → Bool → Int → LP → LP → LP → LP → LP → Int → Int → (Int → LP → LP → LP → LP → Bool → Int → LP → LP → LP → LP → Int → O R) → (Int → LP → LP → LP → LP → Bool → Int → LP → LP → LP → LP → O R) → O R
  | 0, _, _, _, _, _, _, _, _, _, _, _, _, _, _, _, _ => none
  | m + 1, x1, x2, x3, x4, x5, x6, x7, x8, x9, x10, x11, x12, x13, x14, k0, k1 => Ui0 n (fun x1 x2 x3 x4 x5 x6 x7 x8 x9 x10 x11 x12 x13 x14 => UfH n m x1 x2 x3 x4 x5 x6 x7 x8 x9 x10 x11 x12 x13 x14 k0 k1) x1 x2 x3 x4 x5 x6 x7 x8 x9 x10 x11 x12 x13 x14 k0 k1
def UtU (n : Nat) (x1 : Int) (x2 x3 x4 x5 : LP) (x6 : Bool) (x7 : Int) (x8 x9 x10 x11 x12 : LP) (x13 x14 : Int) (k0 : Int → LP → LP → LP → LP → Bool → Int → LP → LP → LP → LP → Int → O R) (k1 : Int → LP → LP → LP → LP → Bool → Int → LP → LP → LP → LP → O R) : O R := UfH n n x1 x2 x3 x4 x5 x6 x7 x8 x9 x10 x11 x12 x13 x14 k0 k1
def Uf6 (n : Nat) (l0 : Int → LP → LP → LP → LP → Bool → Int → LP → LP → LP → LP → LP → Int → Int → O R) (x1 : Int) (x2 x3 x4 x5 : LP) (x6 : Bool) (x7 : Int) (x8 x9 x10 x11 x12 : LP) (x13 x14 : Int) (k0 : Int → LP → LP → LP → LP → Bool → Int → LP → LP → LP → LP → Int → O R) (k1 : Int → LP → LP → LP → LP → Bool → Int → LP → LP → LP → LP → O R) : O R :=
  bif (decide (x14 < x13)) then (bif (inR x14 ((x12).length)) then (Jky ((x12).getD ((x14 : Int).toNat) (.v (.bool false))) fun e15 => bif (((e15).length : Int) != x1) then (k0 x1 x2 x3 x4 x5 x6 x7 x8 x9 x10 x11 6) else (l0 x1 x2 x3 x4 x5 x6 x7 x8 x9 x10 x11 x12 x13 (IntKind.i64.wrap (x14 + 1)))) else none) else (k1 x1 x2 x3 x4 x5 x6 x7 x8 x9 x10 x11)
def UdG (n : Nat) : Nat → Int → LP → LP → LP → LP → Bool → Int → LP → LP → LP → LP → LP → Int → Int → (Int → LP → LP → LP → LP → Bool → Int → LP → LP → LP → LP → Int → O R) → (Int → LP → LP → LP → LP → Bool → Int → LP → LP → LP → LP → O R) → O R
  | 0, _, _, _, _, _, _, _, _, _, _, _, _, _, _, _, _ => none
  | m + 1, x1, x2, x3, x4, x5, x6, x7, x8, x9, x10, x11, x12, x13, x14, k0, k1 => Uf6 n (fun x1 x2 x3 x4 x5 x6 x7 x8 x9 x10 x11 x12 x13 x14 => UdG n m x1 x2 x3 x4 x5 x6 x7 x8 x9 x10 x11 x12 x13 x14 k0 k1) x1 x2 x3 x4 x5 x6 x7 x8 x9 x10 x11 x12 x13 x14 k0 k1
def Usn (n : Nat) (x1 : Int) (x2 x3 x4 x5 : LP) (x6 : Bool) (x7 : Int) (x8 x9 x10 x11 x12 : LP) (x13 x14 : Int) (k0 : Int → LP → LP → LP → LP → Bool → Int → LP → LP → LP → LP → Int → O R) (k1 : Int → LP → LP → LP → LP → Bool → Int → LP → LP → LP → LP → O R) : O R := UdG n n x1 x2 x3 x4 x5 x6 x7 x8 x9 x10 x11 x12 x13 x14 k0 k1
def UfF (n : Nat) (x1 : Int) (x2 x3 x4 x5 : LP) (x6 : Bool) (x7 : Int) (x8 x9 x10 x11 : LP) (k0 : Int → O R) : O R :=
  p35 n x7 x8 x9 x10 x11 (fun y12 y13 => bif (y13 != 0) then (k0 y13) else (bif (!y12) then (k0 16) else (k0 0)))
def UfD (n : Nat) (x1 : Int) (x2 x3 x4 x5 : LP) (x6 : Bool) (x7 : Int) (x8 x9 x10 x11 : LP) (k0 : Int → O R) : O R :=
  bif (decide (((x4).length : Int) > 0)) then (bif (inR 0 ((x4).length)) then (Jky ((x4).getD ((0 : Int).toNat) (.v (.bool false))) fun e12 => p17 n x1 x2 e12 (fun y13 y14 => bif (y14 != 0) then (k0 y14) else (bif (!y13) then (k0 15) else (UfF n x1 x2 x3 x4 x5 x6 x7 x8 x9 x10 x11 (fun y15 => k0 y15))))) else none) else (UfF n x1 x2 x3 x4 x5 x6 x7 x8 x9 x10 x11 (fun y16 => k0 y16))
def UmX (n : Nat) (x1 : Int) (x2 x3 x4 x5 : LP) (x6 : Bool) (x7 : Int) (x8 x9 x10 x11 : LP) (k0 : Int → O R) : O R :=
  UtU n x1 x2 x3 x4 x5 x6 x7 x8 x9 x10 x11 x4 ((x4).length : Int) 0 (fun y12 y13 y14 y15 y16 y17 y18 y19 y20 y21 y22 y23 => k0 y23) (fun y24 y25 y26 y27 y28 y29 y30 y31 y32 y33 y34 => Usn n y24 y25 y26 y27 y28 y29 y30 y31 y32 y33 y34 y27 ((y27).length : Int) 0 (fun y35 y36 y37 y38 y39 y40 y41 y42 y43 y44 y45 y46 => k0 y46) (fun y47 y48 y49 y50 y51 y52 y53 y54 y55 y56 y57 => bif y52 then (bif (bif true then (((y51).length : Int) != ((y48).length : Int)) else false) then (k0 6) else (UfD n y47 y48 y49 y50 y51 y52 y53 y54 y55 y56 y57 (fun y58 => k0 y58))) else (UfD n y47 y48 y49 y50 y51 y52 y53 y54 y55 y56 y57 (fun y59 => k0 y59))))
def UDy (n : Nat) (x1 : Int) (x2 x3 x4 x5 : LP) (x6 : Bool) (x7 : Int) (x8 x9 x10 x11 : LP) (k0 : Int → O R) : O R :=
  p65 n x1 x2 (fun y12 => bif (y12 != 0) then (k0 3) else (p76 n x1 x3 (fun y13 => bif (bif false then true else (!y13)) then (k0 3) else (p66 n x5 (fun y14 => bif (bif false then true else (!y14)) then (k0 3) else (UmX n x1 x2 x3 x4 x5 x6 x7 x8 x9 x10 x11 (fun y15 => k0 y15)))))))
def Ui1 (n : Nat) (l0 : Int → LP → LP → LP → LP → Bool → LP → Int → LP → LP → LP → Int → Int → O R) (x1 : Int) (x2 x3 x4 x5 : LP) (x6 : Bool) (x7 : LP) (x8 : Int) (x9 x10 x11 : LP) (x12 x13 : Int) (k0 : Int → LP → LP → LP → LP → Bool → LP → Int → LP → LP → Int → O R) (k1 : Int → LP → LP → LP → LP → Bool → LP → Int → LP → LP → O R) : O R :=
  bif (decide (x13 < x12)) then (bif (inR x13 ((x11).length)) then (Jky ((x11).getD ((x13 : Int).toNat) (.v (.bool false))) fun e14 => p66 n e14 (fun y15 => bif (!y15) then (k0 x1 x2 x3 x4 x5 x6 x7 x8 x9 x10 3) else (l0 x1 x2 x3 x4 x5 x6 x7 x8 x9 x10 x11 x12 (IntKind.i64.wrap (x13 + 1))))) else none) else (k1 x1 x2 x3 x4 x5 x6 x7 x8 x9 x10)
def UfI (n : Nat) : Nat → Int → LP → LP → LP → LP → Bool → LP → Int → LP → LP → LP → Int → Int → (Int → LP → LP → LP → LP → Bool → LP → Int → LP → LP → Int → O R) → (Int → LP → LP → LP → LP → Bool → LP → Int → LP → LP → O R) → O R
  | 0, _, _, _, _, _, _, _, _, _, _, _, _, _, _, _ => none
  | m + 1, x1, x2, x3, x4, x5, x6, x7, x8, x9, x10, x11, x12, x13, k0, k1 => Ui1 n (fun x1 x2 x3 x4 x5 x6 x7 x8 x9 x10 x11 x12 x13 => UfI n m x1 x2 x3 x4 x5 x6 x7 x8 x9 x10 x11 x12 x13 k0 k1) x1 x2 x3 x4 x5 x6 x7 x8 x9 x10 x11 x12 x13 k0 k1
def UtV (n : Nat) (x1 : Int) (x2 x3 x4 x5 : LP) (x6 : Bool) (x7 : LP) (x8 : Int) (x9 x10 x11 : LP) (x12 x13 : Int) (k0 : Int → LP → LP → LP → LP → Bool → LP → Int → LP → LP → Int → O R) (k1 : Int → LP → LP → LP → LP → Bool → LP → Int → LP → LP → O R) : O R := UfI n n x1 x2 x3 x4 x5 x6 x7 x8 x9 x10 x11 x12 x13 k0 k1
def Uf7 (n : Nat) (l0 : Int → LP → LP → LP → LP → Bool → LP → Int → LP → LP → LP → Int → Int → O R) (x1 : Int) (x2 x3 x4 x5 : LP) (x6 : Bool) (x7 : LP) (x8 : Int) (x9 x10 x11 : LP) (x12 x13 : Int) (k0 : Int → LP → LP → LP → LP → Bool → LP → Int → LP → LP → Int → O R) (k1 : Int → LP → LP → LP → LP → Bool → LP → Int → LP → LP → O R) : O R :=
  bif (decide (x13 < x12)) then (bif (inR x13 ((x11).length)) then (Jky ((x11).getD ((x13 : Int).toNat) (.v (.bool false))) fun e14 => bif (((e14).length : Int) != x1) then (k0 x1 x2 x3 x4 x5 x6 x7 x8 x9 x10 6) else (l0 x1 x2 x3 x4 x5 x6 x7 x8 x9 x10 x11 x12 (IntKind.i64.wrap (x13 + 1)))) else none) else (k1 x1 x2 x3 x4 x5 x6 x7 x8 x9 x10)
def UdH (n : Nat) : Nat → Int → LP → LP → LP → LP → Bool → LP → Int → LP → LP → LP → Int → Int → (Int → LP → LP → LP → LP → Bool → LP → Int → LP → LP → Int → O R) → (Int → LP → LP → LP → LP → Bool → LP → Int → LP → LP → O R) → O R
  | 0, _, _, _, _, _, _, _, _, _, _, _, _, _, _, _ => none
  | m + 1, x1, x2, x3, x4, x5, x6, x7, x8, x9, x10, x11, x12, x13, k0, k1 => Uf7 n (fun x1 x2 x3 x4 x5 x6 x7 x8 x9 x10 x11 x12 x13 => UdH n m x1 x2 x3 x4 x5 x6 x7 x8 x9 x10 x11 x12 x13 k0 k1) x1 x2 x3 x4 x5 x6 x7 x8 x9 x10 x11 x12 x13 k0 k1
def Uso (n : Nat) (x1 : Int) (x2 x3 x4 x5 : LP) (x6 : Bool) (x7 : LP) (x8 : Int) (x9 x10 x11 : LP) (x12 x13 : Int) (k0 : Int → LP → LP → LP → LP → Bool → LP → Int → LP → LP → Int → O R) (k1 : Int → LP → LP → LP → LP → Bool → LP → Int → LP → LP → O R) : O R := UdH n n x1 x2 x3 x4 x5 x6 x7 x8 x9 x10 x11 x12 x13 k0 k1
def UfG (n : Nat) (x1 : Int) (x2 x3 x4 x5 : LP) (x6 : Bool) (x7 : LP) (x8 : Int) (x9 x10 : LP) (k0 : Int → O R) : O R :=
  p59 n x7 x8 x9 x10 (fun y11 y12 => bif (y12 != 0) then (k0 y12) else (bif (!y11) then (k0 16) else (k0 0)))
def UfE (n : Nat) (x1 : Int) (x2 x3 x4 x5 : LP) (x6 : Bool) (x7 : LP) (x8 : Int) (x9 x10 : LP) (k0 : Int → O R) : O R :=
  bif (decide (((x4).length : Int) > 0)) then (bif (inR 0 ((x4).length)) then (Jky ((x4).getD ((0 : Int).toNat) (.v (.bool false))) fun e11 => p17 n x1 x2 e11 (fun y12 y13 => bif (y13 != 0) then (k0 y13) else (bif (!y12) then (k0 15) else (UfG n x1 x2 x3 x4 x5 x6 x7 x8 x9 x10 (fun y14 => k0 y14))))) else none) else (UfG n x1 x2 x3 x4 x5 x6 x7 x8 x9 x10 (fun y15 => k0 y15))
def UmY (n : Nat) (x1 : Int) (x2 x3 x4 x5 : LP) (x6 : Bool) (x7 : LP) (x8 : Int) (x9 x10 : LP) (k0 : Int → O R) : O R :=
  UtV n x1 x2 x3 x4 x5 x6 x7 x8 x9 x10 x4 ((x4).length : Int) 0 (fun y11 y12 y13 y14 y15 y16 y17 y18 y19 y20 y21 => k0 y21) (fun y22 y23 y24 y25 y26 y27 y28 y29 y30 y31 => Uso n y22 y23 y24 y25 y26 y27 y28 y29 y30 y31 y25 ((y25).length : Int) 0 (fun y32 y33 y34 y35 y36 y37 y38 y39 y40 y41 y42 => k0 y42) (fun y43 y44 y45 y46 y47 y48 y49 y50 y51 y52 => bif y48 then (bif (bif true then (((y47).length : Int) != ((y44).length : Int)) else false) then (k0 6) else (UfE n y43 y44 y45 y46 y47 y48 y49 y50 y51 y52 (fun y53 => k0 y53))) else (UfE n y43 y44 y45 y46 y47 y48 y49 y50 y51 y52 (fun y54 => k0 y54))))
def UDz (n : Nat) (x1 : Int) (x2 x3 x4 x5 : LP) (x6 : Bool) (x7 : LP) (x8 : Int) (x9 x10 : LP) (k0 : Int → O R) : O R :=
  p65 n x1 x2 (fun y11 => bif (y11 != 0) then (k0 3) else (p76 n x1 x3 (fun y12 => bif (bif false then true else (!y12)) then (k0 3) else (p66 n x5 (fun y13 => bif (bif false then true else (!y13)) then (k0 3) else (UmY n x1 x2 x3 x4 x5 x6 x7 x8 x9 x10 (fun y14 => k0 y14)))))))
abbrev E32 (n : Nat) : Code → Fr → Kc R → O R := evC Tryz.prog (Ug6 n) Uae n (97, [])
noncomputable def UoF : Code := Jk (Jls Tryz.f32) [1, 1]
abbrev UkQ : Sl (List SV) := (.c (sBx 74 (cI (cH (cH (cH (cH (cB (.c (sP (JlQ 29 (.c (sFb (.c (JlC .i64) (.c sSh .n))) (.c (sFb (.c sSh .n)) .n)))) .n)))))))) .n)
abbrev UkR : Sl (List SV) := (.c (sBx 74 (cI (cH (cH (cH (cH (cB (.c (sP (JlQ 35 (.c (sFb (.c (JlC .i64) (.c sSh .n))) (.c (sFb (.c sSh .n)) (.c (sFb (.c sSh .n)) (.c (sFb (.c sSh .n)) .n)))))) .n)))))))) .n)
abbrev UkS : Sl (List SV) := (.c (sBx 74 (cI (cH (cH (cH (cH (cB (.c (sP (JlQ 59 (.c (sFb (.c sSh .n)) (.c (sFb (.c (JlC .i64) (.c sSh .n))) (.c (sFb (.c sSh .n)) .n))))) .n)))))))) .n)
abbrev Uq7 (n : Nat) (K : Kc R) : UkQ.T (O R) := fun x1 x2 x3 x4 x5 x6 x7 x8 x9 => Usl n x1 x2 x3 x4 x5 x6 x7 x8 x9 (fun y1 => xC Uae 3 K .ret [vI y1])
abbrev Uq8 (n : Nat) (K : Kc R) : UkR.T (O R) := fun x1 x2 x3 x4 x5 x6 x7 x8 x9 x10 x11 => UmX n x1 x2 x3 x4 x5 x6 x7 x8 x9 x10 x11 (fun y1 => xC Uae 3 K .ret [vI y1])
abbrev Uq9 (n : Nat) (K : Kc R) : UkS.T (O R) := fun x1 x2 x3 x4 x5 x6 x7 x8 x9 x10 => UmY n x1 x2 x3 x4 x5 x6 x7 x8 x9 x10 (fun y1 => xC Uae 3 K .ret [vI y1])
noncomputable def Ujx : Code := Jk (Jls Tryz.f32) [1, 1, 1, 1, 1]
abbrev UiA : Sl (List SV) := (.c (sBx 74 (cI (cH (cH (cH (cH (cB (.c (sP (JlQ 29 (.c (sFb (.c (JlC .i64) (.c sSh .n))) (.c (sFb (.c sSh .n)) .n)))) .n)))))))) .n)
abbrev UiB : Sl (List SV) := (.c (sBx 74 (cI (cH (cH (cH (cH (cB (.c (sP (JlQ 35 (.c (sFb (.c (JlC .i64) (.c sSh .n))) (.c (sFb (.c sSh .n)) (.c (sFb (.c sSh .n)) (.c (sFb (.c sSh .n)) .n)))))) .n)))))))) .n)
abbrev UiC : Sl (List SV) := (.c (sBx 74 (cI (cH (cH (cH (cH (cB (.c (sP (JlQ 59 (.c (sFb (.c sSh .n)) (.c (sFb (.c (JlC .i64) (.c sSh .n))) (.c (sFb (.c sSh .n)) .n))))) .n)))))))) .n)
abbrev Umx (n : Nat) (K : Kc R) : UiA.T (O R) := fun x1 x2 x3 x4 x5 x6 x7 x8 x9 => UhI n x1 x2 x3 x4 x5 x6 x7 x8 x9 (fun y1 => xC Uae 17 K .ret [vI y1])
abbrev Umy (n : Nat) (K : Kc R) : UiB.T (O R) := fun x1 x2 x3 x4 x5 x6 x7 x8 x9 x10 x11 => UfD n x1 x2 x3 x4 x5 x6 x7 x8 x9 x10 x11 (fun y1 => xC Uae 17 K .ret [vI y1])
abbrev Umz (n : Nat) (K : Kc R) : UiC.T (O R) := fun x1 x2 x3 x4 x5 x6 x7 x8 x9 x10 => UfE n x1 x2 x3 x4 x5 x6 x7 x8 x9 x10 (fun y1 => xC Uae 17 K .ret [vI y1])
noncomputable def Ujy : Code := Jk (Jls Tryz.f32) [1, 1, 1, 1, 1, 1]
abbrev UiD : Sl (List SV) := (.c (sBx 74 (cI (cH (cH (cH (cH (cB (.c (sP (JlQ 29 (.c (sFb (.c (JlC .i64) (.c sSh .n))) (.c (sFb (.c sSh .n)) .n)))) .n)))))))) .n)
abbrev UiE : Sl (List SV) := (.c (sBx 74 (cI (cH (cH (cH (cH (cB (.c (sP (JlQ 35 (.c (sFb (.c (JlC .i64) (.c sSh .n))) (.c (sFb (.c sSh .n)) (.c (sFb (.c sSh .n)) (.c (sFb (.c sSh .n)) .n)))))) .n)))))))) .n)
abbrev UiF : Sl (List SV) := (.c (sBx 74 (cI (cH (cH (cH (cH (cB (.c (sP (JlQ 59 (.c (sFb (.c sSh .n)) (.c (sFb (.c (JlC .i64) (.c sSh .n))) (.c (sFb (.c sSh .n)) .n))))) .n)))))))) .n)
abbrev UmA (n : Nat) (K : Kc R) : UiD.T (O R) := fun x1 x2 x3 x4 x5 x6 x7 x8 x9 => UhJ n x1 x2 x3 x4 x5 x6 x7 x8 x9 (fun y1 => xC Uae 23 K .ret [vI y1])
abbrev UmB (n : Nat) (K : Kc R) : UiE.T (O R) := fun x1 x2 x3 x4 x5 x6 x7 x8 x9 x10 x11 => UfF n x1 x2 x3 x4 x5 x6 x7 x8 x9 x10 x11 (fun y1 => xC Uae 23 K .ret [vI y1])
abbrev UmC (n : Nat) (K : Kc R) : UiF.T (O R) := fun x1 x2 x3 x4 x5 x6 x7 x8 x9 x10 => UfG n x1 x2 x3 x4 x5 x6 x7 x8 x9 x10 (fun y1 => xC Uae 23 K .ret [vI y1])
noncomputable def UfY : Code := Jk (Jls Tryz.f32) [1, 1, 0, 1, 0, 0]
abbrev UcH : Sl (List SV) := (.c (sBx 74 (cI (cH (cH (cH (cH (cB (.c (sP (JlQ 29 (.c (sFb (.c (JlC .i64) (.c sSh .n))) (.c (sFb (.c sSh .n)) .n)))) .n)))))))) (cH (cI (cI .n))))
abbrev UcI : Sl (List SV) := (.c (sBx 74 (cI (cH (cH (cH (cH (cB (.c (sP (JlQ 35 (.c (sFb (.c (JlC .i64) (.c sSh .n))) (.c (sFb (.c sSh .n)) (.c (sFb (.c sSh .n)) (.c (sFb (.c sSh .n)) .n)))))) .n)))))))) (cH (cI (cI .n))))
abbrev UcJ : Sl (List SV) := (.c (sBx 74 (cI (cH (cH (cH (cH (cB (.c (sP (JlQ 59 (.c (sFb (.c sSh .n)) (.c (sFb (.c (JlC .i64) (.c sSh .n))) (.c (sFb (.c sSh .n)) .n))))) .n)))))))) (cH (cI (cI .n))))
abbrev Uhd (n m : Nat) (K : Kc R) : UcH.T (O R) := fun x1 x2 x3 x4 x5 x6 x7 x8 x9 x10 x11 x12 => UhL n m x1 x2 x3 x4 x5 x6 x7 x8 x9 x10 x11 x12 (fun y1 y2 y3 y4 y5 y6 y7 y8 y9 y10 => xL Uae 4 K .ret [.bx 74 [vI y1, vH y2, vH y3, vH y4, vH y5, vB y6, .p (.clo 29 [.fb [.v (.int .i64 y7), .sh y8], .fb [.sh y9]])], vI y10]) (fun y1 y2 y3 y4 y5 y6 y7 y8 y9 => xL Uae 4 K (.exit 0) [.bx 74 [vI y1, vH y2, vH y3, vH y4, vH y5, vB y6, .p (.clo 29 [.fb [.v (.int .i64 y7), .sh y8], .fb [.sh y9]])], dD])
abbrev UxS (n : Nat) (K : Kc R) (l0 : UcH.T (O R)) : UcH.T (O R) := fun x1 x2 x3 x4 x5 x6 x7 x8 x9 x10 x11 x12 => Ukh n l0 x1 x2 x3 x4 x5 x6 x7 x8 x9 x10 x11 x12 (fun y1 y2 y3 y4 y5 y6 y7 y8 y9 y10 => xL Uae 4 K .ret [.bx 74 [vI y1, vH y2, vH y3, vH y4, vH y5, vB y6, .p (.clo 29 [.fb [.v (.int .i64 y7), .sh y8], .fb [.sh y9]])], vI y10]) (fun y1 y2 y3 y4 y5 y6 y7 y8 y9 => xL Uae 4 K (.exit 0) [.bx 74 [vI y1, vH y2, vH y3, vH y4, vH y5, vB y6, .p (.clo 29 [.fb [.v (.int .i64 y7), .sh y8], .fb [.sh y9]])], dD])
abbrev Uhe (n m : Nat) (K : Kc R) : UcI.T (O R) := fun x1 x2 x3 x4 x5 x6 x7 x8 x9 x10 x11 x12 x13 x14 => UfH n m x1 x2 x3 x4 x5 x6 x7 x8 x9 x10 x11 x12 x13 x14 (fun y1 y2 y3 y4 y5 y6 y7 y8 y9 y10 y11 y12 => xL Uae 4 K .ret [.bx 74 [vI y1, vH y2, vH y3, vH y4, vH y5, vB y6, .p (.clo 35 [.fb [.v (.int .i64 y7), .sh y8], .fb [.sh y9], .fb [.sh y10], .fb [.sh y11]])], vI y12]) (fun y1 y2 y3 y4 y5 y6 y7 y8 y9 y10 y11 => xL Uae 4 K (.exit 0) [.bx 74 [vI y1, vH y2, vH y3, vH y4, vH y5, vB y6, .p (.clo 35 [.fb [.v (.int .i64 y7), .sh y8], .fb [.sh y9], .fb [.sh y10], .fb [.sh y11]])], dD])
abbrev UxT (n : Nat) (K : Kc R) (l0 : UcI.T (O R)) : UcI.T (O R) := fun x1 x2 x3 x4 x5 x6 x7 x8 x9 x10 x11 x12 x13 x14 => Ui0 n l0 x1 x2 x3 x4 x5 x6 x7 x8 x9 x10 x11 x12 x13 x14 (fun y1 y2 y3 y4 y5 y6 y7 y8 y9 y10 y11 y12 => xL Uae 4 K .ret [.bx 74 [vI y1, vH y2, vH y3, vH y4, vH y5, vB y6, .p (.clo 35 [.fb [.v (.int .i64 y7), .sh y8], .fb [.sh y9], .fb [.sh y10], .fb [.sh y11]])], vI y12]) (fun y1 y2 y3 y4 y5 y6 y7 y8 y9 y10 y11 => xL Uae 4 K (.exit 0) [.bx 74 [vI y1, vH y2, vH y3, vH y4, vH y5, vB y6, .p (.clo 35 [.fb [.v (.int .i64 y7), .sh y8], .fb [.sh y9], .fb [.sh y10], .fb [.sh y11]])], dD])
abbrev Uhf (n m : Nat) (K : Kc R) : UcJ.T (O R) := fun x1 x2 x3 x4 x5 x6 x7 x8 x9 x10 x11 x12 x13 => UfI n m x1 x2 x3 x4 x5 x6 x7 x8 x9 x10 x11 x12 x13 (fun y1 y2 y3 y4 y5 y6 y7 y8 y9 y10 y11 => xL Uae 4 K .ret [.bx 74 [vI y1, vH y2, vH y3, vH y4, vH y5, vB y6, .p (.clo 59 [.fb [.sh y7], .fb [.v (.int .i64 y8), .sh y9], .fb [.sh y10]])], vI y11]) (fun y1 y2 y3 y4 y5 y6 y7 y8 y9 y10 => xL Uae 4 K (.exit 0) [.bx 74 [vI y1, vH y2, vH y3, vH y4, vH y5, vB y6, .p (.clo 59 [.fb [.sh y7], .fb [.v (.int .i64 y8), .sh y9], .fb [.sh y10]])], dD])
abbrev UxU (n : Nat) (K : Kc R) (l0 : UcJ.T (O R)) : UcJ.T (O R) := fun x1 x2 x3 x4 x5 x6 x7 x8 x9 x10 x11 x12 x13 => Ui1 n l0 x1 x2 x3 x4 x5 x6 x7 x8 x9 x10 x11 x12 x13 (fun y1 y2 y3 y4 y5 y6 y7 y8 y9 y10 y11 => xL Uae 4 K .ret [.bx 74 [vI y1, vH y2, vH y3, vH y4, vH y5, vB y6, .p (.clo 59 [.fb [.sh y7], .fb [.v (.int .i64 y8), .sh y9], .fb [.sh y10]])], vI y11]) (fun y1 y2 y3 y4 y5 y6 y7 y8 y9 y10 => xL Uae 4 K (.exit 0) [.bx 74 [vI y1, vH y2, vH y3, vH y4, vH y5, vB y6, .p (.clo 59 [.fb [.sh y7], .fb [.v (.int .i64 y8), .sh y9], .fb [.sh y10]])], dD])
noncomputable def Udo : Code := Jk (Jls Tryz.f32) [1, 1, 1, 0, 1, 0, 0]
abbrev UbB : Sl (List SV) := (.c (sBx 74 (cI (cH (cH (cH (cH (cB (.c (sP (JlQ 29 (.c (sFb (.c (JlC .i64) (.c sSh .n))) (.c (sFb (.c sSh .n)) .n)))) .n)))))))) (cH (cI (cI .n))))
abbrev UbC : Sl (List SV) := (.c (sBx 74 (cI (cH (cH (cH (cH (cB (.c (sP (JlQ 35 (.c (sFb (.c (JlC .i64) (.c sSh .n))) (.c (sFb (.c sSh .n)) (.c (sFb (.c sSh .n)) (.c (sFb (.c sSh .n)) .n)))))) .n)))))))) (cH (cI (cI .n))))
abbrev UbD : Sl (List SV) := (.c (sBx 74 (cI (cH (cH (cH (cH (cB (.c (sP (JlQ 59 (.c (sFb (.c sSh .n)) (.c (sFb (.c (JlC .i64) (.c sSh .n))) (.c (sFb (.c sSh .n)) .n))))) .n)))))))) (cH (cI (cI .n))))
abbrev UeF (n m : Nat) (K : Kc R) : UbB.T (O R) := fun x1 x2 x3 x4 x5 x6 x7 x8 x9 x10 x11 x12 => Ue3 n m x1 x2 x3 x4 x5 x6 x7 x8 x9 x10 x11 x12 (fun y1 y2 y3 y4 y5 y6 y7 y8 y9 y10 => xL Uae 10 K .ret [.bx 74 [vI y1, vH y2, vH y3, vH y4, vH y5, vB y6, .p (.clo 29 [.fb [.v (.int .i64 y7), .sh y8], .fb [.sh y9]])], vI y10]) (fun y1 y2 y3 y4 y5 y6 y7 y8 y9 => xL Uae 10 K (.exit 2) [.bx 74 [vI y1, vH y2, vH y3, vH y4, vH y5, vB y6, .p (.clo 29 [.fb [.v (.int .i64 y7), .sh y8], .fb [.sh y9]])], dD])
abbrev Uto (n : Nat) (K : Kc R) (l0 : UbB.T (O R)) : UbB.T (O R) := fun x1 x2 x3 x4 x5 x6 x7 x8 x9 x10 x11 x12 => UhK n l0 x1 x2 x3 x4 x5 x6 x7 x8 x9 x10 x11 x12 (fun y1 y2 y3 y4 y5 y6 y7 y8 y9 y10 => xL Uae 10 K .ret [.bx 74 [vI y1, vH y2, vH y3, vH y4, vH y5, vB y6, .p (.clo 29 [.fb [.v (.int .i64 y7), .sh y8], .fb [.sh y9]])], vI y10]) (fun y1 y2 y3 y4 y5 y6 y7 y8 y9 => xL Uae 10 K (.exit 2) [.bx 74 [vI y1, vH y2, vH y3, vH y4, vH y5, vB y6, .p (.clo 29 [.fb [.v (.int .i64 y7), .sh y8], .fb [.sh y9]])], dD])
abbrev UeG (n m : Nat) (K : Kc R) : UbC.T (O R) := fun x1 x2 x3 x4 x5 x6 x7 x8 x9 x10 x11 x12 x13 x14 => UdG n m x1 x2 x3 x4 x5 x6 x7 x8 x9 x10 x11 x12 x13 x14 (fun y1 y2 y3 y4 y5 y6 y7 y8 y9 y10 y11 y12 => xL Uae 10 K .ret [.bx 74 [vI y1, vH y2, vH y3, vH y4, vH y5, vB y6, .p (.clo 35 [.fb [.v (.int .i64 y7), .sh y8], .fb [.sh y9], .fb [.sh y10], .fb [.sh y11]])], vI y12]) (fun y1 y2 y3 y4 y5 y6 y7 y8 y9 y10 y11 => xL Uae 10 K (.exit 2) [.bx 74 [vI y1, vH y2, vH y3, vH y4, vH y5, vB y6, .p (.clo 35 [.fb [.v (.int .i64 y7), .sh y8], .fb [.sh y9], .fb [.sh y10], .fb [.sh y11]])], dD])
abbrev Utp (n : Nat) (K : Kc R) (l0 : UbC.T (O R)) : UbC.T (O R) := fun x1 x2 x3 x4 x5 x6 x7 x8 x9 x10 x11 x12 x13 x14 => Uf6 n l0 x1 x2 x3 x4 x5 x6 x7 x8 x9 x10 x11 x12 x13 x14 (fun y1 y2 y3 y4 y5 y6 y7 y8 y9 y10 y11 y12 => xL Uae 10 K .ret [.bx 74 [vI y1, vH y2, vH y3, vH y4, vH y5, vB y6, .p (.clo 35 [.fb [.v (.int .i64 y7), .sh y8], .fb [.sh y9], .fb [.sh y10], .fb [.sh y11]])], vI y12]) (fun y1 y2 y3 y4 y5 y6 y7 y8 y9 y10 y11 => xL Uae 10 K (.exit 2) [.bx 74 [vI y1, vH y2, vH y3, vH y4, vH y5, vB y6, .p (.clo 35 [.fb [.v (.int .i64 y7), .sh y8], .fb [.sh y9], .fb [.sh y10], .fb [.sh y11]])], dD])
abbrev UeH (n m : Nat) (K : Kc R) : UbD.T (O R) := fun x1 x2 x3 x4 x5 x6 x7 x8 x9 x10 x11 x12 x13 => UdH n m x1 x2 x3 x4 x5 x6 x7 x8 x9 x10 x11 x12 x13 (fun y1 y2 y3 y4 y5 y6 y7 y8 y9 y10 y11 => xL Uae 10 K .ret [.bx 74 [vI y1, vH y2, vH y3, vH y4, vH y5, vB y6, .p (.clo 59 [.fb [.sh y7], .fb [.v (.int .i64 y8), .sh y9], .fb [.sh y10]])], vI y11]) (fun y1 y2 y3 y4 y5 y6 y7 y8 y9 y10 => xL Uae 10 K (.exit 2) [.bx 74 [vI y1, vH y2, vH y3, vH y4, vH y5, vB y6, .p (.clo 59 [.fb [.sh y7], .fb [.v (.int .i64 y8), .sh y9], .fb [.sh y10]])], dD])
abbrev Utq (n : Nat) (K : Kc R) (l0 : UbD.T (O R)) : UbD.T (O R) := fun x1 x2 x3 x4 x5 x6 x7 x8 x9 x10 x11 x12 x13 => Uf7 n l0 x1 x2 x3 x4 x5 x6 x7 x8 x9 x10 x11 x12 x13 (fun y1 y2 y3 y4 y5 y6 y7 y8 y9 y10 y11 => xL Uae 10 K .ret [.bx 74 [vI y1, vH y2, vH y3, vH y4, vH y5, vB y6, .p (.clo 59 [.fb [.sh y7], .fb [.v (.int .i64 y8), .sh y9], .fb [.sh y10]])], vI y11]) (fun y1 y2 y3 y4 y5 y6 y7 y8 y9 y10 => xL Uae 10 K (.exit 2) [.bx 74 [vI y1, vH y2, vH y3, vH y4, vH y5, vB y6, .p (.clo 59 [.fb [.sh y7], .fb [.v (.int .i64 y8), .sh y9], .fb [.sh y10]])], dD])
abbrev UfU (n : Nat) : Orc R := fun i vs K => JfQ (Nat.beq i 10) (Jjm (UbB.ap vs (UeF n n K)) (Jjm (UbC.ap vs (UeG n n K)) (Jjm (UbD.ap vs (UeH n n K)) (JcE Uae 10 (E32 n Udo) n vs K)))) ((fun i vs K => JfQ (Nat.beq i 4) (Jjm (UcH.ap vs (Uhd n n K)) (Jjm (UcI.ap vs (Uhe n n K)) (Jjm (UcJ.ap vs (Uhf n n K)) (JcE Uae 4 (E32 n UfY) n vs K)))) (oN i vs K)) i vs K)
abbrev UfT (n : Nat) : Orc R := fun i vs K => JfQ (Nat.beq i 23) (Jjm (UiD.ap vs (UmA n K)) (Jjm (UiE.ap vs (UmB n K)) (Jjm (UiF.ap vs (UmC n K)) (Jkp Uae 23 (E32 n Ujy) vs K)))) ((fun i vs K => JfQ (Nat.beq i 17) (Jjm (UiA.ap vs (Umx n K)) (Jjm (UiB.ap vs (Umy n K)) (Jjm (UiC.ap vs (Umz n K)) (Jkp Uae 17 (E32 n Ujx) vs K)))) ((fun i vs K => JfQ (Nat.beq i 3) (Jjm (UkQ.ap vs (Uq7 n K)) (Jjm (UkR.ap vs (Uq8 n K)) (Jjm (UkS.ap vs (Uq9 n K)) (Jkp Uae 3 (E32 n UoF) vs K)))) (oN i vs K)) i vs K)) i vs K)
abbrev K32 (R : Type) (n : Nat) := JcK (R := R) Tryz.prog (Ug6 n) Uae n (97, []) (UfU n) (UfT n)
theorem Ukq (n : Nat) : Jfb (K32 R n) (JaJ Uae UfY) := pO pN (by kernel_rfl)
theorem Uyd (n : Nat) : ∀ m (K : Kc R), UcH.all (fun vs r => JcE Uae 4 (JcX Tryz.prog (Ug6 n) Uae (97, []) (UfU n) (UfT n) UfY) m vs K = r) (Uhd n m K) := JiK (F := Uhd n) UcH (UxS n) (fun K _ _ _ _ _ _ _ _ _ _ _ _ => rfl) (fun _ _ => rfl) (fun L K _ _ _ _ _ _ _ _ _ _ _ _ => by show _ = _; kernel_rfl)
theorem Uye (n : Nat) : ∀ m (K : Kc R), UcI.all (fun vs r => JcE Uae 4 (JcX Tryz.prog (Ug6 n) Uae (97, []) (UfU n) (UfT n) UfY) m vs K = r) (Uhe n m K) := JiK (F := Uhe n) UcI (UxT n) (fun K _ _ _ _ _ _ _ _ _ _ _ _ _ _ => rfl) (fun _ _ => rfl) (fun L K _ _ _ _ _ _ _ _ _ _ _ _ _ _ => by show _ = _; kernel_rfl)
theorem Uyf (n : Nat) : ∀ m (K : Kc R), UcJ.all (fun vs r => JcE Uae 4 (JcX Tryz.prog (Ug6 n) Uae (97, []) (UfU n) (UfT n) UfY) m vs K = r) (Uhf n m K) := JiK (F := Uhf n) UcJ (UxU n) (fun K _ _ _ _ _ _ _ _ _ _ _ _ _ => rfl) (fun _ _ => rfl) (fun L K _ _ _ _ _ _ _ _ _ _ _ _ _ => by show _ = _; kernel_rfl)
theorem UD0 (n : Nat) : K32 R n (false, 4, UfY) := JkM (lo := UfU n) (cu := UfT n) (Ukq n) UcH (Uhd n n) (Uyd n n) (JkM (lo := UfU n) (cu := UfT n) (Ukq n) UcI (Uhe n n) (Uye n n) (JkM (lo := UfU n) (cu := UfT n) (Ukq n) UcJ (Uhf n n) (Uyf n n) fun _ _ => rfl))
theorem Ui (n : Nat) : Jfb (K32 R n) (JaJ Uae Udo) := pO pN (by kernel_rfl)
theorem UtB (n : Nat) : ∀ m (K : Kc R), UbB.all (fun vs r => JcE Uae 10 (JcX Tryz.prog (Ug6 n) Uae (97, []) (UfU n) (UfT n) Udo) m vs K = r) (UeF n m K) := JiK (F := UeF n) UbB (Uto n) (fun K _ _ _ _ _ _ _ _ _ _ _ _ => rfl) (fun _ _ => rfl) (fun L K _ _ _ _ _ _ _ _ _ _ _ _ => by show _ = _; kernel_rfl)
theorem UtC (n : Nat) : ∀ m (K : Kc R), UbC.all (fun vs r => JcE Uae 10 (JcX Tryz.prog (Ug6 n) Uae (97, []) (UfU n) (UfT n) Udo) m vs K = r) (UeG n m K) := JiK (F := UeG n) UbC (Utp n) (fun K _ _ _ _ _ _ _ _ _ _ _ _ _ _ => rfl) (fun _ _ => rfl) (fun L K _ _ _ _ _ _ _ _ _ _ _ _ _ _ => by show _ = _; kernel_rfl)
theorem UtD (n : Nat) : ∀ m (K : Kc R), UbD.all (fun vs r => JcE Uae 10 (JcX Tryz.prog (Ug6 n) Uae (97, []) (UfU n) (UfT n) Udo) m vs K = r) (UeH n m K) := JiK (F := UeH n) UbD (Utq n) (fun K _ _ _ _ _ _ _ _ _ _ _ _ _ => rfl) (fun _ _ => rfl) (fun L K _ _ _ _ _ _ _ _ _ _ _ _ _ => by show _ = _; kernel_rfl)
theorem Uz7 (n : Nat) : K32 R n (false, 10, Udo) := JkM (lo := UfU n) (cu := UfT n) (Ui n) UbB (UeF n n) (UtB n n) (JkM (lo := UfU n) (cu := UfT n) (Ui n) UbC (UeG n n) (UtC n n) (JkM (lo := UfU n) (cu := UfT n) (Ui n) UbD (UeH n n) (UtD n n) fun _ _ => rfl))
theorem Uh9 (n : Nat) : Jfb (K32 R n) (JaJ Uae Ujy) := pO pN (by kernel_rfl)
theorem Uz6 (n : Nat) : K32 R n (true, 23, Ujy) := Jk3 (lo := UfU n) (cu := UfT n) (Uh9 n) UiD (UmA n) (fun K _ _ _ _ _ _ _ _ _ => by show _ = _; kernel_rfl) (Jk3 (lo := UfU n) (cu := UfT n) (Uh9 n) UiE (UmB n) (fun K _ _ _ _ _ _ _ _ _ _ _ => by show _ = _; kernel_rfl) (Jk3 (lo := UfU n) (cu := UfT n) (Uh9 n) UiF (UmC n) (fun K _ _ _ _ _ _ _ _ _ _ => by show _ = _; kernel_rfl) fun _ _ => rfl))
theorem Uh8 (n : Nat) : Jfb (K32 R n) (JaJ Uae Ujx) := pO (pC (Uz6 n) pN) (by kernel_rfl)
theorem Uz5 (n : Nat) : K32 R n (true, 17, Ujx) := Jk3 (lo := UfU n) (cu := UfT n) (Uh8 n) UiA (Umx n) (fun K _ _ _ _ _ _ _ _ _ => by show _ = _; kernel_rfl) (Jk3 (lo := UfU n) (cu := UfT n) (Uh8 n) UiB (Umy n) (fun K _ _ _ _ _ _ _ _ _ _ _ => by show _ = _; kernel_rfl) (Jk3 (lo := UfU n) (cu := UfT n) (Uh8 n) UiC (Umz n) (fun K _ _ _ _ _ _ _ _ _ _ => by show _ = _; kernel_rfl) fun _ _ => rfl))
theorem Ukp (n : Nat) : Jfb (K32 R n) (JaJ Uae UoF) := pO (pC (UD0 n) (pC (Uz7 n) (pC (Uz5 n) pN))) (by kernel_rfl)
theorem UDZ (n : Nat) : K32 R n (true, 3, UoF) := Jk3 (lo := UfU n) (cu := UfT n) (Ukp n) UkQ (Uq7 n) (fun K _ _ _ _ _ _ _ _ _ => by show _ = _; kernel_rfl) (Jk3 (lo := UfU n) (cu := UfT n) (Ukp n) UkR (Uq8 n) (fun K _ _ _ _ _ _ _ _ _ _ _ => by show _ = _; kernel_rfl) (Jk3 (lo := UfU n) (cu := UfT n) (Ukp n) UkS (Uq9 n) (fun K _ _ _ _ _ _ _ _ _ _ => by show _ = _; kernel_rfl) fun _ _ => rfl))
theorem UIb (n : Nat) : Jfb (K32 R n) (JaJ Uae (Jls Tryz.f32)) := pO (pC (UDZ n) pN) (by kernel_rfl)
abbrev UIS : Sl (List SV) := (.c (sP (JlP (.c (JlC .i64) (.c sSh (.c sSh (.c sSh (.c sSh (.c Jlm (.c (JlQ 29 (.c (sFb (.c (JlC .i64) (.c sSh .n))) (.c (sFb (.c sSh .n)) .n))) .n))))))))) .n)
abbrev UJC (n : Nat) (K : List SV → O R) : UIS.T (O R) := fun x1 x2 x3 x4 x5 x6 x7 x8 x9 => p32 n x1 x2 x3 x4 x5 x6 x7 x8 x9 (fun y1 => K [vI y1])
abbrev UIT : Sl (List SV) := (.c (sP (JlP (.c (JlC .i64) (.c sSh (.c sSh (.c sSh (.c sSh (.c Jlm (.c (JlQ 35 (.c (sFb (.c (JlC .i64) (.c sSh .n))) (.c (sFb (.c sSh .n)) (.c (sFb (.c sSh .n)) (.c (sFb (.c sSh .n)) .n))))) .n))))))))) .n)
abbrev UJD (n : Nat) (K : List SV → O R) : UIT.T (O R) := fun x1 x2 x3 x4 x5 x6 x7 x8 x9 x10 x11 => UDy n x1 x2 x3 x4 x5 x6 x7 x8 x9 x10 x11 (fun y1 => K [vI y1])
abbrev UIU : Sl (List SV) := (.c (sP (JlP (.c (JlC .i64) (.c sSh (.c sSh (.c sSh (.c sSh (.c Jlm (.c (JlQ 59 (.c (sFb (.c sSh .n)) (.c (sFb (.c (JlC .i64) (.c sSh .n))) (.c (sFb (.c sSh .n)) .n)))) .n))))))))) .n)
abbrev UJE (n : Nat) (K : List SV → O R) : UIU.T (O R) := fun x1 x2 x3 x4 x5 x6 x7 x8 x9 x10 => UDz n x1 x2 x3 x4 x5 x6 x7 x8 x9 x10 (fun y1 => K [vI y1])
abbrev UE4 (n : Nat) : FS := { om := [false], run := fun args K => Jjm (UIS.ap args (UJC n K)) (Jjm (UIT.ap args (UJD n K)) (Jjm (UIU.ap args (UJE n K)) none)) }
theorem UHk (n : Nat) : FSound Tryz.prog GI 32 (UE4 n) := gd Uae n (Ug7 n) Tryz.func32 (.cons (Ug7 n) UIS (UJC n) (fun K _ _ _ _ _ _ _ _ _ => (Jkx (c := Jls Tryz.f32) (by kernel_rfl) (UIb n) K).trans (by kernel_rfl)) (.cons (Ug7 n) UIT (UJD n) (fun K _ _ _ _ _ _ _ _ _ _ _ => (Jkx (c := Jls Tryz.f32) (by kernel_rfl) (UIb n) K).trans (by kernel_rfl)) (.cons (Ug7 n) UIU (UJE n) (fun K _ _ _ _ _ _ _ _ _ _ => (Jkx (c := Jls Tryz.f32) (by kernel_rfl) (UIb n) K).trans (by kernel_rfl)) .nil))) (by kernel_rfl)
def UwR : Ann := { loops := [], cuts := [], frz := [], rm := [.id] }
abbrev UBH (n : Nat) : Env := eC 32 (UE4 n) eN
theorem Upu (n : Nat) : EnvOK Tryz.prog GI (UBH n) := .cons (.nil) (UHk n)
def p12 (n : Nat) (x1 : Int) (x2 x3 : LP) (k0 : Int → O R) : O R :=
  p32 n x1 x2 [] [] x3 true x1 x2 x3 (fun y4 => k0 y4)
abbrev UMg (n : Nat) : Orc R := oN
abbrev ULA (n : Nat) : Orc R := oN
abbrev K12 (R : Type) (n : Nat) := JcK (R := R) Tryz.prog (UBH n) UwR n (10, []) (UMg n) (ULA n)
theorem UNC (n : Nat) : Jfb (K12 R n) (JaJ UwR (Jls Tryz.f12)) := pO pN (by kernel_rfl)
abbrev t12 : Sl (List SV) := (.c (sP (JlP (.c (JlC .i64) (.c sSh .n)))) (cH .n))
abbrev f12 (n : Nat) (K : List SV → O R) : t12.T (O R) := fun x1 x2 x3 => p12 n x1 x2 x3 (fun y1 => K [vI y1])
abbrev UF6 (n : Nat) : FS := fT [false, false] t12 (f12 n)
theorem UKL (n : Nat) : FSound Tryz.prog GI 12 (UF6 n) := gd UwR n (Upu n) Tryz.func12 (.cons (Upu n) t12 (f12 n) (fun K _ _ _ => (Jkx (c := Jls Tryz.f12) (by kernel_rfl) (UNC n) K).trans (by kernel_rfl)) .nil) (by kernel_rfl)
end
end Go.Proofs.YtmgfmlhdnadglaaGreatDoor
set_option linter.unusedVariables false
set_option linter.unusedSimpArgs false
namespace Go.Proofs.YtmgfmlhdnadglaaGreatDoor
open Go Th Go.Proofs
variable {R : Type}
theorem Ug3 {p : Rat} : Ulr p 0 < 0 ↔ p < 0 := by
  rcases tri p 0 with h | h | h
  · rw [UoV h]; exact ⟨fun _ => h, fun _ => by decide⟩
  · rw [h, UiQ]; exact ⟨fun q => absurd q (by decide), fun q => absurd q (by decide)⟩
  · rw [UoU h]; exact ⟨fun q => absurd q (by decide), fun q => absurd (Rat.le_of_lt h) (Rat.not_le.2 q)⟩
theorem UoT {p : Rat} : Ulr p 0 > 0 ↔ 0 < p := by
  rcases tri p 0 with h | h | h
  · rw [UoV h]; exact ⟨fun q => absurd q (by decide), fun q => absurd (Rat.le_of_lt h) (Rat.not_le.2 q)⟩
  · rw [h, UiQ]; exact ⟨fun q => absurd q (by decide), fun q => absurd q (by decide)⟩
  · rw [UoU h]; exact ⟨fun _ => h, fun _ => by decide⟩
theorem UFG (n : Nat) (hn : 10 ^ 1000 ≤ n) (p : Rat) (hp : Ual p) (k0 : Int → Option R) : p19 n (bs (Uag p)) (bs [48]) k0 = k0 (Ulr p 0) := by
  rw [← Ujd]; exact UwL n hn p 0 hp UeA k0
structure okRM (cols : Int) (rows : List RowT) (mult : List (List UInt8)) : Prop where
  hc : cols ≤ 2048
  few : rows.length ≤ 2048
  len : mult.length = rows.length
  hr : ∀ r ∈ rows, okR cols r = true
  hm : ∀ m ∈ mult, qb m = true
noncomputable def zsR (rows : List RowT) (mult : List (List UInt8)) : List (SpR × Rat) := (rows.zip mult).map fun x => (spR x.1, rq x.2)
theorem UeM {a b : Int} (h : a ≤ b) {r : SpR} (hr : okF a r) : okF b r := ⟨⟨hr.1.1, UtS h hr.1.2⟩, hr.2⟩
theorem UI1 {cols : Int} {rows : List RowT} {mult : List (List UInt8)} (h : okRM cols rows mult) : ∀ y ∈ zsR rows mult, okF cols y.1 := by
  intro y hy
  obtain ⟨x, hx, rfl⟩ := List.mem_map.1 hy
  exact (Uf4 (h.hr _ (List.of_mem_zip hx).1)).1
theorem Uk3 : ∀ {cols : Int}, okF cols ([], 0) := fun {cols} => ⟨⟨trivial, fun t ht => (by cases ht)⟩, UeA⟩
theorem Uft {α β σ : Type} (f : α → β) (step : σ → β → Option σ) : ∀ (l : List α) (s : σ), UaO (fun s a => step s (f a)) s l = UaO step s (l.map f)
  | [], s => rfl
  | a :: l, s => by
    rw [List.map_cons, UaO, UaO]
    congr 1
    funext s'
    exact Uft f step l s'
theorem Uf0 : ∀ (l : List (SpR × Rat)) (s : SpR), Ucw l s = UaO (fun s x => UeC x.2 x.1 s) s l
  | [], s => rfl
  | x :: l, s => by
    rw [Ucw, UaO]
    congr 1
    funext s'
    exact Uf0 l s'
theorem UAt {cols : Int} {q : Rat} {r s x : SpR} (hr : okF cols r) (hs : okF cols s) (he : UeC q r s = some x) : okF cols x := by
  unfold UeC at he
  by_cases h0 : q = 0
  · rw [if_pos h0, Option.some.injEq] at he; rwa [← he]
  · rw [if_neg h0] at he
    obtain ⟨w, f1, f2⟩ := Option.bind_eq_some_iff.1 he
    exact (Uzo hs (Uux h0 hr f1).1 f2).1
theorem Uni (n : Nat) (hn : 10 ^ 1000 ≤ n) (cols : Int) (rows : List RowT) (mult : List (List UInt8)) (h : okRM cols rows mult) (k0 : List PV → ByteArray → Int → Option R) :
    p30 n cols (rws rows) (sl mult) k0 = Utd k0 (Ucw (zsR rows mult) ([], 0)) := by
  have hN := Uas (UaT hn)
  have hlen : (rows.zip mult).length = rows.length := by rw [List.length_zip, h.len]; omega
  have hf := h.few
  have hl := h.len
  unfold p30 Uwk
  have H := Udi (R := R) (l := rows.zip mult) (step := fun s x => UeC (rq x.2) (spR x.1) s) (kerr := k0 [] (bs []) 5) (kend := fun s => k0 (tms (vt s.1)) (bs (Uag s.2)) 0) (Inv := fun i s => okF 2048 s)
    (fun m s i => UdE n m (sl mult) cols (rws rows) ByteArray.empty (tms (vt s.1)) (bs (Uag s.2)) ((rws rows).length : Int) (i : Int) (fun y4 y5 y6 y7 y8 => k0 y4 y5 y6) (fun y9 y10 y11 => k0 y10 y11 0))
    (fun m s hs => by
      simp only [UdE, UhG]
      rw [hlen]
      simp (disch := (first | omega | (simp only [JlL]; omega))) only [↓JlO, JlM, Uab])
    (fun s s' i hi hs he => by
      have hr := h.hr _ (List.of_mem_zip (List.getElem_mem hi)).1
      exact UAt (UeM h.hc (Uf4 hr).1) hs he)
    (fun m s i hi hs => by
      have hi1 : i < rows.length := by omega
      have hi2 : i < mult.length := by omega
      have e0 : (rows.zip mult)[i] = (rows[i], mult[i]) := List.getElem_zip
      rw [e0]
      have hr := h.hr rows[i] (List.getElem_mem hi1)
      have hq := h.hm mult[i] (List.getElem_mem hi2)
      obtain ⟨o1, o2, o3⟩ := Uf4 hr
      obtain ⟨m1, m2⟩ := UsI hq
      have o1' := UeM h.hc o1
      simp only [UdE, UhG]
      show _ = UAD _ _ (UeC (rq mult[i]) (spR rows[i]) s)
      unfold UeC
      by_cases h0 : rq mult[i] = 0
      · have e3 : (mult[i] == [48]) = true := Ujv (by rw [m2, h0, Ujd])
        rw [if_pos h0]
        simp (disch := (first | omega | (simp only [JlL]; omega))) only [↓JlO, JlM, Uab, Uaj, Jjo, UbU hi2, i1, e3]
        rfl
      · have e3 : (mult[i] == [48]) = false := UiN (by rw [m2]; exact fun q => h0 (Uew.1 q))
        have g1 : ∀ k : List PV → ByteArray → Int → Option R, p74 n (tms (rows[i]).tm) (bs (rows[i]).c) (bs mult[i]) k = Utd k (tmO (rq mult[i]) (spR rows[i])) := fun k => by
          rw [o2, o3, m2]
          have := UrF (R := R) n hn o1' m1 h0 k
          rw [← m2, ← o2, ← o3] at this ⊢
          exact this
        rw [if_neg h0]
        simp (disch := (first | omega | (simp only [JlL]; omega))) only [↓JlO, JlM, Uab, Uaj, Jjo, UbU hi2, UaJ hi1, i1, e3, g1]
        cases h1 : tmO (rq mult[i]) (spR rows[i]) with
        | none => rfl
        | some x =>
          have hx := (Uux h0 o1' h1).1
          have g2 : ∀ k : List PV → ByteArray → Int → Option R, p75 n (tms (vt s.1)) (bs (Uag s.2)) (tms (vt x.1)) (bs (Uag x.2)) k = Utd k (plO s x) := fun k => UyR n hn hs hx k
          simp only [Utd, UnE, Uak, g2, Option.bind_some]
          cases plO s x <;> rfl) rows.length n 0 ([], 0) (by omega) (by omega) Uk3
  rw [List.drop_zero, Uft (fun x : RowT × List UInt8 => (spR x.1, rq x.2)) (fun s x => UeC x.2 x.1 s), ← Uf0] at H
  have e48 : (⟨#[48]⟩ : ByteArray) = bs (Uag 0) := by rw [Ujd]; rfl
  rw [e48]
  refine Eq.trans H ?_
  unfold zsR
  cases Ucw ((rows.zip mult).map fun x => (spR x.1, rq x.2)) ([], 0) <;> rfl
noncomputable def UwP (x : RowT × List UInt8) : Bool := x.1.eq || !decide (rq x.2 < 0)
noncomputable def adm (rows : List RowT) (mult : List (List UInt8)) : Bool := (rows.zip mult).all UwP
theorem UgP (n : Nat) (hn : 10 ^ 1000 ≤ n) (cols : Int) (rows : List RowT) (mult : List (List UInt8)) (h : okRM cols rows mult) (k0 : Bool → Option R) :
    p31 n cols (rws rows) (sl mult) k0 = k0 (adm rows mult) := by
  have hN := Uas (UaT hn)
  have hlen : (rows.zip mult).length = rows.length := by rw [List.length_zip, h.len]; omega
  have hf := h.few
  have hl := h.len
  unfold p31 Uwl
  have H := Uao (R := R) (l := rows.zip mult) (ok := UwP) (kbad := k0 false) (kend := k0 true)
    (fun m i => UdF n m (sl mult) cols (rws rows) ((rws rows).length : Int) (i : Int) (fun y4 => k0 y4) (k0 true))
    (fun m => by
      simp only [UdF, UhH]
      rw [hlen]
      simp (disch := (first | omega | (simp only [JlL]; omega))) only [↓JlO, JlM, Uab])
    (fun m i hi => by
      have hi1 : i < rows.length := by omega
      have hi2 : i < mult.length := by omega
      have e0 : (rows.zip mult)[i] = (rows[i], mult[i]) := List.getElem_zip
      rw [e0]
      obtain ⟨m1, m2⟩ := UsI (h.hm mult[i] (List.getElem_mem hi2))
      have g1 : ∀ k : Int → Option R, p19 n (bs mult[i]) (bs [48]) k = k (Ulr (rq mult[i]) 0) := fun k => by
        have := UFG (R := R) n hn (rq mult[i]) m1 k
        rw [← m2] at this
        exact this
      simp only [UdF, UhH, UwP]
      rcases Bool.eq_false_or_eq_true (rows[i]).eq with he | he
      · simp (disch := (first | omega | (simp only [JlL]; omega))) only [↓JlO, JlM, Uab, Uaj, Jjo, UbU hi2, UaJ hi1, i1, he]
        simp [he]
      · by_cases h0 : rq mult[i] < 0
        · have h0' := Ug3.2 h0
          simp (disch := (first | omega | (simp only [JlL]; omega))) only [↓JlO, JlM, Uab, Uaj, Jjo, UbU hi2, UaJ hi1, i1, he, g1]
          simp [h0]
        · have h0' : ¬ Ulr (rq mult[i]) 0 < 0 := fun q => h0 (Ug3.1 q)
          simp (disch := (first | omega | (simp only [JlL]; omega))) only [↓JlO, JlM, Uab, Uaj, Jjo, UbU hi2, UaJ hi1, i1, he, g1]
          simp [h0]) rows.length n 0 (by omega) (by omega)
  rw [List.drop_zero] at H
  refine Eq.trans H ?_
  unfold adm
  cases (rows.zip mult).all UwP <;> rfl
noncomputable def Uno (rows : List RowT) (mult : List (List UInt8)) (x : SpR) : Bool := (x.1.all fun t => decide (t.2 ≤ 0)) && (adm rows mult && decide (x.2 < 0))
noncomputable def UyS (rows : List RowT) (mult : List (List UInt8)) : Option SpR → Int
  | none => 5
  | some x => if Uno rows mult x = true then 0 else 16
theorem UtZ (n : Nat) (hn : 10 ^ 1000 ≤ n) (cols : Int) (rows : List RowT) (mult : List (List UInt8)) (h : okRM cols rows mult) (k0 : Bool → Int → Option R) :
    p29 n cols (rws rows) (sl mult) k0 = match Ucw (zsR rows mult) ([], 0) with
      | none => k0 false 5
      | some x => k0 (Uno rows mult x) 0 := by
  have hN := Uas (UaT hn)
  unfold p29
  rw [Uni n hn cols rows mult h]
  cases hx : Ucw (zsR rows mult) ([], 0) with
  | none => rfl
  | some x =>
    have ox : okF 2048 x := Ux7 (fun y hy => UeM h.hc (UI1 h y hy)) Uk3 hx
    have hL := UbP ox.1
    have g0 := fun k => UgP (R := R) n hn cols rows mult h k
    have g1 := fun k => UFG (R := R) n hn x.2 ox.2 k
    simp only [Utd, UnE, Uak]
    have H := Uao (R := R) (l := x.1) (ok := fun t => decide (t.2 ≤ 0)) (kbad := k0 false 0) (kend := k0 (adm rows mult && decide (x.2 < 0)) 0)
      (fun m i => UdD n m cols (rws rows) (sl mult) (tms (vt x.1)) (bs (Uag x.2)) (tms (vt x.1)) ((tms (vt x.1)).length : Int) (i : Int) (fun y7 y8 y9 y10 y11 y12 y13 => k0 y10 y11)
        (fun y14 y15 y16 y17 y18 => p31 n y14 y15 y16 (fun y19 => bif y19 then (p19 n y18 ⟨#[48]⟩ (fun y20 => k0 (bif true then (decide (y20 < 0)) else false) 0)) else (k0 false 0))))
      (fun m => by
        simp only [UdD, UhF]
        simp (disch := (first | omega | (simp only [JlL]; omega))) only [↓JlO, JlM, Ua, Uaw, g0]
        cases adm rows mult with
        | false => rfl
        | true =>
          simp (disch := (first | omega | (simp only [JlL]; omega))) only [↓JlO, JlM, g1]
          by_cases h0 : x.2 < 0
          · have h0' := Ug3.2 h0
            simp [h0, h0']
          · have h0' : ¬ Ulr x.2 0 < 0 := fun q => h0 (Ug3.1 q)
            simp [h0, h0'])
      (fun m i hi => by
        have g2 := fun k => UFG (R := R) n hn (x.1[i]).2 (ox.1.2 _ (List.getElem_mem hi)).2.1 k
        simp only [UdD, UhF]
        by_cases h0 : 0 < (x.1[i]).2
        · have h0' := UoT.2 h0
          have h1 : ¬ (x.1[i]).2 ≤ 0 := Rat.not_le.2 h0
          simp (disch := (first | omega | (simp only [JlL]; omega))) only [↓JlO, JlM, Ua, Uaw, Jjo, UaK hi, i1, g2]
          simp [h1]
        · have h0' : ¬ Ulr (x.1[i]).2 0 > 0 := fun q => h0 (UoT.1 q)
          have h1 : (x.1[i]).2 ≤ 0 := Rat.not_lt.1 h0
          simp (disch := (first | omega | (simp only [JlL]; omega))) only [↓JlO, JlM, Ua, Uaw, Jjo, UaK hi, i1, g2] <;> simp [h1]) x.1.length n 0 (by omega) (by omega)
    rw [List.drop_zero] at H
    unfold Uwj
    refine Eq.trans H ?_
    unfold Uno
    cases (x.1.all fun t => decide (t.2 ≤ 0)) <;> rfl
noncomputable def Unp (cols : Int) (rows : List RowT) (mult : List (List UInt8)) : Int :=
  if Um9 cols rows ≠ 0 then 3 else if UuD mult = false then 3 else if mult.length ≠ rows.length then 6 else UyS rows mult (Ucw (zsR rows mult) ([], 0))
theorem UsP {cols : Int} {rows : List RowT} (h : Um9 cols rows = 0) : 0 ≤ cols ∧ cols ≤ 2048 ∧ rows.length ≤ 2048 ∧ ∀ r ∈ rows, okR cols r = true := by
  unfold Um9 at h
  by_cases h1 : cols < 0
  · rw [if_pos h1] at h; cases h
  rw [if_neg h1] at h
  by_cases h2 : cols > 2048
  · rw [if_pos h2] at h; cases h
  rw [if_neg h2] at h
  by_cases h3 : rows.length > 2048
  · rw [if_pos h3] at h; cases h
  rw [if_neg h3] at h
  cases h4 : rows.all (okR cols) with
  | false => rw [h4] at h; cases h
  | true => exact ⟨by omega, by omega, by omega, fun r hr => List.all_eq_true.1 h4 r hr⟩
theorem UrV {cols : Int} {rows : List RowT} {mult : List (List UInt8)} (h : Um9 cols rows = 0) (hm : UuD mult = true) (hl : mult.length = rows.length) : okRM cols rows mult := by
  obtain ⟨a, b, c, d⟩ := UsP h
  exact ⟨b, c, hl, d, fun m hm' => List.all_eq_true.1 hm m hm'⟩
theorem UrC (n : Nat) (hn : 10 ^ 1000 ≤ n) (cols : Int) (rows : List RowT) (mult : List (List UInt8)) (hr : smA rows) (hm : smS mult) (k0 : Int → Option R) :
    p12 n cols (rws rows) (sl mult) k0 = k0 (Unp cols rows mult) := by
  have hN := Uas (UaT hn)
  unfold p12 p32 Unp
  rw [UEL n (UaT hn) cols rows hr]
  by_cases h1 : Um9 cols rows = 0
  · obtain ⟨a, b, c, d⟩ := UsP h1
    have e1 : (Um9 cols rows != 0) = false := by rw [h1]; rfl
    have g1 : ∀ k : Bool → Option R, p76 n cols [] k = k true := fun k => by
      have := Utt (R := R) n (UaT hn) cols b [] ⟨by simp, by simp⟩ k
      exact this
    rw [e1, if_neg (by simp [h1])]
    simp only [Uak, g1, Bool.not_true, Unu n (UaT hn) mult hm]
    cases h2 : UuD mult with
    | false => rfl
    | true =>
      rw [if_neg (by decide)]
      unfold Usl Uwm Usm
      obtain ⟨m, rfl⟩ : ∃ m, n = m + 1 := ⟨n - 1, by omega⟩
      simp only [UhL, Ukh, Ue3, UhK]
      by_cases h3 : mult.length = rows.length
      · have e3 : ((mult.length : Int) != (rows.length : Int)) = false := by simp [h3]
        simp (disch := (first | omega | (simp only [JlL]; omega))) only [↓JlO, JlM, Uaj, Uab, e3, UhI, UhJ, UtZ (m + 1) hn cols rows mult (UrV h1 h2 h3)]
        cases Ucw (zsR rows mult) ([], 0) with
        | none => rfl
        | some x =>
          simp only [UyS]
          cases Uno rows mult x <;> rfl
      · have e3 : ((mult.length : Int) != (rows.length : Int)) = true := by simp; omega
        simp (disch := (first | omega | (simp only [JlL]; omega))) only [↓JlO, JlM, Uaj, Uab, e3]
  · have e1 : (Um9 cols rows != 0) = true := by simp [h1]
    rw [e1, if_pos h1]; rfl
end Go.Proofs.YtmgfmlhdnadglaaGreatDoor
set_option linter.unusedVariables false
set_option maxRecDepth 100000
namespace Go.Proofs.YtmgfmlhdnadglaaGreatDoor
open Go Th Go.Proofs
noncomputable section
variable {R : Type}
abbrev t45 : Sl (List SV) := (.c (sP (JlP (.c Jlm (.c sSh (.c Jlm (.c sSh .n)))))) .n)
def UnN : Ann := { loops := [], cuts := [], frz := [], rm := [.id] }
abbrev Uvt (n : Nat) : Env := eN
theorem UlN (n : Nat) : EnvOK Tryz.prog GI (Uvt n) := .nil
def UFo (n : Nat) (x1 : Bool) (x2 : LP) (k0 : Bool → O R) : O R :=
  k0 (decide (((x2).length : Int) > 400))
abbrev UGv (n : Nat) : Orc R := oN
abbrev UFL (n : Nat) : Orc R := oN
abbrev ULn (R : Type) (n : Nat) := JcK (R := R) Tryz.prog (Uvt n) UnN n (7, []) (UGv n) (UFL n)
theorem UHK (n : Nat) : Jfb (ULn R n) (JaJ UnN (Jls Tryz.f111)) := pO pN (by kernel_rfl)
abbrev UIq : Sl (List SV) := (.c (sP (JlP (.c Jlm (.c sSh .n)))) .n)
abbrev f111 (n : Nat) (K : List SV → O R) : UIq.T (O R) := fun x1 x2 => UFo n x1 x2 (fun y1 => K [vB y1])
abbrev UCy (n : Nat) : FS := fT [false] UIq (f111 n)
theorem UGU (n : Nat) : FSound Tryz.prog GI 111 (UCy n) := gd UnN n (UlN n) Tryz.func111 (.cons (UlN n) UIq (f111 n) (fun K _ _ => (Jkx (c := Jls Tryz.f111) (by kernel_rfl) (UHK n) K).trans (by kernel_rfl)) .nil) (by kernel_rfl)
def Uxc : Ann := { loops := [], cuts := [], frz := [], rm := [.id] }
abbrev UB3 (n : Nat) : Env := eC 111 (UCy n) eN
theorem Uqf (n : Nat) : EnvOK Tryz.prog GI (UB3 n) := .cons (.nil) (UGU n)
def p71 (n : Nat) (x1 : Bool) (x2 : LP) (x3 : Bool) (x4 : LP) (k0 : Bool → O R) : O R :=
  UFo n x1 x2 (fun y5 => bif y5 then (k0 true) else (UFo n x3 x4 (fun y6 => k0 (bif false then true else y6))))
abbrev UMC (n : Nat) : Orc R := oN
abbrev ULW (n : Nat) : Orc R := oN
abbrev K71 (R : Type) (n : Nat) := JcK (R := R) Tryz.prog (UB3 n) Uxc n (11, []) (UMC n) (ULW n)
theorem UOm (n : Nat) : Jfb (K71 R n) (JaJ Uxc (Jls Tryz.f71)) := pO pN (by kernel_rfl)
abbrev t71 : Sl (List SV) := (.c (sP (JlP (.c Jlm (.c sSh (.c Jlm (.c sSh .n)))))) .n)
abbrev f71 (n : Nat) (K : List SV → O R) : t71.T (O R) := fun x1 x2 x3 x4 => p71 n x1 x2 x3 x4 (fun y1 => K [vB y1])
abbrev UGg (n : Nat) : FS := fT [false] t71 (f71 n)
theorem UKW (n : Nat) : FSound Tryz.prog GI 71 (UGg n) := gd Uxc n (Uqf n) Tryz.func71 (.cons (Uqf n) t71 (f71 n) (fun K _ _ _ _ => (Jkx (c := Jls Tryz.f71) (by kernel_rfl) (UOm n) K).trans (by kernel_rfl)) .nil) (by kernel_rfl)
def Uxo : Ann := { loops := [], cuts := [], frz := [], rm := [.id] }
abbrev UCe (n : Nat) : Env := eC 124 (UyX n) (eC 123 (UrE n) (eC 89 (UF n) eN))
theorem Uqv (n : Nat) : EnvOK Tryz.prog GI (UCe n) := .cons (.cons (.cons (.nil) (UHq n)) (UtR n)) (UDh n)
def p91 (n : Nat) (x1 : Bool) (x2 : LP) (x3 : Bool) (x4 : LP) (x5 : Bool) (x6 : LP) (x7 : Bool) (x8 : LP) (k0 : Bool → LP → Bool → LP → O R) : O R :=
  p89 n x1 x2 x7 x8 (fun y9 y10 => p89 n x5 x6 x3 x4 (fun y11 y12 => UDs n y9 y10 y11 y12 (fun y13 y14 => p89 n x3 x4 x7 x8 (fun y15 y16 => Uwb n y13 y14 y15 y16 (fun y17 y18 y19 y20 => k0 y17 y18 y19 y20)))))
abbrev UMO (n : Nat) : Orc R := oN
abbrev UL8 (n : Nat) : Orc R := oN
abbrev K91 (R : Type) (n : Nat) := JcK (R := R) Tryz.prog (UCe n) Uxo n (22, []) (UMO n) (UL8 n)
theorem UOC (n : Nat) : Jfb (K91 R n) (JaJ Uxo (Jls Tryz.f91)) := pO pN (by kernel_rfl)
abbrev t91 : Sl (List SV) := (.c (sP (JlP (.c Jlm (.c sSh (.c Jlm (.c sSh .n)))))) (.c (sP (JlP (.c Jlm (.c sSh (.c Jlm (.c sSh .n)))))) .n))
abbrev f91 (n : Nat) (K : List SV → O R) : t91.T (O R) := fun x1 x2 x3 x4 x5 x6 x7 x8 => p91 n x1 x2 x3 x4 x5 x6 x7 x8 (fun y1 y2 y3 y4 => K [.p (.agg [.v (.bool y1), .sh y2, .v (.bool y3), .sh y4])])
abbrev UGl (n : Nat) : FS := fT [false, false] t91 (f91 n)
theorem UK1 (n : Nat) : FSound Tryz.prog GI 91 (UGl n) := gd Uxo n (Uqv n) Tryz.func91 (.cons (Uqv n) t91 (f91 n) (fun K _ _ _ _ _ _ _ _ => (Jkx (c := Jls Tryz.f91) (by kernel_rfl) (UOC n) K).trans (by kernel_rfl)) .nil) (by kernel_rfl)
def UnL : Ann := { loops := [], cuts := [], frz := [], rm := [.id] }
abbrev Uvr (n : Nat) : Env := eC 123 (UrE n) (eC 89 (UF n) eN)
theorem UlK (n : Nat) : EnvOK Tryz.prog GI (Uvr n) := .cons (.cons (.nil) (UHq n)) (UtR n)
def UAJ (n : Nat) (x1 : Bool) (x2 : LP) (x3 : Bool) (x4 : LP) (x5 : Bool) (x6 : LP) (x7 : Bool) (x8 : LP) (k0 : Bool → LP → Bool → LP → O R) : O R :=
  p89 n x1 x2 x5 x6 (fun y9 y10 => p89 n x3 x4 x7 x8 (fun y11 y12 => Uwb n y9 y10 y11 y12 (fun y13 y14 y15 y16 => k0 y13 y14 y15 y16)))
abbrev UGt (n : Nat) : Orc R := oN
abbrev UFJ (n : Nat) : Orc R := oN
abbrev ULl (R : Type) (n : Nat) := JcK (R := R) Tryz.prog (Uvr n) UnL n (16, []) (UGt n) (UFJ n)
theorem UHH (n : Nat) : Jfb (ULl R n) (JaJ UnL (Jls Tryz.f108)) := pO pN (by kernel_rfl)
abbrev UIn : Sl (List SV) := (.c (sP (JlP (.c Jlm (.c sSh (.c Jlm (.c sSh .n)))))) (.c (sP (JlP (.c Jlm (.c sSh (.c Jlm (.c sSh .n)))))) .n))
abbrev f108 (n : Nat) (K : List SV → O R) : UIn.T (O R) := fun x1 x2 x3 x4 x5 x6 x7 x8 => UAJ n x1 x2 x3 x4 x5 x6 x7 x8 (fun y1 y2 y3 y4 => K [.p (.agg [.v (.bool y1), .sh y2, .v (.bool y3), .sh y4])])
abbrev UCx (n : Nat) : FS := fT [false, false] UIn (f108 n)
theorem UGT (n : Nat) : FSound Tryz.prog GI 108 (UCx n) := gd UnL n (UlK n) Tryz.func108 (.cons (UlK n) UIn (f108 n) (fun K _ _ _ _ _ _ _ _ => (Jkx (c := Jls Tryz.f108) (by kernel_rfl) (UHH n) K).trans (by kernel_rfl)) .nil) (by kernel_rfl)
abbrev t44 : Sl (List SV) := (.c (sP (JlP (.c Jlm (.c sSh (.c Jlm (.c sSh .n)))))) (.c (sP (JlP (.c Jlm (.c sSh (.c Jlm (.c sSh .n)))))) .n))
def Uxd : Ann := { loops := [], cuts := [], frz := [], rm := [.id] }
abbrev UB4 (n : Nat) : Env := eC 77 (UC1 n) eN
theorem Uqg (n : Nat) : EnvOK Tryz.prog GI (UB4 n) := .cons (.nil) (UFl n)
def p72 (n : Nat) (x1 : Bool) (x2 : LP) (x3 : Bool) (x4 : LP) (k0 : Bool → O R) : O R :=
  p77 n x1 x2 (fun y5 => k0 y5)
abbrev UMD (n : Nat) : Orc R := oN
abbrev ULX (n : Nat) : Orc R := oN
abbrev K72 (R : Type) (n : Nat) := JcK (R := R) Tryz.prog (UB4 n) Uxd n (6, []) (UMD n) (ULX n)
theorem UOn (n : Nat) : Jfb (K72 R n) (JaJ Uxd (Jls Tryz.f72)) := pO pN (by kernel_rfl)
abbrev t72 : Sl (List SV) := (.c (sP (JlP (.c Jlm (.c sSh (.c Jlm (.c sSh .n)))))) .n)
abbrev f72 (n : Nat) (K : List SV → O R) : t72.T (O R) := fun x1 x2 x3 x4 => p72 n x1 x2 x3 x4 (fun y1 => K [vB y1])
abbrev UKf (n : Nat) : FS := fT [false] t72 (f72 n)
theorem UNn (n : Nat) : FSound Tryz.prog GI 72 (UKf n) := gd Uxd n (Uqg n) Tryz.func72 (.cons (Uqg n) t72 (f72 n) (fun K _ _ _ _ => (Jkx (c := Jls Tryz.f72) (by kernel_rfl) (UOn n) K).trans (by kernel_rfl)) .nil) (by kernel_rfl)
end
end Go.Proofs.YtmgfmlhdnadglaaGreatDoor
set_option linter.unusedVariables false
set_option linter.unusedSimpArgs false
namespace Go.Proofs.YtmgfmlhdnadglaaGreatDoor
open Go Th Go.Proofs
variable {R : Type}
theorem Ucz {q : Rat} : Ual q ↔ ll q.num.natAbs ≤ 400 ∧ ll q.den ≤ 400 := by
  unfold Ual; rw [Udv, Udv]
theorem Une (p q : Rat) : Rat.divInt (p.num * q.den + q.num * p.den) ((p.den * q.den : Nat) : Int) = p + q := by rw [Rat.divInt_ofNat, Uv6]
theorem Unt (p q : Rat) : Rat.divInt (p.num * q.num) ((p.den * q.den : Nat) : Int) = p * q := by rw [Rat.divInt_ofNat, Uv7]
theorem Uj7 {x y : Int} {i j : Nat} (hx : ll x.natAbs ≤ i) (hy : ll y.natAbs ≤ j) : ll (x * y).natAbs ≤ i + j := by
  rw [Int.natAbs_mul]
  exact Nat.le_trans (UmJ _ _) (Nat.add_le_add hx hy)
theorem Uz {x y : Int} {i : Nat} (hx : ll x.natAbs ≤ i) (hy : ll y.natAbs ≤ i) : ll (x + y).natAbs ≤ i + 1 :=
  Nat.le_trans (Ua7 (Int.natAbs_add_le x y)) (Uv3 hx hy)
theorem Ubd (a : Nat) : ll ((a : Int)).natAbs = ll a := by rw [Int.natAbs_natCast]
section
variable (n : Nat) (hn : 10 ^ 1000 ≤ n) (p q : Rat) (hp : Ual p) (hq : Ual q)
include hp hq
include hn
theorem UfM (k0 : Bool → List PV → Bool → List PV → Option R) : p91 n (sg p.num) (II p.num.natAbs) false (II p.den) (sg q.num) (II q.num.natAbs) false (II q.den) k0 = k0 (sg (p + q).num) (II (p + q).num.natAbs) false (II (p + q).den) := by
  obtain ⟨a1, a2⟩ := Ucz.1 hp
  obtain ⟨b1, b2⟩ := Ucz.1 hq
  have hN := Uas (UaT hn)
  have hw : ((p.den * q.den : Nat) : Int) ≠ 0 := by have := Nat.mul_ne_zero p.den_nz q.den_nz; omega
  have m1 := fun k => Ud1 (R := R) n p.num (q.den : Int) (by omega) (by rw [Ubd]; omega) hN k
  have m2 := fun k => Ud1 (R := R) n q.num (p.den : Int) (by omega) (by rw [Ubd]; omega) hN k
  have m3 := fun k => Ud1 (R := R) n (p.den : Int) (q.den : Int) (by rw [Ubd]; omega) (by rw [Ubd]; omega) hN k
  have l1 : ll (p.num * (q.den : Int)).natAbs ≤ 800 := Uj7 a1 (by rw [Ubd]; exact b2)
  have l2 : ll (q.num * (p.den : Int)).natAbs ≤ 800 := Uj7 b1 (by rw [Ubd]; exact a2)
  have l3 := Uz l1 l2
  have l4 : ll ((p.den * q.den : Nat) : Int).natAbs ≤ 800 := by rw [Ubd]; exact Nat.le_trans (UmJ _ _) (by omega)
  have m4 := fun k => UsE (R := R) n (p.num * (q.den : Int)) (q.num * (p.den : Int)) (by omega) (by omega) hN k
  have m5 := fun k => UrT (R := R) n (p.num * (q.den : Int) + q.num * (p.den : Int)) ((p.den * q.den : Nat) : Int) hw (by omega) (by omega) hN (by rw [Int.natAbs_natCast]; exact UFf hn hp.2 hq.2) k
  rw [Une] at m5
  have e : (p.den : Int) * (q.den : Int) = ((p.den * q.den : Nat) : Int) := by rw [Int.natCast_mul]
  rw [e] at m3
  simp only [UbV, Int.natAbs_natCast] at m1 m2 m3 m5
  simp only [p91, m1, m2, m3, m4, m5]
theorem Ujb (k0 : Bool → List PV → Bool → List PV → Option R) : UAJ n (sg p.num) (II p.num.natAbs) false (II p.den) (sg q.num) (II q.num.natAbs) false (II q.den) k0 = k0 (sg (p * q).num) (II (p * q).num.natAbs) false (II (p * q).den) := by
  obtain ⟨a1, a2⟩ := Ucz.1 hp
  obtain ⟨b1, b2⟩ := Ucz.1 hq
  have hN := Uas (UaT hn)
  have hw : ((p.den * q.den : Nat) : Int) ≠ 0 := by have := Nat.mul_ne_zero p.den_nz q.den_nz; omega
  have m1 := fun k => Ud1 (R := R) n p.num q.num (by omega) (by omega) hN k
  have m3 := fun k => Ud1 (R := R) n (p.den : Int) (q.den : Int) (by rw [Ubd]; omega) (by rw [Ubd]; omega) hN k
  have l1 : ll (p.num * q.num).natAbs ≤ 800 := Uj7 a1 b1
  have l4 : ll ((p.den * q.den : Nat) : Int).natAbs ≤ 800 := by rw [Ubd]; exact Nat.le_trans (UmJ _ _) (by omega)
  have m5 := fun k => UrT (R := R) n (p.num * q.num) ((p.den * q.den : Nat) : Int) hw (by omega) (by omega) hN (by rw [Int.natAbs_natCast]; exact UFf hn hp.2 hq.2) k
  rw [Unt] at m5
  have e : (p.den : Int) * (q.den : Int) = ((p.den * q.den : Nat) : Int) := by rw [Int.natCast_mul]
  rw [e] at m3
  simp only [UbV, Int.natAbs_natCast] at m1 m3 m5
  simp only [UAJ, m1, m3, m5]
end
end Go.Proofs.YtmgfmlhdnadglaaGreatDoor
set_option linter.unusedVariables false
set_option maxRecDepth 100000
namespace Go.Proofs.YtmgfmlhdnadglaaGreatDoor
open Go Th Go.Proofs
noncomputable section
variable {R : Type}
def Ufl : Ann := { loops := [(3, [(1, .id), (5, .own 66), (6, .id)], ids [1, 2, 3, 4, 5])], cuts := [(4, ids [1, 5, 6], ids [1, 2, 3, 4, 5, 6])], frz := [], rm := [.sh, .id, .id] }
abbrev Uyn (n : Nat) : Env := eC 73 (UGh n) (eC 72 (UKf n) (eC 71 (UGg n) eN))
theorem UpF (n : Nat) : EnvOK Tryz.prog GI (Uyn n) := .cons (.cons (.cons (.nil) (UKW n)) (UNn n)) (UKX n)
def Uf5 (n : Nat) (x1 : LP) (x2 : Bool) (x3 : LP) (x4 : Bool) (x5 x6 : LP) (x7 : Int) (k0 : LP → Bool → LP → Bool → LP → LP → Int → O R) : O R :=
  k0 x1 x2 x3 x4 x5 x6 (IntKind.i64.wrap (x7 + 1))
def UdB (n : Nat) (l0 : LP → Bool → LP → Bool → LP → LP → Int → O R) (x1 : LP) (x2 : Bool) (x3 : LP) (x4 : Bool) (x5 x6 : LP) (x7 : Int) (k0 : LP → Bool → LP → Bool → LP → ByteArray → Int → LP → O R) (k1 : LP → Bool → LP → Bool → LP → LP → O R) : O R :=
  bif (decide (x7 < ((x1).length : Int))) then (bif (inR x7 ((x1).length)) then (Jh8 ((x1).getD ((x7 : Int).toNat) (.v (.bool false))) fun a8 => JdW a8 fun h9 t10 => Jj8 h9 fun e11 => JdW t10 fun h12 t13 => Jky h12 fun e14 => JdW t13 fun h15 t16 => Jj8 h15 fun e17 => JdW t16 fun h18 t19 => Jky h18 fun e20 => Ji8 t19 (p71 n e11 e14 e17 e20 (fun y21 => bif y21 then (k0 x1 x2 x3 x4 x5 ⟨#[]⟩ 5 x6) else (bif (inR x7 ((x1).length)) then (Jh8 ((x1).getD ((x7 : Int).toNat) (.v (.bool false))) fun a22 => JdW a22 fun h23 t24 => Jj8 h23 fun e25 => JdW t24 fun h26 t27 => Jky h26 fun e28 => JdW t27 fun h29 t30 => Jj8 h29 fun e31 => JdW t30 fun h32 t33 => Jky h32 fun e34 => Ji8 t33 (p72 n e25 e28 e31 e34 (fun y35 => bif (!y35) then (bif (inR x7 ((x1).length)) then (Jh8 ((x1).getD ((x7 : Int).toNat) (.v (.bool false))) fun a36 => JdW a36 fun h37 t38 => Jj8 h37 fun e39 => JdW t38 fun h40 t41 => Jky h40 fun e42 => JdW t41 fun h43 t44 => Jj8 h43 fun e45 => JdW t44 fun h46 t47 => Jky h46 fun e48 => Ji8 t47 (p73 n e39 e42 e45 e48 (fun y49 => bif (Jbv ((x6).length + 1) 24) then (Uf5 n x1 x2 x3 x4 x5 (x6 ++ ([.agg [.v (.int .i64 x7), .v (.string y49)]] : LP)) x7 (fun y50 y51 y52 y53 y54 y55 y56 => l0 y50 y51 y52 y53 y54 y55 y56)) else none))) else none) else (Uf5 n x1 x2 x3 x4 x5 x6 x7 (fun y57 y58 y59 y60 y61 y62 y63 => l0 y57 y58 y59 y60 y61 y62 y63))))) else none)))) else none) else (k1 x1 x2 x3 x4 x5 x6)
def UbT (n : Nat) : Nat → LP → Bool → LP → Bool → LP → LP → Int → (LP → Bool → LP → Bool → LP → ByteArray → Int → LP → O R) → (LP → Bool → LP → Bool → LP → LP → O R) → O R
  | 0, _, _, _, _, _, _, _, _, _ => none
  | m + 1, x1, x2, x3, x4, x5, x6, x7, k0, k1 => UdB n (fun x1 x2 x3 x4 x5 x6 x7 => UbT n m x1 x2 x3 x4 x5 x6 x7 k0 k1) x1 x2 x3 x4 x5 x6 x7 k0 k1
def Uwg (n : Nat) (x1 : LP) (x2 : Bool) (x3 : LP) (x4 : Bool) (x5 x6 : LP) (x7 : Int) (k0 : LP → Bool → LP → Bool → LP → ByteArray → Int → LP → O R) (k1 : LP → Bool → LP → Bool → LP → LP → O R) : O R := UbT n n x1 x2 x3 x4 x5 x6 x7 k0 k1
def p25 (n : Nat) (x1 : LP) (x2 : Bool) (x3 : LP) (x4 : Bool) (x5 : LP) (k0 : LP → ByteArray → Int → O R) : O R :=
  Uwg n x1 x2 x3 x4 x5 [] 0 (fun y6 y7 y8 y9 y10 y11 y12 y13 => k0 [] y11 y12) (fun y14 y15 y16 y17 y18 y19 => p71 n y15 y16 y17 y18 (fun y20 => bif y20 then (k0 [] ⟨#[]⟩ 5) else (p73 n y15 y16 y17 y18 (fun y21 => k0 y19 y21 0))))
abbrev E25 (n : Nat) : Code → Fr → Kc R → O R := evC Tryz.prog (Uyn n) Ufl n (45, [])
noncomputable def UuL : Code := Jk (Jls Tryz.f25) [1, 1, 0, 1, 0, 0, 1, 1]
abbrev UsU : Sl (List SV) := (.c (sBx 59 (cH (cB (cH (cB (cH .n)))))) (cO 66 (cI .n)))
abbrev UvK (n : Nat) (K : Kc R) : UsU.T (O R) := fun x1 x2 x3 x4 x5 x6 x7 => Uf5 n x1 x2 x3 x4 x5 x6 x7 (fun y1 y2 y3 y4 y5 y6 y7 => xC Ufl 4 K .normal [.bx 59 [vH y1, vB y2, vH y3, vB y4, vH y5], dD, dD, dD, .own 66 y6, vI y7])
noncomputable def UuM : Code := Jk (Jls Tryz.f25) [1, 1, 0, 1, 0, 0]
abbrev Ugk : Sl (List SV) := (.c (sBx 59 (cH (cB (cH (cB (cH .n)))))) (cO 66 (cI .n)))
abbrev Uq1 (n m : Nat) (K : Kc R) : Ugk.T (O R) := fun x1 x2 x3 x4 x5 x6 x7 => UbT n m x1 x2 x3 x4 x5 x6 x7 (fun y1 y2 y3 y4 y5 y6 y7 y8 => xL Ufl 3 K .ret [.bx 59 [vH y1, vB y2, vH y3, vB y4, vH y5], .nl, vS y6, vI y7, .own 66 y8]) (fun y1 y2 y3 y4 y5 y6 => xL Ufl 3 K (.exit 0) [.bx 59 [vH y1, vB y2, vH y3, vB y4, vH y5], dD, dD, dD, .own 66 y6])
abbrev UAZ (n : Nat) (K : Kc R) (l0 : Ugk.T (O R)) : Ugk.T (O R) := fun x1 x2 x3 x4 x5 x6 x7 => UdB n l0 x1 x2 x3 x4 x5 x6 x7 (fun y1 y2 y3 y4 y5 y6 y7 y8 => xL Ufl 3 K .ret [.bx 59 [vH y1, vB y2, vH y3, vB y4, vH y5], .nl, vS y6, vI y7, .own 66 y8]) (fun y1 y2 y3 y4 y5 y6 => xL Ufl 3 K (.exit 0) [.bx 59 [vH y1, vB y2, vH y3, vB y4, vH y5], dD, dD, dD, .own 66 y6])
abbrev UGI (n : Nat) : Orc R := oL Ufl (E25 n) n 3 UuM Ugk (Uq1 n n) oN
abbrev UFY (n : Nat) : Orc R := oC Ufl (E25 n) 4 UuL UsU (UvK n) oN
abbrev K25 (R : Type) (n : Nat) := JcK (R := R) Tryz.prog (Uyn n) Ufl n (45, []) (UGI n) (UFY n)
theorem UDR (n : Nat) : K25 R n (true, 4, UuL) := Jk3 (lo := UGI n) (cu := UFY n) (pO pN (by kernel_rfl)) UsU (UvK n) (fun K _ _ _ _ _ _ _ => by show _ = _; kernel_rfl) fun _ _ => rfl
theorem UDS (n : Nat) : K25 R n (false, 3, UuM) := JkM (lo := UGI n) (cu := UFY n) (pO (pC (UDR n) pN) (by kernel_rfl)) Ugk (Uq1 n n) (JiK (F := Uq1 n) Ugk (UAZ n) (fun K _ _ _ _ _ _ _ => rfl) (fun _ _ => rfl) (fun L K _ _ _ _ _ _ _ => by show _ = _; kernel_rfl) n) fun _ _ => rfl
theorem UNN (n : Nat) : Jfb (K25 R n) (JaJ Ufl (Jls Tryz.f25)) := pO (pC (UDS n) pN) (by kernel_rfl)
abbrev t25 : Sl (List SV) := (.c (sP (JlP (.c sSh (.c Jlm (.c sSh (.c Jlm (.c sSh .n))))))) .n)
abbrev f25 (n : Nat) (K : List SV → O R) : t25.T (O R) := fun x1 x2 x3 x4 x5 => p25 n x1 x2 x3 x4 x5 (fun y1 y2 y3 => K [vH y1, vS y2, vI y3])
abbrev UJU (n : Nat) : FS := fT [false] t25 (f25 n)
theorem UM2 (n : Nat) : FSound Tryz.prog GI 25 (UJU n) := gd Ufl n (UpF n) Tryz.func25 (.cons (UpF n) t25 (f25 n) (fun K _ _ _ _ _ => (Jkx (c := Jls Tryz.f25) (by kernel_rfl) (UNN n) K).trans (by kernel_rfl)) .nil) (by kernel_rfl)
def UnR : Ann := { loops := [], cuts := [], frz := [], rm := [.id] }
abbrev Uvx (n : Nat) : Env := eN
theorem Ul0 (n : Nat) : EnvOK Tryz.prog GI (Uvx n) := .nil
def UHu (n : Nat)  (k0 : ByteArray → O R) : O R :=
  bif (Jfa 0 (IntKind.i64.wrap (0 + 1)) ((⟨#[48, 49, 50, 51, 52, 53, 54, 55, 56, 57]⟩ : ByteArray)).size) then (k0 (ByteArray.extract (⟨#[48, 49, 50, 51, 52, 53, 54, 55, 56, 57]⟩ : ByteArray) (0 : Int).toNat (IntKind.i64.wrap (0 + 1) : Int).toNat)) else none
abbrev UGz (n : Nat) : Orc R := oN
abbrev UFP (n : Nat) : Orc R := oN
abbrev ULr (R : Type) (n : Nat) := JcK (R := R) Tryz.prog (Uvx n) UnR n (36, []) (UGz n) (UFP n)
theorem UHX (n : Nat) : Jfb (ULr R n) (JaJ UnR (Jls Tryz.f126)) := pO pN (by kernel_rfl)
abbrev UID : Sl (List SV) := (.c (sP (JlD .i64 0)) .n)
abbrev f126 (n : Nat) (K : List SV → O R) : UID.T (O R) := UHu n  (fun y1 => K [vS y1])
abbrev UCF (n : Nat) : FS := fT [false] UID (f126 n)
theorem UG1 (n : Nat) : FSound Tryz.prog GI 126 (UCF n) := gd UnR n (Ul0 n) Tryz.func126 (.cons (Ul0 n) UID (f126 n) (fun K => (Jkx (c := Jls Tryz.f126) (by kernel_rfl) (UHX n) K).trans (by kernel_rfl)) .nil) (by kernel_rfl)
def Uxp : Ann := { loops := [], cuts := [], frz := [], rm := [.id] }
abbrev UCf (n : Nat) : Env := eC 126 (UCF n) (eC 125 (UyY n) (eC 123 (UrE n) (eC 110 (UrD n) eN)))
theorem Uqw (n : Nat) : EnvOK Tryz.prog GI (UCf n) := .cons (.cons (.cons (.cons (.nil) (UtQ n)) (UtR n)) (UDi n)) (UG1 n)
def p92 (n : Nat)  (k0 : Bool → LP → Bool → LP → O R) : O R :=
  UHu n (fun y1 => Uwc n y1 (fun y2 y3 => UtT n (fun y4 y5 => Uwb n y2 y3 y4 y5 (fun y6 y7 y8 y9 => k0 y6 y7 y8 y9))))
abbrev UMP (n : Nat) : Orc R := oN
abbrev UL9 (n : Nat) : Orc R := oN
abbrev K92 (R : Type) (n : Nat) := JcK (R := R) Tryz.prog (UCf n) Uxp n (8, []) (UMP n) (UL9 n)
theorem UOD (n : Nat) : Jfb (K92 R n) (JaJ Uxp (Jls Tryz.f92)) := pO pN (by kernel_rfl)
abbrev t92 : Sl (List SV) := (.c (sP (JlD .i64 0)) .n)
abbrev f92 (n : Nat) (K : List SV → O R) : t92.T (O R) := p92 n  (fun y1 y2 y3 y4 => K [.p (.agg [.v (.bool y1), .sh y2, .v (.bool y3), .sh y4])])
abbrev UGm (n : Nat) : FS := fT [false] t92 (f92 n)
theorem UK2 (n : Nat) : FSound Tryz.prog GI 92 (UGm n) := gd Uxp n (Uqw n) Tryz.func92 (.cons (Uqw n) t92 (f92 n) (fun K => (Jkx (c := Jls Tryz.f92) (by kernel_rfl) (UOD n) K).trans (by kernel_rfl)) .nil) (by kernel_rfl)
def Ujq : Ann := { loops := [(3, [(0, .id), (2, .id), (3, .cs [some 57, none, none, none, none]), (4, .id)], ids [2, 3])], cuts := [], frz := [1000006, 1000018], rm := [.cs [some 57, none, none, none, none]] }
abbrev UyG (n : Nat) : Env := eC 92 (UGm n) eN
theorem Uqb (n : Nat) : EnvOK Tryz.prog GI (UyG n) := .cons (.nil) (UK2 n)
def UhY (n : Nat) (l0 : Int → Bool → Bool → LP → Bool → LP → Bool → LP → Int → O R) (x1 : Int) (x2 x3 : Bool) (x4 : LP) (x5 : Bool) (x6 : LP) (x7 : Bool) (x8 : LP) (x9 : Int) (k0 : Bool → Bool → LP → Bool → LP → Bool → LP → O R) : O R :=
  bif (decide (x9 < x1)) then (p92 n (fun y10 y11 y12 y13 => bif (Jbv ((x4).length + 1) 64) then (l0 x1 x2 x3 (x4 ++ ([.agg [.v (.bool y10), .sh y11, .v (.bool y12), .sh y13]] : LP)) x5 x6 x7 x8 (IntKind.i64.wrap (x9 + 1))) else none)) else (k0 x2 x3 x4 x5 x6 x7 x8)
def UdQ (n : Nat) : Nat → Int → Bool → Bool → LP → Bool → LP → Bool → LP → Int → (Bool → Bool → LP → Bool → LP → Bool → LP → O R) → O R
  | 0, _, _, _, _, _, _, _, _, _, _ => none
  | m + 1, x1, x2, x3, x4, x5, x6, x7, x8, x9, k0 => UhY n (fun x1 x2 x3 x4 x5 x6 x7 x8 x9 => UdQ n m x1 x2 x3 x4 x5 x6 x7 x8 x9 k0) x1 x2 x3 x4 x5 x6 x7 x8 x9 k0
def Uwx (n : Nat) (x1 : Int) (x2 x3 : Bool) (x4 : LP) (x5 : Bool) (x6 : LP) (x7 : Bool) (x8 : LP) (x9 : Int) (k0 : Bool → Bool → LP → Bool → LP → Bool → LP → O R) : O R := UdQ n n x1 x2 x3 x4 x5 x6 x7 x8 x9 k0
def p67 (n : Nat) (x1 : Int) (k0 : LP → Bool → LP → Bool → LP → O R) : O R :=
  p92 n (fun y2 y3 y4 y5 => Uwx n x1 false false [] y2 y3 y4 y5 0 (fun y6 y7 y8 y9 y10 y11 y12 => k0 y8 y9 y10 y11 y12))
abbrev E67 (n : Nat) : Code → Fr → Kc R → O R := evC Tryz.prog (UyG n) Ujq n (19, [])
noncomputable def Uu9 : Code := Jk (Jls Tryz.f67) [1, 1, 0, 1, 0, 0]
abbrev UgD : Sl (List SV) := (cI (.c (sBx 59 (.c sNl (cB (.c sNl (cB (.c sNl .n)))))) (.c (sBx 59 (cO 57 (cB (cH (cB (cH .n)))))) (cI .n))))
abbrev Urp (n m : Nat) (K : Kc R) : UgD.T (O R) := fun x1 x2 x3 x4 x5 x6 x7 x8 x9 => UdQ n m x1 x2 x3 x4 x5 x6 x7 x8 x9 (fun y1 y2 y3 y4 y5 y6 y7 => xL Ujq 3 K (.exit 0) [.bx 59 [.nl, vB y1, .nl, vB y2, .nl], .bx 59 [.own 57 y3, vB y4, vH y5, vB y6, vH y7]])
abbrev UBh (n : Nat) (K : Kc R) (l0 : UgD.T (O R)) : UgD.T (O R) := fun x1 x2 x3 x4 x5 x6 x7 x8 x9 => UhY n l0 x1 x2 x3 x4 x5 x6 x7 x8 x9 (fun y1 y2 y3 y4 y5 y6 y7 => xL Ujq 3 K (.exit 0) [.bx 59 [.nl, vB y1, .nl, vB y2, .nl], .bx 59 [.own 57 y3, vB y4, vH y5, vB y6, vH y7]])
abbrev UKE (n : Nat) : Orc R := oL Ujq (E67 n) n 3 Uu9 UgD (Urp n n) oN
abbrev UJt (n : Nat) : Orc R := oN
abbrev K67 (R : Type) (n : Nat) := JcK (R := R) Tryz.prog (UyG n) Ujq n (19, []) (UKE n) (UJt n)
theorem UEh (n : Nat) : K67 R n (false, 3, Uu9) := JkM (lo := UKE n) (cu := UJt n) (pO pN (by kernel_rfl)) UgD (Urp n n) (JiK (F := Urp n) UgD (UBh n) (fun K _ _ _ _ _ _ _ _ _ => rfl) (fun _ _ => rfl) (fun L K _ _ _ _ _ _ _ _ _ => by show _ = _; kernel_rfl) n) fun _ _ => rfl
theorem UOi (n : Nat) : Jfb (K67 R n) (JaJ Ujq (Jls Tryz.f67)) := pO (pC (UEh n) pN) (by kernel_rfl)
abbrev t67 : Sl (List SV) := (cI .n)
abbrev f67 (n : Nat) (K : List SV → O R) : t67.T (O R) := fun x1 => p67 n x1 (fun y1 y2 y3 y4 y5 => K [.st [.own 57 y1, vB y2, vH y3, vB y4, vH y5]])
abbrev UC0 (n : Nat) : FS := fT [false] t67 (f67 n)
theorem UFk (n : Nat) : FSound Tryz.prog GI 67 (UC0 n) := gd Ujq n (Uqb n) Tryz.func67 (.cons (Uqb n) t67 (f67 n) (fun K _ => (Jkx (c := Jls Tryz.f67) (by kernel_rfl) (UOi n) K).trans (by kernel_rfl)) .nil) (by kernel_rfl)
def Uxb : Ann := { loops := [], cuts := [], frz := [], rm := [.id] }
abbrev UB2 (n : Nat) : Env := eC 110 (UrD n) (eC 109 (UyU n) eN)
theorem Uqd (n : Nat) : EnvOK Tryz.prog GI (UB2 n) := .cons (.cons (.nil) (UDe n)) (UtQ n)
def p69 (n : Nat) (x1 : ByteArray) (k0 : Bool → LP → Bool → LP → O R) : O R :=
  Uw n x1 (fun y2 y3 y4 y5 y6 => bif (!y6) then (UtT n (fun y7 y8 => k0 false [] y7 y8)) else (k0 y2 y3 y4 y5))
abbrev UMB (n : Nat) : Orc R := oN
abbrev ULV (n : Nat) : Orc R := oN
abbrev K69 (R : Type) (n : Nat) := JcK (R := R) Tryz.prog (UB2 n) Uxb n (16, []) (UMB n) (ULV n)
theorem UOk (n : Nat) : Jfb (K69 R n) (JaJ Uxb (Jls Tryz.f69)) := pO pN (by kernel_rfl)
abbrev t69 : Sl (List SV) := (cS .n)
abbrev f69 (n : Nat) (K : List SV → O R) : t69.T (O R) := fun x1 => p69 n x1 (fun y1 y2 y3 y4 => K [.p (.agg [.v (.bool y1), .sh y2, .v (.bool y3), .sh y4])])
abbrev UE8 (n : Nat) : FS := fT [false] t69 (f69 n)
theorem UHo (n : Nat) : FSound Tryz.prog GI 69 (UE8 n) := gd Uxb n (Uqd n) Tryz.func69 (.cons (Uqd n) t69 (f69 n) (fun K _ => (Jkx (c := Jls Tryz.f69) (by kernel_rfl) (UOk n) K).trans (by kernel_rfl)) .nil) (by kernel_rfl)
end
end Go.Proofs.YtmgfmlhdnadglaaGreatDoor
