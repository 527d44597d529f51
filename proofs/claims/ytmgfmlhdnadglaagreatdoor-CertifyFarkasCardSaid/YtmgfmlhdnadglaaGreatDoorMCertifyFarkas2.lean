/- Proved: part 6 of the proof that the law CertifyFarkas returns true at all its arguments (no further conditions). -/
import Derived.Test.YtmgfmlhdnadglaaGreatDoorMCertifyFarkas1
import Derived.Test.YtmgfmlhdnadglaaGreatDoorMCertifyFarkas0
set_option linter.unusedVariables false
set_option linter.unusedSimpArgs false
namespace Go.Proofs.YtmgfmlhdnadglaaGreatDoor
open Go Th Go.Proofs
variable {R : Type}
abbrev SpR := List SpT × Rat
open Classical in
noncomputable def tmO (q : Rat) (r : SpR) : Option SpR := if fits (r.2 * q) then (scO q r.1).map fun x => (x, r.2 * q) else none
open Classical in
noncomputable def plO (a b : SpR) : Option SpR := if fits (a.2 + b.2) then (Uez a.1 b.1).map fun x => (x, a.2 + b.2) else none
open Classical in
noncomputable def UeA (q : Rat) (r s : SpR) : Option SpR := if q = 0 then some s else (tmO q r).bind fun x => plO s x
noncomputable def Ucu : List (SpR × Rat) → SpR → Option SpR
  | [], s => some s
  | x :: t, s => (UeA x.2 x.1 s).bind (Ucu t)
def okF (cols : Int) (r : SpR) : Prop := okS cols r.1 ∧ fits r.2
abbrev DnR := List Rat × Rat
def same (s : SpR) (d : DnR) : Prop := s.2 = d.2 ∧ ∀ i, d.1.getD i 0 = cf s.1 i
def UaS (d : DnR) : Prop := (∀ x ∈ d.1, fits x) ∧ fits d.2
def scD (q : Rat) (d : DnR) : DnR := (d.1.map (· * q), d.2 * q)
def adD (a b : DnR) : DnR := ((List.range (max a.1.length b.1.length)).map fun i => a.1.getD i 0 + b.1.getD i 0, a.2 + b.2)
open Classical in
noncomputable def Ua9 (q : Rat) (r s : DnR) : Option DnR := if q = 0 then some s else if UaS (scD q r) then (if UaS (adD s (scD q r)) then some (adD s (scD q r)) else none) else none
noncomputable def Ug2 : List (DnR × Rat) → DnR → Option DnR
  | [], s => some s
  | x :: t, s => (Ua9 x.2 x.1 s).bind (Ug2 t)
theorem UbL {d : DnR} : UaS d ↔ (∀ i, fits (d.1.getD i 0)) ∧ fits d.2 := by
  unfold UaS
  refine and_congr_left fun _ => ⟨fun h i => ?_, fun h x hx => ?_⟩
  · by_cases hi : i < d.1.length
    · rw [List.getD_eq_getElem?_getD, List.getElem?_eq_getElem hi]; exact h _ (List.getElem_mem hi)
    · rw [List.getD_eq_getElem?_getD, List.getElem?_eq_none (by omega)]; exact Uey
  · obtain ⟨i, hi, rfl⟩ := List.getElem_of_mem hx
    have := h i
    rwa [List.getD_eq_getElem?_getD, List.getElem?_eq_getElem hi] at this
theorem Uf (q : Rat) (d : DnR) (i : Nat) : (scD q d).1.getD i 0 = d.1.getD i 0 * q := by
  show (d.1.map (· * q)).getD i 0 = _
  simp only [List.getD_eq_getElem?_getD, List.getElem?_map]
  cases d.1[i]? <;> simp [Rat.zero_mul]
theorem UgM (a b : DnR) (i : Nat) : (adD a b).1.getD i 0 = a.1.getD i 0 + b.1.getD i 0 := by
  show ((List.range (max a.1.length b.1.length)).map _).getD i 0 = _
  by_cases hi : i < max a.1.length b.1.length
  · rw [List.getD_eq_getElem?_getD, List.getElem?_map, List.getElem?_range hi]; rfl
  · rw [List.getD_eq_getElem?_getD, List.getElem?_eq_none (by simp; omega)]
    simp only [List.getD_eq_getElem?_getD]
    rw [List.getElem?_eq_none (by omega), List.getElem?_eq_none (by omega)]
    show (0 : Rat) = 0 + 0
    rw [Rat.add_zero]
theorem Uus {cols : Int} {q : Rat} (h0 : q ≠ 0) {r x : SpR} (h : okF cols r) (he : tmO q r = some x) : okF cols x ∧ x.2 = r.2 * q ∧ ∀ i, cf x.1 i = cf r.1 i * q := by
  unfold tmO at he
  split at he
  · rename_i hf
    obtain ⟨y, e, rfl⟩ := Option.map_eq_some_iff.1 he
    obtain ⟨e1, e2⟩ := UI h0 h.1 e
    exact ⟨⟨e1, hf⟩, rfl, e2⟩
  · cases he
theorem Uzj {cols : Int} {a b x : SpR} (ha : okF cols a) (hb : okF cols b) (he : plO a b = some x) : okF cols x ∧ x.2 = a.2 + b.2 ∧ ∀ i, cf x.1 i = cf a.1 i + cf b.1 i := by
  unfold plO at he
  split at he
  · rename_i hf
    obtain ⟨y, e, rfl⟩ := Option.map_eq_some_iff.1 he
    obtain ⟨e1, e2, e3⟩ := UmL _ (Nat.le_refl _) ha.1.1 hb.1.1 ha.1.2 hb.1.2 e
    exact ⟨⟨⟨e1, e2⟩, hf⟩, rfl, e3⟩
  · cases he
theorem Us3 {cols : Int} {q : Rat} {r : SpR} (h : okF cols r) : tmO q r = none ↔ ¬ (fits (r.2 * q) ∧ ∀ i, fits (cf r.1 i * q)) := by
  unfold tmO
  split
  · rename_i hf
    rw [Option.map_eq_none_iff, UAm h.1.1]
    exact ⟨fun ⟨i, hi⟩ q => hi (q.2 i), fun q => Classical.byContradiction fun hn => q ⟨hf, fun i => Classical.byContradiction fun hi => hn ⟨i, hi⟩⟩⟩
  · rename_i hf
    exact ⟨fun _ q => hf q.1, fun _ => rfl⟩
theorem Usz {cols : Int} {a b : SpR} (ha : okF cols a) (hb : okF cols b) : plO a b = none ↔ ¬ (fits (a.2 + b.2) ∧ ∀ i, fits (cf a.1 i + cf b.1 i)) := by
  unfold plO
  split
  · rename_i hf
    rw [Option.map_eq_none_iff, UeJ _ (Nat.le_refl _) ha.1.1 hb.1.1 ha.1.2 hb.1.2]
    exact ⟨fun ⟨i, hi⟩ q => hi (q.2 i), fun q => Classical.byContradiction fun hn => q ⟨hf, fun i => Classical.byContradiction fun hi => hn ⟨i, hi⟩⟩⟩
  · rename_i hf
    exact ⟨fun _ q => hf q.1, fun _ => rfl⟩
theorem UsL {cols : Int} {q : Rat} {r s : SpR} {rd sd : DnR} (hr : okF cols r) (hs : okF cols s) (er : same r rd) (es : same s sd) :
    (UeA q r s = none ∧ Ua9 q rd sd = none) ∨ ∃ x xd, UeA q r s = some x ∧ Ua9 q rd sd = some xd ∧ okF cols x ∧ same x xd := by
  unfold UeA Ua9
  by_cases h0 : q = 0
  · rw [if_pos h0, if_pos h0]; exact .inr ⟨s, sd, rfl, rfl, hs, es⟩
  rw [if_neg h0, if_neg h0]
  have k1 : UaS (scD q rd) ↔ (fits (r.2 * q) ∧ ∀ i, fits (cf r.1 i * q)) := by
    rw [UbL, and_comm, show (scD q rd).2 = rd.2 * q from rfl, ← er.1]
    refine and_congr_right fun _ => forall_congr' fun i => ?_
    rw [Uf, er.2 i]
  cases h1 : tmO q r with
  | none =>
    have := (Us3 hr).1 h1
    rw [if_neg (fun q => this (k1.1 q))]
    exact .inl ⟨rfl, rfl⟩
  | some x =>
    have hx : UaS (scD q rd) := Classical.byContradiction fun hn => by
      have := (Us3 hr).2 (fun q => hn (k1.2 q))
      rw [h1] at this; cases this
    rw [if_pos hx]
    obtain ⟨e1, e2, e3⟩ := Uus h0 hr h1
    have k2 : UaS (adD sd (scD q rd)) ↔ (fits (s.2 + x.2) ∧ ∀ i, fits (cf s.1 i + cf x.1 i)) := by
      rw [UbL, and_comm, show (adD sd (scD q rd)).2 = sd.2 + rd.2 * q from rfl, ← es.1, ← er.1, e2]
      refine and_congr_right fun _ => forall_congr' fun i => ?_
      rw [UgM, Uf, er.2 i, es.2 i, e3 i]
    rw [Option.bind_some]
    cases h2 : plO s x with
    | none =>
      have := (Usz hs e1).1 h2
      rw [if_neg (fun q => this (k2.1 q))]
      exact .inl ⟨rfl, rfl⟩
    | some y =>
      have hy : UaS (adD sd (scD q rd)) := Classical.byContradiction fun hn => by
        have := (Usz hs e1).2 (fun q => hn (k2.2 q))
        rw [h2] at this; cases this
      rw [if_pos hy]
      obtain ⟨g1, g2, g3⟩ := Uzj hs e1 h2
      refine .inr ⟨y, _, rfl, rfl, g1, ?_, fun i => ?_⟩
      · rw [g2, e2, es.1, er.1]; rfl
      · rw [UgM, Uf, er.2 i, es.2 i, g3 i, e3 i]
theorem UiP {cols : Int} : ∀ {l : List (SpR × Rat)} {ld : List (DnR × Rat)} {s : SpR} {sd : DnR}, l.length = ld.length → (∀ i (h : i < l.length) (h' : i < ld.length), okF cols l[i].1 ∧ same l[i].1 ld[i].1 ∧ l[i].2 = ld[i].2) →
    okF cols s → same s sd → (Ucu l s = none ∧ Ug2 ld sd = none) ∨ ∃ x xd, Ucu l s = some x ∧ Ug2 ld sd = some xd ∧ okF cols x ∧ same x xd
  | [], [], s, sd, _, _, hs, es => .inr ⟨s, sd, rfl, rfl, hs, es⟩
  | [], _ :: _, _, _, hl, _, _, _ => by simp at hl
  | _ :: _, [], _, _, hl, _, _, _ => by simp at hl
  | x :: l, y :: ld, s, sd, hl, h, hs, es => by
    obtain ⟨a1, a2, a3⟩ := h 0 (by simp) (by simp)
    simp only [List.getElem_cons_zero] at a1 a2 a3
    rw [Ucu, Ug2, ← a3]
    rcases UsL (q := x.2) a1 hs a2 es with ⟨e1, e2⟩ | ⟨z, zd, e1, e2, e3, e4⟩
    · rw [e1, e2]; exact .inl ⟨rfl, rfl⟩
    · rw [e1, e2, Option.bind_some, Option.bind_some]
      refine UiP (by simpa using hl) (fun i h1 h2 => ?_) e3 e4
      have := h (i + 1) (by simp; omega) (by simp; omega)
      simpa using this
theorem Ux2 {cols : Int} {l : List (SpR × Rat)} {s x : SpR} (h : ∀ y ∈ l, okF cols y.1) (hs : okF cols s) (he : Ucu l s = some x) : okF cols x := by
  induction l generalizing s with
  | nil => simp only [Ucu, Option.some.injEq] at he; rwa [← he]
  | cons y l ih =>
    rw [Ucu] at he
    obtain ⟨z, e1, e2⟩ := Option.bind_eq_some_iff.1 he
    refine ih (fun w hw => h w (List.mem_cons_of_mem _ hw)) ?_ e2
    unfold UeA at e1
    by_cases h0 : y.2 = 0
    · rw [if_pos h0, Option.some.injEq] at e1; rwa [← e1]
    · rw [if_neg h0] at e1
      obtain ⟨w, f1, f2⟩ := Option.bind_eq_some_iff.1 e1
      exact (Uzj hs (Uus h0 (h y (List.mem_cons_self ..)) f1).1 f2).1
def UaM {α σ : Type} (step : σ → α → Option σ) : σ → List α → Option σ
  | s, [] => some s
  | s, a :: l => (step s a).bind fun s' => UaM step s' l
def UAy {σ : Type} (kerr : Option R) (kend : σ → Option R) : Option σ → Option R
  | none => kerr
  | some s => kend s
theorem Udg {α σ : Type} {l : List α} {step : σ → α → Option σ} {kerr : Option R} {kend : σ → Option R} {Inv : Nat → σ → Prop} (L : Nat → σ → Nat → Option R)
    (hend : ∀ m s, Inv l.length s → L (m + 1) s l.length = kend s)
    (hinv : ∀ s s' i (h : i < l.length), Inv i s → step s l[i] = some s' → Inv (i + 1) s')
    (hstep : ∀ m s i (h : i < l.length), Inv i s → L (m + 1) s i = UAy kerr (fun s' => L m s' (i + 1)) (step s l[i])) :
    ∀ (d m i : Nat) (s : σ), d + i = l.length → d < m → Inv i s → L m s i = UAy kerr kend (UaM step s (l.drop i))
  | 0, m + 1, i, s, hd, hm, hs => by
    have : i = l.length := by omega
    subst this
    rw [hend m s hs, List.drop_length]; rfl
  | d + 1, m + 1, i, s, hd, hm, hs => by
    have hi : i < l.length := by omega
    rw [hstep m s i hi hs, Ua4 hi]
    show _ = UAy kerr kend ((step s l[i]).bind fun s' => UaM step s' (l.drop (i + 1)))
    cases h : step s l[i] with
    | none => rfl
    | some s' => exact Udg L hend hinv hstep d m (i + 1) s' (by omega) (by omega) (hinv s s' i hi hs h)
theorem Ufq {α σ : Type} {step : σ → α → Option σ} {P : α → Prop} {Inv : σ → Prop} (hstep : ∀ s s' a, P a → Inv s → step s a = some s' → Inv s') : ∀ {l : List α} {s s' : σ}, (∀ a ∈ l, P a) → Inv s → UaM step s l = some s' → Inv s'
  | [], s, s', _, hs, h => by simp only [UaM, Option.some.injEq] at h; rwa [← h]
  | a :: l, s, s', hl, hs, h => by
    obtain ⟨x, e1, e2⟩ := Option.bind_eq_some_iff.1 h
    exact Ufq hstep (fun y hy => hl y (List.mem_cons_of_mem _ hy)) (hstep s x a (hl a (List.mem_cons_self ..)) hs e1) e2
open Classical in
noncomputable def rq (s : List UInt8) : Rat := if h : isQ s then Classical.choose h else 0
theorem UsF {s : List UInt8} (h : qb s = true) : fits (rq s) ∧ s = Uag (rq s) := by
  have h' := UEr.1 h
  unfold rq
  rw [dif_pos h']
  exact Classical.choose_spec h'
theorem UAl {q : Rat} (h : fits q) : rq (Uag q) = q := (Uic (UsF (UcX h)).2).symm
noncomputable def spL (l : List TermT) : List SpT := l.map fun t => (t.1.toNat, rq t.2)
noncomputable def spR (r : RowT) : SpR := (spL r.tm, rq r.c)
theorem UED {cols : Int} {l : List SpT} (h : okN cols l) : spL (vt l) = l := by
  unfold spL vt
  rw [List.map_map]
  conv => rhs; rw [← List.map_id l]
  refine List.map_congr_left fun t ht => ?_
  simp only [Function.comp, id_eq]
  rw [UAl (h t ht).2.1]
  rfl
theorem UDi {cols : Int} {l : List TermT} (h : okT cols (-1) l = true) : okS cols (spL l) ∧ l = vt (spL l) := by
  obtain ⟨l', e1, e2, e3⟩ := UrT (by omega) h
  subst e1
  rw [UED e3]
  exact ⟨⟨e2, e3⟩, rfl⟩
theorem Uf2 {cols : Int} {r : RowT} (h : okR cols r = true) : okF cols (spR r) ∧ r.tm = vt (spR r).1 ∧ r.c = Uag (spR r).2 := by
  unfold okR at h
  rw [Bool.and_eq_true] at h
  obtain ⟨e1, e2⟩ := UDi h.1
  obtain ⟨f1, f2⟩ := UsF h.2
  exact ⟨⟨e1, f1⟩, e2, f2⟩
open Classical in
noncomputable def rdT (d : List Rat) (t : SpT) : Option (List Rat) := if fits (d.getD t.1 0 + t.2) then some (d.set t.1 (d.getD t.1 0 + t.2)) else none
theorem Uhh (d : List Rat) (k i : Nat) (y : Rat) (h : k < d.length) : (d.set k y).getD i 0 = if k = i then y else d.getD i 0 := by
  simp only [List.getD_eq_getElem?_getD]
  rw [List.getElem?_set]
  by_cases hi : k = i
  · subst hi; rw [if_pos rfl, if_pos rfl, if_pos h]; rfl
  · rw [if_neg hi, if_neg hi]
theorem UEv {l : List SpT} {d d' : List Rat} (h : UaM rdT d l = some d') : d'.length = d.length := by
  refine Ufq (step := rdT) (P := fun _ => True) (Inv := fun x => x.length = d.length) (fun s s' a _ hs he => ?_) (fun _ _ => trivial) rfl h
  unfold rdT at he
  split at he
  · simp only [Option.some.injEq] at he
    rw [← he, List.length_set, hs]
  · cases he
theorem UEw {cols : Int} : ∀ {l : List SpT} {last : Int} {d : List Rat}, asc last l → okN cols l → (∀ i : Nat, last < (i : Int) → d.getD i 0 = 0) → (∀ t ∈ l, t.1 < d.length) →
    ∃ d', UaM rdT d l = some d' ∧ ∀ i, d'.getD i 0 = d.getD i 0 + cf l i
  | [], last, d, _, _, _, _ => ⟨d, rfl, fun i => by rw [cf, Rat.add_zero]⟩
  | t :: l, last, d, h1, h2, h3, h4 => by
    have ht := h4 t (List.mem_cons_self ..)
    have hf := (h2 t (List.mem_cons_self ..)).2.1
    have h0 : d.getD t.1 0 = 0 := h3 t.1 h1.1
    have hg := fun i => Uhh d t.1 i (d.getD t.1 0 + t.2) ht
    obtain ⟨d', e1, e2⟩ := UEw (d := d.set t.1 (d.getD t.1 0 + t.2)) h1.2 (fun x hx => h2 x (List.mem_cons_of_mem _ hx))
      (fun i hi => by
        have := h1.1
        rw [hg, if_neg (by omega), h3 i (by omega)])
      (fun x hx => by rw [List.length_set]; exact h4 x (List.mem_cons_of_mem _ hx))
    refine ⟨d', ?_, fun i => ?_⟩
    · rw [UaM, rdT, if_pos (by rw [h0, Rat.zero_add]; exact hf)]
      exact e1
    · rw [e2 i, hg i, UbJ]
      by_cases hi : t.1 = i
      · subst hi
        rw [if_pos rfl, if_pos rfl, UbK h1.2 (by omega), Rat.add_zero]
      · rw [if_neg hi, if_neg hi]
noncomputable def wrD : Nat → List Rat → List SpT
  | _, [] => []
  | k, x :: d => if x = 0 then wrD (k + 1) d else (k, x) :: wrD (k + 1) d
theorem UtO {a b : Int} (h : a ≤ b) {l : List SpT} (hl : okN a l) : okN b l := fun t ht => ⟨(hl t ht).1, (hl t ht).2.1, by have := (hl t ht).2.2; omega⟩
end Go.Proofs.YtmgfmlhdnadglaaGreatDoor
set_option linter.unusedVariables false
set_option maxRecDepth 100000
namespace Go.Proofs.YtmgfmlhdnadglaaGreatDoor
open Go Th Go.Proofs
noncomputable section
variable {R : Type}
def Uw3 : Ann := { loops := [], cuts := [], frz := [], rm := [.id, .id] }
abbrev UBT (n : Nat) : Env := eC 58 (UCU n) eN
theorem Up4 (n : Nat) : EnvOK Tryz.prog GI (UBT n) := .cons (.nil) (UFe n)
def p62 (n : Nat) (x1 : Bool) (x2 x3 : LP) (x4 : Bool) (x5 x6 : LP) (k0 : Bool → LP → LP → Int → O R) : O R :=
  p58 n x2 x5 (fun y7 => p58 n x3 x6 (fun y8 => k0 (!(x1 == x4)) y7 y8 0))
abbrev UMh (n : Nat) : Orc R := oN
abbrev ULB (n : Nat) : Orc R := oN
abbrev K62 (R : Type) (n : Nat) := JcH (R := R) Tryz.prog (UBT n) Uw3 n (22, []) (UMh n) (ULB n)
theorem UNY (n : Nat) : Je6 (K62 R n) (JaJ Uw3 (Jll Tryz.f62)) := pO pN (by kernel_rfl)
abbrev t62 : Sl (List SV) := (.c (sP (JlI (.c Jlf (.c sSh (.c sSh .n))))) (.c (sP (JlI (.c Jlf (.c sSh (.c sSh .n))))) .n))
abbrev f62 (n : Nat) (K : List SV → O R) : t62.T (O R) := fun x1 x2 x3 x4 x5 x6 => p62 n x1 x2 x3 x4 x5 x6 (fun y1 y2 y3 y4 => K [.p (.agg [.v (.bool y1), .sh y2, .sh y3]), vI y4])
abbrev UJV (n : Nat) : FS := fT [false, false] t62 (f62 n)
theorem UM3 (n : Nat) : FSound Tryz.prog GI 62 (UJV n) := gd Uw3 n (Up4 n) Tryz.func62 (.cons (Up4 n) t62 (f62 n) (fun K _ _ _ _ _ _ => (Jkq (c := Jll Tryz.f62) (by kernel_rfl) (UNY n) K).trans (by kernel_rfl)) .nil) (by kernel_rfl)
def Uw5 : Ann := { loops := [], cuts := [], frz := [], rm := [.id] }
abbrev UBV (n : Nat) : Env := eC 104 (UCo n) (eC 103 (UCn n) (eC 58 (UCU n) (eC 57 (UE1 n) eN)))
theorem Up6 (n : Nat) : EnvOK Tryz.prog GI (UBV n) := .cons (.cons (.cons (.cons (.nil) (UHg n)) (UFe n)) (UGI n)) (UGJ n)
def p64 (n : Nat) (x1 : Bool) (x2 x3 : LP) (x4 : Bool) (x5 x6 : LP) (k0 : Bool → LP → LP → O R) : O R :=
  p58 n x2 x6 (fun y7 => p58 n x5 x3 (fun y8 => p58 n x3 x6 (fun y9 => bif (x1 == x4) then (UFh n y7 y8 (fun y10 => k0 x1 y10 y9)) else (p57 n y7 y8 (fun y11 => bif (decide (y11 < 0)) then (UDk n y8 y7 (fun y12 => k0 x4 y12 y9)) else (UDk n y7 y8 (fun y13 => k0 x1 y13 y9)))))))
abbrev UMj (n : Nat) : Orc R := oN
abbrev ULD (n : Nat) : Orc R := oN
abbrev K64 (R : Type) (n : Nat) := JcH (R := R) Tryz.prog (UBV n) Uw5 n (53, []) (UMj n) (ULD n)
theorem UN0 (n : Nat) : Je6 (K64 R n) (JaJ Uw5 (Jll Tryz.f64)) := pO pN (by kernel_rfl)
abbrev t64 : Sl (List SV) := (.c (sP (JlI (.c Jlf (.c sSh (.c sSh .n))))) (.c (sP (JlI (.c Jlf (.c sSh (.c sSh .n))))) .n))
abbrev f64 (n : Nat) (K : List SV → O R) : t64.T (O R) := fun x1 x2 x3 x4 x5 x6 => p64 n x1 x2 x3 x4 x5 x6 (fun y1 y2 y3 => K [.p (.agg [.v (.bool y1), .sh y2, .sh y3])])
abbrev UJX (n : Nat) : FS := fT [false, false] t64 (f64 n)
theorem UM5 (n : Nat) : FSound Tryz.prog GI 64 (UJX n) := gd Uw5 n (Up6 n) Tryz.func64 (.cons (Up6 n) t64 (f64 n) (fun K _ _ _ _ _ _ => (Jkq (c := Jll Tryz.f64) (by kernel_rfl) (UN0 n) K).trans (by kernel_rfl)) .nil) (by kernel_rfl)
def Uw4 : Ann := { loops := [], cuts := [], frz := [], rm := [.id, .id] }
abbrev UBU (n : Nat) : Env := eC 64 (UJX n) eN
theorem Up5 (n : Nat) : EnvOK Tryz.prog GI (UBU n) := .cons (.nil) (UM5 n)
def p63 (n : Nat) (x1 : Bool) (x2 x3 : LP) (x4 : Bool) (x5 x6 : LP) (k0 : Bool → LP → LP → Int → O R) : O R :=
  p64 n x1 x2 x3 x4 x5 x6 (fun y7 y8 y9 => k0 y7 y8 y9 0)
abbrev UMi (n : Nat) : Orc R := oN
abbrev ULC (n : Nat) : Orc R := oN
abbrev K63 (R : Type) (n : Nat) := JcH (R := R) Tryz.prog (UBU n) Uw4 n (9, []) (UMi n) (ULC n)
theorem UNZ (n : Nat) : Je6 (K63 R n) (JaJ Uw4 (Jll Tryz.f63)) := pO pN (by kernel_rfl)
abbrev t63 : Sl (List SV) := (.c (sP (JlI (.c Jlf (.c sSh (.c sSh .n))))) (.c (sP (JlI (.c Jlf (.c sSh (.c sSh .n))))) .n))
abbrev f63 (n : Nat) (K : List SV → O R) : t63.T (O R) := fun x1 x2 x3 x4 x5 x6 => p63 n x1 x2 x3 x4 x5 x6 (fun y1 y2 y3 y4 => K [.p (.agg [.v (.bool y1), .sh y2, .sh y3]), vI y4])
abbrev UJW (n : Nat) : FS := fT [false, false] t63 (f63 n)
theorem UM4 (n : Nat) : FSound Tryz.prog GI 63 (UJW n) := gd Uw4 n (Up5 n) Tryz.func63 (.cons (Up5 n) t63 (f63 n) (fun K _ _ _ _ _ _ => (Jkq (c := Jll Tryz.f63) (by kernel_rfl) (UNZ n) K).trans (by kernel_rfl)) .nil) (by kernel_rfl)
def UiK : Ann := { loops := [], cuts := [(5, ids [2, 8, 10], ids [6, 7])], frz := [], rm := [.id, .id] }
abbrev Uyz (n : Nat) : Env := eC 79 (UGc n) (eC 63 (UJW n) (eC 62 (UJV n) (eC 56 (UCT n) eN)))
theorem UjC (n : Nat) : EnvOK Tryz.prog GI (Uyz n) := .cons (.cons (.cons (.cons (.nil) (UFd n)) (UM3 n)) (UM4 n)) (UKI n)
def Uss (n : Nat) (x1 : Bool) (x2 x3 : LP) (x4 : Bool) (x5 x6 : LP) (k0 : ByteArray → Int → O R) : O R :=
  p62 n x1 x2 x3 x4 x5 x6 (fun y7 y8 y9 y10 => bif (y10 != 0) then (k0 ⟨#[]⟩ y10) else (p79 n y7 y8 y9 (fun y11 y12 => k0 y11 y12)))
def p61 (n : Nat) (x1 x2 : ByteArray) (k0 : ByteArray → Int → O R) : O R :=
  p56 n x1 (fun y3 y4 y5 y6 => p56 n x2 (fun y7 y8 y9 y10 => bif (!y6) then (k0 ⟨#[]⟩ 3) else (bif (bif false then true else (!y10)) then (k0 ⟨#[]⟩ 3) else (Uss n y3 y4 y5 y7 y8 y9 (fun y11 y12 => k0 y11 y12)))))
def UhU (n : Nat) (x1 : Bool) (x2 x3 : LP) (x4 : Bool) (x5 x6 : LP) (k0 : ByteArray → Int → O R) : O R :=
  p63 n x1 x2 x3 x4 x5 x6 (fun y7 y8 y9 y10 => bif (y10 != 0) then (k0 ⟨#[]⟩ y10) else (p79 n y7 y8 y9 (fun y11 y12 => k0 y11 y12)))
def UtS (n : Nat) (x1 x2 : ByteArray) (k0 : ByteArray → Int → O R) : O R :=
  p56 n x1 (fun y3 y4 y5 y6 => p56 n x2 (fun y7 y8 y9 y10 => bif (!y6) then (k0 ⟨#[]⟩ 3) else (bif (bif false then true else (!y10)) then (k0 ⟨#[]⟩ 3) else (UhU n y3 y4 y5 y7 y8 y9 (fun y11 y12 => k0 y11 y12)))))
abbrev E61 (n : Nat) : Code → Fr → Kc R → O R := evC Tryz.prog (Uyz n) UiK n (44, [])
noncomputable def UoJ : Code := Jj4 (Jll Tryz.f61) [1, 1, 1, 1]
abbrev UkS : Sl (List SV) := (.c (sP (sFn 62)) (.c (sBx 99 (cB (cH (cH .n)))) (.c (sBx 99 (cB (cH (cH .n)))) .n)))
abbrev UkT : Sl (List SV) := (.c (sP (sFn 63)) (.c (sBx 99 (cB (cH (cH .n)))) (.c (sBx 99 (cB (cH (cH .n)))) .n)))
abbrev Urk (n : Nat) (K : Kc R) : UkS.T (O R) := fun x1 x2 x3 x4 x5 x6 => Uss n x1 x2 x3 x4 x5 x6 (fun y1 y2 => xC UiK 5 K .ret [vS y1, vI y2])
abbrev Url (n : Nat) (K : Kc R) : UkT.T (O R) := fun x1 x2 x3 x4 x5 x6 => UhU n x1 x2 x3 x4 x5 x6 (fun y1 y2 => xC UiK 5 K .ret [vS y1, vI y2])
abbrev UGH (n : Nat) : Orc R := oN
abbrev UFX (n : Nat) : Orc R := fun i vs K => JfK (Nat.beq i 5) (Jjg (UkS.ap vs (Urk n K)) (Jjg (UkT.ap vs (Url n K)) (Jki UiK 5 (E61 n UoJ) vs K))) (oN i vs K)
abbrev K61 (R : Type) (n : Nat) := JcH (R := R) Tryz.prog (Uyz n) UiK n (44, []) (UGH n) (UFX n)
theorem Usx (n : Nat) : Je6 (K61 R n) (JaJ UiK UoJ) := pO pN (by kernel_rfl)
theorem UEa (n : Nat) : K61 R n (true, 5, UoJ) := JkW (lo := UGH n) (cu := UFX n) (Usx n) UkS (Urk n) (fun K _ _ _ _ _ _ => by show _ = _; kernel_rfl) (JkW (lo := UGH n) (cu := UFX n) (Usx n) UkT (Url n) (fun K _ _ _ _ _ _ => by show _ = _; kernel_rfl) fun _ _ => rfl)
theorem UKR (n : Nat) : Je6 (K61 R n) (JaJ UiK (Jll Tryz.f61)) := pO (pC (UEa n) pN) (by kernel_rfl)
abbrev UIH : Sl (List SV) := (cS (cS (.c (sP (sFn 62)) .n)))
abbrev UJr (n : Nat) (K : List SV → O R) : UIH.T (O R) := fun x1 x2 => p61 n x1 x2 (fun y1 y2 => K [vS y1, vI y2])
abbrev UII : Sl (List SV) := (cS (cS (.c (sP (sFn 63)) .n)))
abbrev UJs (n : Nat) (K : List SV → O R) : UII.T (O R) := fun x1 x2 => UtS n x1 x2 (fun y1 y2 => K [vS y1, vI y2])
abbrev UF9 (n : Nat) : FS := { om := [false, false, false], run := fun args K => Jjg (UIH.ap args (UJr n K)) (Jjg (UII.ap args (UJs n K)) none) }
theorem UKE (n : Nat) : FSound Tryz.prog GI 61 (UF9 n) := gd UiK n (UjC n) Tryz.func61 (.cons (UjC n) UIH (UJr n) (fun K _ _ => (Jkq (c := Jll Tryz.f61) (by kernel_rfl) (UKR n) K).trans (by kernel_rfl)) (.cons (UjC n) UII (UJs n) (fun K _ _ => (Jkq (c := Jll Tryz.f61) (by kernel_rfl) (UKR n) K).trans (by kernel_rfl)) .nil)) (by kernel_rfl)
def Uxd : Ann := { loops := [], cuts := [], frz := [], rm := [.id] }
abbrev UB4 (n : Nat) : Env := eN
theorem Uqk (n : Nat) : EnvOK Tryz.prog GI (UB4 n) := .nil
def p78 (n : Nat) (x1 : Bool) (x2 x3 : LP) (k0 : Bool → LP → LP → O R) : O R :=
  bif (!x1) then (k0 (bif true then (decide (((x2).length : Int) > 0)) else false) x2 x3) else (k0 false x2 x3)
abbrev UMs (n : Nat) : Orc R := oN
abbrev ULM (n : Nat) : Orc R := oN
abbrev K78 (R : Type) (n : Nat) := JcH (R := R) Tryz.prog (UB4 n) Uxd n (14, []) (UMs n) (ULM n)
theorem UOd (n : Nat) : Je6 (K78 R n) (JaJ Uxd (Jll Tryz.f78)) := pO pN (by kernel_rfl)
abbrev t78 : Sl (List SV) := (.c (sP (JlI (.c Jlf (.c sSh (.c sSh .n))))) .n)
abbrev f78 (n : Nat) (K : List SV → O R) : t78.T (O R) := fun x1 x2 x3 => p78 n x1 x2 x3 (fun y1 y2 y3 => K [.p (.agg [.v (.bool y1), .sh y2, .sh y3])])
abbrev UJ4 (n : Nat) : FS := fT [false] t78 (f78 n)
theorem UNb (n : Nat) : FSound Tryz.prog GI 78 (UJ4 n) := gd Uxd n (Uqk n) Tryz.func78 (.cons (Uqk n) t78 (f78 n) (fun K _ _ _ => (Jkq (c := Jll Tryz.f78) (by kernel_rfl) (UOd n) K).trans (by kernel_rfl)) .nil) (by kernel_rfl)
def UwR : Ann := { loops := [], cuts := [], frz := [], rm := [.id, .id] }
abbrev UBH (n : Nat) : Env := eC 61 (UF9 n) (eC 60 (UF8 n) (eC 54 (UE0 n) eN))
theorem UpA (n : Nat) : EnvOK Tryz.prog GI (UBH n) := .cons (.cons (.cons (.nil) (UHf n)) (UKD n)) (UKE n)
def p22 (n : Nat) (x1 x2 : ByteArray) (k0 : ByteArray → Int → O R) : O R :=
  p54 n x1 x2 (fun y3 y4 y5 => bif y5 then (bif (JkT (IntKind.i64.wrap (y3 + y4))) then (k0 (JiB (IntKind.i64.wrap (y3 + y4))) 0) else none) else (UtS n x1 x2 (fun y6 y7 => k0 y6 y7)))
abbrev UL6 (n : Nat) : Orc R := oN
abbrev ULp (n : Nat) : Orc R := oN
abbrev K22 (R : Type) (n : Nat) := JcH (R := R) Tryz.prog (UBH n) UwR n (26, []) (UL6 n) (ULp n)
theorem UNu (n : Nat) : Je6 (K22 R n) (JaJ UwR (Jll Tryz.f22)) := pO pN (by kernel_rfl)
abbrev t22 : Sl (List SV) := (cS (cS .n))
abbrev f22 (n : Nat) (K : List SV → O R) : t22.T (O R) := fun x1 x2 => p22 n x1 x2 (fun y1 y2 => K [vS y1, vI y2])
abbrev UF3 (n : Nat) : FS := fT [false, false] t22 (f22 n)
theorem UKy (n : Nat) : FSound Tryz.prog GI 22 (UF3 n) := gd UwR n (UpA n) Tryz.func22 (.cons (UpA n) t22 (f22 n) (fun K _ _ => (Jkq (c := Jll Tryz.f22) (by kernel_rfl) (UNu n) K).trans (by kernel_rfl)) .nil) (by kernel_rfl)
def UwQ : Ann := { loops := [], cuts := [], frz := [], rm := [.id, .id] }
abbrev UBG (n : Nat) : Env := eC 61 (UF9 n) (eC 60 (UF8 n) (eC 54 (UE0 n) eN))
theorem Upz (n : Nat) : EnvOK Tryz.prog GI (UBG n) := .cons (.cons (.cons (.nil) (UHf n)) (UKD n)) (UKE n)
def p21 (n : Nat) (x1 x2 : ByteArray) (k0 : ByteArray → Int → O R) : O R :=
  p54 n x1 x2 (fun y3 y4 y5 => bif y5 then (bif (JkT (IntKind.i64.wrap (y3 * y4))) then (k0 (JiB (IntKind.i64.wrap (y3 * y4))) 0) else none) else (p61 n x1 x2 (fun y6 y7 => k0 y6 y7)))
abbrev UL5 (n : Nat) : Orc R := oN
abbrev ULo (n : Nat) : Orc R := oN
abbrev K21 (R : Type) (n : Nat) := JcH (R := R) Tryz.prog (UBG n) UwQ n (26, []) (UL5 n) (ULo n)
theorem UNt (n : Nat) : Je6 (K21 R n) (JaJ UwQ (Jll Tryz.f21)) := pO pN (by kernel_rfl)
abbrev t21 : Sl (List SV) := (cS (cS .n))
abbrev f21 (n : Nat) (K : List SV → O R) : t21.T (O R) := fun x1 x2 => p21 n x1 x2 (fun y1 y2 => K [vS y1, vI y2])
abbrev UF2 (n : Nat) : FS := fT [false, false] t21 (f21 n)
theorem UKx (n : Nat) : FSound Tryz.prog GI 21 (UF2 n) := gd UwQ n (Upz n) Tryz.func21 (.cons (Upz n) t21 (f21 n) (fun K _ _ => (Jkq (c := Jll Tryz.f21) (by kernel_rfl) (UNt n) K).trans (by kernel_rfl)) .nil) (by kernel_rfl)
def UwV : Ann := { loops := [], cuts := [], frz := [], rm := [.id] }
abbrev UBL (n : Nat) : Env := eC 79 (UGc n) (eC 78 (UJ4 n) (eC 56 (UCT n) eN))
theorem UpN (n : Nat) : EnvOK Tryz.prog GI (UBL n) := .cons (.cons (.cons (.nil) (UFd n)) (UNb n)) (UKI n)
def p37 (n : Nat) (x1 : ByteArray) (k0 : ByteArray → O R) : O R :=
  p56 n x1 (fun y2 y3 y4 y5 => bif (!y5) then (k0 ⟨#[]⟩) else (p78 n y2 y3 y4 (fun y6 y7 y8 => p79 n y6 y7 y8 (fun y9 y10 => k0 y9))))
abbrev UM (n : Nat) : Orc R := oN
abbrev ULt (n : Nat) : Orc R := oN
abbrev K37 (R : Type) (n : Nat) := JcH (R := R) Tryz.prog (UBL n) UwV n (21, []) (UM n) (ULt n)
theorem UNH (n : Nat) : Je6 (K37 R n) (JaJ UwV (Jll Tryz.f37)) := pO pN (by kernel_rfl)
abbrev t37 : Sl (List SV) := (cS .n)
abbrev f37 (n : Nat) (K : List SV → O R) : t37.T (O R) := fun x1 => p37 n x1 (fun y1 => K [vS y1])
abbrev UJK (n : Nat) : FS := fT [false] t37 (f37 n)
theorem UMS (n : Nat) : FSound Tryz.prog GI 37 (UJK n) := gd UwV n (UpN n) Tryz.func37 (.cons (UpN n) t37 (f37 n) (fun K _ => (Jkq (c := Jll Tryz.f37) (by kernel_rfl) (UNH n) K).trans (by kernel_rfl)) .nil) (by kernel_rfl)
end
end Go.Proofs.YtmgfmlhdnadglaaGreatDoor
set_option linter.unusedVariables false
set_option linter.unusedSimpArgs false
namespace Go.Proofs.YtmgfmlhdnadglaaGreatDoor
open Go Th Go.Proofs
variable {R : Type}
def Unx (q : Rat) (k0 : ByteArray → Int → Option R) : Option R := if fits q then k0 (bs (Uag q)) 0 else k0 (bs []) 5
theorem UfO {a b i j : Nat} (ha : (toL 1000000000 a).length ≤ i) (hb : (toL 1000000000 b).length ≤ j) : (toL 1000000000 (a * b)).length ≤ i + j := by
  rw [Uah hB2] at *
  rw [Nat.pow_add]
  exact Nat.mul_lt_mul_of_lt_of_lt ha hb
theorem UEI {a b i : Nat} (ha : (toL 1000000000 a).length ≤ i) (hb : (toL 1000000000 b).length ≤ i) : (toL 1000000000 (a + b)).length ≤ i + 1 := by
  rw [Uah hB2] at *
  rw [Nat.pow_succ]; omega
theorem Us2 {a b i : Nat} (h : a ≤ b) (hb : (toL 1000000000 b).length ≤ i) : (toL 1000000000 a).length ≤ i := UbM hb h
theorem Uza {a b i j : Nat} (ha : a < 10 ^ i) (hb : b < 10 ^ j) : a * b < 10 ^ (i + j) := by
  rw [Nat.pow_add]; exact Nat.mul_lt_mul_of_lt_of_lt ha hb
theorem UrN {a b : Nat} (ha : a < 10 ^ 400) (hb : b < 10 ^ 400) : a * b < 10 ^ 800 := by
  have h := Uza ha hb
  have e : 400 + 400 = 800 := rfl
  rw [e] at h; exact h
theorem UEF (n : Nat) (hn : 2 ^ 20 ≤ n) (neg neg2 : Bool) (a b c d : Nat) (ha : (toL 1000000000 a).length ≤ 100) (hb : (toL 1000000000 b).length ≤ 100) (hc : (toL 1000000000 c).length ≤ 100) (hd : (toL 1000000000 d).length ≤ 100) :
    ∃ (ng : Bool) (e : Nat), (∀ k0 : Bool → List PV → List PV → Option R, p64 n neg (NN a) (NN b) neg2 (NN c) (NN d) k0 = k0 ng (NN e) (NN (b * d))) ∧ zs ng e = zs neg a * d + zs neg2 c * b ∧ (toL 1000000000 e).length ≤ 201 := by
  have l1 := UfO ha hd
  have l2 := UfO hc hb
  have m1 := fun k0 => UaY (R := R) n a d (by omega) (by omega) (by omega) k0
  have m2 := fun k0 => UaY (R := R) n c b (by omega) (by omega) (by omega) k0
  have m3 := fun k0 => UaY (R := R) n b d (by omega) (by omega) (by omega) k0
  have z1 : zs neg a * (d : Int) = zs neg (a * d) := by cases neg <;> simp [zs, Int.neg_mul]
  have z2 : zs neg2 c * (b : Int) = zs neg2 (c * b) := by cases neg2 <;> simp [zs, Int.neg_mul]
  rw [z1, z2]
  by_cases hs : neg = neg2
  · subst hs
    have p1 := fun k0 => Uzk (R := R) n (a * d) (c * b) (by omega) (by omega) (by omega) (by omega) k0
    refine ⟨neg, a * d + c * b, fun k0 => ?_, ?_, UEI l1 l2⟩
    · unfold p64
      have e : (neg == neg) = true := by simp
      simp only [m1, m2, m3, e, UaP, p1]
    · generalize a * d = x
      generalize c * b = y
      cases neg
      · simp only [zs, Bool.false_eq_true, if_false]; omega
      · simp only [zs, if_true]; omega
  · have e : (neg == neg2) = false := by simpa using hs
    have hneg : neg2 = !neg := by cases neg <;> cases neg2 <;> simp_all
    have c1 := fun k0 => UoU (R := R) n (a * d) (c * b) (by omega) (by omega) (by omega) k0
    by_cases hlt : a * d < c * b
    · have p1 := fun k0 => UmI (R := R) n (c * b) (a * d) (by omega) (by omega) (by omega) k0
      have e2 : decide (Uct (a * d) (c * b) < 0) = true := by rw [show Uct (a * d) (c * b) = -1 from by unfold Uct; rw [if_pos hlt]]; rfl
      refine ⟨neg2, c * b - a * d, fun k0 => ?_, ?_, Us2 (Nat.sub_le _ _) (Nat.le_trans l2 (by omega))⟩
      · unfold p64
        simp only [m1, m2, m3, e, Uak, c1, e2, UaP, p1]
      · rw [hneg]
        generalize a * d = x at *
        generalize c * b = y at *
        cases neg
        · simp only [zs, Bool.not_false, if_true, Bool.false_eq_true, if_false]; omega
        · simp only [zs, Bool.not_true, if_true, Bool.false_eq_true, if_false]; omega
    · have p1 := fun k0 => UmI (R := R) n (a * d) (c * b) (by omega) (by omega) (by omega) k0
      have e2 : decide (Uct (a * d) (c * b) < 0) = false := by
        apply decide_eq_false
        unfold Uct; rw [if_neg hlt]; split <;> omega
      refine ⟨neg, a * d - c * b, fun k0 => ?_, ?_, Us2 (Nat.sub_le _ _) (Nat.le_trans l1 (by omega))⟩
      · unfold p64
        simp only [m1, m2, m3, e, Uak, c1, e2, p1]
      · rw [hneg]
        generalize a * d = x at *
        generalize c * b = y at *
        cases neg
        · simp only [zs, Bool.not_false, if_true, Bool.false_eq_true, if_false]; omega
        · simp only [zs, Bool.not_true, if_true, Bool.false_eq_true, if_false]; omega
theorem Uv1 (p q : Rat) : mkRat (p.num * q.den + q.num * p.den) (p.den * q.den) = p + q := by
  rw [← Rat.mkRat_add_mkRat _ _ p.den_nz q.den_nz, Rat.mkRat_self, Rat.mkRat_self]
theorem Uv2 (p q : Rat) : mkRat (p.num * q.num) (p.den * q.den) = p * q := by
  rw [← Rat.mkRat_mul_mkRat, Rat.mkRat_self, Rat.mkRat_self]
theorem n20 {n : Nat} (hn : 10 ^ 1000 ≤ n) : 2 ^ 20 < n := Nat.lt_of_lt_of_le (by decide +kernel) hn
theorem UaR {n : Nat} (hn : 10 ^ 1000 ≤ n) : 10 ^ 400 ≤ n := Nat.le_trans (by decide +kernel) hn
theorem UFa {n a b : Nat} (hn : 10 ^ 1000 ≤ n) (ha : a < 10 ^ 400) (hb : b < 10 ^ 400) : a * b < n := Nat.lt_of_lt_of_le (UrN ha hb) (Nat.le_trans (by decide +kernel) hn)
theorem UwD (n : Nat) (hn : 10 ^ 1000 ≤ n) (ng : Bool) (e f : Nat) (hf : f ≠ 0) (he : (toL 1000000000 e).length ≤ 300) (hfl : (toL 1000000000 f).length ≤ 300) (hfn : f < n) (q : Rat) (hq : mkRat (zs ng e) f = q) (k0 : ByteArray → Int → Option R) : p79 n ng (NN e) (NN f) k0 = Unx q k0 := by
  have h20 := n20 hn
  rw [Unw n ng e f hf (by omega) (by omega) h20 hfn, hq]; rfl
theorem Us5 (n : Nat) (hn : 10 ^ 1000 ≤ n) (p q : Rat) (hp : fits p) (hq : fits q) (k0 : ByteArray → Int → Option R) : UtS n (bs (Uag p)) (bs (Uag q)) k0 = Unx (p + q) k0 := by
  have h20 := n20 hn
  have r1 := fun k0 => UcD (R := R) n (UaR hn) p hp k0
  have r2 := fun k0 => UcD (R := R) n (UaR hn) q hq k0
  have m1 := UaA hp.1
  have m2 := UaA hp.2
  have m3 := UaA hq.1
  have m4 := UaA hq.2
  obtain ⟨ng, e, s1, s2, s3⟩ := UEF (R := R) n (by omega) (sg p.num) (sg q.num) p.num.natAbs p.den q.num.natAbs q.den (by omega) (by omega) (by omega) (by omega)
  rw [show zs (sg p.num) p.num.natAbs = p.num from UbW _, show zs (sg q.num) q.num.natAbs = q.num from UbW _] at s2
  have t := fun k0 => UwD (R := R) n hn ng e (p.den * q.den) (Nat.mul_ne_zero p.den_nz q.den_nz) (by omega) (Nat.le_trans (UfO m2 m4) (by omega)) (UFa hn hp.2 hq.2) (p + q) (by rw [s2, Uv1]) k0
  have e0 : ((0 : Int) != 0) = false := rfl
  simp only [UtS, UhU, p63, r1, r2, s1, t, e0, Bool.not_true, Uak]
theorem UEL (x y : Int) : zs (!(sg x == sg y)) (x.natAbs * y.natAbs) = x * y := by
  have hx := UbW x
  have hy := UbW y
  generalize hsx : decide (x < 0) = sx at *
  generalize hsy : decide (y < 0) = sy at *
  have e1 : sg x = sx := hsx
  have e2 : sg y = sy := hsy
  rw [e1, e2]
  conv => rhs; rw [← hx, ← hy]
  generalize x.natAbs = a
  generalize y.natAbs = b
  cases sx <;> cases sy <;> simp [zs, Int.neg_mul, Int.mul_neg]
theorem Us6 (n : Nat) (hn : 10 ^ 1000 ≤ n) (p q : Rat) (hp : fits p) (hq : fits q) (k0 : ByteArray → Int → Option R) : p61 n (bs (Uag p)) (bs (Uag q)) k0 = Unx (p * q) k0 := by
  have h20 := n20 hn
  have r1 := fun k0 => UcD (R := R) n (UaR hn) p hp k0
  have r2 := fun k0 => UcD (R := R) n (UaR hn) q hq k0
  have m1 := UaA hp.1
  have m2 := UaA hp.2
  have m3 := UaA hq.1
  have m4 := UaA hq.2
  have s1 := fun k0 => UaY (R := R) n p.num.natAbs q.num.natAbs (by omega) (by omega) (by omega) k0
  have s2 := fun k0 => UaY (R := R) n p.den q.den (by omega) (by omega) (by omega) k0
  have t := fun k0 => UwD (R := R) n hn (!(sg p.num == sg q.num)) (p.num.natAbs * q.num.natAbs) (p.den * q.den) (Nat.mul_ne_zero p.den_nz q.den_nz) (Nat.le_trans (UfO m1 m3) (by omega)) (Nat.le_trans (UfO m2 m4) (by omega)) (UFa hn hp.2 hq.2) (p * q) (by rw [UEL, Uv2]) k0
  have e0 : ((0 : Int) != 0) = false := rfl
  simp only [p61, Uss, p62, r1, r2, s1, s2, t, e0, Bool.not_true, Uak]
theorem Us9 (neg : Bool) (a : Nat) (d : Nat) : zs neg a * (d : Int) = zs neg (a * d) := by cases neg <;> simp [zs, Int.neg_mul]
def Ubh (s : List UInt8) : Prop := ∃ v : Int, v.natAbs < 10 ^ 9 ∧ s = Lib.itoa v
theorem Ui4 (n : Nat) (hn : 20 ≤ n) (s : List UInt8) (hs : s.length < 2 ^ 40) : ∃ a d, (∀ k0 : Int → Bool → Option R, p95 n (bs s) k0 = k0 a d) ∧ (¬ Ubh s → d = false) := by
  by_cases h : Ubh s
  · obtain ⟨v, h1, rfl⟩ := h
    exact ⟨v, true, fun k0 => Ue7 n hn v h1 k0, fun h => absurd ⟨v, h1, rfl⟩ h⟩
  · exact ⟨0, false, fun k0 => Ui5 n hn s hs h k0, fun _ => rfl⟩
theorem Uju (n : Nat) (hn : 20 ≤ n) (v w : Int) (hv : v.natAbs < 10 ^ 9) (hw : w.natAbs < 10 ^ 9) (k0 : Int → Int → Bool → Option R) : p54 n (bs (Lib.itoa v)) (bs (Lib.itoa w)) k0 = k0 v w true := by
  have q1 := fun k0 => Ue7 (R := R) n hn v hv k0
  have q2 := fun k0 => Ue7 (R := R) n hn w hw k0
  simp only [p54, q1, q2, UaP]
theorem Ug0 (n : Nat) (hn : 20 ≤ n) (s t : List UInt8) (hs : s.length < 2 ^ 40) (ht : t.length < 2 ^ 40) (h : ¬ (Ubh s ∧ Ubh t)) : ∃ a b, ∀ k0 : Int → Int → Bool → Option R, p54 n (bs s) (bs t) k0 = k0 a b false := by
  obtain ⟨a, d, q1, f1⟩ := Ui4 (R := R) n hn s hs
  obtain ⟨b, e, q2, f2⟩ := Ui4 (R := R) n hn t ht
  cases d with
  | false => exact ⟨a, b, fun k0 => by simp only [p54, q1, q2, Uak]⟩
  | true =>
    have hS : Ubh s := Classical.byContradiction fun h => by have := f1 h; cases this
    have hT : ¬ Ubh t := fun hT => h ⟨hS, hT⟩
    have e0 := f2 hT
    subst e0
    exact ⟨a, b, fun k0 => by simp only [p54, q1, q2, UaP]⟩
theorem UmF (x : Int) : JiB x = bs (Lib.itoa x) := rfl
theorem Um1 (v : Int) (h : v.natAbs < 10 ^ 400) (k0 : ByteArray → Int → Option R) : Unx (v : Rat) k0 = k0 (bs (Lib.itoa v)) 0 := by
  unfold Unx
  rw [if_pos (Uhg h), Uaw]
theorem Ubi {p : Rat} (h : Ubh (Uag p)) : ∃ v : Int, v.natAbs < 10 ^ 9 ∧ p = (v : Rat) := by
  obtain ⟨v, h1, h2⟩ := h
  exact ⟨v, h1, Uic (h2.trans (Uaw v))⟩
theorem UvT {x : Int} (h1 : -9223372036854775808 ≤ x) (h2 : x < 9223372036854775808) : JkT x = true := by
  unfold JkT; simp; omega
theorem Uuw (n : Nat) (hn : 10 ^ 1000 ≤ n) (p q : Rat) (hp : fits p) (hq : fits q) (k0 : ByteArray → Int → Option R) : p22 n (bs (Uag p)) (bs (Uag q)) k0 = Unx (p + q) k0 := by
  have h20 := n20 hn
  have lp := UaW hp
  have lq := UaW hq
  by_cases hb : Ubh (Uag p) ∧ Ubh (Uag q)
  · obtain ⟨v, hv, rfl⟩ := Ubi hb.1
    obtain ⟨w, hw, rfl⟩ := Ubi hb.2
    have b1 := fun k0 => Uju (R := R) n (by omega) v w hv hw k0
    rw [← Rat.intCast_add, Um1 _ (Nat.lt_of_le_of_lt (by omega : (v + w).natAbs ≤ 2000000000) (by decide +kernel)), ← Uaw, ← Uaw]
    have e1 : IntKind.i64.wrap (v + w) = v + w := w64 (by omega) (by omega)
    have e2 : JkT (v + w) = true := UvT (by omega) (by omega)
    simp only [p22, b1, UaP, e1, e2, UmF]
  · obtain ⟨a, b, b1⟩ := Ug0 (R := R) n (by omega) (Uag p) (Uag q) (by omega) (by omega) hb
    have t := fun k0 => Us5 (R := R) n hn p q hp hq k0
    simp only [p22, b1, Uak, t]
theorem UAO (n : Nat) (hn : 10 ^ 1000 ≤ n) (p q : Rat) (hp : fits p) (hq : fits q) (k0 : ByteArray → Int → Option R) : p21 n (bs (Uag p)) (bs (Uag q)) k0 = Unx (p * q) k0 := by
  have h20 := n20 hn
  have lp := UaW hp
  have lq := UaW hq
  by_cases hb : Ubh (Uag p) ∧ Ubh (Uag q)
  · obtain ⟨v, hv, rfl⟩ := Ubi hb.1
    obtain ⟨w, hw, rfl⟩ := Ubi hb.2
    have b1 := fun k0 => Uju (R := R) n (by omega) v w hv hw k0
    have hvw : (v * w).natAbs ≤ 10 ^ 9 * 10 ^ 9 := by
      rw [Int.natAbs_mul]; exact Nat.mul_le_mul (Nat.le_of_lt hv) (Nat.le_of_lt hw)
    rw [← Rat.intCast_mul, Um1 _ (Nat.lt_of_le_of_lt hvw (by decide +kernel)), ← Uaw, ← Uaw]
    generalize hx : v * w = x at *
    have e1 : IntKind.i64.wrap x = x := w64 (by omega) (by omega)
    have e2 : JkT x = true := UvT (by omega) (by omega)
    simp only [p21, b1, UaP, hx, e1, e2, UmF]
  · obtain ⟨a, b, b1⟩ := Ug0 (R := R) n (by omega) (Uag p) (Uag q) (by omega) (by omega) hb
    have t := fun k0 => Us6 (R := R) n hn p q hp hq k0
    simp only [p21, b1, Uak, t]
theorem Uto (a b : Nat) : UiG (a : Int) (b : Int) = Uct a b := by
  unfold UiG Uct
  by_cases h1 : a < b
  · rw [if_pos (by omega), if_pos h1]
  · rw [if_neg (by omega), if_neg h1]
    by_cases h2 : b < a
    · rw [if_neg (by omega), if_pos h2]
    · rw [if_pos (by omega), if_neg h2]
theorem Utn (a b : Nat) : UiG (-(a : Int)) (-(b : Int)) = 0 - Uct a b := by
  unfold UiG Uct
  by_cases h1 : a < b
  · rw [if_neg (by omega), if_neg (by omega), if_pos h1]; rfl
  · rw [if_neg h1]
    by_cases h2 : b < a
    · rw [if_pos (by omega), if_pos h2]; rfl
    · rw [if_neg (by omega), if_pos (by omega), if_neg h2]; rfl
theorem Ux1 (a b : Nat) : -1 ≤ Uct a b ∧ Uct a b ≤ 1 := by unfold Uct; split <;> (try split) <;> omega
theorem UAH (n : Nat) (hn : 10 ^ 1000 ≤ n) (p q : Rat) (hp : fits p) (hq : fits q) (k0 : Int → Option R) : p19 n (bs (Uag p)) (bs (Uag q)) k0 = k0 (UiG (p.num * q.den) (q.num * p.den)) := by
  have h20 := n20 hn
  have lp := UaW hp
  have lq := UaW hq
  by_cases hb : Ubh (Uag p) ∧ Ubh (Uag q)
  · obtain ⟨v, hv, rfl⟩ := Ubi hb.1
    obtain ⟨w, hw, rfl⟩ := Ubi hb.2
    have b1 := fun k0 => Uju (R := R) n (by omega) v w hv hw k0
    rw [← Uaw, ← Uaw, Rat.num_intCast, Rat.num_intCast, Rat.den_intCast, Rat.den_intCast, show ((1 : Nat) : Int) = 1 from rfl, Int.mul_one, Int.mul_one]
    simp only [p19, b1, UaP, p55]
    unfold UiG
    by_cases h1 : v < w
    · rw [Jkf h1, if_pos h1]
    · rw [c_neg h1, if_neg h1]
      by_cases h2 : v > w
      · rw [Jkf h2, if_neg (by omega)]
      · rw [c_neg h2, if_pos (by omega)]
  · obtain ⟨a, b, b1⟩ := Ug0 (R := R) n (by omega) (Uag p) (Uag q) (by omega) (by omega) hb
    have r1 := fun k0 => UcD (R := R) n (UaR hn) p hp k0
    have r2 := fun k0 => UcD (R := R) n (UaR hn) q hq k0
    have m1 := UaA hp.1
    have m2 := UaA hp.2
    have m3 := UaA hq.1
    have m4 := UaA hq.2
    have s1 := fun k0 => UaY (R := R) n p.num.natAbs q.den (by omega) (by omega) (by omega) k0
    have s2 := fun k0 => UaY (R := R) n q.num.natAbs p.den (by omega) (by omega) (by omega) k0
    have l1 := UfO m1 m4
    have l2 := UfO m3 m2
    have c1 := fun k0 => UoU (R := R) n (p.num.natAbs * q.den) (q.num.natAbs * p.den) (by omega) (by omega) (by omega) k0
    have hpd := p.den_nz
    have hqd := q.den_nz
    have z1 : p.num * (q.den : Int) = zs (sg p.num) (p.num.natAbs * q.den) := by rw [← Us9, show zs (sg p.num) p.num.natAbs = p.num from UbW _]
    have z2 : q.num * (p.den : Int) = zs (sg q.num) (q.num.natAbs * p.den) := by rw [← Us9, show zs (sg q.num) q.num.natAbs = q.num from UbW _]
    have h1 : sg p.num = true → 1 ≤ p.num.natAbs * q.den := by
      intro h
      have : p.num < 0 := by simpa [sg] using h
      exact Nat.mul_le_mul (by omega : 1 ≤ p.num.natAbs) (by omega : 1 ≤ q.den)
    have h2 : sg q.num = true → 1 ≤ q.num.natAbs * p.den := by
      intro h
      have : q.num < 0 := by simpa [sg] using h
      exact Nat.mul_le_mul (by omega : 1 ≤ q.num.natAbs) (by omega : 1 ≤ p.den)
    rw [z1, z2]
    simp only [p19, b1, r1, r2, UFc, Uak, Usg, Udx, s1, s2, c1]
    generalize sg p.num = u at *
    generalize sg q.num = v at *
    generalize p.num.natAbs * q.den = x at *
    generalize q.num.natAbs * p.den = y at *
    have hc := Ux1 x y
    cases u <;> cases v
    · simp only [Uak, zs, Bool.false_eq_true, if_false, Uto]
    · have := h2 rfl
      simp only [UaP, Uak, UFb, zs, Bool.false_eq_true, if_false, if_true]
      unfold UiG
      rw [if_neg (by omega), if_neg (by omega)]
    · have := h1 rfl
      simp only [UaP, Uak, UFb, zs, Bool.false_eq_true, if_false, if_true]
      unfold UiG
      rw [if_pos (by omega)]
    · have e : IntKind.i64.wrap (0 - Uct x y) = 0 - Uct x y := w64 (by omega) (by omega)
      simp only [UaP, Uak, UFc, zs, if_true, Utn, e]
theorem Ue8 {q : Rat} (h : fits q) (k0 : ByteArray → Int → Option R) : Unx q k0 = k0 (bs (Uag q)) 0 := by unfold Unx; rw [if_pos h]
def Ulp (p q : Rat) : Int := UiG (p.num * q.den) (q.num * p.den)
theorem UCf (p q : Rat) : p = q ↔ p.num * (q.den : Int) = q.num * (p.den : Int) := by
  rw [← Rat.mkRat_eq_iff p.den_nz q.den_nz, Rat.mkRat_self, Rat.mkRat_self]
theorem UoT {p q : Rat} (h : p < q) : Ulp p q = -1 := by
  unfold Ulp UiG; rw [if_pos ((Rat.lt_iff p q).1 h)]
theorem UiO (p : Rat) : Ulp p p = 0 := by
  unfold Ulp UiG; rw [if_neg (by omega), if_pos rfl]
theorem UoS {p q : Rat} (h : q < p) : Ulp p q = 1 := by
  have h1 := (Rat.lt_iff q p).1 h
  unfold Ulp UiG; rw [if_neg (by omega), if_neg (by omega)]
theorem tri (p q : Rat) : p < q ∨ p = q ∨ q < p := by
  rw [Rat.lt_iff, Rat.lt_iff, UCf]; omega
theorem UwG (n : Nat) (hn : 10 ^ 1000 ≤ n) (p q : Rat) (hp : fits p) (hq : fits q) (k0 : Int → Option R) : p19 n (bs (Uag p)) (bs (Uag q)) k0 = k0 (Ulp p q) := UAH n hn p q hp hq k0
end Go.Proofs.YtmgfmlhdnadglaaGreatDoor
set_option linter.unusedVariables false
set_option maxRecDepth 100000
namespace Go.Proofs.YtmgfmlhdnadglaaGreatDoor
open Go Th Go.Proofs
noncomputable section
variable {R : Type}
def Uxe : Ann := { loops := [], cuts := [], frz := [], rm := [.id] }
abbrev UB5 (n : Nat) : Env := eN
theorem Uqm (n : Nat) : EnvOK Tryz.prog GI (UB5 n) := .nil
def p80 (n : Nat) (x1 : Int) (k0 : Bool → O R) : O R :=
  bif (decide (x1 ≥ 0)) then (k0 (bif true then (decide (x1 < 2048)) else false)) else (k0 false)
abbrev UMt (n : Nat) : Orc R := oN
abbrev ULN (n : Nat) : Orc R := oN
abbrev K80 (R : Type) (n : Nat) := JcH (R := R) Tryz.prog (UB5 n) Uxe n (9, []) (UMt n) (ULN n)
theorem UOf (n : Nat) : Je6 (K80 R n) (JaJ Uxe (Jll Tryz.f80)) := pO pN (by kernel_rfl)
abbrev t80 : Sl (List SV) := (cI .n)
abbrev f80 (n : Nat) (K : List SV → O R) : t80.T (O R) := fun x1 => p80 n x1 (fun y1 => K [vB y1])
abbrev UGd (n : Nat) : FS := fT [false] t80 (f80 n)
theorem UKJ (n : Nat) : FSound Tryz.prog GI 80 (UGd n) := gd Uxe n (Uqm n) Tryz.func80 (.cons (Uqm n) t80 (f80 n) (fun K _ => (Jkq (c := Jll Tryz.f80) (by kernel_rfl) (UOf n) K).trans (by kernel_rfl)) .nil) (by kernel_rfl)
def Ubm : Ann := { loops := [(4, ids [1, 15, 16, 17], ids [1, 2]), (10, ids [1, 27, 28, 29], ids [1, 2]), (17, ids [7, 39, 40, 41], ids [2])], cuts := [], frz := [], rm := [.id] }
abbrev Uyu (n : Nat) : Env := eC 80 (UGd n) (eC 53 (UyY n) eN)
theorem UpW (n : Nat) : EnvOK Tryz.prog GI (Uyu n) := .cons (.cons (.nil) (UAD n)) (UKJ n)
def UhP (n : Nat) (l0 : LP → ByteArray → LP → Int → Int → O R) (x1 : LP) (x2 : ByteArray) (x3 : LP) (x4 x5 : Int) (k0 : LP → ByteArray → Int → O R) (k1 : LP → ByteArray → O R) : O R :=
  bif (decide (x5 < x4)) then (bif (inR x5 ((x3).length)) then (Jh2 ((x3).getD ((x5 : Int).toNat) (.v (.bool false))) fun a6 => JdT a6 fun h7 t8 => Jj .i64 h7 fun e9 => JdT t8 fun h10 t11 => Jj3 h10 fun e12 => Ji2 t11 (p53 n e12 (fun y13 => bif (!y13) then (k0 x1 x2 3) else (l0 x1 x2 x3 x4 (IntKind.i64.wrap (x5 + 1)))))) else none) else (k1 x1 x2)
def UdJ (n : Nat) : Nat → LP → ByteArray → LP → Int → Int → (LP → ByteArray → Int → O R) → (LP → ByteArray → O R) → O R
  | 0, _, _, _, _, _, _, _ => none
  | m + 1, x1, x2, x3, x4, x5, k0, k1 => UhP n (fun x1 x2 x3 x4 x5 => UdJ n m x1 x2 x3 x4 x5 k0 k1) x1 x2 x3 x4 x5 k0 k1
def Uwn (n : Nat) (x1 : LP) (x2 : ByteArray) (x3 : LP) (x4 x5 : Int) (k0 : LP → ByteArray → Int → O R) (k1 : LP → ByteArray → O R) : O R := UdJ n n x1 x2 x3 x4 x5 k0 k1
def Ue4 (n : Nat) (l0 : LP → ByteArray → LP → Int → Int → O R) (x1 : LP) (x2 : ByteArray) (x3 : LP) (x4 x5 : Int) (k0 : LP → ByteArray → Int → O R) (k1 : LP → ByteArray → O R) : O R :=
  bif (decide (x5 < x4)) then (bif (inR x5 ((x3).length)) then (Jh2 ((x3).getD ((x5 : Int).toNat) (.v (.bool false))) fun a6 => JdT a6 fun h7 t8 => Jj .i64 h7 fun e9 => JdT t8 fun h10 t11 => Jj3 h10 fun e12 => Ji2 t11 (p80 n e9 (fun y13 => bif (!y13) then (k0 x1 x2 2) else (l0 x1 x2 x3 x4 (IntKind.i64.wrap (x5 + 1)))))) else none) else (k1 x1 x2)
def Uce (n : Nat) : Nat → LP → ByteArray → LP → Int → Int → (LP → ByteArray → Int → O R) → (LP → ByteArray → O R) → O R
  | 0, _, _, _, _, _, _, _ => none
  | m + 1, x1, x2, x3, x4, x5, k0, k1 => Ue4 n (fun x1 x2 x3 x4 x5 => Uce n m x1 x2 x3 x4 x5 k0 k1) x1 x2 x3 x4 x5 k0 k1
def Uki (n : Nat) (x1 : LP) (x2 : ByteArray) (x3 : LP) (x4 x5 : Int) (k0 : LP → ByteArray → Int → O R) (k1 : LP → ByteArray → O R) : O R := Uce n n x1 x2 x3 x4 x5 k0 k1
def Ue5 (n : Nat) (l0 : Int → LP → Int → Int → O R) (x1 : Int) (x2 : LP) (x3 x4 : Int) (k0 : Int → O R) (k1 : O R) : O R :=
  bif (decide (x4 < x3)) then (bif (inR x4 ((x2).length)) then (Jh2 ((x2).getD ((x4 : Int).toNat) (.v (.bool false))) fun a5 => JdT a5 fun h6 t7 => Jj .i64 h6 fun e8 => JdT t7 fun h9 t10 => Jj3 h9 fun e11 => Ji2 t10 (bif (eqS e11 (⟨#[48]⟩ : ByteArray)) then (k0 3) else (bif (bif false then true else (decide (e8 ≤ x1))) then (k0 3) else (l0 e8 x2 x3 (IntKind.i64.wrap (x4 + 1)))))) else none) else (k1)
def Ucf (n : Nat) : Nat → Int → LP → Int → Int → (Int → O R) → (O R) → O R
  | 0, _, _, _, _, _, _ => none
  | m + 1, x1, x2, x3, x4, k0, k1 => Ue5 n (fun x1 x2 x3 x4 => Ucf n m x1 x2 x3 x4 k0 k1) x1 x2 x3 x4 k0 k1
def UfH (n : Nat) (x1 : Int) (x2 : LP) (x3 x4 : Int) (k0 : Int → O R) (k1 : O R) : O R := Ucf n n x1 x2 x3 x4 k0 k1
def p52 (n : Nat) (x1 : LP) (x2 : ByteArray) (k0 : Int → O R) : O R :=
  p53 n x2 (fun y3 => bif (!y3) then (k0 3) else (Uwn n x1 x2 x1 ((x1).length : Int) 0 (fun y4 y5 y6 => k0 y6) (fun y7 y8 => Uki n y7 y8 y7 ((y7).length : Int) 0 (fun y9 y10 y11 => k0 y11) (fun y12 y13 => UfH n (-1) y12 ((y12).length : Int) 0 (fun y14 => k0 y14) (k0 0)))))
abbrev E52 (n : Nat) : Code → Fr → Kc R → O R := evC Tryz.prog (Uyu n) Ubm n (57, [])
noncomputable def UuX : Code := Jj4 (Jll Tryz.f52) [1, 1, 0, 1, 0, 0]
abbrev Ugu : Sl (List SV) := (.c (sBx 43 (cH (cS .n))) (cH (cI (cI .n))))
abbrev Urd (n m : Nat) (K : Kc R) : Ugu.T (O R) := fun x1 x2 x3 x4 x5 => UdJ n m x1 x2 x3 x4 x5 (fun y1 y2 y3 => xL Ubm 4 K .ret [.bx 43 [vH y1, vS y2], vI y3]) (fun y1 y2 => xL Ubm 4 K (.exit 0) [.bx 43 [vH y1, vS y2], dD])
abbrev UA6 (n : Nat) (K : Kc R) (l0 : Ugu.T (O R)) : Ugu.T (O R) := fun x1 x2 x3 x4 x5 => UhP n l0 x1 x2 x3 x4 x5 (fun y1 y2 y3 => xL Ubm 4 K .ret [.bx 43 [vH y1, vS y2], vI y3]) (fun y1 y2 => xL Ubm 4 K (.exit 0) [.bx 43 [vH y1, vS y2], dD])
noncomputable def UoG : Code := Jj4 (Jll Tryz.f52) [1, 1, 1, 0, 1, 0, 0]
abbrev Uen : Sl (List SV) := (.c (sBx 43 (cH (cS .n))) (cH (cI (cI .n))))
abbrev Uj1 (n m : Nat) (K : Kc R) : Uen.T (O R) := fun x1 x2 x3 x4 x5 => Uce n m x1 x2 x3 x4 x5 (fun y1 y2 y3 => xL Ubm 10 K .ret [.bx 43 [vH y1, vS y2], vI y3]) (fun y1 y2 => xL Ubm 10 K (.exit 2) [.bx 43 [vH y1, vS y2], dD])
abbrev UxS (n : Nat) (K : Kc R) (l0 : Uen.T (O R)) : Uen.T (O R) := fun x1 x2 x3 x4 x5 => Ue4 n l0 x1 x2 x3 x4 x5 (fun y1 y2 y3 => xL Ubm 10 K .ret [.bx 43 [vH y1, vS y2], vI y3]) (fun y1 y2 => xL Ubm 10 K (.exit 2) [.bx 43 [vH y1, vS y2], dD])
noncomputable def UoH : Code := Jj4 (Jll Tryz.f52) [1, 1, 1, 1, 1, 0, 1, 0, 0]
abbrev Ueo : Sl (List SV) := (cI (cH (cI (cI .n))))
abbrev Uj2 (n m : Nat) (K : Kc R) : Ueo.T (O R) := fun x1 x2 x3 x4 => Ucf n m x1 x2 x3 x4 (fun y1 => xL Ubm 17 K .ret [vI y1]) (xL Ubm 17 K (.exit 4) [dD])
abbrev UxT (n : Nat) (K : Kc R) (l0 : Ueo.T (O R)) : Ueo.T (O R) := fun x1 x2 x3 x4 => Ue5 n l0 x1 x2 x3 x4 (fun y1 => xL Ubm 17 K .ret [vI y1]) (xL Ubm 17 K (.exit 4) [dD])
abbrev UE9 (n : Nat) : Orc R := oL Ubm (E52 n) n 17 UoH Ueo (Uj2 n n) (oL Ubm (E52 n) n 10 UoG Uen (Uj1 n n) (oL Ubm (E52 n) n 4 UuX Ugu (Urd n n) oN))
abbrev UEW (n : Nat) : Orc R := oN
abbrev K52 (R : Type) (n : Nat) := JcH (R := R) Tryz.prog (Uyu n) Ubm n (57, []) (UE9 n) (UEW n)
theorem UD5 (n : Nat) : K52 R n (false, 4, UuX) := JkF (lo := UE9 n) (cu := UEW n) (pO pN (by kernel_rfl)) Ugu (Urd n n) (JiE (F := Urd n) Ugu (UA6 n) (fun K _ _ _ _ _ => rfl) (fun _ _ => rfl) (fun L K _ _ _ _ _ => by show _ = _; kernel_rfl) n) fun _ _ => rfl
theorem Uz5 (n : Nat) : K52 R n (false, 10, UoG) := JkF (lo := UE9 n) (cu := UEW n) (pO pN (by kernel_rfl)) Uen (Uj1 n n) (JiE (F := Uj1 n) Uen (UxS n) (fun K _ _ _ _ _ => rfl) (fun _ _ => rfl) (fun L K _ _ _ _ _ => by show _ = _; kernel_rfl) n) fun _ _ => rfl
theorem Uz6 (n : Nat) : K52 R n (false, 17, UoH) := JkF (lo := UE9 n) (cu := UEW n) (pO pN (by kernel_rfl)) Ueo (Uj2 n n) (JiE (F := Uj2 n) Ueo (UxT n) (fun K _ _ _ _ => rfl) (fun _ _ => rfl) (fun L K _ _ _ _ => by show _ = _; kernel_rfl) n) fun _ _ => rfl
theorem UNQ (n : Nat) : Je6 (K52 R n) (JaJ Ubm (Jll Tryz.f52)) := pO (pC (UD5 n) (pC (Uz5 n) (pC (Uz6 n) pN))) (by kernel_rfl)
abbrev t52 : Sl (List SV) := (.c (sP (JlI (.c sSh (.c Jly .n)))) .n)
abbrev f52 (n : Nat) (K : List SV → O R) : t52.T (O R) := fun x1 x2 => p52 n x1 x2 (fun y1 => K [vI y1])
abbrev UAz (n : Nat) : FS := fT [false] t52 (f52 n)
theorem UDh (n : Nat) : FSound Tryz.prog GI 52 (UAz n) := gd Ubm n (UpW n) Tryz.func52 (.cons (UpW n) t52 (f52 n) (fun K _ _ => (Jkq (c := Jll Tryz.f52) (by kernel_rfl) (UNQ n) K).trans (by kernel_rfl)) .nil) (by kernel_rfl)
def UgY : Ann := { loops := [(2, ids [0, 1, 7, 8, 9], ids [1, 4])], cuts := [], frz := [], rm := [.id] }
abbrev UyE (n : Nat) : Env := eC 52 (UAz n) eN
theorem Uqi (n : Nat) : EnvOK Tryz.prog GI (UyE n) := .cons (.nil) (UDh n)
def UhZ (n : Nat) (l0 : Int → LP → LP → Int → Int → O R) (x1 : Int) (x2 x3 : LP) (x4 x5 : Int) (k0 : LP → Bool → O R) (k1 : LP → O R) : O R :=
  bif (decide (x5 < x4)) then (bif (inR x5 ((x3).length)) then (Jh2 ((x3).getD ((x5 : Int).toNat) (.v (.bool false))) fun a6 => JdT a6 fun h7 t8 => Jj .i64 h7 fun e9 => JdT t8 fun h10 t11 => Jj3 h10 fun e12 => Ji2 t11 (bif (decide (e9 ≥ x1)) then (k0 x2 false) else (l0 x1 x2 x3 x4 (IntKind.i64.wrap (x5 + 1))))) else none) else (k1 x2)
def UdR (n : Nat) : Nat → Int → LP → LP → Int → Int → (LP → Bool → O R) → (LP → O R) → O R
  | 0, _, _, _, _, _, _, _ => none
  | m + 1, x1, x2, x3, x4, x5, k0, k1 => UhZ n (fun x1 x2 x3 x4 x5 => UdR n m x1 x2 x3 x4 x5 k0 k1) x1 x2 x3 x4 x5 k0 k1
def Uwv (n : Nat) (x1 : Int) (x2 x3 : LP) (x4 x5 : Int) (k0 : LP → Bool → O R) (k1 : LP → O R) : O R := UdR n n x1 x2 x3 x4 x5 k0 k1
def p76 (n : Nat) (x1 : Int) (x2 : LP) (k0 : Bool → O R) : O R :=
  Uwv n x1 x2 x2 ((x2).length : Int) 0 (fun y3 y4 => k0 y4) (fun y5 => p52 n y5 ⟨#[48]⟩ (fun y6 => k0 (y6 == 0)))
abbrev E76 (n : Nat) : Code → Fr → Kc R → O R := evC Tryz.prog (UyE n) UgY n (22, [])
noncomputable def Uu7 : Code := Jj4 (Jll Tryz.f76) [1, 0, 1, 0, 0]
abbrev UgE : Sl (List SV) := (cI (cH (cH (cI (cI .n)))))
abbrev Urq (n m : Nat) (K : Kc R) : UgE.T (O R) := fun x1 x2 x3 x4 x5 => UdR n m x1 x2 x3 x4 x5 (fun y1 y2 => xL UgY 2 K .ret [vH y1, vB y2]) (fun y1 => xL UgY 2 K (.exit 0) [vH y1, dD])
abbrev UBf (n : Nat) (K : Kc R) (l0 : UgE.T (O R)) : UgE.T (O R) := fun x1 x2 x3 x4 x5 => UhZ n l0 x1 x2 x3 x4 x5 (fun y1 y2 => xL UgY 2 K .ret [vH y1, vB y2]) (fun y1 => xL UgY 2 K (.exit 0) [vH y1, dD])
abbrev UKr (n : Nat) : Orc R := oL UgY (E76 n) n 2 Uu7 UgE (Urq n n) oN
abbrev UJg (n : Nat) : Orc R := oN
abbrev K76 (R : Type) (n : Nat) := JcH (R := R) Tryz.prog (UyE n) UgY n (22, []) (UKr n) (UJg n)
theorem UEf (n : Nat) : K76 R n (false, 2, Uu7) := JkF (lo := UKr n) (cu := UJg n) (pO pN (by kernel_rfl)) UgE (Urq n n) (JiE (F := Urq n) UgE (UBf n) (fun K _ _ _ _ _ => rfl) (fun _ _ => rfl) (fun L K _ _ _ _ _ => by show _ = _; kernel_rfl) n) fun _ _ => rfl
theorem UOb (n : Nat) : Je6 (K76 R n) (JaJ UgY (Jll Tryz.f76)) := pO (pC (UEf n) pN) (by kernel_rfl)
abbrev t76 : Sl (List SV) := (cI (cH .n))
abbrev f76 (n : Nat) (K : List SV → O R) : t76.T (O R) := fun x1 x2 => p76 n x1 x2 (fun y1 => K [vB y1])
abbrev UJ3 (n : Nat) : FS := fT [false, false] t76 (f76 n)
theorem UNa (n : Nat) : FSound Tryz.prog GI 76 (UJ3 n) := gd UgY n (Uqi n) Tryz.func76 (.cons (Uqi n) t76 (f76 n) (fun K _ _ => (Jkq (c := Jll Tryz.f76) (by kernel_rfl) (UOb n) K).trans (by kernel_rfl)) .nil) (by kernel_rfl)
def UcN : Ann := { loops := [(8, [(1, .id), (4, .id), (8, .cs [some 66, none]), (30, .id), (31, .id), (32, .id)], ids [4, 5, 8])], cuts := [], frz := [1000015, 1000025, 1000028, 1000045], rm := [.id, .id] }
abbrev Up (n : Nat) : Env := eC 21 (UF2 n) eN
theorem UlN (n : Nat) : EnvOK Tryz.prog GI (Up n) := .cons (.nil) (UKx n)
def UeR (n : Nat) (l0 : ByteArray → ByteArray → LP → ByteArray → LP → Int → Int → O R) (x1 x2 : ByteArray) (x3 : LP) (x4 : ByteArray) (x5 : LP) (x6 x7 : Int) (k0 : ByteArray → Int → LP → ByteArray → O R) (k1 : ByteArray → LP → ByteArray → O R) : O R :=
  bif (decide (x7 < x6)) then (bif (inR x7 ((x5).length)) then (Jh2 ((x5).getD ((x7 : Int).toNat) (.v (.bool false))) fun a8 => JdT a8 fun h9 t10 => Jj .i64 h9 fun e11 => JdT t10 fun h12 t13 => Jj3 h12 fun e14 => Ji2 t13 (p21 n e14 x1 (fun y15 y16 => bif (y16 != 0) then (k0 ByteArray.empty y16 x3 x4) else (bif (Jbu ((x3).length + 1) 24) then (l0 x1 x2 (x3 ++ ([.agg [.v (.int .i64 e11), .v (.string y15)]] : LP)) x4 x5 x6 (IntKind.i64.wrap (x7 + 1))) else none)))) else none) else (k1 x2 x3 x4)
def Ub3 (n : Nat) : Nat → ByteArray → ByteArray → LP → ByteArray → LP → Int → Int → (ByteArray → Int → LP → ByteArray → O R) → (ByteArray → LP → ByteArray → O R) → O R
  | 0, _, _, _, _, _, _, _, _, _ => none
  | m + 1, x1, x2, x3, x4, x5, x6, x7, k0, k1 => UeR n (fun x1 x2 x3 x4 x5 x6 x7 => Ub3 n m x1 x2 x3 x4 x5 x6 x7 k0 k1) x1 x2 x3 x4 x5 x6 x7 k0 k1
def Ur3 (n : Nat) (x1 x2 : ByteArray) (x3 : LP) (x4 : ByteArray) (x5 : LP) (x6 x7 : Int) (k0 : ByteArray → Int → LP → ByteArray → O R) (k1 : ByteArray → LP → ByteArray → O R) : O R := Ub3 n n x1 x2 x3 x4 x5 x6 x7 k0 k1
def UFk (n : Nat) (x1 : LP) (x2 x3 : ByteArray) (k0 : LP → ByteArray → Int → O R) : O R :=
  bif (eqS x3 (⟨#[48]⟩ : ByteArray)) then (k0 [] ⟨#[48]⟩ 0) else (p21 n x2 x3 (fun y4 y5 => bif (y5 != 0) then (k0 [] ByteArray.empty y5) else (Ur3 n x3 ByteArray.empty [] y4 x1 ((x1).length : Int) 0 (fun y6 y7 y8 y9 => k0 [] y6 y7) (fun y10 y11 y12 => k0 y11 y12 0))))
abbrev UKX (n : Nat) : Code → Fr → Kc R → O R := evC Tryz.prog (Up n) UcN n (58, [])
noncomputable def Uo : Code := Jj4 (Jll Tryz.f113) [1, 1, 1, 1, 1, 0, 1, 0, 0]
abbrev Ud8 : Sl (List SV) := (cS (.c (sBx 43 (.c sNl (cS .n))) (.c (sBx 43 (cO 66 (cS .n))) (cH (cI (cI .n))))))
abbrev UjL (n m : Nat) (K : Kc R) : Ud8.T (O R) := fun x1 x2 x3 x4 x5 x6 x7 => Ub3 n m x1 x2 x3 x4 x5 x6 x7 (fun y1 y2 y3 y4 => xL UcN 8 K .ret [.bx 43 [.nl, vS y1], vI y2, .bx 43 [.own 66 y3, vS y4]]) (fun y1 y2 y3 => xL UcN 8 K (.exit 0) [.bx 43 [.nl, vS y1], dD, .bx 43 [.own 66 y2, vS y3]])
abbrev Uxx (n : Nat) (K : Kc R) (l0 : Ud8.T (O R)) : Ud8.T (O R) := fun x1 x2 x3 x4 x5 x6 x7 => UeR n l0 x1 x2 x3 x4 x5 x6 x7 (fun y1 y2 y3 y4 => xL UcN 8 K .ret [.bx 43 [.nl, vS y1], vI y2, .bx 43 [.own 66 y3, vS y4]]) (fun y1 y2 y3 => xL UcN 8 K (.exit 0) [.bx 43 [.nl, vS y1], dD, .bx 43 [.own 66 y2, vS y3]])
abbrev UC1 (n : Nat) : Orc R := oL UcN (UKX n) n 8 Uo Ud8 (UjL n n) oN
abbrev UBt (n : Nat) : Orc R := oN
abbrev UIU (R : Type) (n : Nat) := JcH (R := R) Tryz.prog (Up n) UcN n (58, []) (UC1 n) (UBt n)
theorem Uzw (n : Nat) : UIU R n (false, 8, Uo) := JkF (lo := UC1 n) (cu := UBt n) (pO pN (by kernel_rfl)) Ud8 (UjL n n) (JiE (F := UjL n) Ud8 (Uxx n) (fun K _ _ _ _ _ _ _ => rfl) (fun _ _ => rfl) (fun L K _ _ _ _ _ _ _ => by show _ = _; kernel_rfl) n) fun _ _ => rfl
theorem UHG (n : Nat) : Je6 (UIU R n) (JaJ UcN (Jll Tryz.f113)) := pO (pC (Uzw n) pN) (by kernel_rfl)
abbrev UIk : Sl (List SV) := (.c (sP (JlI (.c sSh (.c Jly .n)))) (cS .n))
abbrev f113 (n : Nat) (K : List SV → O R) : UIk.T (O R) := fun x1 x2 x3 => UFk n x1 x2 x3 (fun y1 y2 y3 => K [.p (.agg [.sh y1, .v (.string y2)]), vI y3])
abbrev UCv (n : Nat) : FS := fT [false, false] UIk (f113 n)
theorem UGQ (n : Nat) : FSound Tryz.prog GI 113 (UCv n) := gd UcN n (UlN n) Tryz.func113 (.cons (UlN n) UIk (f113 n) (fun K _ _ _ => (Jkq (c := Jll Tryz.f113) (by kernel_rfl) (UHG n) K).trans (by kernel_rfl)) .nil) (by kernel_rfl)
def Uxa : Ann := { loops := [], cuts := [], frz := [], rm := [.id, .id] }
abbrev UB1 (n : Nat) : Env := eC 113 (UCv n) (eC 53 (UyY n) (eC 52 (UAz n) eN))
theorem Uqg (n : Nat) : EnvOK Tryz.prog GI (UB1 n) := .cons (.cons (.cons (.nil) (UDh n)) (UAD n)) (UGQ n)
def p74 (n : Nat) (x1 : LP) (x2 x3 : ByteArray) (k0 : LP → ByteArray → Int → O R) : O R :=
  p52 n x1 x2 (fun y4 => bif (y4 != 0) then (k0 [] ByteArray.empty 3) else (p53 n x3 (fun y5 => bif (bif false then true else (!y5)) then (k0 [] ByteArray.empty 3) else (UFk n x1 x2 x3 (fun y6 y7 y8 => k0 y6 y7 y8)))))
abbrev UMp (n : Nat) : Orc R := oN
abbrev ULJ (n : Nat) : Orc R := oN
abbrev K74 (R : Type) (n : Nat) := JcH (R := R) Tryz.prog (UB1 n) Uxa n (20, []) (UMp n) (ULJ n)
theorem UO (n : Nat) : Je6 (K74 R n) (JaJ Uxa (Jll Tryz.f74)) := pO pN (by kernel_rfl)
abbrev t74 : Sl (List SV) := (.c (sP (JlI (.c sSh (.c Jly .n)))) (cS .n))
abbrev f74 (n : Nat) (K : List SV → O R) : t74.T (O R) := fun x1 x2 x3 => p74 n x1 x2 x3 (fun y1 y2 y3 => K [.p (.agg [.sh y1, .v (.string y2)]), vI y3])
abbrev UJ1 (n : Nat) : FS := fT [false, false] t74 (f74 n)
theorem UM9 (n : Nat) : FSound Tryz.prog GI 74 (UJ1 n) := gd Uxa n (Uqg n) Tryz.func74 (.cons (Uqg n) t74 (f74 n) (fun K _ _ _ => (Jkq (c := Jll Tryz.f74) (by kernel_rfl) (UO n) K).trans (by kernel_rfl)) .nil) (by kernel_rfl)
def Uay : Ann := { loops := [(6, [(2, .id), (3, .id), (4, .id), (8, .cs [some 66, none]), (9, .id), (10, .id)], ids [4, 5, 8])], cuts := [(12, ids [2, 3, 4, 8, 9, 10], ids [2, 3, 4, 5, 8, 9, 10]), (14, ids [2, 3, 4, 8, 9, 10], ids [2, 3, 4, 5, 8, 9, 10]), (15, ids [2, 3, 4, 8, 9, 10, 78], ids [2, 3, 4, 5, 8, 9, 10]), (18, ids [2, 3, 4, 8, 9, 10, 118], ids [2, 3, 4, 5, 8, 9, 10])], frz := [1000023, 1000026, 1000057], rm := [.id, .id] }
abbrev Upa (n : Nat) : Env := eC 22 (UF3 n) eN
theorem UlO (n : Nat) : EnvOK Tryz.prog GI (Upa n) := .cons (.nil) (UKy n)
def Ub4 (n : Nat) (x1 : LP) (x2 : ByteArray) (x3 : LP) (x4 x5 : ByteArray) (x6 : LP) (x7 : ByteArray) (x8 x9 : Int) (k0 : LP → ByteArray → LP → ByteArray → ByteArray → LP → ByteArray → Int → Int → O R) : O R :=
  k0 x1 x2 x3 x4 x5 x6 x7 (IntKind.i64.wrap (x8 + 1)) (IntKind.i64.wrap (x9 + 1))
def Ub (n : Nat) (x1 : LP) (x2 : ByteArray) (x3 : LP) (x4 x5 : ByteArray) (x6 : LP) (x7 : ByteArray) (x8 x9 : Int) (x10 : Bool) (k0 : LP → ByteArray → LP → ByteArray → ByteArray → LP → ByteArray → Int → Int → O R) (k1 : LP → ByteArray → LP → ByteArray → ByteArray → Int → LP → ByteArray → Int → Int → O R) : O R :=
  bif x10 then (bif (inR x9 ((x3).length)) then (Jh2 ((x3).getD ((x9 : Int).toNat) (.v (.bool false))) fun a11 => JdT a11 fun h12 t13 => Jj .i64 h12 fun e14 => JdT t13 fun h15 t16 => Jj3 h15 fun e17 => Ji2 t16 (bif (Jbu ((x6).length + 1) 24) then (k0 x1 x2 x3 x4 x5 (x6 ++ ([.agg [.v (.int .i64 e14), .v (.string e17)]] : LP)) x7 x8 (IntKind.i64.wrap (x9 + 1))) else none)) else none) else (bif (inR x8 ((x1).length)) then (Jh2 ((x1).getD ((x8 : Int).toNat) (.v (.bool false))) fun a18 => JdT a18 fun h19 t20 => Jj .i64 h19 fun e21 => JdT t20 fun h22 t23 => Jj3 h22 fun e24 => Ji2 t23 (bif (inR x9 ((x3).length)) then (Jh2 ((x3).getD ((x9 : Int).toNat) (.v (.bool false))) fun a25 => JdT a25 fun h26 t27 => Jj .i64 h26 fun e28 => JdT t27 fun h29 t30 => Jj3 h29 fun e31 => Ji2 t30 (p22 n e24 e31 (fun y32 y33 => bif (y33 != 0) then (k1 x1 x2 x3 x4 ByteArray.empty y33 x6 x7 x8 x9) else (bif (!eqS y32 (⟨#[48]⟩ : ByteArray)) then (bif (inR x8 ((x1).length)) then (Jh2 ((x1).getD ((x8 : Int).toNat) (.v (.bool false))) fun a34 => JdT a34 fun h35 t36 => Jj .i64 h35 fun e37 => JdT t36 fun h38 t39 => Jj3 h38 fun e40 => Ji2 t39 (bif (Jbu ((x6).length + 1) 24) then (Ub4 n x1 x2 x3 x4 x5 (x6 ++ ([.agg [.v (.int .i64 e37), .v (.string y32)]] : LP)) x7 x8 x9 (fun y41 y42 y43 y44 y45 y46 y47 y48 y49 => k0 y41 y42 y43 y44 y45 y46 y47 y48 y49)) else none)) else none) else (Ub4 n x1 x2 x3 x4 x5 x6 x7 x8 x9 (fun y50 y51 y52 y53 y54 y55 y56 y57 y58 => k0 y50 y51 y52 y53 y54 y55 y56 y57 y58)))))) else none)) else none)
def UaC (n : Nat) (x1 : LP) (x2 : ByteArray) (x3 : LP) (x4 x5 : ByteArray) (x6 : LP) (x7 : ByteArray) (x8 x9 : Int) (x10 : Bool) (k0 : LP → ByteArray → LP → ByteArray → ByteArray → LP → ByteArray → Int → Int → O R) (k1 : LP → ByteArray → LP → ByteArray → ByteArray → Int → LP → ByteArray → Int → Int → O R) : O R :=
  bif x10 then (bif (inR x8 ((x1).length)) then (Jh2 ((x1).getD ((x8 : Int).toNat) (.v (.bool false))) fun a11 => JdT a11 fun h12 t13 => Jj .i64 h12 fun e14 => JdT t13 fun h15 t16 => Jj3 h15 fun e17 => Ji2 t16 (bif (Jbu ((x6).length + 1) 24) then (k0 x1 x2 x3 x4 x5 (x6 ++ ([.agg [.v (.int .i64 e14), .v (.string e17)]] : LP)) x7 (IntKind.i64.wrap (x8 + 1)) x9) else none)) else none) else (bif (x8 == ((x1).length : Int)) then (Ub n x1 x2 x3 x4 x5 x6 x7 x8 x9 true (fun y18 y19 y20 y21 y22 y23 y24 y25 y26 => k0 y18 y19 y20 y21 y22 y23 y24 y25 y26) (fun y27 y28 y29 y30 y31 y32 y33 y34 y35 y36 => k1 y27 y28 y29 y30 y31 y32 y33 y34 y35 y36)) else (bif (inR x9 ((x3).length)) then (Jh2 ((x3).getD ((x9 : Int).toNat) (.v (.bool false))) fun a37 => JdT a37 fun h38 t39 => Jj .i64 h38 fun e40 => JdT t39 fun h41 t42 => Jj3 h41 fun e43 => Ji2 t42 (bif (inR x8 ((x1).length)) then (Jh2 ((x1).getD ((x8 : Int).toNat) (.v (.bool false))) fun a44 => JdT a44 fun h45 t46 => Jj .i64 h45 fun e47 => JdT t46 fun h48 t49 => Jj3 h48 fun e50 => Ji2 t49 (Ub n x1 x2 x3 x4 x5 x6 x7 x8 x9 (bif false then true else (decide (e40 < e47))) (fun y51 y52 y53 y54 y55 y56 y57 y58 y59 => k0 y51 y52 y53 y54 y55 y56 y57 y58 y59) (fun y60 y61 y62 y63 y64 y65 y66 y67 y68 y69 => k1 y60 y61 y62 y63 y64 y65 y66 y67 y68 y69))) else none)) else none))
def UaL (n : Nat) (x1 : LP) (x2 : ByteArray) (x3 : LP) (x4 x5 : ByteArray) (x6 : LP) (x7 : ByteArray) (x8 x9 : Int) (k0 : LP → ByteArray → LP → ByteArray → ByteArray → LP → ByteArray → Int → Int → O R) (k1 : LP → ByteArray → LP → ByteArray → ByteArray → Int → LP → ByteArray → Int → Int → O R) : O R :=
  bif (x9 == ((x3).length : Int)) then (UaC n x1 x2 x3 x4 x5 x6 x7 x8 x9 true (fun y10 y11 y12 y13 y14 y15 y16 y17 y18 => k0 y10 y11 y12 y13 y14 y15 y16 y17 y18) (fun y19 y20 y21 y22 y23 y24 y25 y26 y27 y28 => k1 y19 y20 y21 y22 y23 y24 y25 y26 y27 y28)) else (bif (decide (x8 < ((x1).length : Int))) then (bif (inR x8 ((x1).length)) then (Jh2 ((x1).getD ((x8 : Int).toNat) (.v (.bool false))) fun a29 => JdT a29 fun h30 t31 => Jj .i64 h30 fun e32 => JdT t31 fun h33 t34 => Jj3 h33 fun e35 => Ji2 t34 (bif (inR x9 ((x3).length)) then (Jh2 ((x3).getD ((x9 : Int).toNat) (.v (.bool false))) fun a36 => JdT a36 fun h37 t38 => Jj .i64 h37 fun e39 => JdT t38 fun h40 t41 => Jj3 h40 fun e42 => Ji2 t41 (UaC n x1 x2 x3 x4 x5 x6 x7 x8 x9 (bif false then true else (bif true then (decide (e32 < e39)) else false)) (fun y43 y44 y45 y46 y47 y48 y49 y50 y51 => k0 y43 y44 y45 y46 y47 y48 y49 y50 y51) (fun y52 y53 y54 y55 y56 y57 y58 y59 y60 y61 => k1 y52 y53 y54 y55 y56 y57 y58 y59 y60 y61))) else none)) else none) else (UaC n x1 x2 x3 x4 x5 x6 x7 x8 x9 false (fun y62 y63 y64 y65 y66 y67 y68 y69 y70 => k0 y62 y63 y64 y65 y66 y67 y68 y69 y70) (fun y71 y72 y73 y74 y75 y76 y77 y78 y79 y80 => k1 y71 y72 y73 y74 y75 y76 y77 y78 y79 y80)))
def Uhn (n : Nat) (l0 : LP → ByteArray → LP → ByteArray → ByteArray → LP → ByteArray → Int → Int → O R) (x1 : LP) (x2 : ByteArray) (x3 : LP) (x4 x5 : ByteArray) (x6 : LP) (x7 : ByteArray) (x8 x9 : Int) (k0 : ByteArray → Int → LP → ByteArray → O R) (k1 : ByteArray → LP → ByteArray → O R) : O R :=
  bif (decide (x8 < ((x1).length : Int))) then (UaL n x1 x2 x3 x4 x5 x6 x7 x8 x9 (fun y10 y11 y12 y13 y14 y15 y16 y17 y18 => l0 y10 y11 y12 y13 y14 y15 y16 y17 y18) (fun y19 y20 y21 y22 y23 y24 y25 y26 y27 y28 => k0 y23 y24 y25 y26)) else (bif (bif false then true else (decide (x9 < ((x3).length : Int)))) then (UaL n x1 x2 x3 x4 x5 x6 x7 x8 x9 (fun y29 y30 y31 y32 y33 y34 y35 y36 y37 => l0 y29 y30 y31 y32 y33 y34 y35 y36 y37) (fun y38 y39 y40 y41 y42 y43 y44 y45 y46 y47 => k0 y42 y43 y44 y45)) else (k1 x5 x6 x7))
def Uc4 (n : Nat) : Nat → LP → ByteArray → LP → ByteArray → ByteArray → LP → ByteArray → Int → Int → (ByteArray → Int → LP → ByteArray → O R) → (ByteArray → LP → ByteArray → O R) → O R
  | 0, _, _, _, _, _, _, _, _, _, _, _ => none
  | m + 1, x1, x2, x3, x4, x5, x6, x7, x8, x9, k0, k1 => Uhn n (fun x1 x2 x3 x4 x5 x6 x7 x8 x9 => Uc4 n m x1 x2 x3 x4 x5 x6 x7 x8 x9 k0 k1) x1 x2 x3 x4 x5 x6 x7 x8 x9 k0 k1
def Ur4 (n : Nat) (x1 : LP) (x2 : ByteArray) (x3 : LP) (x4 x5 : ByteArray) (x6 : LP) (x7 : ByteArray) (x8 x9 : Int) (k0 : ByteArray → Int → LP → ByteArray → O R) (k1 : ByteArray → LP → ByteArray → O R) : O R := Uc4 n n x1 x2 x3 x4 x5 x6 x7 x8 x9 k0 k1
def UFl (n : Nat) (x1 : LP) (x2 : ByteArray) (x3 : LP) (x4 : ByteArray) (k0 : LP → ByteArray → Int → O R) : O R :=
  p22 n x2 x4 (fun y5 y6 => bif (y6 != 0) then (k0 [] ByteArray.empty y6) else (Ur4 n x1 x2 x3 x4 ByteArray.empty [] y5 0 0 (fun y7 y8 y9 y10 => k0 [] y7 y8) (fun y11 y12 y13 => k0 y12 y13 0)))
abbrev UAL (n : Nat) : Code → Fr → Kc R → O R := evC Tryz.prog (Upa n) Uay n (152, [])
noncomputable def Uk6 : Code := Jj4 (Jll Tryz.f114) [1, 1, 1, 1, 1, 0, 0, 0, 1, 0, 0, 1, 1, 1, 1, 1, 1, 1]
abbrev Uik : Sl (List SV) := (.c (sBx 43 (cH (cS .n))) (.c (sBx 43 (cH (cS .n))) (.c (sBx 43 (.c sNl (cS .n))) (.c (sBx 43 (cO 66 (cS .n))) (cI (cI .n))))))
abbrev Umh (n : Nat) (K : Kc R) : Uik.T (O R) := fun x1 x2 x3 x4 x5 x6 x7 x8 x9 => Ub4 n x1 x2 x3 x4 x5 x6 x7 x8 x9 (fun y1 y2 y3 y4 y5 y6 y7 y8 y9 => xC Uay 12 K .normal [.bx 43 [vH y1, vS y2], .bx 43 [vH y3, vS y4], .bx 43 [.nl, vS y5], dD, .bx 43 [.own 66 y6, vS y7], vI y8, vI y9])
noncomputable def Uk7 : Code := Jj4 (Jll Tryz.f114) [1, 1, 1, 1, 1, 0, 0, 0, 1]
abbrev Uil : Sl (List SV) := (.c (sBx 43 (cH (cS .n))) (.c (sBx 43 (cH (cS .n))) (.c (sBx 43 (.c sNl (cS .n))) (.c (sBx 43 (cO 66 (cS .n))) (cI (cI .n))))))
abbrev Umi (n : Nat) (K : Kc R) : Uil.T (O R) := fun x1 x2 x3 x4 x5 x6 x7 x8 x9 => UaL n x1 x2 x3 x4 x5 x6 x7 x8 x9 (fun y1 y2 y3 y4 y5 y6 y7 y8 y9 => xC Uay 14 K .normal [.bx 43 [vH y1, vS y2], .bx 43 [vH y3, vS y4], .bx 43 [.nl, vS y5], dD, .bx 43 [.own 66 y6, vS y7], vI y8, vI y9]) (fun y1 y2 y3 y4 y5 y6 y7 y8 y9 y10 => xC Uay 14 K .ret [.bx 43 [vH y1, vS y2], .bx 43 [vH y3, vS y4], .bx 43 [.nl, vS y5], vI y6, .bx 43 [.own 66 y7, vS y8], vI y9, vI y10])
noncomputable def Uk8 : Code := Jj4 (Jll Tryz.f114) [1, 1, 1, 1, 1, 0, 0, 0, 1, 0, 0, 1]
abbrev Uim : Sl (List SV) := (.c (sBx 43 (cH (cS .n))) (.c (sBx 43 (cH (cS .n))) (.c (sBx 43 (.c sNl (cS .n))) (.c (sBx 43 (cO 66 (cS .n))) (cI (cI (cB .n)))))))
abbrev Umj (n : Nat) (K : Kc R) : Uim.T (O R) := fun x1 x2 x3 x4 x5 x6 x7 x8 x9 x10 => UaC n x1 x2 x3 x4 x5 x6 x7 x8 x9 x10 (fun y1 y2 y3 y4 y5 y6 y7 y8 y9 => xC Uay 15 K .normal [.bx 43 [vH y1, vS y2], .bx 43 [vH y3, vS y4], .bx 43 [.nl, vS y5], dD, .bx 43 [.own 66 y6, vS y7], vI y8, vI y9]) (fun y1 y2 y3 y4 y5 y6 y7 y8 y9 y10 => xC Uay 15 K .ret [.bx 43 [vH y1, vS y2], .bx 43 [vH y3, vS y4], .bx 43 [.nl, vS y5], vI y6, .bx 43 [.own 66 y7, vS y8], vI y9, vI y10])
noncomputable def Uk9 : Code := Jj4 (Jll Tryz.f114) [1, 1, 1, 1, 1, 0, 0, 0, 1, 0, 0, 1, 1, 1]
abbrev Uin : Sl (List SV) := (.c (sBx 43 (cH (cS .n))) (.c (sBx 43 (cH (cS .n))) (.c (sBx 43 (.c sNl (cS .n))) (.c (sBx 43 (cO 66 (cS .n))) (cI (cI (cB .n)))))))
abbrev Umk (n : Nat) (K : Kc R) : Uin.T (O R) := fun x1 x2 x3 x4 x5 x6 x7 x8 x9 x10 => Ub n x1 x2 x3 x4 x5 x6 x7 x8 x9 x10 (fun y1 y2 y3 y4 y5 y6 y7 y8 y9 => xC Uay 18 K .normal [.bx 43 [vH y1, vS y2], .bx 43 [vH y3, vS y4], .bx 43 [.nl, vS y5], dD, .bx 43 [.own 66 y6, vS y7], vI y8, vI y9]) (fun y1 y2 y3 y4 y5 y6 y7 y8 y9 y10 => xC Uay 18 K .ret [.bx 43 [vH y1, vS y2], .bx 43 [vH y3, vS y4], .bx 43 [.nl, vS y5], vI y6, .bx 43 [.own 66 y7, vS y8], vI y9, vI y10])
noncomputable def Uoa : Code := Jj4 (Jll Tryz.f114) [1, 1, 1, 1, 1, 0, 0, 0]
abbrev Ud9 : Sl (List SV) := (.c (sBx 43 (cH (cS .n))) (.c (sBx 43 (cH (cS .n))) (.c (sBx 43 (.c sNl (cS .n))) (.c (sBx 43 (cO 66 (cS .n))) (cI (cI .n))))))
abbrev UjM (n m : Nat) (K : Kc R) : Ud9.T (O R) := fun x1 x2 x3 x4 x5 x6 x7 x8 x9 => Uc4 n m x1 x2 x3 x4 x5 x6 x7 x8 x9 (fun y1 y2 y3 y4 => xL Uay 6 K .ret [.bx 43 [.nl, vS y1], vI y2, .bx 43 [.own 66 y3, vS y4]]) (fun y1 y2 y3 => xL Uay 6 K (.exit 0) [.bx 43 [.nl, vS y1], dD, .bx 43 [.own 66 y2, vS y3]])
abbrev Uxy (n : Nat) (K : Kc R) (l0 : Ud9.T (O R)) : Ud9.T (O R) := fun x1 x2 x3 x4 x5 x6 x7 x8 x9 => Uhn n l0 x1 x2 x3 x4 x5 x6 x7 x8 x9 (fun y1 y2 y3 y4 => xL Uay 6 K .ret [.bx 43 [.nl, vS y1], vI y2, .bx 43 [.own 66 y3, vS y4]]) (fun y1 y2 y3 => xL Uay 6 K (.exit 0) [.bx 43 [.nl, vS y1], dD, .bx 43 [.own 66 y2, vS y3]])
abbrev Uno (n : Nat) : Orc R := oL Uay (UAL n) n 6 Uoa Ud9 (UjM n n) oN
abbrev Unh (n : Nat) : Orc R := oC Uay (UAL n) 18 Uk9 Uin (Umk n) (oC Uay (UAL n) 15 Uk8 Uim (Umj n) (oC Uay (UAL n) 14 Uk7 Uil (Umi n) (oC Uay (UAL n) 12 Uk6 Uik (Umh n) oN)))
abbrev UAt (R : Type) (n : Nat) := JcH (R := R) Tryz.prog (Upa n) Uay n (152, []) (Uno n) (Unh n)
theorem Ut0 (n : Nat) : UAt R n (true, 12, Uk6) := JkW (lo := Uno n) (cu := Unh n) (pO pN (by kernel_rfl)) Uik (Umh n) (fun K _ _ _ _ _ _ _ _ _ => by show _ = _; kernel_rfl) fun _ _ => rfl
theorem Ut3 (n : Nat) : UAt R n (true, 18, Uk9) := JkW (lo := Uno n) (cu := Unh n) (pO (pC (Ut0 n) pN) (by kernel_rfl)) Uin (Umk n) (fun K _ _ _ _ _ _ _ _ _ _ => by show _ = _; kernel_rfl) fun _ _ => rfl
theorem Ut2 (n : Nat) : UAt R n (true, 15, Uk8) := JkW (lo := Uno n) (cu := Unh n) (pO (pC (Ut3 n) pN) (by kernel_rfl)) Uim (Umj n) (fun K _ _ _ _ _ _ _ _ _ _ => by show _ = _; kernel_rfl) fun _ _ => rfl
theorem Ut1 (n : Nat) : UAt R n (true, 14, Uk7) := JkW (lo := Uno n) (cu := Unh n) (pO (pC (Ut2 n) pN) (by kernel_rfl)) Uil (Umi n) (fun K _ _ _ _ _ _ _ _ _ => by show _ = _; kernel_rfl) fun _ _ => rfl
theorem Uzx (n : Nat) : UAt R n (false, 6, Uoa) := JkF (lo := Uno n) (cu := Unh n) (pO (pC (Ut1 n) pN) (by kernel_rfl)) Ud9 (UjM n n) (JiE (F := UjM n) Ud9 (Uxy n) (fun K _ _ _ _ _ _ _ _ _ => rfl) (fun _ _ => rfl) (fun L K _ _ _ _ _ _ _ _ _ => by show _ = _; kernel_rfl) n) fun _ _ => rfl
theorem UHH (n : Nat) : Je6 (UAt R n) (JaJ Uay (Jll Tryz.f114)) := pO (pC (Uzx n) pN) (by kernel_rfl)
abbrev UIl : Sl (List SV) := (.c (sP (JlI (.c sSh (.c Jly .n)))) (.c (sP (JlI (.c sSh (.c Jly .n)))) .n))
abbrev f114 (n : Nat) (K : List SV → O R) : UIl.T (O R) := fun x1 x2 x3 x4 => UFl n x1 x2 x3 x4 (fun y1 y2 y3 => K [.p (.agg [.sh y1, .v (.string y2)]), vI y3])
abbrev UCw (n : Nat) : FS := fT [false, false] UIl (f114 n)
theorem UGR (n : Nat) : FSound Tryz.prog GI 114 (UCw n) := gd Uay n (UlO n) Tryz.func114 (.cons (UlO n) UIl (f114 n) (fun K _ _ _ _ => (Jkq (c := Jll Tryz.f114) (by kernel_rfl) (UHH n) K).trans (by kernel_rfl)) .nil) (by kernel_rfl)
def Uxb : Ann := { loops := [], cuts := [], frz := [], rm := [.id, .id] }
abbrev UB2 (n : Nat) : Env := eC 114 (UCw n) (eC 52 (UAz n) eN)
theorem Uqh (n : Nat) : EnvOK Tryz.prog GI (UB2 n) := .cons (.cons (.nil) (UDh n)) (UGR n)
def p75 (n : Nat) (x1 : LP) (x2 : ByteArray) (x3 : LP) (x4 : ByteArray) (k0 : LP → ByteArray → Int → O R) : O R :=
  p52 n x1 x2 (fun y5 => bif (y5 != 0) then (k0 [] ByteArray.empty 3) else (p52 n x3 x4 (fun y6 => bif (bif false then true else (y6 != 0)) then (k0 [] ByteArray.empty 3) else (UFl n x1 x2 x3 x4 (fun y7 y8 y9 => k0 y7 y8 y9)))))
abbrev UMq (n : Nat) : Orc R := oN
abbrev ULK (n : Nat) : Orc R := oN
abbrev K75 (R : Type) (n : Nat) := JcH (R := R) Tryz.prog (UB2 n) Uxb n (20, []) (UMq n) (ULK n)
theorem UOa (n : Nat) : Je6 (K75 R n) (JaJ Uxb (Jll Tryz.f75)) := pO pN (by kernel_rfl)
abbrev t75 : Sl (List SV) := (.c (sP (JlI (.c sSh (.c Jly .n)))) (.c (sP (JlI (.c sSh (.c Jly .n)))) .n))
abbrev f75 (n : Nat) (K : List SV → O R) : t75.T (O R) := fun x1 x2 x3 x4 => p75 n x1 x2 x3 x4 (fun y1 y2 y3 => K [.p (.agg [.sh y1, .v (.string y2)]), vI y3])
abbrev UJ2 (n : Nat) : FS := fT [false, false] t75 (f75 n)
theorem UN (n : Nat) : FSound Tryz.prog GI 75 (UJ2 n) := gd Uxb n (Uqh n) Tryz.func75 (.cons (Uqh n) t75 (f75 n) (fun K _ _ _ _ => (Jkq (c := Jll Tryz.f75) (by kernel_rfl) (UOa n) K).trans (by kernel_rfl)) .nil) (by kernel_rfl)
end
end Go.Proofs.YtmgfmlhdnadglaaGreatDoor
set_option linter.unusedVariables false
set_option linter.unusedSimpArgs false
namespace Go.Proofs.YtmgfmlhdnadglaaGreatDoor
open Go Th Go.Proofs
variable {R : Type}
noncomputable def aQ (l : List TermT) : Bool := l.all fun t => qb t.2
def inC (c : Int) : Bool := decide (0 ≤ c) && decide (c < 2048)
def aC (l : List TermT) : Bool := l.all fun t => inC t.1
def aO : Int → List TermT → Bool
  | _, [] => true
  | last, t :: r => if t.2 = [48] then false else if t.1 ≤ last then false else aO t.1 r
noncomputable def Uy4 (l : List TermT) (c : List UInt8) : Int := if qb c = true then (if aQ l = true then (if aC l = true then (if aO (-1) l = true then 0 else 3) else 2) else 3) else 3
theorem Ufu : ∀ {l : List TermT} {last : Int}, -1 ≤ last → (okT 2048 last l = true ↔ (aQ l = true ∧ aC l = true ∧ aO last l = true))
  | [], last, _ => by simp [okT, aQ, aC, aO]
  | t :: l, last, h => by
    have ih := fun (h' : -1 ≤ t.1) => Ufu (l := l) (last := t.1) h'
    simp only [okT, aQ, aC, aO, List.all_cons, Bool.and_eq_true] at ih ⊢
    by_cases h1 : t.1 ≤ last
    · simp [h1]
    · have h1' := ih (by omega)
      have e0 : inC t.1 = decide (t.1 < 2048) := by
        unfold inC
        rw [decide_eq_true (by omega : 0 ≤ t.1), Bool.true_and]
      by_cases h2 : t.1 ≥ 2048
      · have e1 : inC t.1 = false := by rw [e0]; simp; omega
        simp [h1, h2, e1]
      · have e1 : inC t.1 = true := by rw [e0]; simp; omega
        by_cases h3 : t.2 = [48]
        · simp [h1, h2, h3]
        · rw [if_neg h1, if_neg h2, if_neg h3, if_neg h3, if_neg h1, Bool.and_eq_true, h1', e1]
          grind
theorem UvX {l : List TermT} {c : List UInt8} : Uy4 l c = 0 ↔ (okT 2048 (-1) l = true ∧ qb c = true) := by
  rw [Ufu (by omega)]
  unfold Uy4
  cases qb c <;> cases aQ l <;> cases aC l <;> cases aO (-1) l <;> simp
theorem UDA (n : Nat) (x : Int) (k0 : Bool → Option R) : p80 n x k0 = k0 (inC x) := by
  unfold p80 inC
  by_cases h : x ≥ 0
  · have e : decide (x ≥ 0) = true := decide_eq_true h
    rw [e]; rfl
  · have e : decide (x ≥ 0) = false := decide_eq_false h
    rw [e]; rfl
theorem UxZ (n : Nat) (l : List TermT) (hn : l.length < n) (hl : l.length < 2 ^ 17) (k0 : Int → Option R) (k1 : Option R) : UfH n (-1) (tms l) ((tms l).length : Int) 0 k0 k1 = if aO (-1) l = true then k1 else k0 3 := by
  unfold UfH
  have key : ∀ (r : List TermT) (last : Int), UwB (fun (s : Int) (t : TermT) K => if t.2 = [48] then k0 3 else if t.1 ≤ s then k0 3 else K t.1) (fun _ => k1) last r = if aO last r = true then k1 else k0 3 := by
    intro r
    induction r with
    | nil => intro last; rfl
    | cons t r ih =>
      intro last
      simp only [UwB, aO]
      by_cases h1 : t.2 = [48]
      · simp [h1]
      · by_cases h2 : t.1 ≤ last
        · simp [h1, h2]
        · simp [h1, h2, ih]
  have h := UfM (R := R) (l := l) (step := fun (s : Int) (t : TermT) K => if t.2 = [48] then k0 3 else if t.1 ≤ s then k0 3 else K t.1) (kend := fun _ => k1)
    (fun m s i => Ucf n m s (tms l) ((tms l).length : Int) (i : Int) k0 k1)
    (fun m s => by simp only [Ucf, Ue5]; simp (disch := (first | omega | (simp only [JlE]; omega))) only [↓JlH, JlF, Ua])
    (fun m s i hi => by
      simp only [Ucf, Ue5]
      by_cases h1 : (l[i]).2 = [48]
      · simp (disch := (first | omega | (simp only [JlE]; omega))) only [↓JlH, JlF, Ua, Jji, Uat hi, i1, Ujt h1]
      · by_cases h2 : (l[i]).1 ≤ s
        · simp (disch := (first | omega | (simp only [JlE]; omega))) only [↓JlH, JlF, Ua, Jji, Uat hi, i1, UiL h1]
        · simp (disch := (first | omega | (simp only [JlE]; omega))) only [↓JlH, JlF, Ua, Jji, Uat hi, i1, UiL h1]) l.length n 0 (-1) (by omega) (by omega)
  rw [List.drop_zero, key] at h
  exact h
theorem Ulo (n : Nat) (hn : 10 ^ 400 ≤ n) (l : List TermT) (c : List UInt8) (hl : smT l) (hc : c.length < 2 ^ 17) (k0 : Int → Option R) : p52 n (tms l) (bs c) k0 = k0 (Uy4 l c) := by
  have hN := Uaq hn
  have hL := hl.1
  have e3 := UxZ (R := R) n l (by omega) hL k0 (k0 0)
  have h4 := Uan (R := R) (l := l) (ok := fun t => qb t.2) (kbad := k0 3) (kend := if aC l = true then (if aO (-1) l = true then k0 0 else k0 3) else k0 2)
    (fun m i => UdJ n m (tms l) (bs c) (tms l) ((tms l).length : Int) (i : Int) (fun y4 y5 y6 => k0 y6) (fun y7 y8 => Uki n y7 y8 y7 ((y7).length : Int) 0 (fun y9 y10 y11 => k0 y11) (fun y12 y13 => UfH n (-1) y12 ((y12).length : Int) 0 (fun y14 => k0 y14) (k0 0))))
    (fun m => by
      have h10 := Uan (R := R) (l := l) (ok := fun t => inC t.1) (kbad := k0 2) (kend := if aO (-1) l = true then k0 0 else k0 3)
        (fun m i => Uce n m (tms l) (bs c) (tms l) ((tms l).length : Int) (i : Int) (fun y9 y10 y11 => k0 y11) (fun y12 y13 => UfH n (-1) y12 ((y12).length : Int) 0 (fun y14 => k0 y14) (k0 0)))
        (fun m => by
          simp only [Uce, Ue4]
          simp (disch := (first | omega | (simp only [JlE]; omega))) only [↓JlH, JlF, Ua]
          rw [Ua] at e3
          exact e3)
        (fun m i hi => by
          have hv := fun k => UDA (R := R) n (l[i]).1 k
          simp only [Uce, Ue4]
          simp (disch := (first | omega | (simp only [JlE]; omega))) only [↓JlH, JlF, Ua, Jji, Uat hi, i1, hv]
          cases inC (l[i]).1 <;> rfl) l.length n 0 (by omega) (by omega)
      rw [List.drop_zero] at h10
      simp only [UdJ, UhP]
      unfold Uki
      simp (disch := (first | omega | (simp only [JlE]; omega))) only [↓JlH, JlF, Ua]
      rw [Ua] at h10
      exact h10)
    (fun m i hi => by
      have hv := fun k => Ues (R := R) n hn (l[i]).2 (hl.2 _ (List.getElem_mem hi)) k
      simp only [UdJ, UhP]
      simp (disch := (first | omega | (simp only [JlE]; omega))) only [↓JlH, JlF, Ua, Jji, Uat hi, i1, hv]
      cases qb (l[i]).2 <;> rfl) l.length n 0 (by omega) (by omega)
  rw [List.drop_zero] at h4
  unfold p52
  rw [Ues n hn c hc]
  unfold Uy4 Uwn
  cases qb c with
  | false => rfl
  | true =>
    refine Eq.trans h4 ?_
    unfold aQ
    cases (l.all fun t => qb t.2) <;> cases aC l <;> cases aO (-1) l <;> rfl
theorem Uid {q : Rat} (h : fits q) : (Uag q).length < 2 ^ 17 := Nat.lt_of_le_of_lt (UaW h) (by decide)
theorem UEK {cols : Int} {l : List SpT} (h : okN cols l) (hl : l.length < 2 ^ 17) : smT (vt l) := by
  refine ⟨by rw [Uau]; exact hl, fun t ht => ?_⟩
  unfold vt at ht
  obtain ⟨x, hx, rfl⟩ := List.mem_map.1 ht
  exact Uid (h x hx).2.1
theorem UnW {cols : Int} : ∀ {l : List SpT} {a : Int}, asc a l → okN cols l → a < cols → (l.length : Int) ≤ cols - a - 1
  | [], a, _, _, h => by simp only [List.length_nil]; omega
  | t :: l, a, h1, h2, h => by
    have h3 := (h2 t (List.mem_cons_self ..)).2.2
    have := UnW h1.2 (fun x hx => h2 x (List.mem_cons_of_mem _ hx)) h3
    have := h1.1
    rw [List.length_cons]
    omega
theorem UbN {l : List SpT} (h : okS 2048 l) : l.length ≤ 2048 := by
  have := UnW h.1 h.2 (by decide)
  omega
theorem Ufm (n : Nat) (hn : 10 ^ 400 ≤ n) {r : SpR} (hr : okF 2048 r) (k0 : Int → Option R) : p52 n (tms (vt r.1)) (bs (Uag r.2)) k0 = k0 0 := by
  have := UbN hr.1
  rw [Ulo n hn (vt r.1) (Uag r.2) (UEK hr.1.2 (by omega)) (Uid hr.2), UvX.2 ⟨UrU hr.1.1 hr.1.2, UcX hr.2⟩]
noncomputable def UBp (cols : Int) (l : List TermT) : Bool := okT cols (-1) l
theorem UmM {cols : Int} (hc : cols ≤ 2048) : ∀ {l : List TermT} {last : Int}, okT cols last l = true ↔ ((l.all fun t => decide (t.1 < cols)) = true ∧ okT 2048 last l = true)
  | [], last => by simp [okT]
  | t :: l, last => by
    have ih := UmM hc (l := l) (last := t.1)
    simp only [okT, List.all_cons, Bool.and_eq_true]
    by_cases h1 : t.1 ≤ last
    · simp [h1]
    · by_cases h2 : t.1 ≥ cols
      · have : ¬ t.1 < cols := by omega
        simp [h1, h2, this]
      · have h3 : ¬ t.1 ≥ 2048 := by omega
        have h4 : t.1 < cols := by omega
        by_cases h5 : t.2 = [48]
        · simp [h1, h5]
        · rw [if_neg h1, if_neg h1, if_neg h2, if_neg h3, if_neg h5, if_neg h5, Bool.and_eq_true, Bool.and_eq_true, ih, decide_eq_true h4]
          grind
theorem UOu : qb [48] = true := by rw [← Ujb]; exact UcX Uey
theorem Utp (n : Nat) (hn : 10 ^ 400 ≤ n) (cols : Int) (hcol : cols ≤ 2048) (l : List TermT) (hl : smT l) (k0 : Bool → Option R) : p76 n cols (tms l) k0 = k0 (UBp cols l) := by
  have hN := Uaq hn
  have hL := hl.1
  have hc := fun k => Ulo (R := R) n hn l [48] hl (by decide) k
  have hc' : ∀ k : Int → Option R, p52 n (tms l) (⟨#[48]⟩ : ByteArray) k = k (Uy4 l [48]) := hc
  unfold p76 Uwv
  have h := Uan (R := R) (l := l) (ok := fun t => decide (t.1 < cols)) (kbad := k0 false) (kend := k0 (Uy4 l [48] == 0))
    (fun m i => UdR n m cols (tms l) (tms l) ((tms l).length : Int) (i : Int) (fun y3 y4 => k0 y4) (fun y5 => p52 n y5 ⟨#[48]⟩ (fun y6 => k0 (y6 == 0))))
    (fun m => by simp only [UdR, UhZ]; simp (disch := (first | omega | (simp only [JlE]; omega))) only [↓JlH, JlF, Ua, hc])
    (fun m i hi => by
      simp only [UdR, UhZ]
      by_cases h1 : (l[i]).1 < cols
      · simp (disch := (first | omega | (simp only [JlE]; omega))) only [↓JlH, JlF, Ua, Jji, Uat hi, i1]
      · simp (disch := (first | omega | (simp only [JlE]; omega))) only [↓JlH, JlF, Ua, Jji, Uat hi, i1]
        simp [h1]) l.length n 0 (by omega) (by omega)
  rw [List.drop_zero] at h
  refine Eq.trans h ?_
  unfold UBp
  have e1 : (Uy4 l [48] == 0) = okT 2048 (-1) l := by
    rw [Bool.eq_iff_iff, beq_iff_eq, UvX, UOu]
    simp
  have e2 := UmM hcol (l := l) (last := -1)
  rw [e1]
  cases h3 : (l.all fun t => decide (t.1 < cols)) with
  | true =>
    rw [h3] at e2
    rw [if_pos rfl]
    congr 1
    rw [Bool.eq_iff_iff, e2]; simp
  | false =>
    rw [h3] at e2
    rw [if_neg (by decide)]
    congr 1
    symm
    rw [Bool.eq_false_iff]
    intro h4
    cases (e2.1 h4).1
end Go.Proofs.YtmgfmlhdnadglaaGreatDoor
set_option linter.unusedVariables false
set_option maxRecDepth 100000
namespace Go.Proofs.YtmgfmlhdnadglaaGreatDoor
open Go Th Go.Proofs
noncomputable section
variable {R : Type}
def UgQ : Ann := { loops := [(3, ids [1, 2, 4, 6, 13, 14], ids [4, 5, 6])], cuts := [], frz := [], rm := [.id, .id] }
abbrev Uyl (n : Nat) : Env := eC 75 (UJ2 n) (eC 74 (UJ1 n) eN)
theorem UpH (n : Nat) : EnvOK Tryz.prog GI (Uyl n) := .cons (.cons (.nil) (UM9 n)) (UN n)
def UhE (n : Nat) (l0 : LP → Int → LP → ByteArray → LP → ByteArray → Int → Int → O R) (x1 : LP) (x2 : Int) (x3 : LP) (x4 : ByteArray) (x5 : LP) (x6 : ByteArray) (x7 x8 : Int) (k0 : LP → ByteArray → Int → LP → ByteArray → O R) (k1 : ByteArray → LP → ByteArray → O R) : O R :=
  bif (decide (x8 < x7)) then (bif (inR x8 ((x1).length)) then (Jj3 ((x1).getD ((x8 : Int).toNat) (.v (.bool false))) fun e9 => bif (eqS e9 (⟨#[48]⟩ : ByteArray)) then (l0 x1 x2 x3 x4 x5 x6 x7 (IntKind.i64.wrap (x8 + 1))) else (bif (inR x8 ((x3).length)) then (Jh2 ((x3).getD ((x8 : Int).toNat) (.v (.bool false))) fun a10 => JdT a10 fun h11 t12 => Jkr h11 fun e13 => JdT t12 fun h14 t15 => Jj3 h14 fun e16 => JdT t15 fun h17 t18 => Jj2 h17 fun e19 => JdT t18 fun h20 t21 => Jj .i64 h20 fun e22 => Ji2 t21 (bif (inR x8 ((x3).length)) then (Jh2 ((x3).getD ((x8 : Int).toNat) (.v (.bool false))) fun a23 => JdT a23 fun h24 t25 => Jkr h24 fun e26 => JdT t25 fun h27 t28 => Jj3 h27 fun e29 => JdT t28 fun h30 t31 => Jj2 h30 fun e32 => JdT t31 fun h33 t34 => Jj .i64 h33 fun e35 => Ji2 t34 (bif (inR x8 ((x1).length)) then (Jj3 ((x1).getD ((x8 : Int).toNat) (.v (.bool false))) fun e36 => p74 n e13 e29 e36 (fun y37 y38 y39 => bif (y39 != 0) then (k0 [] ByteArray.empty y39 x5 x6) else (p75 n x5 x6 y37 y38 (fun y40 y41 y42 => bif (y42 != 0) then (k0 [] ByteArray.empty y42 y40 y41) else (l0 x1 x2 x3 x4 y40 y41 x7 (IntKind.i64.wrap (x8 + 1))))))) else none)) else none)) else none)) else none) else (k1 x4 x5 x6)
def UdC (n : Nat) : Nat → LP → Int → LP → ByteArray → LP → ByteArray → Int → Int → (LP → ByteArray → Int → LP → ByteArray → O R) → (ByteArray → LP → ByteArray → O R) → O R
  | 0, _, _, _, _, _, _, _, _, _, _ => none
  | m + 1, x1, x2, x3, x4, x5, x6, x7, x8, k0, k1 => UhE n (fun x1 x2 x3 x4 x5 x6 x7 x8 => UdC n m x1 x2 x3 x4 x5 x6 x7 x8 k0 k1) x1 x2 x3 x4 x5 x6 x7 x8 k0 k1
def Uwf (n : Nat) (x1 : LP) (x2 : Int) (x3 : LP) (x4 : ByteArray) (x5 : LP) (x6 : ByteArray) (x7 x8 : Int) (k0 : LP → ByteArray → Int → LP → ByteArray → O R) (k1 : ByteArray → LP → ByteArray → O R) : O R := UdC n n x1 x2 x3 x4 x5 x6 x7 x8 k0 k1
def p30 (n : Nat) (x1 : Int) (x2 x3 : LP) (k0 : LP → ByteArray → Int → O R) : O R :=
  Uwf n x3 x1 x2 ByteArray.empty [] ⟨#[48]⟩ ((x2).length : Int) 0 (fun y4 y5 y6 y7 y8 => k0 y4 y5 y6) (fun y9 y10 y11 => k0 y10 y11 0)
abbrev E30 (n : Nat) : Code → Fr → Kc R → O R := evC Tryz.prog (Uyl n) UgQ n (59, [])
noncomputable def UuM : Code := Jj4 (Jll Tryz.f30) [1, 1, 0, 1, 0, 0]
abbrev Ugm : Sl (List SV) := (cH (.c (sBx 24 (cI (cH .n))) (.c (sBx 43 (.c sNl (cS .n))) (.c (sBx 43 (cH (cS .n))) (cI (cI .n))))))
abbrev Uq3 (n m : Nat) (K : Kc R) : Ugm.T (O R) := fun x1 x2 x3 x4 x5 x6 x7 x8 => UdC n m x1 x2 x3 x4 x5 x6 x7 x8 (fun y1 y2 y3 y4 y5 => xL UgQ 3 K .ret [.bx 43 [vH y1, vS y2], vI y3, .bx 43 [vH y4, vS y5]]) (fun y1 y2 y3 => xL UgQ 3 K (.exit 0) [.bx 43 [.nl, vS y1], dD, .bx 43 [vH y2, vS y3]])
abbrev UAY (n : Nat) (K : Kc R) (l0 : Ugm.T (O R)) : Ugm.T (O R) := fun x1 x2 x3 x4 x5 x6 x7 x8 => UhE n l0 x1 x2 x3 x4 x5 x6 x7 x8 (fun y1 y2 y3 y4 y5 => xL UgQ 3 K .ret [.bx 43 [vH y1, vS y2], vI y3, .bx 43 [vH y4, vS y5]]) (fun y1 y2 y3 => xL UgQ 3 K (.exit 0) [.bx 43 [.nl, vS y1], dD, .bx 43 [vH y2, vS y3]])
abbrev UKf (n : Nat) : Orc R := oL UgQ (E30 n) n 3 UuM Ugm (Uq3 n n) oN
abbrev UI5 (n : Nat) : Orc R := oN
abbrev K30 (R : Type) (n : Nat) := JcH (R := R) Tryz.prog (Uyl n) UgQ n (59, []) (UKf n) (UI5 n)
theorem UDS (n : Nat) : K30 R n (false, 3, UuM) := JkF (lo := UKf n) (cu := UI5 n) (pO pN (by kernel_rfl)) Ugm (Uq3 n n) (JiE (F := Uq3 n) Ugm (UAY n) (fun K _ _ _ _ _ _ _ _ => rfl) (fun _ _ => rfl) (fun L K _ _ _ _ _ _ _ _ => by show _ = _; kernel_rfl) n) fun _ _ => rfl
theorem UNB (n : Nat) : Je6 (K30 R n) (JaJ UgQ (Jll Tryz.f30)) := pO (pC (UDS n) pN) (by kernel_rfl)
abbrev t30 : Sl (List SV) := (.c (sP (JlI (.c (Jlv .i64) (.c sSh .n)))) (cH .n))
abbrev f30 (n : Nat) (K : List SV → O R) : t30.T (O R) := fun x1 x2 x3 => p30 n x1 x2 x3 (fun y1 y2 y3 => K [.p (.agg [.sh y1, .v (.string y2)]), vI y3])
abbrev UEY (n : Nat) : FS := fT [false, false] t30 (f30 n)
theorem UHd (n : Nat) : FSound Tryz.prog GI 30 (UEY n) := gd UgQ n (UpH n) Tryz.func30 (.cons (UpH n) t30 (f30 n) (fun K _ _ _ => (Jkq (c := Jll Tryz.f30) (by kernel_rfl) (UNB n) K).trans (by kernel_rfl)) .nil) (by kernel_rfl)
def Und : Ann := { loops := [], cuts := [(3, ids [1, 2, 4], ids [4, 5])], frz := [], rm := [.id, .id] }
abbrev Uyh (n : Nat) : Env := eC 66 (UG n) (eC 65 (UE2 n) (eC 30 (UEY n) eN))
theorem UpB (n : Nat) : EnvOK Tryz.prog GI (Uyh n) := .cons (.cons (.cons (.nil) (UHd n)) (UHh n)) (UKF n)
def Uw (n : Nat) (x1 : LP) (x2 : Int) (x3 : LP) (x4 : ByteArray) (k0 : LP → ByteArray → Int → O R) : O R :=
  bif (((x1).length : Int) != ((x3).length : Int)) then (k0 [] ByteArray.empty 6) else (p30 n x2 x3 x1 (fun y5 y6 y7 => k0 y5 y6 y7))
def p23 (n : Nat) (x1 : Int) (x2 x3 : LP) (k0 : LP → ByteArray → Int → O R) : O R :=
  p65 n x1 x2 (fun y4 => bif (y4 != 0) then (k0 [] ByteArray.empty 3) else (p66 n x3 (fun y5 => bif (bif false then true else (!y5)) then (k0 [] ByteArray.empty 3) else (Uw n x3 x1 x2 ByteArray.empty (fun y6 y7 y8 => k0 y6 y7 y8)))))
abbrev E23 (n : Nat) : Code → Fr → Kc R → O R := evC Tryz.prog (Uyh n) Und n (27, [])
noncomputable def UuE : Code := Jj4 (Jll Tryz.f23) [1, 1]
abbrev UsP : Sl (List SV) := (cH (.c (sBx 24 (cI (cH .n))) (.c (sBx 43 (.c sNl (cS .n))) .n)))
abbrev UvD (n : Nat) (K : Kc R) : UsP.T (O R) := fun x1 x2 x3 x4 => Uw n x1 x2 x3 x4 (fun y1 y2 y3 => xC Und 3 K .ret [.bx 43 [vH y1, vS y2], vI y3])
abbrev UKd (n : Nat) : Orc R := oN
abbrev UI3 (n : Nat) : Orc R := oC Und (E23 n) 3 UuE UsP (UvD n) oN
abbrev K23 (R : Type) (n : Nat) := JcH (R := R) Tryz.prog (Uyh n) Und n (27, []) (UKd n) (UI3 n)
theorem UDI (n : Nat) : K23 R n (true, 3, UuE) := JkW (lo := UKd n) (cu := UI3 n) (pO pN (by kernel_rfl)) UsP (UvD n) (fun K _ _ _ _ => by show _ = _; kernel_rfl) fun _ _ => rfl
theorem UNv (n : Nat) : Je6 (K23 R n) (JaJ Und (Jll Tryz.f23)) := pO (pC (UDI n) pN) (by kernel_rfl)
abbrev t23 : Sl (List SV) := (.c (sP (JlI (.c (Jlv .i64) (.c sSh .n)))) (cH .n))
abbrev f23 (n : Nat) (K : List SV → O R) : t23.T (O R) := fun x1 x2 x3 => p23 n x1 x2 x3 (fun y1 y2 y3 => K [.p (.agg [.sh y1, .v (.string y2)]), vI y3])
abbrev UJC (n : Nat) : FS := fT [false, false] t23 (f23 n)
theorem UMK (n : Nat) : FSound Tryz.prog GI 23 (UJC n) := gd Und n (UpB n) Tryz.func23 (.cons (UpB n) t23 (f23 n) (fun K _ _ _ => (Jkq (c := Jll Tryz.f23) (by kernel_rfl) (UNv n) K).trans (by kernel_rfl)) .nil) (by kernel_rfl)
def UgR : Ann := { loops := [(2, ids [1, 2, 8, 9], ids [4])], cuts := [], frz := [], rm := [.id] }
abbrev Uym (n : Nat) : Env := eC 19 (UyX n) eN
theorem UpI (n : Nat) : EnvOK Tryz.prog GI (Uym n) := .cons (.nil) (UAC n)
def UhF (n : Nat) (l0 : LP → Int → LP → Int → Int → O R) (x1 : LP) (x2 : Int) (x3 : LP) (x4 x5 : Int) (k0 : Bool → O R) (k1 : O R) : O R :=
  bif (decide (x5 < x4)) then (bif (inR x5 ((x3).length)) then (Jh2 ((x3).getD ((x5 : Int).toNat) (.v (.bool false))) fun a6 => JdT a6 fun h7 t8 => Jkr h7 fun e9 => JdT t8 fun h10 t11 => Jj3 h10 fun e12 => JdT t11 fun h13 t14 => Jj2 h13 fun e15 => JdT t14 fun h16 t17 => Jj .i64 h16 fun e18 => Ji2 t17 (bif (!e15) then (bif (inR x5 ((x1).length)) then (Jj3 ((x1).getD ((x5 : Int).toNat) (.v (.bool false))) fun e19 => p19 n e19 ⟨#[48]⟩ (fun y20 => bif (bif true then (decide (y20 < 0)) else false) then (k0 false) else (l0 x1 x2 x3 x4 (IntKind.i64.wrap (x5 + 1))))) else none) else (l0 x1 x2 x3 x4 (IntKind.i64.wrap (x5 + 1))))) else none) else (k1)
def UdD (n : Nat) : Nat → LP → Int → LP → Int → Int → (Bool → O R) → (O R) → O R
  | 0, _, _, _, _, _, _, _ => none
  | m + 1, x1, x2, x3, x4, x5, k0, k1 => UhF n (fun x1 x2 x3 x4 x5 => UdD n m x1 x2 x3 x4 x5 k0 k1) x1 x2 x3 x4 x5 k0 k1
def Uwg (n : Nat) (x1 : LP) (x2 : Int) (x3 : LP) (x4 x5 : Int) (k0 : Bool → O R) (k1 : O R) : O R := UdD n n x1 x2 x3 x4 x5 k0 k1
def p31 (n : Nat) (x1 : Int) (x2 x3 : LP) (k0 : Bool → O R) : O R :=
  Uwg n x3 x1 x2 ((x2).length : Int) 0 (fun y4 => k0 y4) (k0 true)
abbrev E31 (n : Nat) : Code → Fr → Kc R → O R := evC Tryz.prog (Uym n) UgR n (28, [])
noncomputable def UuN : Code := Jj4 (Jll Tryz.f31) [1, 0, 1, 0, 0]
abbrev Ugn : Sl (List SV) := (cH (.c (sBx 24 (cI (cH .n))) (cI (cI .n))))
abbrev Uq4 (n m : Nat) (K : Kc R) : Ugn.T (O R) := fun x1 x2 x3 x4 x5 => UdD n m x1 x2 x3 x4 x5 (fun y1 => xL UgR 2 K .ret [vB y1]) (xL UgR 2 K (.exit 0) [dD])
abbrev UAZ (n : Nat) (K : Kc R) (l0 : Ugn.T (O R)) : Ugn.T (O R) := fun x1 x2 x3 x4 x5 => UhF n l0 x1 x2 x3 x4 x5 (fun y1 => xL UgR 2 K .ret [vB y1]) (xL UgR 2 K (.exit 0) [dD])
abbrev UKg (n : Nat) : Orc R := oL UgR (E31 n) n 2 UuN Ugn (Uq4 n n) oN
abbrev UI6 (n : Nat) : Orc R := oN
abbrev K31 (R : Type) (n : Nat) := JcH (R := R) Tryz.prog (Uym n) UgR n (28, []) (UKg n) (UI6 n)
theorem UDT (n : Nat) : K31 R n (false, 2, UuN) := JkF (lo := UKg n) (cu := UI6 n) (pO pN (by kernel_rfl)) Ugn (Uq4 n n) (JiE (F := Uq4 n) Ugn (UAZ n) (fun K _ _ _ _ _ => rfl) (fun _ _ => rfl) (fun L K _ _ _ _ _ => by show _ = _; kernel_rfl) n) fun _ _ => rfl
theorem UNC (n : Nat) : Je6 (K31 R n) (JaJ UgR (Jll Tryz.f31)) := pO (pC (UDT n) pN) (by kernel_rfl)
abbrev t31 : Sl (List SV) := (.c (sP (JlI (.c (Jlv .i64) (.c sSh .n)))) (cH .n))
abbrev f31 (n : Nat) (K : List SV → O R) : t31.T (O R) := fun x1 x2 x3 => p31 n x1 x2 x3 (fun y1 => K [vB y1])
abbrev UF4 (n : Nat) : FS := fT [false, false] t31 (f31 n)
theorem UKz (n : Nat) : FSound Tryz.prog GI 31 (UF4 n) := gd UgR n (UpI n) Tryz.func31 (.cons (UpI n) t31 (f31 n) (fun K _ _ _ => (Jkq (c := Jll Tryz.f31) (by kernel_rfl) (UNC n) K).trans (by kernel_rfl)) .nil) (by kernel_rfl)
end
end Go.Proofs.YtmgfmlhdnadglaaGreatDoor
set_option linter.unusedVariables false
set_option linter.unusedSimpArgs false
namespace Go.Proofs.YtmgfmlhdnadglaaGreatDoor
open Go Th Go.Proofs
variable {R : Type}
theorem UKu : ((5 : Int) != 0) = true := rfl
theorem UnC : ((0 : Int) != 0) = false := rfl
theorem UaI {l : List SpT} {i : Nat} {d : PV} (h : i < l.length) (K : Int → ByteArray → Option R) :
    (Jh2 ((tms (vt l)).getD i d) fun a => JdT a fun h1 t1 => Jj .i64 h1 fun e1 => JdT t1 fun h2 t2 => Jj3 h2 fun e2 => Ji2 t2 (K e1 e2)) = K ((l[i]).1 : Int) (bs (Uag (l[i]).2)) := by
  rw [Uat (by rw [Uau]; exact h), UEJ]
theorem Udh (acc : List SpT) (k : Nat) (y : Rat) : tms (vt acc) ++ [.agg [.v (.int .i64 (k : Int)), .v (.string (bs (Uag y)))]] = tms (vt (acc ++ [(k, y)])) := by
  unfold tms vt
  rw [List.map_append, List.map_append]; rfl
theorem ULY (q : Rat) : eqS (bs (Uag q)) (⟨#[48]⟩ : ByteArray) = decide (q = 0) := by
  rw [e48, Bool.eq_iff_iff, decide_eq_true_iff, decide_eq_true_iff, Ueu]
noncomputable def Ut (k0 : List PV → ByteArray → Int → Option R) : Option SpR → Option R
  | none => k0 [] (bs []) 5
  | some x => k0 (tms (vt x.1)) (bs (Uag x.2)) 0
open Classical in
noncomputable def scS (q : Rat) (acc : List SpT) (t : SpT) : Option (List SpT) := if fits (t.2 * q) then some (acc ++ [(t.1, t.2 * q)]) else none
theorem UsI (q : Rat) : ∀ (l acc : List SpT), UaM (scS q) acc l = (scO q l).map (acc ++ ·)
  | [], acc => by simp [UaM, scO]
  | t :: l, acc => by
    rw [UaM, scS]
    by_cases h : fits (t.2 * q)
    · rw [if_pos h, Option.bind_some, UsI q l]
      unfold scO
      by_cases h2 : ∀ x ∈ l, fits (x.2 * q)
      · rw [if_pos h2, if_pos (by intro x hx; rcases List.mem_cons.1 hx with rfl | hx; exact h; exact h2 x hx)]
        simp
      · rw [if_neg h2, if_neg (fun h3 => h2 fun x hx => h3 x (List.mem_cons_of_mem _ hx))]; rfl
    · rw [if_neg h]
      unfold scO
      rw [if_neg (fun h3 => h (h3 t (List.mem_cons_self ..)))]; rfl
theorem UrE (n : Nat) (hn : 10 ^ 1000 ≤ n) {r : SpR} (hr : okF 2048 r) {q : Rat} (hq : fits q) (h0 : q ≠ 0) (k0 : List PV → ByteArray → Int → Option R) :
    UFk n (tms (vt r.1)) (bs (Uag r.2)) (bs (Uag q)) k0 = Ut k0 (tmO q r) := by
  have hN := Uaq (UaR hn)
  have hL := UbN hr.1
  have hm := fun (t : Rat) (ht : fits t) k => UAO (R := R) n hn t q ht hq k
  unfold UFk
  rw [ULY, decide_eq_false h0, Uak, hm r.2 hr.2]
  unfold tmO
  by_cases hf : fits (r.2 * q)
  · rw [Ue8 hf, if_pos hf, UnC, Uak]
    have h := Udg (R := R) (l := r.1) (step := scS q) (kerr := k0 [] (bs []) 5) (kend := fun acc => k0 (tms (vt acc)) (bs (Uag (r.2 * q))) 0) (Inv := fun i acc => acc.length = i)
      (fun m acc i => Ub3 n m (bs (Uag q)) ByteArray.empty (tms (vt acc)) (bs (Uag (r.2 * q))) (tms (vt r.1)) ((tms (vt r.1)).length : Int) (i : Int) (fun y6 y7 y8 y9 => k0 [] y6 y7) (fun y10 y11 y12 => k0 y11 y12 0))
      (fun m acc ha => by simp only [Ub3, UeR]; simp (disch := (first | omega | (simp only [JlE]; omega))) only [↓JlH, JlF, Ua, Uau])
      (fun acc acc' i hi ha he => by
        unfold scS at he
        split at he
        · simp only [Option.some.injEq] at he
          rw [← he, List.length_append, ha]; rfl
        · cases he)
      (fun m acc i hi ha => by
        have hv := hm (r.1[i]).2 (hr.1.2 _ (List.getElem_mem hi)).2.1
        simp only [Ub3, UeR]
        unfold scS
        by_cases h1 : fits ((r.1[i]).2 * q)
        · have hv' : ∀ k, p21 n (bs (Uag (r.1[i]).2)) (bs (Uag q)) k = k (bs (Uag ((r.1[i]).2 * q))) 0 := fun k => by rw [hv, Ue8 h1]
          rw [if_pos h1]
          simp (disch := (first | omega | (simp only [JlE]; omega))) only [↓JlH, JlF, Ua, Uau, Jji, UaI hi, i1, hv', UnC, Udh]
          rfl
        · have hv' : ∀ k, p21 n (bs (Uag (r.1[i]).2)) (bs (Uag q)) k = k (bs []) 5 := fun k => by rw [hv]; unfold Unx; rw [if_neg h1]
          rw [if_neg h1]
          simp (disch := (first | omega | (simp only [JlE]; omega))) only [↓JlH, JlF, Ua, Uau, Jji, UaI hi, i1, hv', UKu]
          rfl) r.1.length n 0 [] (by omega) (by omega) rfl
    rw [List.drop_zero, UsI] at h
    unfold Ur3
    refine Eq.trans h ?_
    cases scO q r.1 <;> rfl
  · unfold Unx
    rw [if_neg hf, if_neg hf]; rfl
theorem UrD (n : Nat) (hn : 10 ^ 1000 ≤ n) {r : SpR} (hr : okF 2048 r) {q : Rat} (hq : fits q) (h0 : q ≠ 0) (k0 : List PV → ByteArray → Int → Option R) :
    p74 n (tms (vt r.1)) (bs (Uag r.2)) (bs (Uag q)) k0 = Ut k0 (tmO q r) := by
  have hN := Uaq (UaR hn)
  unfold p74
  rw [Ufm n (UaR hn) hr, UnC, Uak, Ues n (UaR hn) _ (Uid hq), UcX hq]
  exact UrE n hn hr hq h0 k0
theorem UaJ (n : Nat) (hn : 10 ^ 1000 ≤ n) {a b : List SpT} (ha : okS 2048 a) (hb : okS 2048 b) (x2 x4 x7 : ByteArray) (k0 : List PV → ByteArray → Int → Option R) (k1 : ByteArray → List PV → ByteArray → Option R) :
    ∀ (d m i k : Nat) (acc : List SpT), a.length - i + (b.length - k) = d → i ≤ a.length → k ≤ b.length → d < m → acc.length ≤ i + k →
      Uc4 n m (tms (vt a)) x2 (tms (vt b)) x4 (bs []) (tms (vt acc)) x7 (i : Int) (k : Int) (fun y7 y8 y9 y10 => k0 [] y7 y8) k1 =
        match Uez (a.drop i) (b.drop k) with
        | none => k0 [] (bs []) 5
        | some r => k1 (bs []) (tms (vt (acc ++ r))) x7
  | d, 0, i, k, acc, hd, hi, hk, hm, hl => by omega
  | d, m + 1, i, k, acc, hd, hi, hk, hm, hl => by
    have la := UbN ha
    have lb := UbN hb
    have hN := Uaq (UaR hn)
    simp only [Uc4, Uhn]
    by_cases hi' : i < a.length
    · have hda := Ua4 hi'
      by_cases hk' : k < b.length
      · have hdb := Ua4 hk'
        have e1 : ((k : Int) == (b.length : Int)) = false := by simp; omega
        have e2 : ((i : Int) == (a.length : Int)) = false := by simp; omega
        by_cases hlt : (a[i]).1 < (b[k]).1
        · have ih := UaJ n hn ha hb x2 x4 x7 k0 k1 (d - 1) m (i + 1) k (acc ++ [((a[i]).1, (a[i]).2)]) (by omega) (by omega) hk (by omega) (by simp; omega)
          simp (disch := (first | omega | (simp only [JlE]; omega))) only [↓JlH, JlF, UaL, UaC, Ua, Uau, e1, Jji, UaI hi', UaI hk', Udh, i1]
          rw [ih, hda, hdb, Uez, if_pos hlt]
          cases Uez (a.drop (i + 1)) (b[k] :: b.drop (k + 1)) <;> simp
        · by_cases hgt : (b[k]).1 < (a[i]).1
          · have ih := UaJ n hn ha hb x2 x4 x7 k0 k1 (d - 1) m i (k + 1) (acc ++ [((b[k]).1, (b[k]).2)]) (by omega) hi (by omega) (by omega) (by simp; omega)
            simp (disch := (first | omega | (simp only [JlE]; omega))) only [↓JlH, JlF, UaL, UaC, Ub, Ua, Uau, e1, e2, Jji, UaI hi', UaI hk', Udh, i1]
            rw [ih, hda, hdb, Uez, if_neg hlt, if_pos hgt]
            cases Uez (a[i] :: a.drop (i + 1)) (b.drop (k + 1)) <;> simp
          · have hv := Uuw (R := R) n hn (a[i]).2 (b[k]).2 (ha.2 _ (List.getElem_mem hi')).2.1 (hb.2 _ (List.getElem_mem hk')).2.1
            rw [hda, hdb, Uez, if_neg hlt, if_neg hgt]
            by_cases hf : fits ((a[i]).2 + (b[k]).2)
            · have hv' : ∀ kk, p22 n (bs (Uag (a[i]).2)) (bs (Uag (b[k]).2)) kk = kk (bs (Uag ((a[i]).2 + (b[k]).2))) 0 := fun kk => by rw [hv, Ue8 hf]
              rw [if_pos hf]
              by_cases hz : (a[i]).2 + (b[k]).2 = 0
              · have ih := UaJ n hn ha hb x2 x4 x7 k0 k1 (d - 2) m (i + 1) (k + 1) acc (by omega) (by omega) (by omega) (by omega) (by omega)
                have e3 := Ujt (Ueu.2 hz)
                simp (disch := (first | omega | (simp only [JlE]; omega))) only [↓JlH, JlF, UaL, UaC, Ub, Ub4, Ua, Uau, e1, e2, Jji, UaI hi', UaI hk', Udh, i1, hv', UnC, e3]
                rw [ih]
                cases Uez (a.drop (i + 1)) (b.drop (k + 1)) <;> simp
              · have ih := UaJ n hn ha hb x2 x4 x7 k0 k1 (d - 2) m (i + 1) (k + 1) (acc ++ [((a[i]).1, (a[i]).2 + (b[k]).2)]) (by omega) (by omega) (by omega) (by omega) (by simp; omega)
                have e3 := UiL (fun q => hz (Ueu.1 q))
                simp (disch := (first | omega | (simp only [JlE]; omega))) only [↓JlH, JlF, UaL, UaC, Ub, Ub4, Ua, Uau, e1, e2, Jji, UaI hi', UaI hk', Udh, i1, hv', UnC, e3]
                rw [ih]
                cases Uez (a.drop (i + 1)) (b.drop (k + 1)) <;> simp
            · have hv' : ∀ kk, p22 n (bs (Uag (a[i]).2)) (bs (Uag (b[k]).2)) kk = kk (bs []) 5 := fun kk => by rw [hv]; unfold Unx; rw [if_neg hf]
              rw [if_neg hf]
              simp (disch := (first | omega | (simp only [JlE]; omega))) only [↓JlH, JlF, UaL, UaC, Ub, Ub4, Ua, Uau, e1, e2, Jji, UaI hi', UaI hk', Udh, i1, hv', UKu]
      · have hk'' : k = b.length := by omega
        have e1 : ((k : Int) == (b.length : Int)) = true := by simp; omega
        have ih := UaJ n hn ha hb x2 x4 x7 k0 k1 (d - 1) m (i + 1) k (acc ++ [((a[i]).1, (a[i]).2)]) (by omega) (by omega) hk (by omega) (by simp; omega)
        simp (disch := (first | omega | (simp only [JlE]; omega))) only [↓JlH, JlF, UaL, UaC, Ua, Uau, e1, Jji, UaI hi', Udh, i1]
        rw [ih, hda, List.drop_eq_nil_of_le (by omega : b.length ≤ k), UrO, UrO]
        simp only [List.append_assoc, List.singleton_append]
    · have hi'' : i = a.length := by omega
      have e2 : ((i : Int) == (a.length : Int)) = true := by simp; omega
      rw [List.drop_eq_nil_of_le (by omega : a.length ≤ i)]
      by_cases hk' : k < b.length
      · have hdb := Ua4 hk'
        have e1 : ((k : Int) == (b.length : Int)) = false := by simp; omega
        have ih := UaJ n hn ha hb x2 x4 x7 k0 k1 (d - 1) m i (k + 1) (acc ++ [((b[k]).1, (b[k]).2)]) (by omega) hi (by omega) (by omega) (by simp; omega)
        rw [List.drop_eq_nil_of_le (by omega : a.length ≤ i)] at ih
        simp (disch := (first | omega | (simp only [JlE]; omega))) only [↓JlH, JlF, UaL, UaC, Ub, Ua, Uau, e1, e2, Jji, UaI hk', Udh, i1]
        rw [ih, hdb]
        simp only [Uez, List.append_assoc, List.singleton_append]
      · simp (disch := (first | omega | (simp only [JlE]; omega))) only [↓JlH, JlF, Ua, Uau]
        rw [List.drop_eq_nil_of_le (by omega : b.length ≤ k)]
        simp [Uez, JfF]
theorem UtB (n : Nat) (hn : 10 ^ 1000 ≤ n) {a b : SpR} (ha : okF 2048 a) (hb : okF 2048 b) (k0 : List PV → ByteArray → Int → Option R) :
    UFl n (tms (vt a.1)) (bs (Uag a.2)) (tms (vt b.1)) (bs (Uag b.2)) k0 = Ut k0 (plO a b) := by
  have hN := Uaq (UaR hn)
  have la := UbN ha.1
  have lb := UbN hb.1
  unfold UFl
  rw [Uuw n hn a.2 b.2 ha.2 hb.2]
  unfold plO
  by_cases hf : fits (a.2 + b.2)
  · rw [Ue8 hf, if_pos hf, UnC, Uak]
    unfold Ur4
    refine Eq.trans (UaJ n hn ha.1 hb.1 _ _ _ k0 _ (a.1.length + b.1.length) n 0 0 [] (by omega) (by omega) (by omega) (by omega) (by simp)) ?_
    rw [List.drop_zero, List.drop_zero]
    cases Uez a.1 b.1 <;> rfl
  · unfold Unx
    rw [if_neg hf, if_neg hf]; rfl
theorem UyM (n : Nat) (hn : 10 ^ 1000 ≤ n) {a b : SpR} (ha : okF 2048 a) (hb : okF 2048 b) (k0 : List PV → ByteArray → Int → Option R) :
    p75 n (tms (vt a.1)) (bs (Uag a.2)) (tms (vt b.1)) (bs (Uag b.2)) k0 = Ut k0 (plO a b) := by
  unfold p75
  rw [Ufm n (UaR hn) ha, UnC, Uak, Ufm n (UaR hn) hb]
  exact UtB n hn ha hb k0
end Go.Proofs.YtmgfmlhdnadglaaGreatDoor
set_option linter.unusedVariables false
set_option maxRecDepth 100000
namespace Go.Proofs.YtmgfmlhdnadglaaGreatDoor
open Go Th Go.Proofs
noncomputable section
variable {R : Type}
def Uco : Ann := { loops := [(4, ids [1, 2, 17, 18, 19], ids [1, 2, 4, 5]), (14, ids [1, 9, 47, 48, 49], ids [4, 5, 9])], cuts := [(12, ids [1, 2], ids [4, 5])], frz := [], rm := [.id, .id] }
abbrev Uyf (n : Nat) : Env := eC 53 (UyY n) (eC 52 (UAz n) (eC 22 (UF3 n) (eC 21 (UF2 n) eN)))
theorem Upw (n : Nat) : EnvOK Tryz.prog GI (Uyf n) := .cons (.cons (.cons (.cons (.nil) (UKx n)) (UKy n)) (UDh n)) (UAD n)
def Usf (n : Nat) (l0 : LP → LP → ByteArray → LP → Int → Int → O R) (x1 x2 : LP) (x3 : ByteArray) (x4 : LP) (x5 x6 : Int) (k0 : LP → LP → ByteArray → ByteArray → Int → O R) (k1 : LP → LP → ByteArray → O R) : O R :=
  bif (decide (x6 < x5)) then (bif (inR x6 ((x4).length)) then (Jj3 ((x4).getD ((x6 : Int).toNat) (.v (.bool false))) fun e7 => p53 n e7 (fun y8 => bif (!y8) then (k0 x1 x2 x3 ⟨#[]⟩ 3) else (l0 x1 x2 x3 x4 x5 (IntKind.i64.wrap (x6 + 1))))) else none) else (k1 x1 x2 x3)
def Uke (n : Nat) : Nat → LP → LP → ByteArray → LP → Int → Int → (LP → LP → ByteArray → ByteArray → Int → O R) → (LP → LP → ByteArray → O R) → O R
  | 0, _, _, _, _, _, _, _, _ => none
  | m + 1, x1, x2, x3, x4, x5, x6, k0, k1 => Usf n (fun x1 x2 x3 x4 x5 x6 => Uke n m x1 x2 x3 x4 x5 x6 k0 k1) x1 x2 x3 x4 x5 x6 k0 k1
def UDs (n : Nat) (x1 x2 : LP) (x3 : ByteArray) (x4 : LP) (x5 x6 : Int) (k0 : LP → LP → ByteArray → ByteArray → Int → O R) (k1 : LP → LP → ByteArray → O R) : O R := Uke n n x1 x2 x3 x4 x5 x6 k0 k1
def UmT (n : Nat) (l0 : LP → ByteArray → LP → Int → Int → O R) (x1 : LP) (x2 : ByteArray) (x3 : LP) (x4 x5 : Int) (k0 : ByteArray → Int → ByteArray → O R) (k1 : ByteArray → O R) : O R :=
  bif (decide (x5 < x4)) then (bif (inR x5 ((x3).length)) then (Jh2 ((x3).getD ((x5 : Int).toNat) (.v (.bool false))) fun a6 => JdT a6 fun h7 t8 => Jj .i64 h7 fun e9 => JdT t8 fun h10 t11 => Jj3 h10 fun e12 => Ji2 t11 (bif (inR e9 ((x1).length)) then (Jj3 ((x1).getD ((e9 : Int).toNat) (.v (.bool false))) fun e13 => p21 n e12 e13 (fun y14 y15 => bif (y15 != 0) then (k0 ⟨#[]⟩ y15 x2) else (p22 n x2 y14 (fun y16 y17 => bif (y17 != 0) then (k0 ⟨#[]⟩ y17 y16) else (l0 x1 y16 x3 x4 (IntKind.i64.wrap (x5 + 1))))))) else none)) else none) else (k1 x2)
def Uhz (n : Nat) : Nat → LP → ByteArray → LP → Int → Int → (ByteArray → Int → ByteArray → O R) → (ByteArray → O R) → O R
  | 0, _, _, _, _, _, _, _ => none
  | m + 1, x1, x2, x3, x4, x5, k0, k1 => UmT n (fun x1 x2 x3 x4 x5 => Uhz n m x1 x2 x3 x4 x5 k0 k1) x1 x2 x3 x4 x5 k0 k1
def Uzi (n : Nat) (x1 : LP) (x2 : ByteArray) (x3 : LP) (x4 x5 : Int) (k0 : ByteArray → Int → ByteArray → O R) (k1 : ByteArray → O R) : O R := Uhz n n x1 x2 x3 x4 x5 k0 k1
def Ukd (n : Nat) (x1 x2 : LP) (x3 : ByteArray) (k0 : ByteArray → Int → O R) : O R :=
  Uzi n x1 x3 x2 ((x2).length : Int) 0 (fun y4 y5 y6 => k0 y4 y5) (fun y7 => k0 y7 0)
def p18 (n : Nat) (x1 : LP) (x2 : ByteArray) (x3 : LP) (k0 : ByteArray → Int → O R) : O R :=
  p52 n x1 x2 (fun y4 => bif (y4 != 0) then (k0 ⟨#[]⟩ 3) else (UDs n x3 x1 x2 x3 ((x3).length : Int) 0 (fun y5 y6 y7 y8 y9 => k0 y8 y9) (fun y10 y11 y12 => bif (decide (((y11).length : Int) > 0)) then (let v13 := IntKind.i64.wrap (((y11).length : Int) - 1); bif (inR v13 ((y11).length)) then (Jh2 ((y11).getD ((v13 : Int).toNat) (.v (.bool false))) fun a14 => JdT a14 fun h15 t16 => Jj .i64 h15 fun e17 => JdT t16 fun h18 t19 => Jj3 h18 fun e20 => Ji2 t19 (bif (bif true then (decide (e17 ≥ ((y10).length : Int))) else false) then (k0 ⟨#[]⟩ 2) else (Ukd n y10 y11 y12 (fun y21 y22 => k0 y21 y22)))) else none) else (Ukd n y10 y11 y12 (fun y23 y24 => k0 y23 y24)))))
abbrev E18 (n : Nat) : Code → Fr → Kc R → O R := evC Tryz.prog (Uyf n) Uco n (78, [])
noncomputable def Uoz : Code := Jj4 (Jll Tryz.f18) [1, 1, 1, 1]
abbrev UkK : Sl (List SV) := (cH (.c (sBx 43 (cH (cS .n))) .n))
abbrev UqU (n : Nat) (K : Kc R) : UkK.T (O R) := fun x1 x2 x3 => Ukd n x1 x2 x3 (fun y1 y2 => xC Uco 12 K .ret [vS y1, vI y2])
noncomputable def UuC : Code := Jj4 (Jll Tryz.f18) [1, 1, 0, 1, 0, 0]
abbrev Ugh : Sl (List SV) := (cH (.c (sBx 43 (cH (cS .n))) (cH (cI (cI .n)))))
abbrev UqV (n m : Nat) (K : Kc R) : Ugh.T (O R) := fun x1 x2 x3 x4 x5 x6 => Uke n m x1 x2 x3 x4 x5 x6 (fun y1 y2 y3 y4 y5 => xL Uco 4 K .ret [vH y1, .bx 43 [vH y2, vS y3], vS y4, vI y5]) (fun y1 y2 y3 => xL Uco 4 K (.exit 0) [vH y1, .bx 43 [vH y2, vS y3], dD, dD])
abbrev UAT (n : Nat) (K : Kc R) (l0 : Ugh.T (O R)) : Ugh.T (O R) := fun x1 x2 x3 x4 x5 x6 => Usf n l0 x1 x2 x3 x4 x5 x6 (fun y1 y2 y3 y4 y5 => xL Uco 4 K .ret [vH y1, .bx 43 [vH y2, vS y3], vS y4, vI y5]) (fun y1 y2 y3 => xL Uco 4 K (.exit 0) [vH y1, .bx 43 [vH y2, vS y3], dD, dD])
noncomputable def UoA : Code := Jj4 (Jll Tryz.f18) [1, 1, 1, 1, 1, 0, 1, 0, 0]
abbrev Uek : Sl (List SV) := (cH (cS (cH (cI (cI .n)))))
abbrev UjY (n m : Nat) (K : Kc R) : Uek.T (O R) := fun x1 x2 x3 x4 x5 => Uhz n m x1 x2 x3 x4 x5 (fun y1 y2 y3 => xL Uco 14 K .ret [vS y1, vI y2, vS y3]) (fun y1 => xL Uco 14 K (.exit 2) [dD, dD, vS y1])
abbrev UxK (n : Nat) (K : Kc R) (l0 : Uek.T (O R)) : Uek.T (O R) := fun x1 x2 x3 x4 x5 => UmT n l0 x1 x2 x3 x4 x5 (fun y1 y2 y3 => xL Uco 14 K .ret [vS y1, vI y2, vS y3]) (fun y1 => xL Uco 14 K (.exit 2) [dD, dD, vS y1])
abbrev UE6 (n : Nat) : Orc R := oL Uco (E18 n) n 14 UoA Uek (UjY n n) (oL Uco (E18 n) n 4 UuC Ugh (UqV n n) oN)
abbrev UET (n : Nat) : Orc R := oC Uco (E18 n) 12 Uoz UkK (UqU n) oN
abbrev K18 (R : Type) (n : Nat) := JcH (R := R) Tryz.prog (Uyf n) Uco n (78, []) (UE6 n) (UET n)
theorem UDG (n : Nat) : K18 R n (false, 4, UuC) := JkF (lo := UE6 n) (cu := UET n) (pO pN (by kernel_rfl)) Ugh (UqV n n) (JiE (F := UqV n) Ugh (UAT n) (fun K _ _ _ _ _ _ => rfl) (fun _ _ => rfl) (fun L K _ _ _ _ _ _ => by show _ = _; kernel_rfl) n) fun _ _ => rfl
theorem UzY (n : Nat) : K18 R n (false, 14, UoA) := JkF (lo := UE6 n) (cu := UET n) (pO pN (by kernel_rfl)) Uek (UjY n n) (JiE (F := UjY n) Uek (UxK n) (fun K _ _ _ _ _ => rfl) (fun _ _ => rfl) (fun L K _ _ _ _ _ => by show _ = _; kernel_rfl) n) fun _ _ => rfl
theorem UzX (n : Nat) : K18 R n (true, 12, Uoz) := JkW (lo := UE6 n) (cu := UET n) (pO (pC (UzY n) pN) (by kernel_rfl)) UkK (UqU n) (fun K _ _ _ => by show _ = _; kernel_rfl) fun _ _ => rfl
theorem UNq (n : Nat) : Je6 (K18 R n) (JaJ Uco (Jll Tryz.f18)) := pO (pC (UDG n) (pC (UzX n) pN)) (by kernel_rfl)
abbrev t18 : Sl (List SV) := (.c (sP (JlI (.c sSh (.c Jly .n)))) (cH .n))
abbrev f18 (n : Nat) (K : List SV → O R) : t18.T (O R) := fun x1 x2 x3 => p18 n x1 x2 x3 (fun y1 y2 => K [vS y1, vI y2])
abbrev UF1 (n : Nat) : FS := fT [false, false] t18 (f18 n)
theorem UKw (n : Nat) : FSound Tryz.prog GI 18 (UF1 n) := gd Uco n (Upw n) Tryz.func18 (.cons (Upw n) t18 (f18 n) (fun K _ _ _ => (Jkq (c := Jll Tryz.f18) (by kernel_rfl) (UNq n) K).trans (by kernel_rfl)) .nil) (by kernel_rfl)
def UgV : Ann := { loops := [(2, ids [1, 12, 13, 14], ids [4, 5])], cuts := [], frz := [], rm := [.id, .id] }
abbrev Uyt (n : Nat) : Env := eC 19 (UyX n) (eC 18 (UF1 n) eN)
theorem UpV (n : Nat) : EnvOK Tryz.prog GI (Uyt n) := .cons (.cons (.nil) (UKw n)) (UAC n)
def Usp (n : Nat) (l0 : LP → LP → Int → Int → O R) (x1 x2 : LP) (x3 x4 : Int) (k0 : Int → Int → O R) (k1 : O R) : O R :=
  bif (decide (x4 < x3)) then (bif (inR x4 ((x2).length)) then (Jh2 ((x2).getD ((x4 : Int).toNat) (.v (.bool false))) fun a5 => JdT a5 fun h6 t7 => Jkr h6 fun e8 => JdT t7 fun h9 t10 => Jj3 h9 fun e11 => JdT t10 fun h12 t13 => Jj2 h12 fun e14 => JdT t13 fun h15 t16 => Jj .i64 h15 fun e17 => Ji2 t16 (p18 n e8 e11 x1 (fun y18 y19 => bif (y19 != 0) then (k0 0 y19) else (p19 n y18 ⟨#[48]⟩ (fun y20 => bif (decide (y20 < 0)) then (k0 x4 0) else (bif (decide (y20 > 0)) then (bif (bif false then true else (bif true then e14 else false)) then (k0 x4 0) else (l0 x1 x2 x3 (IntKind.i64.wrap (x4 + 1)))) else (l0 x1 x2 x3 (IntKind.i64.wrap (x4 + 1))))))))) else none) else (k1)
def Ukh (n : Nat) : Nat → LP → LP → Int → Int → (Int → Int → O R) → (O R) → O R
  | 0, _, _, _, _, _, _ => none
  | m + 1, x1, x2, x3, x4, k0, k1 => Usp n (fun x1 x2 x3 x4 => Ukh n m x1 x2 x3 x4 k0 k1) x1 x2 x3 x4 k0 k1
def UDx (n : Nat) (x1 x2 : LP) (x3 x4 : Int) (k0 : Int → Int → O R) (k1 : O R) : O R := Ukh n n x1 x2 x3 x4 k0 k1
def p51 (n : Nat) (x1 : Int) (x2 x3 : LP) (k0 : Int → Int → O R) : O R :=
  UDx n x3 x2 ((x2).length : Int) 0 (fun y4 y5 => k0 y4 y5) (k0 (-1) 0)
abbrev E51 (n : Nat) : Code → Fr → Kc R → O R := evC Tryz.prog (Uyt n) UgV n (46, [])
noncomputable def UuW : Code := Jj4 (Jll Tryz.f51) [1, 0, 1, 0, 0]
abbrev Ugt : Sl (List SV) := (cH (cH (cI (cI .n))))
abbrev Urc (n m : Nat) (K : Kc R) : Ugt.T (O R) := fun x1 x2 x3 x4 => Ukh n m x1 x2 x3 x4 (fun y1 y2 => xL UgV 2 K .ret [vI y1, vI y2]) (xL UgV 2 K (.exit 0) [dD, dD])
abbrev UA5 (n : Nat) (K : Kc R) (l0 : Ugt.T (O R)) : Ugt.T (O R) := fun x1 x2 x3 x4 => Usp n l0 x1 x2 x3 x4 (fun y1 y2 => xL UgV 2 K .ret [vI y1, vI y2]) (xL UgV 2 K (.exit 0) [dD, dD])
abbrev UKk (n : Nat) : Orc R := oL UgV (E51 n) n 2 UuW Ugt (Urc n n) oN
abbrev UJ (n : Nat) : Orc R := oN
abbrev K51 (R : Type) (n : Nat) := JcH (R := R) Tryz.prog (Uyt n) UgV n (46, []) (UKk n) (UJ n)
theorem UD4 (n : Nat) : K51 R n (false, 2, UuW) := JkF (lo := UKk n) (cu := UJ n) (pO pN (by kernel_rfl)) Ugt (Urc n n) (JiE (F := Urc n) Ugt (UA5 n) (fun K _ _ _ _ => rfl) (fun _ _ => rfl) (fun L K _ _ _ _ => by show _ = _; kernel_rfl) n) fun _ _ => rfl
theorem UNP (n : Nat) : Je6 (K51 R n) (JaJ UgV (Jll Tryz.f51)) := pO (pC (UD4 n) pN) (by kernel_rfl)
abbrev t51 : Sl (List SV) := (.c (sP (JlI (.c (Jlv .i64) (.c sSh .n)))) (cH .n))
abbrev f51 (n : Nat) (K : List SV → O R) : t51.T (O R) := fun x1 x2 x3 => p51 n x1 x2 x3 (fun y1 y2 => K [vI y1, vI y2])
abbrev UJS (n : Nat) : FS := fT [false, false] t51 (f51 n)
theorem UM0 (n : Nat) : FSound Tryz.prog GI 51 (UJS n) := gd UgV n (UpV n) Tryz.func51 (.cons (UpV n) t51 (f51 n) (fun K _ _ _ => (Jkq (c := Jll Tryz.f51) (by kernel_rfl) (UNP n) K).trans (by kernel_rfl)) .nil) (by kernel_rfl)
def UwO : Ann := { loops := [], cuts := [], frz := [], rm := [.id, .id] }
abbrev UBE (n : Nat) : Env := eC 51 (UJS n) (eC 49 (UF7 n) (eC 48 (UJQ n) eN))
theorem Upv (n : Nat) : EnvOK Tryz.prog GI (UBE n) := .cons (.cons (.cons (.nil) (UMY n)) (UKC n)) (UM0 n)
def p17 (n : Nat) (x1 : Int) (x2 x3 : LP) (k0 : Bool → Int → O R) : O R :=
  p48 n x1 x2 x3 (fun y4 => bif (y4 != 0) then (k0 false y4) else (UDw n x3 (fun y5 => bif y5 then (k0 false 0) else (p51 n x1 x2 x3 (fun y6 y7 => bif (y7 == 0) then (k0 (bif true then (decide (y6 < 0)) else false) y7) else (k0 false y7))))))
abbrev UL3 (n : Nat) : Orc R := oN
abbrev ULm (n : Nat) : Orc R := oN
abbrev K17 (R : Type) (n : Nat) := JcH (R := R) Tryz.prog (UBE n) UwO n (30, []) (UL3 n) (ULm n)
theorem UNp (n : Nat) : Je6 (K17 R n) (JaJ UwO (Jll Tryz.f17)) := pO pN (by kernel_rfl)
abbrev t17 : Sl (List SV) := (.c (sP (JlI (.c (Jlv .i64) (.c sSh .n)))) (cH .n))
abbrev f17 (n : Nat) (K : List SV → O R) : t17.T (O R) := fun x1 x2 x3 => p17 n x1 x2 x3 (fun y1 y2 => K [vB y1, vI y2])
abbrev UJA (n : Nat) : FS := fT [false, false] t17 (f17 n)
theorem UMI (n : Nat) : FSound Tryz.prog GI 17 (UJA n) := gd UwO n (Upv n) Tryz.func17 (.cons (Upv n) t17 (f17 n) (fun K _ _ _ => (Jkq (c := Jll Tryz.f17) (by kernel_rfl) (UNp n) K).trans (by kernel_rfl)) .nil) (by kernel_rfl)
def UgP : Ann := { loops := [(5, ids [0, 1, 4, 18, 19, 20], ids [0, 1, 2, 3, 4])], cuts := [], frz := [], rm := [.id, .id] }
abbrev Uyk (n : Nat) : Env := eC 31 (UF4 n) (eC 30 (UEY n) (eC 19 (UyX n) eN))
theorem UpG (n : Nat) : EnvOK Tryz.prog GI (Uyk n) := .cons (.cons (.cons (.nil) (UAC n)) (UHd n)) (UKz n)
def UhD (n : Nat) (l0 : Int → LP → LP → LP → ByteArray → LP → Int → Int → O R) (x1 : Int) (x2 x3 x4 : LP) (x5 : ByteArray) (x6 : LP) (x7 x8 : Int) (k0 : Int → LP → LP → Bool → Int → LP → ByteArray → O R) (k1 : Int → LP → LP → LP → ByteArray → O R) : O R :=
  bif (decide (x8 < x7)) then (bif (inR x8 ((x6).length)) then (Jh2 ((x6).getD ((x8 : Int).toNat) (.v (.bool false))) fun a9 => JdT a9 fun h10 t11 => Jj .i64 h10 fun e12 => JdT t11 fun h13 t14 => Jj3 h13 fun e15 => Ji2 t14 (p19 n e15 ⟨#[48]⟩ (fun y16 => bif (decide (y16 > 0)) then (k0 x1 x2 x3 false 0 x4 x5) else (l0 x1 x2 x3 x4 x5 x6 x7 (IntKind.i64.wrap (x8 + 1)))))) else none) else (k1 x1 x2 x3 x4 x5)
def UdB (n : Nat) : Nat → Int → LP → LP → LP → ByteArray → LP → Int → Int → (Int → LP → LP → Bool → Int → LP → ByteArray → O R) → (Int → LP → LP → LP → ByteArray → O R) → O R
  | 0, _, _, _, _, _, _, _, _, _, _ => none
  | m + 1, x1, x2, x3, x4, x5, x6, x7, x8, k0, k1 => UhD n (fun x1 x2 x3 x4 x5 x6 x7 x8 => UdB n m x1 x2 x3 x4 x5 x6 x7 x8 k0 k1) x1 x2 x3 x4 x5 x6 x7 x8 k0 k1
def Uwe (n : Nat) (x1 : Int) (x2 x3 x4 : LP) (x5 : ByteArray) (x6 : LP) (x7 x8 : Int) (k0 : Int → LP → LP → Bool → Int → LP → ByteArray → O R) (k1 : Int → LP → LP → LP → ByteArray → O R) : O R := UdB n n x1 x2 x3 x4 x5 x6 x7 x8 k0 k1
def p29 (n : Nat) (x1 : Int) (x2 x3 : LP) (k0 : Bool → Int → O R) : O R :=
  p30 n x1 x2 x3 (fun y4 y5 y6 => bif (y6 != 0) then (k0 false y6) else (Uwe n x1 x2 x3 y4 y5 y4 ((y4).length : Int) 0 (fun y7 y8 y9 y10 y11 y12 y13 => k0 y10 y11) (fun y14 y15 y16 y17 y18 => p31 n y14 y15 y16 (fun y19 => bif y19 then (p19 n y18 ⟨#[48]⟩ (fun y20 => k0 (bif true then (decide (y20 < 0)) else false) 0)) else (k0 false 0)))))
abbrev E29 (n : Nat) : Code → Fr → Kc R → O R := evC Tryz.prog (Uyk n) UgP n (38, [])
noncomputable def UuL : Code := Jj4 (Jll Tryz.f29) [1, 1, 1, 0, 1, 0, 0]
abbrev Ugl : Sl (List SV) := (.c (sP (sFb (.c (Jlv .i64) (.c sSh .n)))) (.c (sP (sFb (.c sSh .n))) (.c (sBx 43 (cH (cS .n))) (cH (cI (cI .n))))))
abbrev Uq2 (n m : Nat) (K : Kc R) : Ugl.T (O R) := fun x1 x2 x3 x4 x5 x6 x7 x8 => UdB n m x1 x2 x3 x4 x5 x6 x7 x8 (fun y1 y2 y3 y4 y5 y6 y7 => xL UgP 5 K .ret [.p (.fb [.v (.int .i64 y1), .sh y2]), .p (.fb [.sh y3]), vB y4, vI y5, .bx 43 [vH y6, vS y7]]) (fun y1 y2 y3 y4 y5 => xL UgP 5 K (.exit 0) [.p (.fb [.v (.int .i64 y1), .sh y2]), .p (.fb [.sh y3]), dD, dD, .bx 43 [vH y4, vS y5]])
abbrev UAX (n : Nat) (K : Kc R) (l0 : Ugl.T (O R)) : Ugl.T (O R) := fun x1 x2 x3 x4 x5 x6 x7 x8 => UhD n l0 x1 x2 x3 x4 x5 x6 x7 x8 (fun y1 y2 y3 y4 y5 y6 y7 => xL UgP 5 K .ret [.p (.fb [.v (.int .i64 y1), .sh y2]), .p (.fb [.sh y3]), vB y4, vI y5, .bx 43 [vH y6, vS y7]]) (fun y1 y2 y3 y4 y5 => xL UgP 5 K (.exit 0) [.p (.fb [.v (.int .i64 y1), .sh y2]), .p (.fb [.sh y3]), dD, dD, .bx 43 [vH y4, vS y5]])
abbrev UKe (n : Nat) : Orc R := oL UgP (E29 n) n 5 UuL Ugl (Uq2 n n) oN
abbrev UI4 (n : Nat) : Orc R := oN
abbrev K29 (R : Type) (n : Nat) := JcH (R := R) Tryz.prog (Uyk n) UgP n (38, []) (UKe n) (UI4 n)
theorem UDR (n : Nat) : K29 R n (false, 5, UuL) := JkF (lo := UKe n) (cu := UI4 n) (pO pN (by kernel_rfl)) Ugl (Uq2 n n) (JiE (F := Uq2 n) Ugl (UAX n) (fun K _ _ _ _ _ _ _ _ => rfl) (fun _ _ => rfl) (fun L K _ _ _ _ _ _ _ _ => by show _ = _; kernel_rfl) n) fun _ _ => rfl
theorem UNA (n : Nat) : Je6 (K29 R n) (JaJ UgP (Jll Tryz.f29)) := pO (pC (UDR n) pN) (by kernel_rfl)
abbrev t29 : Sl (List SV) := (.c (sP (sFb (.c (Jlv .i64) (.c sSh .n)))) (.c (sP (sFb (.c sSh .n))) .n))
abbrev f29 (n : Nat) (K : List SV → O R) : t29.T (O R) := fun x1 x2 x3 => p29 n x1 x2 x3 (fun y1 y2 => K [vB y1, vI y2])
abbrev UJH (n : Nat) : FS := fT [false, false] t29 (f29 n)
theorem UMP (n : Nat) : FSound Tryz.prog GI 29 (UJH n) := gd UgP n (UpG n) Tryz.func29 (.cons (UpG n) t29 (f29 n) (fun K _ _ _ => (Jkq (c := Jll Tryz.f29) (by kernel_rfl) (UNA n) K).trans (by kernel_rfl)) .nil) (by kernel_rfl)
def UwU : Ann := { loops := [], cuts := [], frz := [], rm := [.id, .id] }
abbrev UBK (n : Nat) : Env := eC 18 (UF1 n) eN
theorem UpM (n : Nat) : EnvOK Tryz.prog GI (UBK n) := .cons (.nil) (UKw n)
def p36 (n : Nat) (x1 x2 : LP) (k0 : ByteArray → Int → O R) : O R :=
  p18 n x1 ⟨#[48]⟩ x2 (fun y3 y4 => k0 y3 y4)
abbrev UL9 (n : Nat) : Orc R := oN
abbrev ULs (n : Nat) : Orc R := oN
abbrev K36 (R : Type) (n : Nat) := JcH (R := R) Tryz.prog (UBK n) UwU n (12, []) (UL9 n) (ULs n)
theorem UNG (n : Nat) : Je6 (K36 R n) (JaJ UwU (Jll Tryz.f36)) := pO pN (by kernel_rfl)
abbrev t36 : Sl (List SV) := (cH (cH .n))
abbrev f36 (n : Nat) (K : List SV → O R) : t36.T (O R) := fun x1 x2 => p36 n x1 x2 (fun y1 y2 => K [vS y1, vI y2])
abbrev UF6 (n : Nat) : FS := fT [false, false] t36 (f36 n)
theorem UKB (n : Nat) : FSound Tryz.prog GI 36 (UF6 n) := gd UwU n (UpM n) Tryz.func36 (.cons (UpM n) t36 (f36 n) (fun K _ _ => (Jkq (c := Jll Tryz.f36) (by kernel_rfl) (UNG n) K).trans (by kernel_rfl)) .nil) (by kernel_rfl)
def UnM : Ann := { loops := [], cuts := [], frz := [], rm := [.id] }
abbrev Uvp (n : Nat) : Env := eN
theorem UlS (n : Nat) : EnvOK Tryz.prog GI (Uvp n) := .nil
def UHn (n : Nat) (x1 : Int) (x2 : ByteArray) (x3 : Int) (k0 : Int → O R) : O R :=
  k0 (IntKind.i64.wrap (x1 - x3))
abbrev UGq (n : Nat) : Orc R := oN
abbrev UFG (n : Nat) : Orc R := oN
abbrev UK9 (R : Type) (n : Nat) := JcH (R := R) Tryz.prog (Uvp n) UnM n (9, []) (UGq n) (UFG n)
theorem UHL (n : Nat) : Je6 (UK9 R n) (JaJ UnM (Jll Tryz.f118)) := pO pN (by kernel_rfl)
abbrev UIn : Sl (List SV) := (.c (sP (JlI (.c (Jlv .i64) (.c Jly .n)))) (cI .n))
abbrev f118 (n : Nat) (K : List SV → O R) : UIn.T (O R) := fun x1 x2 x3 => UHn n x1 x2 x3 (fun y1 => K [vI y1])
abbrev UCz (n : Nat) : FS := fT [false, false] UIn (f118 n)
theorem UGU (n : Nat) : FSound Tryz.prog GI 118 (UCz n) := gd UnM n (UlS n) Tryz.func118 (.cons (UlS n) UIn (f118 n) (fun K _ _ _ => (Jkq (c := Jll Tryz.f118) (by kernel_rfl) (UHL n) K).trans (by kernel_rfl)) .nil) (by kernel_rfl)
def Ufe : Ann := { loops := [(3, ids [0, 1, 2, 8, 9, 10], ids [0, 1, 2, 6, 7, 8, 9])], cuts := [], frz := [], rm := [.id, .id] }
abbrev Upc (n : Nat) : Env := eC 118 (UCz n) eN
theorem UlR (n : Nat) : EnvOK Tryz.prog GI (Upc n) := .cons (.nil) (UGU n)
def UmP (n : Nat) (l0 : LP → Int → Int → Int → Int → O R) (x1 : LP) (x2 x3 x4 x5 : Int) (k0 : LP → Int → Int → Int → O R) : O R :=
  bif (decide (x4 < x5)) then (let v6 := IntKind.u64.wrap (IntKind.i64.wrap (x4 + x5)); bif decide ((1 : Int) < 0) then none else (let v7 := Int.fdiv v6 (2 ^ (min ((1 : Int)).toNat IntKind.u64.bits)); bif (inR (IntKind.i64.wrap (v7)) ((x1).length)) then (Jh2 ((x1).getD ((IntKind.i64.wrap (v7) : Int).toNat) (.v (.bool false))) fun a8 => JdT a8 fun h9 t10 => Jj .i64 h9 fun e11 => JdT t10 fun h12 t13 => Jj3 h12 fun e14 => Ji2 t13 (UHn n e11 e14 x2 (fun y15 => bif (decide (y15 < 0)) then (let v16 := IntKind.i64.wrap ((IntKind.i64.wrap (v7)) + 1); l0 x1 x2 x3 v16 x5) else (l0 x1 x2 x3 x4 (IntKind.i64.wrap (v7)))))) else none)) else (k0 x1 x2 x3 x4)
def Uhu (n : Nat) : Nat → LP → Int → Int → Int → Int → (LP → Int → Int → Int → O R) → O R
  | 0, _, _, _, _, _, _ => none
  | m + 1, x1, x2, x3, x4, x5, k0 => UmP n (fun x1 x2 x3 x4 x5 => Uhu n m x1 x2 x3 x4 x5 k0) x1 x2 x3 x4 x5 k0
def Uzc (n : Nat) (x1 : LP) (x2 x3 x4 x5 : Int) (k0 : LP → Int → Int → Int → O R) : O R := Uhu n n x1 x2 x3 x4 x5 k0
def UKP (n : Nat) (x1 : LP) (x2 : Int) (k0 : Int → Bool → O R) : O R :=
  Uzc n x1 x2 ((x1).length : Int) 0 ((x1).length : Int) (fun y3 y4 y5 y6 => bif (decide (y6 < y5)) then (bif (inR y6 ((y3).length)) then (Jh2 ((y3).getD ((y6 : Int).toNat) (.v (.bool false))) fun a7 => JdT a7 fun h8 t9 => Jj .i64 h8 fun e10 => JdT t9 fun h11 t12 => Jj3 h11 fun e13 => Ji2 t12 (UHn n e10 e13 y4 (fun y14 => k0 y6 (bif true then (y14 == 0) else false)))) else none) else (k0 y6 false))
abbrev UKY (n : Nat) : Code → Fr → Kc R → O R := evC Tryz.prog (Upc n) Ufe n (49, [])
noncomputable def Uoh : Code := Jj4 (Jll Tryz.f117) [1, 1, 1, 0, 0, 0]
abbrev Ue : Sl (List SV) := (cH (cI (.c (sP (sFn 118)) (cI (cI (cI .n))))))
abbrev UjN (n m : Nat) (K : Kc R) : Ue.T (O R) := fun x1 x2 x3 x4 x5 => Uhu n m x1 x2 x3 x4 x5 (fun y1 y2 y3 y4 => xL Ufe 3 K (.exit 0) [vH y1, vI y2, .p (.v (.func (.func 118) #[] #[])), dD, dD, vI y3, vI y4])
abbrev Uxz (n : Nat) (K : Kc R) (l0 : Ue.T (O R)) : Ue.T (O R) := fun x1 x2 x3 x4 x5 => UmP n l0 x1 x2 x3 x4 x5 (fun y1 y2 y3 y4 => xL Ufe 3 K (.exit 0) [vH y1, vI y2, .p (.v (.func (.func 118) #[] #[])), dD, dD, vI y3, vI y4])
abbrev UC2 (n : Nat) : Orc R := oL Ufe (UKY n) n 3 Uoh Ue (UjN n n) oN
abbrev UBu (n : Nat) : Orc R := oN
abbrev UIV (R : Type) (n : Nat) := JcH (R := R) Tryz.prog (Upc n) Ufe n (49, []) (UC2 n) (UBu n)
theorem UzF (n : Nat) : UIV R n (false, 3, Uoh) := JkF (lo := UC2 n) (cu := UBu n) (pO pN (by kernel_rfl)) Ue (UjN n n) (JiE (F := UjN n) Ue (Uxz n) (fun K _ _ _ _ _ => rfl) (fun _ _ => rfl) (fun L K _ _ _ _ _ => by show _ = _; kernel_rfl) n) fun _ _ => rfl
theorem UHK (n : Nat) : Je6 (UIV R n) (JaJ Ufe (Jll Tryz.f117)) := pO (pC (UzF n) pN) (by kernel_rfl)
abbrev t117 : Sl (List SV) := (cH (cI (.c (sP (sFn 118)) .n)))
abbrev f117 (n : Nat) (K : List SV → O R) : t117.T (O R) := fun x1 x2 => UKP n x1 x2 (fun y1 y2 => K [vI y1, vB y2])
abbrev UCy (n : Nat) : FS := fT [false, false, false] t117 (f117 n)
theorem UGT (n : Nat) : FSound Tryz.prog GI 117 (UCy n) := gd Ufe n (UlR n) Tryz.func117 (.cons (UlR n) t117 (f117 n) (fun K _ _ => (Jkq (c := Jll Tryz.f117) (by kernel_rfl) (UHK n) K).trans (by kernel_rfl)) .nil) (by kernel_rfl)
def Uxf : Ann := { loops := [], cuts := [], frz := [], rm := [.id, .id] }
abbrev UB6 (n : Nat) : Env := eC 117 (UCy n) eN
theorem Uqn (n : Nat) : EnvOK Tryz.prog GI (UB6 n) := .cons (.nil) (UGT n)
def p81 (n : Nat) (x1 : LP) (x2 : ByteArray) (x3 : Int) (k0 : Int → Bool → O R) : O R :=
  UKP n x1 x3 (fun y4 y5 => k0 y4 y5)
abbrev UMu (n : Nat) : Orc R := oN
abbrev ULO (n : Nat) : Orc R := oN
abbrev K81 (R : Type) (n : Nat) := JcH (R := R) Tryz.prog (UB6 n) Uxf n (12, []) (UMu n) (ULO n)
theorem UOg (n : Nat) : Je6 (K81 R n) (JaJ Uxf (Jll Tryz.f81)) := pO pN (by kernel_rfl)
abbrev t81 : Sl (List SV) := (.c (sP (JlI (.c sSh (.c Jly .n)))) (cI .n))
abbrev f81 (n : Nat) (K : List SV → O R) : t81.T (O R) := fun x1 x2 x3 => p81 n x1 x2 x3 (fun y1 y2 => K [vI y1, vB y2])
abbrev UJ5 (n : Nat) : FS := fT [false, false] t81 (f81 n)
theorem UNc (n : Nat) : FSound Tryz.prog GI 81 (UJ5 n) := gd Uxf n (Uqn n) Tryz.func81 (.cons (Uqn n) t81 (f81 n) (fun K _ _ _ => (Jkq (c := Jll Tryz.f81) (by kernel_rfl) (UOg n) K).trans (by kernel_rfl)) .nil) (by kernel_rfl)
def Une : Ann := { loops := [], cuts := [(3, ids [1, 2], ids [4])], frz := [], rm := [.id] }
abbrev Uyp (n : Nat) : Env := eC 81 (UJ5 n) (eC 80 (UGd n) (eC 52 (UAz n) eN))
theorem UpO (n : Nat) : EnvOK Tryz.prog GI (Uyp n) := .cons (.cons (.cons (.nil) (UDh n)) (UKJ n)) (UNc n)
def Uwj (n : Nat) (x1 : Int) (x2 : LP) (x3 : ByteArray) (k0 : ByteArray → O R) : O R :=
  p81 n x2 x3 x1 (fun y4 y5 => bif y5 then (bif (inR y4 ((x2).length)) then (Jh2 ((x2).getD ((y4 : Int).toNat) (.v (.bool false))) fun a6 => JdT a6 fun h7 t8 => Jj .i64 h7 fun e9 => JdT t8 fun h10 t11 => Jj3 h10 fun e12 => Ji2 t11 (k0 e12)) else none) else (k0 ⟨#[48]⟩))
def p38 (n : Nat) (x1 : LP) (x2 : ByteArray) (x3 : Int) (k0 : ByteArray → O R) : O R :=
  p52 n x1 x2 (fun y4 => bif (y4 != 0) then (k0 ⟨#[48]⟩) else (p80 n x3 (fun y5 => bif (bif false then true else (!y5)) then (k0 ⟨#[48]⟩) else (Uwj n x3 x1 x2 (fun y6 => k0 y6)))))
abbrev E38 (n : Nat) : Code → Fr → Kc R → O R := evC Tryz.prog (Uyp n) Une n (28, [])
noncomputable def UuR : Code := Jj4 (Jll Tryz.f38) [1, 1]
abbrev UsU : Sl (List SV) := (cI (.c (sBx 43 (cH (cS .n))) .n))
abbrev UvI (n : Nat) (K : Kc R) : UsU.T (O R) := fun x1 x2 x3 => Uwj n x1 x2 x3 (fun y1 => xC Une 3 K .ret [vS y1])
abbrev UKi (n : Nat) : Orc R := oN
abbrev UI8 (n : Nat) : Orc R := oC Une (E38 n) 3 UuR UsU (UvI n) oN
abbrev K38 (R : Type) (n : Nat) := JcH (R := R) Tryz.prog (Uyp n) Une n (28, []) (UKi n) (UI8 n)
theorem UDZ (n : Nat) : K38 R n (true, 3, UuR) := JkW (lo := UKi n) (cu := UI8 n) (pO pN (by kernel_rfl)) UsU (UvI n) (fun K _ _ _ => by show _ = _; kernel_rfl) fun _ _ => rfl
theorem UNI (n : Nat) : Je6 (K38 R n) (JaJ Une (Jll Tryz.f38)) := pO (pC (UDZ n) pN) (by kernel_rfl)
abbrev t38 : Sl (List SV) := (.c (sP (JlI (.c sSh (.c Jly .n)))) (cI .n))
abbrev f38 (n : Nat) (K : List SV → O R) : t38.T (O R) := fun x1 x2 x3 => p38 n x1 x2 x3 (fun y1 => K [vS y1])
abbrev UJL (n : Nat) : FS := fT [false, false] t38 (f38 n)
theorem UMT (n : Nat) : FSound Tryz.prog GI 38 (UJL n) := gd Une n (UpO n) Tryz.func38 (.cons (UpO n) t38 (f38 n) (fun K _ _ _ => (Jkq (c := Jll Tryz.f38) (by kernel_rfl) (UNI n) K).trans (by kernel_rfl)) .nil) (by kernel_rfl)
def UgT : Ann := { loops := [(9, ids [2, 6, 9, 40, 41], ids [4, 5, 9])], cuts := [(8, ids [0, 2, 6, 9], ids [4, 5])], frz := [], rm := [.id, .id] }
abbrev Uyo (n : Nat) : Env := eC 38 (UJL n) (eC 37 (UJK n) (eC 36 (UF6 n) (eC 31 (UF4 n) (eC 30 (UEY n) (eC 19 (UyX n) eN)))))
theorem UpL (n : Nat) : EnvOK Tryz.prog GI (Uyo n) := .cons (.cons (.cons (.cons (.cons (.cons (.nil) (UAC n)) (UHd n)) (UKz n)) (UKB n)) (UMS n)) (UMT n)
def Usn (n : Nat) (l0 : LP → LP → ByteArray → Bool → Int → Int → O R) (x1 x2 : LP) (x3 : ByteArray) (x4 : Bool) (x5 x6 : Int) (k0 : Bool → O R) : O R :=
  bif (decide (x6 < x5)) then (bif x4 then (bif true then (bif true then (p38 n x2 x3 x6 (fun y7 => bif true then (bif true then (bif true then (bif true then (p38 n x1 ⟨#[48]⟩ x6 (fun y8 => bif true then (p19 n y7 y8 (fun y9 => bif true then (l0 x1 x2 x3 (bif true then (decide (y9 ≤ 0)) else false) x5 (IntKind.i64.wrap (x6 + 1))) else none)) else none)) else none) else none) else none) else none)) else none) else none) else (bif false then none else (bif false then none else (bif false then none else (bif false then none else (bif false then none else (bif false then none else (bif false then none else (bif false then none else (bif false then none else (l0 x1 x2 x3 false x5 (IntKind.i64.wrap (x6 + 1))))))))))))) else (k0 x4)
def Ukg (n : Nat) : Nat → LP → LP → ByteArray → Bool → Int → Int → (Bool → O R) → O R
  | 0, _, _, _, _, _, _, _ => none
  | m + 1, x1, x2, x3, x4, x5, x6, k0 => Usn n (fun x1 x2 x3 x4 x5 x6 => Ukg n m x1 x2 x3 x4 x5 x6 k0) x1 x2 x3 x4 x5 x6 k0
def UDv (n : Nat) (x1 x2 : LP) (x3 : ByteArray) (x4 : Bool) (x5 x6 : Int) (k0 : Bool → O R) : O R := Ukg n n x1 x2 x3 x4 x5 x6 k0
def Usm (n : Nat) (x1 : Int) (x2 x3 x4 : LP) (x5 : ByteArray) (x6 : Bool) (k0 : Bool → Int → O R) : O R :=
  UDv n x3 x4 x5 x6 x1 0 (fun y7 => k0 y7 0)
def p35 (n : Nat) (x1 : Int) (x2 x3 x4 x5 : LP) (k0 : Bool → Int → O R) : O R :=
  p30 n x1 x2 x3 (fun y6 y7 y8 => bif (y8 != 0) then (k0 false y8) else (p36 n x4 x5 (fun y9 y10 => bif (y10 != 0) then (k0 false y10) else (p31 n x1 x2 x3 (fun y11 => bif y11 then (bif true then (bif true then (bif true then (p37 n y7 (fun y12 => bif true then (Usm n x1 x2 x4 y6 y7 (bif true then eqS y9 y12 else false) (fun y13 y14 => k0 y13 y14)) else none)) else none) else none) else none) else (bif false then none else (bif false then none else (bif false then none else (bif false then none else (bif false then none else (Usm n x1 x2 x4 y6 y7 false (fun y15 y16 => k0 y15 y16))))))))))))
abbrev E35 (n : Nat) : Code → Fr → Kc R → O R := evC Tryz.prog (Uyo n) UgT n (58, [])
noncomputable def UuP : Code := Jj4 (Jll Tryz.f35) [1, 1, 1, 1, 1, 1]
abbrev UsT : Sl (List SV) := (.c (sP (sFb (.c (Jlv .i64) (.c sSh .n)))) (.c (sP (sFb (.c sSh .n))) (.c (sBx 43 (cH (cS .n))) (cB .n))))
abbrev UvH (n : Nat) (K : Kc R) : UsT.T (O R) := fun x1 x2 x3 x4 x5 x6 => Usm n x1 x2 x3 x4 x5 x6 (fun y1 y2 => xC UgT 8 K .ret [vB y1, vI y2])
noncomputable def UuQ : Code := Jj4 (Jll Tryz.f35) [1, 1, 1, 1, 1, 1, 0, 1, 0, 0]
abbrev Ugp : Sl (List SV) := (.c (sP (sFb (.c sSh .n))) (.c (sBx 43 (cH (cS .n))) (cB (cI (cI .n)))))
abbrev Uq9 (n m : Nat) (K : Kc R) : Ugp.T (O R) := fun x1 x2 x3 x4 x5 x6 => Ukg n m x1 x2 x3 x4 x5 x6 (fun y1 => xL UgT 9 K (.exit 0) [dD, dD, vB y1])
abbrev UA1 (n : Nat) (K : Kc R) (l0 : Ugp.T (O R)) : Ugp.T (O R) := fun x1 x2 x3 x4 x5 x6 => Usn n l0 x1 x2 x3 x4 x5 x6 (fun y1 => xL UgT 9 K (.exit 0) [dD, dD, vB y1])
abbrev UGD (n : Nat) : Orc R := oL UgT (E35 n) n 9 UuQ Ugp (Uq9 n n) oN
abbrev UFT (n : Nat) : Orc R := oC UgT (E35 n) 8 UuP UsT (UvH n) oN
abbrev K35 (R : Type) (n : Nat) := JcH (R := R) Tryz.prog (Uyo n) UgT n (58, []) (UGD n) (UFT n)
theorem UDY (n : Nat) : K35 R n (false, 9, UuQ) := JkF (lo := UGD n) (cu := UFT n) (pO pN (by kernel_rfl)) Ugp (Uq9 n n) (JiE (F := Uq9 n) Ugp (UA1 n) (fun K _ _ _ _ _ _ => rfl) (fun _ _ => rfl) (fun L K _ _ _ _ _ _ => by show _ = _; kernel_rfl) n) fun _ _ => rfl
theorem UDX (n : Nat) : K35 R n (true, 8, UuP) := JkW (lo := UGD n) (cu := UFT n) (pO (pC (UDY n) pN) (by kernel_rfl)) UsT (UvH n) (fun K _ _ _ _ _ _ => by show _ = _; kernel_rfl) fun _ _ => rfl
theorem UNF (n : Nat) : Je6 (K35 R n) (JaJ UgT (Jll Tryz.f35)) := pO (pC (UDX n) pN) (by kernel_rfl)
abbrev t35 : Sl (List SV) := (.c (sP (sFb (.c (Jlv .i64) (.c sSh .n)))) (.c (sP (sFb (.c sSh .n))) (.c (sP (sFb (.c sSh .n))) (.c (sP (sFb (.c sSh .n))) .n))))
abbrev f35 (n : Nat) (K : List SV → O R) : t35.T (O R) := fun x1 x2 x3 x4 x5 => p35 n x1 x2 x3 x4 x5 (fun y1 y2 => K [vB y1, vI y2])
abbrev UJJ (n : Nat) : FS := fT [false, false, false, false] t35 (f35 n)
theorem UMR (n : Nat) : FSound Tryz.prog GI 35 (UJJ n) := gd UgT n (UpL n) Tryz.func35 (.cons (UpL n) t35 (f35 n) (fun K _ _ _ _ _ => (Jkq (c := Jll Tryz.f35) (by kernel_rfl) (UNF n) K).trans (by kernel_rfl)) .nil) (by kernel_rfl)
def Uex : Ann := { loops := [(3, ids [0, 1, 2, 5, 15, 16, 17], ids [0, 1, 2, 3, 4, 5]), (8, ids [0, 2, 5, 29, 30, 31], ids [0, 2, 3, 4, 5])], cuts := [], frz := [], rm := [.id, .id] }
abbrev Uyy (n : Nat) : Env := eC 36 (UF6 n) (eC 19 (UyX n) eN)
theorem Up3 (n : Nat) : EnvOK Tryz.prog GI (Uyy n) := .cons (.cons (.nil) (UAC n)) (UKB n)
def Usq (n : Nat) (l0 : LP → Int → LP → LP → Bool → LP → Int → Int → O R) (x1 : LP) (x2 : Int) (x3 x4 : LP) (x5 : Bool) (x6 : LP) (x7 x8 : Int) (k0 : LP → Int → LP → LP → Bool → O R) : O R :=
  bif (decide (x8 < x7)) then (bif (inR x8 ((x6).length)) then (Jj3 ((x6).getD ((x8 : Int).toNat) (.v (.bool false))) fun e9 => bif x5 then (bif true then (p19 n e9 ⟨#[48]⟩ (fun y10 => bif true then (l0 x1 x2 x3 x4 (bif true then (decide (y10 ≥ 0)) else false) x6 x7 (IntKind.i64.wrap (x8 + 1))) else none)) else none) else (bif false then none else (bif false then none else (bif false then none else (l0 x1 x2 x3 x4 false x6 x7 (IntKind.i64.wrap (x8 + 1))))))) else none) else (k0 x1 x2 x3 x4 x5)
def Ukj (n : Nat) : Nat → LP → Int → LP → LP → Bool → LP → Int → Int → (LP → Int → LP → LP → Bool → O R) → O R
  | 0, _, _, _, _, _, _, _, _, _ => none
  | m + 1, x1, x2, x3, x4, x5, x6, x7, x8, k0 => Usq n (fun x1 x2 x3 x4 x5 x6 x7 x8 => Ukj n m x1 x2 x3 x4 x5 x6 x7 x8 k0) x1 x2 x3 x4 x5 x6 x7 x8 k0
def UDy (n : Nat) (x1 : LP) (x2 : Int) (x3 x4 : LP) (x5 : Bool) (x6 : LP) (x7 x8 : Int) (k0 : LP → Int → LP → LP → Bool → O R) : O R := Ukj n n x1 x2 x3 x4 x5 x6 x7 x8 k0
def Usr (n : Nat) (l0 : LP → LP → Bool → LP → Int → Int → O R) (x1 x2 : LP) (x3 : Bool) (x4 : LP) (x5 x6 : Int) (k0 : LP → LP → Bool → Int → Bool → O R) (k1 : LP → LP → Bool → O R) : O R :=
  bif (decide (x6 < x5)) then (bif (inR x6 ((x4).length)) then (Jh2 ((x4).getD ((x6 : Int).toNat) (.v (.bool false))) fun a7 => JdT a7 fun h8 t9 => Jkr h8 fun e10 => JdT t9 fun h11 t12 => Jj3 h11 fun e13 => JdT t12 fun h14 t15 => Jj2 h14 fun e16 => JdT t15 fun h17 t18 => Jj .i64 h17 fun e19 => Ji2 t18 (p36 n e10 x1 (fun y20 y21 => bif (y21 != 0) then (k0 x1 x2 false y21 x3) else (p19 n y20 ⟨#[48]⟩ (fun y22 => bif x3 then (bif true then (bif true then (bif (y22 == 0) then (bif true then (bif true then (bif true then (bif true then (bif true then (l0 x1 x2 true x4 x5 (IntKind.i64.wrap (x6 + 1))) else none) else none) else none) else none) else none) else (bif false then none else (bif false then none else (bif (decide (y22 > 0)) then (bif true then (bif true then (bif false then none else (bif true then (l0 x1 x2 (bif true then (bif false then true else (bif true then (!e16) else false)) else false) x4 x5 (IntKind.i64.wrap (x6 + 1))) else none)) else none) else none) else (bif false then none else (bif false then none else (bif false then none else (bif false then none else (bif true then (l0 x1 x2 false x4 x5 (IntKind.i64.wrap (x6 + 1))) else none))))))))) else none) else none) else (bif false then none else (bif false then none else (bif false then none else (bif false then none else (l0 x1 x2 false x4 x5 (IntKind.i64.wrap (x6 + 1)))))))))))) else none) else (k1 x1 x2 x3)
def Ukk (n : Nat) : Nat → LP → LP → Bool → LP → Int → Int → (LP → LP → Bool → Int → Bool → O R) → (LP → LP → Bool → O R) → O R
  | 0, _, _, _, _, _, _, _, _ => none
  | m + 1, x1, x2, x3, x4, x5, x6, k0, k1 => Usr n (fun x1 x2 x3 x4 x5 x6 => Ukk n m x1 x2 x3 x4 x5 x6 k0 k1) x1 x2 x3 x4 x5 x6 k0 k1
def UDz (n : Nat) (x1 x2 : LP) (x3 : Bool) (x4 : LP) (x5 x6 : Int) (k0 : LP → LP → Bool → Int → Bool → O R) (k1 : LP → LP → Bool → O R) : O R := Ukk n n x1 x2 x3 x4 x5 x6 k0 k1
def p59 (n : Nat) (x1 : LP) (x2 : Int) (x3 x4 : LP) (k0 : Bool → Int → O R) : O R :=
  UDy n x1 x2 x3 x4 true x1 ((x1).length : Int) 0 (fun y5 y6 y7 y8 y9 => UDz n y5 y8 y9 y7 ((y7).length : Int) 0 (fun y10 y11 y12 y13 y14 => k0 y12 y13) (fun y15 y16 y17 => p36 n y16 y15 (fun y18 y19 => bif y17 then (bif true then (p19 n y18 ⟨#[48]⟩ (fun y20 => bif true then (k0 (bif true then (decide (y20 < 0)) else false) y19) else none)) else none) else (bif false then none else (bif false then none else (bif false then none else (k0 false y19)))))))
abbrev E59 (n : Nat) : Code → Fr → Kc R → O R := evC Tryz.prog (Uyy n) Uex n (75, [])
noncomputable def Uu1 : Code := Jj4 (Jll Tryz.f59) [1, 1, 0, 1, 0, 0]
abbrev Ugy : Sl (List SV) := (.c (sP (sFb (.c sSh .n))) (.c (sP (sFb (.c (Jlv .i64) (.c sSh .n)))) (.c (sP (sFb (.c sSh .n))) (cB (cH (cI (cI .n)))))))
abbrev Uri (n m : Nat) (K : Kc R) : Ugy.T (O R) := fun x1 x2 x3 x4 x5 x6 x7 x8 => Ukj n m x1 x2 x3 x4 x5 x6 x7 x8 (fun y1 y2 y3 y4 y5 => xL Uex 3 K (.exit 0) [.p (.fb [.sh y1]), .p (.fb [.v (.int .i64 y2), .sh y3]), .p (.fb [.sh y4]), dD, dD, vB y5])
abbrev UB (n : Nat) (K : Kc R) (l0 : Ugy.T (O R)) : Ugy.T (O R) := fun x1 x2 x3 x4 x5 x6 x7 x8 => Usq n l0 x1 x2 x3 x4 x5 x6 x7 x8 (fun y1 y2 y3 y4 y5 => xL Uex 3 K (.exit 0) [.p (.fb [.sh y1]), .p (.fb [.v (.int .i64 y2), .sh y3]), .p (.fb [.sh y4]), dD, dD, vB y5])
noncomputable def Uu2 : Code := Jj4 (Jll Tryz.f59) [1, 1, 1, 0, 1, 0, 0]
abbrev Ugz : Sl (List SV) := (.c (sP (sFb (.c sSh .n))) (.c (sP (sFb (.c sSh .n))) (cB (cH (cI (cI .n))))))
abbrev Urj (n m : Nat) (K : Kc R) : Ugz.T (O R) := fun x1 x2 x3 x4 x5 x6 => Ukk n m x1 x2 x3 x4 x5 x6 (fun y1 y2 y3 y4 y5 => xL Uex 8 K .ret [.p (.fb [.sh y1]), .p (.fb [.sh y2]), vB y3, vI y4, vB y5]) (fun y1 y2 y3 => xL Uex 8 K (.exit 2) [.p (.fb [.sh y1]), .p (.fb [.sh y2]), dD, dD, vB y3])
abbrev UBa (n : Nat) (K : Kc R) (l0 : Ugz.T (O R)) : Ugz.T (O R) := fun x1 x2 x3 x4 x5 x6 => Usr n l0 x1 x2 x3 x4 x5 x6 (fun y1 y2 y3 y4 y5 => xL Uex 8 K .ret [.p (.fb [.sh y1]), .p (.fb [.sh y2]), vB y3, vI y4, vB y5]) (fun y1 y2 y3 => xL Uex 8 K (.exit 2) [.p (.fb [.sh y1]), .p (.fb [.sh y2]), dD, dD, vB y3])
abbrev UGG (n : Nat) : Orc R := oL Uex (E59 n) n 8 Uu2 Ugz (Urj n n) (oL Uex (E59 n) n 3 Uu1 Ugy (Uri n n) oN)
abbrev UFW (n : Nat) : Orc R := oN
abbrev K59 (R : Type) (n : Nat) := JcH (R := R) Tryz.prog (Uyy n) Uex n (75, []) (UGG n) (UFW n)
theorem UD9 (n : Nat) : K59 R n (false, 3, Uu1) := JkF (lo := UGG n) (cu := UFW n) (pO pN (by kernel_rfl)) Ugy (Uri n n) (JiE (F := Uri n) Ugy (UB n) (fun K _ _ _ _ _ _ _ _ => rfl) (fun _ _ => rfl) (fun L K _ _ _ _ _ _ _ _ => by show _ = _; kernel_rfl) n) fun _ _ => rfl
theorem UE (n : Nat) : K59 R n (false, 8, Uu2) := JkF (lo := UGG n) (cu := UFW n) (pO pN (by kernel_rfl)) Ugz (Urj n n) (JiE (F := Urj n) Ugz (UBa n) (fun K _ _ _ _ _ _ => rfl) (fun _ _ => rfl) (fun L K _ _ _ _ _ _ => by show _ = _; kernel_rfl) n) fun _ _ => rfl
theorem UNX (n : Nat) : Je6 (K59 R n) (JaJ Uex (Jll Tryz.f59)) := pO (pC (UD9 n) (pC (UE n) pN)) (by kernel_rfl)
abbrev t59 : Sl (List SV) := (.c (sP (sFb (.c sSh .n))) (.c (sP (sFb (.c (Jlv .i64) (.c sSh .n)))) (.c (sP (sFb (.c sSh .n))) .n)))
abbrev f59 (n : Nat) (K : List SV → O R) : t59.T (O R) := fun x1 x2 x3 x4 => p59 n x1 x2 x3 x4 (fun y1 y2 => K [vB y1, vI y2])
abbrev UJU (n : Nat) : FS := fT [false, false, false] t59 (f59 n)
theorem UM2 (n : Nat) : FSound Tryz.prog GI 59 (UJU n) := gd Uex n (Up3 n) Tryz.func59 (.cons (Up3 n) t59 (f59 n) (fun K _ _ _ _ => (Jkq (c := Jll Tryz.f59) (by kernel_rfl) (UNX n) K).trans (by kernel_rfl)) .nil) (by kernel_rfl)
def Uae : Ann := { loops := [(4, ids [1, 31, 32, 33], ids [1, 2]), (10, ids [1, 42, 43, 44], ids [1, 2])], cuts := [(3, ids [1], ids [2]), (17, ids [1], ids [2]), (23, ids [1], ids [2])], frz := [], rm := [.id] }
abbrev Ug4 (n : Nat) : Env := eC 76 (UJ3 n) (eC 66 (UG n) (eC 65 (UE2 n) (eC 59 (UJU n) (eC 35 (UJJ n) (eC 29 (UJH n) (eC 17 (UJA n) eN))))))
theorem Ug5 (n : Nat) : EnvOK Tryz.prog GI (Ug4 n) := .cons (.cons (.cons (.cons (.cons (.cons (.cons (.nil) (UMI n)) (UMP n)) (UMR n)) (UM2 n)) (UHh n)) (UKF n)) (UNa n)
def Ukf (n : Nat) (l0 : Int → LP → LP → LP → LP → Bool → Int → LP → LP → LP → Int → Int → O R) (x1 : Int) (x2 x3 x4 x5 : LP) (x6 : Bool) (x7 : Int) (x8 x9 x10 : LP) (x11 x12 : Int) (k0 : Int → LP → LP → LP → LP → Bool → Int → LP → LP → Int → O R) (k1 : Int → LP → LP → LP → LP → Bool → Int → LP → LP → O R) : O R :=
  bif (decide (x12 < x11)) then (bif (inR x12 ((x10).length)) then (Jkr ((x10).getD ((x12 : Int).toNat) (.v (.bool false))) fun e13 => p66 n e13 (fun y14 => bif (!y14) then (k0 x1 x2 x3 x4 x5 x6 x7 x8 x9 3) else (l0 x1 x2 x3 x4 x5 x6 x7 x8 x9 x10 x11 (IntKind.i64.wrap (x12 + 1))))) else none) else (k1 x1 x2 x3 x4 x5 x6 x7 x8 x9)
def UhJ (n : Nat) : Nat → Int → LP → LP → LP → LP → Bool → Int → LP → LP → LP → Int → Int → (Int → LP → LP → LP → LP → Bool → Int → LP → LP → Int → O R) → (Int → LP → LP → LP → LP → Bool → Int → LP → LP → O R) → O R
  | 0, _, _, _, _, _, _, _, _, _, _, _, _, _, _ => none
  | m + 1, x1, x2, x3, x4, x5, x6, x7, x8, x9, x10, x11, x12, k0, k1 => Ukf n (fun x1 x2 x3 x4 x5 x6 x7 x8 x9 x10 x11 x12 => UhJ n m x1 x2 x3 x4 x5 x6 x7 x8 x9 x10 x11 x12 k0 k1) x1 x2 x3 x4 x5 x6 x7 x8 x9 x10 x11 x12 k0 k1
def Uwh (n : Nat) (x1 : Int) (x2 x3 x4 x5 : LP) (x6 : Bool) (x7 : Int) (x8 x9 x10 : LP) (x11 x12 : Int) (k0 : Int → LP → LP → LP → LP → Bool → Int → LP → LP → Int → O R) (k1 : Int → LP → LP → LP → LP → Bool → Int → LP → LP → O R) : O R := UhJ n n x1 x2 x3 x4 x5 x6 x7 x8 x9 x10 x11 x12 k0 k1
def UhI (n : Nat) (l0 : Int → LP → LP → LP → LP → Bool → Int → LP → LP → LP → Int → Int → O R) (x1 : Int) (x2 x3 x4 x5 : LP) (x6 : Bool) (x7 : Int) (x8 x9 x10 : LP) (x11 x12 : Int) (k0 : Int → LP → LP → LP → LP → Bool → Int → LP → LP → Int → O R) (k1 : Int → LP → LP → LP → LP → Bool → Int → LP → LP → O R) : O R :=
  bif (decide (x12 < x11)) then (bif (inR x12 ((x10).length)) then (Jkr ((x10).getD ((x12 : Int).toNat) (.v (.bool false))) fun e13 => bif (((e13).length : Int) != x1) then (k0 x1 x2 x3 x4 x5 x6 x7 x8 x9 6) else (l0 x1 x2 x3 x4 x5 x6 x7 x8 x9 x10 x11 (IntKind.i64.wrap (x12 + 1)))) else none) else (k1 x1 x2 x3 x4 x5 x6 x7 x8 x9)
def Ue1 (n : Nat) : Nat → Int → LP → LP → LP → LP → Bool → Int → LP → LP → LP → Int → Int → (Int → LP → LP → LP → LP → Bool → Int → LP → LP → Int → O R) → (Int → LP → LP → LP → LP → Bool → Int → LP → LP → O R) → O R
  | 0, _, _, _, _, _, _, _, _, _, _, _, _, _, _ => none
  | m + 1, x1, x2, x3, x4, x5, x6, x7, x8, x9, x10, x11, x12, k0, k1 => UhI n (fun x1 x2 x3 x4 x5 x6 x7 x8 x9 x10 x11 x12 => Ue1 n m x1 x2 x3 x4 x5 x6 x7 x8 x9 x10 x11 x12 k0 k1) x1 x2 x3 x4 x5 x6 x7 x8 x9 x10 x11 x12 k0 k1
def Usj (n : Nat) (x1 : Int) (x2 x3 x4 x5 : LP) (x6 : Bool) (x7 : Int) (x8 x9 x10 : LP) (x11 x12 : Int) (k0 : Int → LP → LP → LP → LP → Bool → Int → LP → LP → Int → O R) (k1 : Int → LP → LP → LP → LP → Bool → Int → LP → LP → O R) : O R := Ue1 n n x1 x2 x3 x4 x5 x6 x7 x8 x9 x10 x11 x12 k0 k1
def UhH (n : Nat) (x1 : Int) (x2 x3 x4 x5 : LP) (x6 : Bool) (x7 : Int) (x8 x9 : LP) (k0 : Int → O R) : O R :=
  p29 n x7 x8 x9 (fun y10 y11 => bif (y11 != 0) then (k0 y11) else (bif (!y10) then (k0 16) else (k0 0)))
def UhG (n : Nat) (x1 : Int) (x2 x3 x4 x5 : LP) (x6 : Bool) (x7 : Int) (x8 x9 : LP) (k0 : Int → O R) : O R :=
  bif (decide (((x4).length : Int) > 0)) then (bif (inR 0 ((x4).length)) then (Jkr ((x4).getD ((0 : Int).toNat) (.v (.bool false))) fun e10 => p17 n x1 x2 e10 (fun y11 y12 => bif (y12 != 0) then (k0 y12) else (bif (!y11) then (k0 15) else (UhH n x1 x2 x3 x4 x5 x6 x7 x8 x9 (fun y13 => k0 y13))))) else none) else (UhH n x1 x2 x3 x4 x5 x6 x7 x8 x9 (fun y14 => k0 y14))
def Usi (n : Nat) (x1 : Int) (x2 x3 x4 x5 : LP) (x6 : Bool) (x7 : Int) (x8 x9 : LP) (k0 : Int → O R) : O R :=
  Uwh n x1 x2 x3 x4 x5 x6 x7 x8 x9 x4 ((x4).length : Int) 0 (fun y10 y11 y12 y13 y14 y15 y16 y17 y18 y19 => k0 y19) (fun y20 y21 y22 y23 y24 y25 y26 y27 y28 => Usj n y20 y21 y22 y23 y24 y25 y26 y27 y28 y23 ((y23).length : Int) 0 (fun y29 y30 y31 y32 y33 y34 y35 y36 y37 y38 => k0 y38) (fun y39 y40 y41 y42 y43 y44 y45 y46 y47 => bif y44 then (bif (bif true then (((y43).length : Int) != ((y40).length : Int)) else false) then (k0 6) else (UhG n y39 y40 y41 y42 y43 y44 y45 y46 y47 (fun y48 => k0 y48))) else (UhG n y39 y40 y41 y42 y43 y44 y45 y46 y47 (fun y49 => k0 y49))))
def p32 (n : Nat) (x1 : Int) (x2 x3 x4 x5 : LP) (x6 : Bool) (x7 : Int) (x8 x9 : LP) (k0 : Int → O R) : O R :=
  p65 n x1 x2 (fun y10 => bif (y10 != 0) then (k0 3) else (p76 n x1 x3 (fun y11 => bif (bif false then true else (!y11)) then (k0 3) else (p66 n x5 (fun y12 => bif (bif false then true else (!y12)) then (k0 3) else (Usi n x1 x2 x3 x4 x5 x6 x7 x8 x9 (fun y13 => k0 y13)))))))
def UiY (n : Nat) (l0 : Int → LP → LP → LP → LP → Bool → Int → LP → LP → LP → LP → LP → Int → Int → O R) (x1 : Int) (x2 x3 x4 x5 : LP) (x6 : Bool) (x7 : Int) (x8 x9 x10 x11 x12 : LP) (x13 x14 : Int) (k0 : Int → LP → LP → LP → LP → Bool → Int → LP → LP → LP → LP → Int → O R) (k1 : Int → LP → LP → LP → LP → Bool → Int → LP → LP → LP → LP → O R) : O R :=
  bif (decide (x14 < x13)) then (bif (inR x14 ((x12).length)) then (Jkr ((x12).getD ((x14 : Int).toNat) (.v (.bool false))) fun e15 => p66 n e15 (fun y16 => bif (!y16) then (k0 x1 x2 x3 x4 x5 x6 x7 x8 x9 x10 x11 3) else (l0 x1 x2 x3 x4 x5 x6 x7 x8 x9 x10 x11 x12 x13 (IntKind.i64.wrap (x14 + 1))))) else none) else (k1 x1 x2 x3 x4 x5 x6 x7 x8 x9 x10 x11)
def UfF (n : Nat) : Nat → Int → LP → LP → LP → LP → Bool → Int → LP → LP → LP → LP → LP → Int → Int → (Int → LP → LP → LP → LP → Bool → Int → LP → LP → LP → LP → Int → O R) → (Int → LP → LP → LP → LP → Bool → Int → LP → LP → LP → LP → O R) → O R
  | 0, _, _, _, _, _, _, _, _, _, _, _, _, _, _, _, _ => none
  | m + 1, x1, x2, x3, x4, x5, x6, x7, x8, x9, x10, x11, x12, x13, x14, k0, k1 => UiY n (fun x1 x2 x3 x4 x5 x6 x7 x8 x9 x10 x11 x12 x13 x14 => UfF n m x1 x2 x3 x4 x5 x6 x7 x8 x9 x10 x11 x12 x13 x14 k0 k1) x1 x2 x3 x4 x5 x6 x7 x8 x9 x10 x11 x12 x13 x14 k0 k1
def UtQ (n : Nat) (x1 : Int) (x2 x3 x4 x5 : LP) (x6 : Bool) (x7 : Int) (x8 x9 x10 x11 x12 : LP) (x13 x14 : Int) (k0 : Int → LP → LP → LP → LP → Bool → Int → LP → LP → LP → LP → Int → O R) (k1 : Int → LP → LP → LP → LP → Bool → Int → LP → LP → LP → LP → O R) : O R := UfF n n x1 x2 x3 x4 x5 x6 x7 x8 x9 x10 x11 x12 x13 x14 k0 k1
def Uf4 (n : Nat) (l0 : Int → LP → LP → LP → LP → Bool → Int → LP → LP → LP → LP → LP → Int → Int → O R) (x1 : Int) (x2 x3 x4 x5 : LP) (x6 : Bool) (x7 : Int) (x8 x9 x10 x11 x12 : LP) (x13 x14 : Int) (k0 : Int → LP → LP → LP → LP → Bool → Int → LP → LP → LP → LP → Int → O R) (k1 : Int → LP → LP → LP → LP → Bool → Int → LP → LP → LP → LP → O R) : O R :=
  bif (decide (x14 < x13)) then (bif (inR x14 ((x12).length)) then (Jkr ((x12).getD ((x14 : Int).toNat) (.v (.bool false))) fun e15 => bif (((e15).length : Int) != x1) then (k0 x1 x2 x3 x4 x5 x6 x7 x8 x9 x10 x11 6) else (l0 x1 x2 x3 x4 x5 x6 x7 x8 x9 x10 x11 x12 x13 (IntKind.i64.wrap (x14 + 1)))) else none) else (k1 x1 x2 x3 x4 x5 x6 x7 x8 x9 x10 x11)
def UdE (n : Nat) : Nat → Int → LP → LP → LP → LP → Bool → Int → LP → LP → LP → LP → LP → Int → Int → (Int → LP → LP → LP → LP → Bool → Int → LP → LP → LP → LP → Int → O R) → (Int → LP → LP → LP → LP → Bool → Int → LP → LP → LP → LP → O R) → O R
  | 0, _, _, _, _, _, _, _, _, _, _, _, _, _, _, _, _ => none
  | m + 1, x1, x2, x3, x4, x5, x6, x7, x8, x9, x10, x11, x12, x13, x14, k0, k1 => Uf4 n (fun x1 x2 x3 x4 x5 x6 x7 x8 x9 x10 x11 x12 x13 x14 => UdE n m x1 x2 x3 x4 x5 x6 x7 x8 x9 x10 x11 x12 x13 x14 k0 k1) x1 x2 x3 x4 x5 x6 x7 x8 x9 x10 x11 x12 x13 x14 k0 k1
def Usk (n : Nat) (x1 : Int) (x2 x3 x4 x5 : LP) (x6 : Bool) (x7 : Int) (x8 x9 x10 x11 x12 : LP) (x13 x14 : Int) (k0 : Int → LP → LP → LP → LP → Bool → Int → LP → LP → LP → LP → Int → O R) (k1 : Int → LP → LP → LP → LP → Bool → Int → LP → LP → LP → LP → O R) : O R := UdE n n x1 x2 x3 x4 x5 x6 x7 x8 x9 x10 x11 x12 x13 x14 k0 k1
def UfD (n : Nat) (x1 : Int) (x2 x3 x4 x5 : LP) (x6 : Bool) (x7 : Int) (x8 x9 x10 x11 : LP) (k0 : Int → O R) : O R :=
  p35 n x7 x8 x9 x10 x11 (fun y12 y13 => bif (y13 != 0) then (k0 y13) else (bif (!y12) then (k0 16) else (k0 0)))
def UfB (n : Nat) (x1 : Int) (x2 x3 x4 x5 : LP) (x6 : Bool) (x7 : Int) (x8 x9 x10 x11 : LP) (k0 : Int → O R) : O R :=
  bif (decide (((x4).length : Int) > 0)) then (bif (inR 0 ((x4).length)) then (Jkr ((x4).getD ((0 : Int).toNat) (.v (.bool false))) fun e12 => p17 n x1 x2 e12 (fun y13 y14 => bif (y14 != 0) then (k0 y14) else (bif (!y13) then (k0 15) else (UfD n x1 x2 x3 x4 x5 x6 x7 x8 x9 x10 x11 (fun y15 => k0 y15))))) else none) else (UfD n x1 x2 x3 x4 x5 x6 x7 x8 x9 x10 x11 (fun y16 => k0 y16))
def UmV (n : Nat) (x1 : Int) (x2 x3 x4 x5 : LP) (x6 : Bool) (x7 : Int) (x8 x9 x10 x11 : LP) (k0 : Int → O R) : O R :=
  UtQ n x1 x2 x3 x4 x5 x6 x7 x8 x9 x10 x11 x4 ((x4).length : Int) 0 (fun y12 y13 y14 y15 y16 y17 y18 y19 y20 y21 y22 y23 => k0 y23) (fun y24 y25 y26 y27 y28 y29 y30 y31 y32 y33 y34 => Usk n y24 y25 y26 y27 y28 y29 y30 y31 y32 y33 y34 y27 ((y27).length : Int) 0 (fun y35 y36 y37 y38 y39 y40 y41 y42 y43 y44 y45 y46 => k0 y46) (fun y47 y48 y49 y50 y51 y52 y53 y54 y55 y56 y57 => bif y52 then (bif (bif true then (((y51).length : Int) != ((y48).length : Int)) else false) then (k0 6) else (UfB n y47 y48 y49 y50 y51 y52 y53 y54 y55 y56 y57 (fun y58 => k0 y58))) else (UfB n y47 y48 y49 y50 y51 y52 y53 y54 y55 y56 y57 (fun y59 => k0 y59))))
def UDt (n : Nat) (x1 : Int) (x2 x3 x4 x5 : LP) (x6 : Bool) (x7 : Int) (x8 x9 x10 x11 : LP) (k0 : Int → O R) : O R :=
  p65 n x1 x2 (fun y12 => bif (y12 != 0) then (k0 3) else (p76 n x1 x3 (fun y13 => bif (bif false then true else (!y13)) then (k0 3) else (p66 n x5 (fun y14 => bif (bif false then true else (!y14)) then (k0 3) else (UmV n x1 x2 x3 x4 x5 x6 x7 x8 x9 x10 x11 (fun y15 => k0 y15)))))))
def UiZ (n : Nat) (l0 : Int → LP → LP → LP → LP → Bool → LP → Int → LP → LP → LP → Int → Int → O R) (x1 : Int) (x2 x3 x4 x5 : LP) (x6 : Bool) (x7 : LP) (x8 : Int) (x9 x10 x11 : LP) (x12 x13 : Int) (k0 : Int → LP → LP → LP → LP → Bool → LP → Int → LP → LP → Int → O R) (k1 : Int → LP → LP → LP → LP → Bool → LP → Int → LP → LP → O R) : O R :=
  bif (decide (x13 < x12)) then (bif (inR x13 ((x11).length)) then (Jkr ((x11).getD ((x13 : Int).toNat) (.v (.bool false))) fun e14 => p66 n e14 (fun y15 => bif (!y15) then (k0 x1 x2 x3 x4 x5 x6 x7 x8 x9 x10 3) else (l0 x1 x2 x3 x4 x5 x6 x7 x8 x9 x10 x11 x12 (IntKind.i64.wrap (x13 + 1))))) else none) else (k1 x1 x2 x3 x4 x5 x6 x7 x8 x9 x10)
def UfG (n : Nat) : Nat → Int → LP → LP → LP → LP → Bool → LP → Int → LP → LP → LP → Int → Int → (Int → LP → LP → LP → LP → Bool → LP → Int → LP → LP → Int → O R) → (Int → LP → LP → LP → LP → Bool → LP → Int → LP → LP → O R) → O R
  | 0, _, _, _, _, _, _, _, _, _, _, _, _, _, _, _ => none
  | m + 1, x1, x2, x3, x4, x5, x6, x7, x8, x9, x10, x11, x12, x13, k0, k1 => UiZ n (fun x1 x2 x3 x4 x5 x6 x7 x8 x9 x10 x11 x12 x13 => UfG n m x1 x2 x3 x4 x5 x6 x7 x8 x9 x10 x11 x12 x13 k0 k1) x1 x2 x3 x4 x5 x6 x7 x8 x9 x10 x11 x12 x13 k0 k1
def UtR (n : Nat) (x1 : Int) (x2 x3 x4 x5 : LP) (x6 : Bool) (x7 : LP) (x8 : Int) (x9 x10 x11 : LP) (x12 x13 : Int) (k0 : Int → LP → LP → LP → LP → Bool → LP → Int → LP → LP → Int → O R) (k1 : Int → LP → LP → LP → LP → Bool → LP → Int → LP → LP → O R) : O R := UfG n n x1 x2 x3 x4 x5 x6 x7 x8 x9 x10 x11 x12 x13 k0 k1
def Uf5 (n : Nat) (l0 : Int → LP → LP → LP → LP → Bool → LP → Int → LP → LP → LP → Int → Int → O R) (x1 : Int) (x2 x3 x4 x5 : LP) (x6 : Bool) (x7 : LP) (x8 : Int) (x9 x10 x11 : LP) (x12 x13 : Int) (k0 : Int → LP → LP → LP → LP → Bool → LP → Int → LP → LP → Int → O R) (k1 : Int → LP → LP → LP → LP → Bool → LP → Int → LP → LP → O R) : O R :=
  bif (decide (x13 < x12)) then (bif (inR x13 ((x11).length)) then (Jkr ((x11).getD ((x13 : Int).toNat) (.v (.bool false))) fun e14 => bif (((e14).length : Int) != x1) then (k0 x1 x2 x3 x4 x5 x6 x7 x8 x9 x10 6) else (l0 x1 x2 x3 x4 x5 x6 x7 x8 x9 x10 x11 x12 (IntKind.i64.wrap (x13 + 1)))) else none) else (k1 x1 x2 x3 x4 x5 x6 x7 x8 x9 x10)
def UdF (n : Nat) : Nat → Int → LP → LP → LP → LP → Bool → LP → Int → LP → LP → LP → Int → Int → (Int → LP → LP → LP → LP → Bool → LP → Int → LP → LP → Int → O R) → (Int → LP → LP → LP → LP → Bool → LP → Int → LP → LP → O R) → O R
  | 0, _, _, _, _, _, _, _, _, _, _, _, _, _, _, _ => none
  | m + 1, x1, x2, x3, x4, x5, x6, x7, x8, x9, x10, x11, x12, x13, k0, k1 => Uf5 n (fun x1 x2 x3 x4 x5 x6 x7 x8 x9 x10 x11 x12 x13 => UdF n m x1 x2 x3 x4 x5 x6 x7 x8 x9 x10 x11 x12 x13 k0 k1) x1 x2 x3 x4 x5 x6 x7 x8 x9 x10 x11 x12 x13 k0 k1
def Usl (n : Nat) (x1 : Int) (x2 x3 x4 x5 : LP) (x6 : Bool) (x7 : LP) (x8 : Int) (x9 x10 x11 : LP) (x12 x13 : Int) (k0 : Int → LP → LP → LP → LP → Bool → LP → Int → LP → LP → Int → O R) (k1 : Int → LP → LP → LP → LP → Bool → LP → Int → LP → LP → O R) : O R := UdF n n x1 x2 x3 x4 x5 x6 x7 x8 x9 x10 x11 x12 x13 k0 k1
def UfE (n : Nat) (x1 : Int) (x2 x3 x4 x5 : LP) (x6 : Bool) (x7 : LP) (x8 : Int) (x9 x10 : LP) (k0 : Int → O R) : O R :=
  p59 n x7 x8 x9 x10 (fun y11 y12 => bif (y12 != 0) then (k0 y12) else (bif (!y11) then (k0 16) else (k0 0)))
def UfC (n : Nat) (x1 : Int) (x2 x3 x4 x5 : LP) (x6 : Bool) (x7 : LP) (x8 : Int) (x9 x10 : LP) (k0 : Int → O R) : O R :=
  bif (decide (((x4).length : Int) > 0)) then (bif (inR 0 ((x4).length)) then (Jkr ((x4).getD ((0 : Int).toNat) (.v (.bool false))) fun e11 => p17 n x1 x2 e11 (fun y12 y13 => bif (y13 != 0) then (k0 y13) else (bif (!y12) then (k0 15) else (UfE n x1 x2 x3 x4 x5 x6 x7 x8 x9 x10 (fun y14 => k0 y14))))) else none) else (UfE n x1 x2 x3 x4 x5 x6 x7 x8 x9 x10 (fun y15 => k0 y15))
def UmW (n : Nat) (x1 : Int) (x2 x3 x4 x5 : LP) (x6 : Bool) (x7 : LP) (x8 : Int) (x9 x10 : LP) (k0 : Int → O R) : O R :=
  UtR n x1 x2 x3 x4 x5 x6 x7 x8 x9 x10 x4 ((x4).length : Int) 0 (fun y11 y12 y13 y14 y15 y16 y17 y18 y19 y20 y21 => k0 y21) (fun y22 y23 y24 y25 y26 y27 y28 y29 y30 y31 => Usl n y22 y23 y24 y25 y26 y27 y28 y29 y30 y31 y25 ((y25).length : Int) 0 (fun y32 y33 y34 y35 y36 y37 y38 y39 y40 y41 y42 => k0 y42) (fun y43 y44 y45 y46 y47 y48 y49 y50 y51 y52 => bif y48 then (bif (bif true then (((y47).length : Int) != ((y44).length : Int)) else false) then (k0 6) else (UfC n y43 y44 y45 y46 y47 y48 y49 y50 y51 y52 (fun y53 => k0 y53))) else (UfC n y43 y44 y45 y46 y47 y48 y49 y50 y51 y52 (fun y54 => k0 y54))))
def UDu (n : Nat) (x1 : Int) (x2 x3 x4 x5 : LP) (x6 : Bool) (x7 : LP) (x8 : Int) (x9 x10 : LP) (k0 : Int → O R) : O R :=
  p65 n x1 x2 (fun y11 => bif (y11 != 0) then (k0 3) else (p76 n x1 x3 (fun y12 => bif (bif false then true else (!y12)) then (k0 3) else (p66 n x5 (fun y13 => bif (bif false then true else (!y13)) then (k0 3) else (UmW n x1 x2 x3 x4 x5 x6 x7 x8 x9 x10 (fun y14 => k0 y14)))))))
abbrev E32 (n : Nat) : Code → Fr → Kc R → O R := evC Tryz.prog (Ug4 n) Uae n (97, [])
noncomputable def UoD : Code := Jj4 (Jll Tryz.f32) [1, 1]
abbrev UkO : Sl (List SV) := (.c (sBx 74 (cI (cH (cH (cH (cH (cB (.c (sP (JlJ 29 (.c (sFb (.c (Jlv .i64) (.c sSh .n))) (.c (sFb (.c sSh .n)) .n)))) .n)))))))) .n)
abbrev UkP : Sl (List SV) := (.c (sBx 74 (cI (cH (cH (cH (cH (cB (.c (sP (JlJ 35 (.c (sFb (.c (Jlv .i64) (.c sSh .n))) (.c (sFb (.c sSh .n)) (.c (sFb (.c sSh .n)) (.c (sFb (.c sSh .n)) .n)))))) .n)))))))) .n)
abbrev UkQ : Sl (List SV) := (.c (sBx 74 (cI (cH (cH (cH (cH (cB (.c (sP (JlJ 59 (.c (sFb (.c sSh .n)) (.c (sFb (.c (Jlv .i64) (.c sSh .n))) (.c (sFb (.c sSh .n)) .n))))) .n)))))))) .n)
abbrev Uq5 (n : Nat) (K : Kc R) : UkO.T (O R) := fun x1 x2 x3 x4 x5 x6 x7 x8 x9 => Usi n x1 x2 x3 x4 x5 x6 x7 x8 x9 (fun y1 => xC Uae 3 K .ret [vI y1])
abbrev Uq6 (n : Nat) (K : Kc R) : UkP.T (O R) := fun x1 x2 x3 x4 x5 x6 x7 x8 x9 x10 x11 => UmV n x1 x2 x3 x4 x5 x6 x7 x8 x9 x10 x11 (fun y1 => xC Uae 3 K .ret [vI y1])
abbrev Uq7 (n : Nat) (K : Kc R) : UkQ.T (O R) := fun x1 x2 x3 x4 x5 x6 x7 x8 x9 x10 => UmW n x1 x2 x3 x4 x5 x6 x7 x8 x9 x10 (fun y1 => xC Uae 3 K .ret [vI y1])
noncomputable def Ujv : Code := Jj4 (Jll Tryz.f32) [1, 1, 1, 1, 1]
abbrev Uiy : Sl (List SV) := (.c (sBx 74 (cI (cH (cH (cH (cH (cB (.c (sP (JlJ 29 (.c (sFb (.c (Jlv .i64) (.c sSh .n))) (.c (sFb (.c sSh .n)) .n)))) .n)))))))) .n)
abbrev Uiz : Sl (List SV) := (.c (sBx 74 (cI (cH (cH (cH (cH (cB (.c (sP (JlJ 35 (.c (sFb (.c (Jlv .i64) (.c sSh .n))) (.c (sFb (.c sSh .n)) (.c (sFb (.c sSh .n)) (.c (sFb (.c sSh .n)) .n)))))) .n)))))))) .n)
abbrev UiA : Sl (List SV) := (.c (sBx 74 (cI (cH (cH (cH (cH (cB (.c (sP (JlJ 59 (.c (sFb (.c sSh .n)) (.c (sFb (.c (Jlv .i64) (.c sSh .n))) (.c (sFb (.c sSh .n)) .n))))) .n)))))))) .n)
abbrev Umv (n : Nat) (K : Kc R) : Uiy.T (O R) := fun x1 x2 x3 x4 x5 x6 x7 x8 x9 => UhG n x1 x2 x3 x4 x5 x6 x7 x8 x9 (fun y1 => xC Uae 17 K .ret [vI y1])
abbrev Umw (n : Nat) (K : Kc R) : Uiz.T (O R) := fun x1 x2 x3 x4 x5 x6 x7 x8 x9 x10 x11 => UfB n x1 x2 x3 x4 x5 x6 x7 x8 x9 x10 x11 (fun y1 => xC Uae 17 K .ret [vI y1])
abbrev Umx (n : Nat) (K : Kc R) : UiA.T (O R) := fun x1 x2 x3 x4 x5 x6 x7 x8 x9 x10 => UfC n x1 x2 x3 x4 x5 x6 x7 x8 x9 x10 (fun y1 => xC Uae 17 K .ret [vI y1])
noncomputable def Ujw : Code := Jj4 (Jll Tryz.f32) [1, 1, 1, 1, 1, 1]
abbrev UiB : Sl (List SV) := (.c (sBx 74 (cI (cH (cH (cH (cH (cB (.c (sP (JlJ 29 (.c (sFb (.c (Jlv .i64) (.c sSh .n))) (.c (sFb (.c sSh .n)) .n)))) .n)))))))) .n)
abbrev UiC : Sl (List SV) := (.c (sBx 74 (cI (cH (cH (cH (cH (cB (.c (sP (JlJ 35 (.c (sFb (.c (Jlv .i64) (.c sSh .n))) (.c (sFb (.c sSh .n)) (.c (sFb (.c sSh .n)) (.c (sFb (.c sSh .n)) .n)))))) .n)))))))) .n)
abbrev UiD : Sl (List SV) := (.c (sBx 74 (cI (cH (cH (cH (cH (cB (.c (sP (JlJ 59 (.c (sFb (.c sSh .n)) (.c (sFb (.c (Jlv .i64) (.c sSh .n))) (.c (sFb (.c sSh .n)) .n))))) .n)))))))) .n)
abbrev Umy (n : Nat) (K : Kc R) : UiB.T (O R) := fun x1 x2 x3 x4 x5 x6 x7 x8 x9 => UhH n x1 x2 x3 x4 x5 x6 x7 x8 x9 (fun y1 => xC Uae 23 K .ret [vI y1])
abbrev Umz (n : Nat) (K : Kc R) : UiC.T (O R) := fun x1 x2 x3 x4 x5 x6 x7 x8 x9 x10 x11 => UfD n x1 x2 x3 x4 x5 x6 x7 x8 x9 x10 x11 (fun y1 => xC Uae 23 K .ret [vI y1])
abbrev UmA (n : Nat) (K : Kc R) : UiD.T (O R) := fun x1 x2 x3 x4 x5 x6 x7 x8 x9 x10 => UfE n x1 x2 x3 x4 x5 x6 x7 x8 x9 x10 (fun y1 => xC Uae 23 K .ret [vI y1])
noncomputable def UfW : Code := Jj4 (Jll Tryz.f32) [1, 1, 0, 1, 0, 0]
abbrev UcF : Sl (List SV) := (.c (sBx 74 (cI (cH (cH (cH (cH (cB (.c (sP (JlJ 29 (.c (sFb (.c (Jlv .i64) (.c sSh .n))) (.c (sFb (.c sSh .n)) .n)))) .n)))))))) (cH (cI (cI .n))))
abbrev UcG : Sl (List SV) := (.c (sBx 74 (cI (cH (cH (cH (cH (cB (.c (sP (JlJ 35 (.c (sFb (.c (Jlv .i64) (.c sSh .n))) (.c (sFb (.c sSh .n)) (.c (sFb (.c sSh .n)) (.c (sFb (.c sSh .n)) .n)))))) .n)))))))) (cH (cI (cI .n))))
abbrev UcH : Sl (List SV) := (.c (sBx 74 (cI (cH (cH (cH (cH (cB (.c (sP (JlJ 59 (.c (sFb (.c sSh .n)) (.c (sFb (.c (Jlv .i64) (.c sSh .n))) (.c (sFb (.c sSh .n)) .n))))) .n)))))))) (cH (cI (cI .n))))
abbrev Uhb (n m : Nat) (K : Kc R) : UcF.T (O R) := fun x1 x2 x3 x4 x5 x6 x7 x8 x9 x10 x11 x12 => UhJ n m x1 x2 x3 x4 x5 x6 x7 x8 x9 x10 x11 x12 (fun y1 y2 y3 y4 y5 y6 y7 y8 y9 y10 => xL Uae 4 K .ret [.bx 74 [vI y1, vH y2, vH y3, vH y4, vH y5, vB y6, .p (.clo 29 [.fb [.v (.int .i64 y7), .sh y8], .fb [.sh y9]])], vI y10]) (fun y1 y2 y3 y4 y5 y6 y7 y8 y9 => xL Uae 4 K (.exit 0) [.bx 74 [vI y1, vH y2, vH y3, vH y4, vH y5, vB y6, .p (.clo 29 [.fb [.v (.int .i64 y7), .sh y8], .fb [.sh y9]])], dD])
abbrev UxN (n : Nat) (K : Kc R) (l0 : UcF.T (O R)) : UcF.T (O R) := fun x1 x2 x3 x4 x5 x6 x7 x8 x9 x10 x11 x12 => Ukf n l0 x1 x2 x3 x4 x5 x6 x7 x8 x9 x10 x11 x12 (fun y1 y2 y3 y4 y5 y6 y7 y8 y9 y10 => xL Uae 4 K .ret [.bx 74 [vI y1, vH y2, vH y3, vH y4, vH y5, vB y6, .p (.clo 29 [.fb [.v (.int .i64 y7), .sh y8], .fb [.sh y9]])], vI y10]) (fun y1 y2 y3 y4 y5 y6 y7 y8 y9 => xL Uae 4 K (.exit 0) [.bx 74 [vI y1, vH y2, vH y3, vH y4, vH y5, vB y6, .p (.clo 29 [.fb [.v (.int .i64 y7), .sh y8], .fb [.sh y9]])], dD])
abbrev Uhc (n m : Nat) (K : Kc R) : UcG.T (O R) := fun x1 x2 x3 x4 x5 x6 x7 x8 x9 x10 x11 x12 x13 x14 => UfF n m x1 x2 x3 x4 x5 x6 x7 x8 x9 x10 x11 x12 x13 x14 (fun y1 y2 y3 y4 y5 y6 y7 y8 y9 y10 y11 y12 => xL Uae 4 K .ret [.bx 74 [vI y1, vH y2, vH y3, vH y4, vH y5, vB y6, .p (.clo 35 [.fb [.v (.int .i64 y7), .sh y8], .fb [.sh y9], .fb [.sh y10], .fb [.sh y11]])], vI y12]) (fun y1 y2 y3 y4 y5 y6 y7 y8 y9 y10 y11 => xL Uae 4 K (.exit 0) [.bx 74 [vI y1, vH y2, vH y3, vH y4, vH y5, vB y6, .p (.clo 35 [.fb [.v (.int .i64 y7), .sh y8], .fb [.sh y9], .fb [.sh y10], .fb [.sh y11]])], dD])
abbrev UxO (n : Nat) (K : Kc R) (l0 : UcG.T (O R)) : UcG.T (O R) := fun x1 x2 x3 x4 x5 x6 x7 x8 x9 x10 x11 x12 x13 x14 => UiY n l0 x1 x2 x3 x4 x5 x6 x7 x8 x9 x10 x11 x12 x13 x14 (fun y1 y2 y3 y4 y5 y6 y7 y8 y9 y10 y11 y12 => xL Uae 4 K .ret [.bx 74 [vI y1, vH y2, vH y3, vH y4, vH y5, vB y6, .p (.clo 35 [.fb [.v (.int .i64 y7), .sh y8], .fb [.sh y9], .fb [.sh y10], .fb [.sh y11]])], vI y12]) (fun y1 y2 y3 y4 y5 y6 y7 y8 y9 y10 y11 => xL Uae 4 K (.exit 0) [.bx 74 [vI y1, vH y2, vH y3, vH y4, vH y5, vB y6, .p (.clo 35 [.fb [.v (.int .i64 y7), .sh y8], .fb [.sh y9], .fb [.sh y10], .fb [.sh y11]])], dD])
abbrev Uhd (n m : Nat) (K : Kc R) : UcH.T (O R) := fun x1 x2 x3 x4 x5 x6 x7 x8 x9 x10 x11 x12 x13 => UfG n m x1 x2 x3 x4 x5 x6 x7 x8 x9 x10 x11 x12 x13 (fun y1 y2 y3 y4 y5 y6 y7 y8 y9 y10 y11 => xL Uae 4 K .ret [.bx 74 [vI y1, vH y2, vH y3, vH y4, vH y5, vB y6, .p (.clo 59 [.fb [.sh y7], .fb [.v (.int .i64 y8), .sh y9], .fb [.sh y10]])], vI y11]) (fun y1 y2 y3 y4 y5 y6 y7 y8 y9 y10 => xL Uae 4 K (.exit 0) [.bx 74 [vI y1, vH y2, vH y3, vH y4, vH y5, vB y6, .p (.clo 59 [.fb [.sh y7], .fb [.v (.int .i64 y8), .sh y9], .fb [.sh y10]])], dD])
abbrev UxP (n : Nat) (K : Kc R) (l0 : UcH.T (O R)) : UcH.T (O R) := fun x1 x2 x3 x4 x5 x6 x7 x8 x9 x10 x11 x12 x13 => UiZ n l0 x1 x2 x3 x4 x5 x6 x7 x8 x9 x10 x11 x12 x13 (fun y1 y2 y3 y4 y5 y6 y7 y8 y9 y10 y11 => xL Uae 4 K .ret [.bx 74 [vI y1, vH y2, vH y3, vH y4, vH y5, vB y6, .p (.clo 59 [.fb [.sh y7], .fb [.v (.int .i64 y8), .sh y9], .fb [.sh y10]])], vI y11]) (fun y1 y2 y3 y4 y5 y6 y7 y8 y9 y10 => xL Uae 4 K (.exit 0) [.bx 74 [vI y1, vH y2, vH y3, vH y4, vH y5, vB y6, .p (.clo 59 [.fb [.sh y7], .fb [.v (.int .i64 y8), .sh y9], .fb [.sh y10]])], dD])
noncomputable def Udm : Code := Jj4 (Jll Tryz.f32) [1, 1, 1, 0, 1, 0, 0]
abbrev Ubz : Sl (List SV) := (.c (sBx 74 (cI (cH (cH (cH (cH (cB (.c (sP (JlJ 29 (.c (sFb (.c (Jlv .i64) (.c sSh .n))) (.c (sFb (.c sSh .n)) .n)))) .n)))))))) (cH (cI (cI .n))))
abbrev UbA : Sl (List SV) := (.c (sBx 74 (cI (cH (cH (cH (cH (cB (.c (sP (JlJ 35 (.c (sFb (.c (Jlv .i64) (.c sSh .n))) (.c (sFb (.c sSh .n)) (.c (sFb (.c sSh .n)) (.c (sFb (.c sSh .n)) .n)))))) .n)))))))) (cH (cI (cI .n))))
abbrev UbB : Sl (List SV) := (.c (sBx 74 (cI (cH (cH (cH (cH (cB (.c (sP (JlJ 59 (.c (sFb (.c sSh .n)) (.c (sFb (.c (Jlv .i64) (.c sSh .n))) (.c (sFb (.c sSh .n)) .n))))) .n)))))))) (cH (cI (cI .n))))
abbrev UeD (n m : Nat) (K : Kc R) : Ubz.T (O R) := fun x1 x2 x3 x4 x5 x6 x7 x8 x9 x10 x11 x12 => Ue1 n m x1 x2 x3 x4 x5 x6 x7 x8 x9 x10 x11 x12 (fun y1 y2 y3 y4 y5 y6 y7 y8 y9 y10 => xL Uae 10 K .ret [.bx 74 [vI y1, vH y2, vH y3, vH y4, vH y5, vB y6, .p (.clo 29 [.fb [.v (.int .i64 y7), .sh y8], .fb [.sh y9]])], vI y10]) (fun y1 y2 y3 y4 y5 y6 y7 y8 y9 => xL Uae 10 K (.exit 2) [.bx 74 [vI y1, vH y2, vH y3, vH y4, vH y5, vB y6, .p (.clo 29 [.fb [.v (.int .i64 y7), .sh y8], .fb [.sh y9]])], dD])
abbrev Utk (n : Nat) (K : Kc R) (l0 : Ubz.T (O R)) : Ubz.T (O R) := fun x1 x2 x3 x4 x5 x6 x7 x8 x9 x10 x11 x12 => UhI n l0 x1 x2 x3 x4 x5 x6 x7 x8 x9 x10 x11 x12 (fun y1 y2 y3 y4 y5 y6 y7 y8 y9 y10 => xL Uae 10 K .ret [.bx 74 [vI y1, vH y2, vH y3, vH y4, vH y5, vB y6, .p (.clo 29 [.fb [.v (.int .i64 y7), .sh y8], .fb [.sh y9]])], vI y10]) (fun y1 y2 y3 y4 y5 y6 y7 y8 y9 => xL Uae 10 K (.exit 2) [.bx 74 [vI y1, vH y2, vH y3, vH y4, vH y5, vB y6, .p (.clo 29 [.fb [.v (.int .i64 y7), .sh y8], .fb [.sh y9]])], dD])
abbrev UeE (n m : Nat) (K : Kc R) : UbA.T (O R) := fun x1 x2 x3 x4 x5 x6 x7 x8 x9 x10 x11 x12 x13 x14 => UdE n m x1 x2 x3 x4 x5 x6 x7 x8 x9 x10 x11 x12 x13 x14 (fun y1 y2 y3 y4 y5 y6 y7 y8 y9 y10 y11 y12 => xL Uae 10 K .ret [.bx 74 [vI y1, vH y2, vH y3, vH y4, vH y5, vB y6, .p (.clo 35 [.fb [.v (.int .i64 y7), .sh y8], .fb [.sh y9], .fb [.sh y10], .fb [.sh y11]])], vI y12]) (fun y1 y2 y3 y4 y5 y6 y7 y8 y9 y10 y11 => xL Uae 10 K (.exit 2) [.bx 74 [vI y1, vH y2, vH y3, vH y4, vH y5, vB y6, .p (.clo 35 [.fb [.v (.int .i64 y7), .sh y8], .fb [.sh y9], .fb [.sh y10], .fb [.sh y11]])], dD])
abbrev Utl (n : Nat) (K : Kc R) (l0 : UbA.T (O R)) : UbA.T (O R) := fun x1 x2 x3 x4 x5 x6 x7 x8 x9 x10 x11 x12 x13 x14 => Uf4 n l0 x1 x2 x3 x4 x5 x6 x7 x8 x9 x10 x11 x12 x13 x14 (fun y1 y2 y3 y4 y5 y6 y7 y8 y9 y10 y11 y12 => xL Uae 10 K .ret [.bx 74 [vI y1, vH y2, vH y3, vH y4, vH y5, vB y6, .p (.clo 35 [.fb [.v (.int .i64 y7), .sh y8], .fb [.sh y9], .fb [.sh y10], .fb [.sh y11]])], vI y12]) (fun y1 y2 y3 y4 y5 y6 y7 y8 y9 y10 y11 => xL Uae 10 K (.exit 2) [.bx 74 [vI y1, vH y2, vH y3, vH y4, vH y5, vB y6, .p (.clo 35 [.fb [.v (.int .i64 y7), .sh y8], .fb [.sh y9], .fb [.sh y10], .fb [.sh y11]])], dD])
abbrev UeF (n m : Nat) (K : Kc R) : UbB.T (O R) := fun x1 x2 x3 x4 x5 x6 x7 x8 x9 x10 x11 x12 x13 => UdF n m x1 x2 x3 x4 x5 x6 x7 x8 x9 x10 x11 x12 x13 (fun y1 y2 y3 y4 y5 y6 y7 y8 y9 y10 y11 => xL Uae 10 K .ret [.bx 74 [vI y1, vH y2, vH y3, vH y4, vH y5, vB y6, .p (.clo 59 [.fb [.sh y7], .fb [.v (.int .i64 y8), .sh y9], .fb [.sh y10]])], vI y11]) (fun y1 y2 y3 y4 y5 y6 y7 y8 y9 y10 => xL Uae 10 K (.exit 2) [.bx 74 [vI y1, vH y2, vH y3, vH y4, vH y5, vB y6, .p (.clo 59 [.fb [.sh y7], .fb [.v (.int .i64 y8), .sh y9], .fb [.sh y10]])], dD])
abbrev Utm (n : Nat) (K : Kc R) (l0 : UbB.T (O R)) : UbB.T (O R) := fun x1 x2 x3 x4 x5 x6 x7 x8 x9 x10 x11 x12 x13 => Uf5 n l0 x1 x2 x3 x4 x5 x6 x7 x8 x9 x10 x11 x12 x13 (fun y1 y2 y3 y4 y5 y6 y7 y8 y9 y10 y11 => xL Uae 10 K .ret [.bx 74 [vI y1, vH y2, vH y3, vH y4, vH y5, vB y6, .p (.clo 59 [.fb [.sh y7], .fb [.v (.int .i64 y8), .sh y9], .fb [.sh y10]])], vI y11]) (fun y1 y2 y3 y4 y5 y6 y7 y8 y9 y10 => xL Uae 10 K (.exit 2) [.bx 74 [vI y1, vH y2, vH y3, vH y4, vH y5, vB y6, .p (.clo 59 [.fb [.sh y7], .fb [.v (.int .i64 y8), .sh y9], .fb [.sh y10]])], dD])
abbrev UfS (n : Nat) : Orc R := fun i vs K => JfK (Nat.beq i 10) (Jjg (Ubz.ap vs (UeD n n K)) (Jjg (UbA.ap vs (UeE n n K)) (Jjg (UbB.ap vs (UeF n n K)) (JcB Uae 10 (E32 n Udm) n vs K)))) ((fun i vs K => JfK (Nat.beq i 4) (Jjg (UcF.ap vs (Uhb n n K)) (Jjg (UcG.ap vs (Uhc n n K)) (Jjg (UcH.ap vs (Uhd n n K)) (JcB Uae 4 (E32 n UfW) n vs K)))) (oN i vs K)) i vs K)
abbrev UfR (n : Nat) : Orc R := fun i vs K => JfK (Nat.beq i 23) (Jjg (UiB.ap vs (Umy n K)) (Jjg (UiC.ap vs (Umz n K)) (Jjg (UiD.ap vs (UmA n K)) (Jki Uae 23 (E32 n Ujw) vs K)))) ((fun i vs K => JfK (Nat.beq i 17) (Jjg (Uiy.ap vs (Umv n K)) (Jjg (Uiz.ap vs (Umw n K)) (Jjg (UiA.ap vs (Umx n K)) (Jki Uae 17 (E32 n Ujv) vs K)))) ((fun i vs K => JfK (Nat.beq i 3) (Jjg (UkO.ap vs (Uq5 n K)) (Jjg (UkP.ap vs (Uq6 n K)) (Jjg (UkQ.ap vs (Uq7 n K)) (Jki Uae 3 (E32 n UoD) vs K)))) (oN i vs K)) i vs K)) i vs K)
abbrev K32 (R : Type) (n : Nat) := JcH (R := R) Tryz.prog (Ug4 n) Uae n (97, []) (UfS n) (UfR n)
theorem Uko (n : Nat) : Je6 (K32 R n) (JaJ Uae UfW) := pO pN (by kernel_rfl)
theorem Ux9 (n : Nat) : ∀ m (K : Kc R), UcF.all (fun vs r => JcB Uae 4 (JcU Tryz.prog (Ug4 n) Uae (97, []) (UfS n) (UfR n) UfW) m vs K = r) (Uhb n m K) := JiE (F := Uhb n) UcF (UxN n) (fun K _ _ _ _ _ _ _ _ _ _ _ _ => rfl) (fun _ _ => rfl) (fun L K _ _ _ _ _ _ _ _ _ _ _ _ => by show _ = _; kernel_rfl)
theorem Uy (n : Nat) : ∀ m (K : Kc R), UcG.all (fun vs r => JcB Uae 4 (JcU Tryz.prog (Ug4 n) Uae (97, []) (UfS n) (UfR n) UfW) m vs K = r) (Uhc n m K) := JiE (F := Uhc n) UcG (UxO n) (fun K _ _ _ _ _ _ _ _ _ _ _ _ _ _ => rfl) (fun _ _ => rfl) (fun L K _ _ _ _ _ _ _ _ _ _ _ _ _ _ => by show _ = _; kernel_rfl)
theorem Uya (n : Nat) : ∀ m (K : Kc R), UcH.all (fun vs r => JcB Uae 4 (JcU Tryz.prog (Ug4 n) Uae (97, []) (UfS n) (UfR n) UfW) m vs K = r) (Uhd n m K) := JiE (F := Uhd n) UcH (UxP n) (fun K _ _ _ _ _ _ _ _ _ _ _ _ _ => rfl) (fun _ _ => rfl) (fun L K _ _ _ _ _ _ _ _ _ _ _ _ _ => by show _ = _; kernel_rfl)
theorem UDV (n : Nat) : K32 R n (false, 4, UfW) := JkF (lo := UfS n) (cu := UfR n) (Uko n) UcF (Uhb n n) (Ux9 n n) (JkF (lo := UfS n) (cu := UfR n) (Uko n) UcG (Uhc n n) (Uy n n) (JkF (lo := UfS n) (cu := UfR n) (Uko n) UcH (Uhd n n) (Uya n n) fun _ _ => rfl))
theorem Uh8 (n : Nat) : Je6 (K32 R n) (JaJ Uae Udm) := pO pN (by kernel_rfl)
theorem Utx (n : Nat) : ∀ m (K : Kc R), Ubz.all (fun vs r => JcB Uae 10 (JcU Tryz.prog (Ug4 n) Uae (97, []) (UfS n) (UfR n) Udm) m vs K = r) (UeD n m K) := JiE (F := UeD n) Ubz (Utk n) (fun K _ _ _ _ _ _ _ _ _ _ _ _ => rfl) (fun _ _ => rfl) (fun L K _ _ _ _ _ _ _ _ _ _ _ _ => by show _ = _; kernel_rfl)
theorem Uty (n : Nat) : ∀ m (K : Kc R), UbA.all (fun vs r => JcB Uae 10 (JcU Tryz.prog (Ug4 n) Uae (97, []) (UfS n) (UfR n) Udm) m vs K = r) (UeE n m K) := JiE (F := UeE n) UbA (Utl n) (fun K _ _ _ _ _ _ _ _ _ _ _ _ _ _ => rfl) (fun _ _ => rfl) (fun L K _ _ _ _ _ _ _ _ _ _ _ _ _ _ => by show _ = _; kernel_rfl)
theorem Utz (n : Nat) : ∀ m (K : Kc R), UbB.all (fun vs r => JcB Uae 10 (JcU Tryz.prog (Ug4 n) Uae (97, []) (UfS n) (UfR n) Udm) m vs K = r) (UeF n m K) := JiE (F := UeF n) UbB (Utm n) (fun K _ _ _ _ _ _ _ _ _ _ _ _ _ => rfl) (fun _ _ => rfl) (fun L K _ _ _ _ _ _ _ _ _ _ _ _ _ => by show _ = _; kernel_rfl)
theorem Uz2 (n : Nat) : K32 R n (false, 10, Udm) := JkF (lo := UfS n) (cu := UfR n) (Uh8 n) Ubz (UeD n n) (Utx n n) (JkF (lo := UfS n) (cu := UfR n) (Uh8 n) UbA (UeE n n) (Uty n n) (JkF (lo := UfS n) (cu := UfR n) (Uh8 n) UbB (UeF n n) (Utz n n) fun _ _ => rfl))
theorem Uh7 (n : Nat) : Je6 (K32 R n) (JaJ Uae Ujw) := pO pN (by kernel_rfl)
theorem Uz1 (n : Nat) : K32 R n (true, 23, Ujw) := JkW (lo := UfS n) (cu := UfR n) (Uh7 n) UiB (Umy n) (fun K _ _ _ _ _ _ _ _ _ => by show _ = _; kernel_rfl) (JkW (lo := UfS n) (cu := UfR n) (Uh7 n) UiC (Umz n) (fun K _ _ _ _ _ _ _ _ _ _ _ => by show _ = _; kernel_rfl) (JkW (lo := UfS n) (cu := UfR n) (Uh7 n) UiD (UmA n) (fun K _ _ _ _ _ _ _ _ _ _ => by show _ = _; kernel_rfl) fun _ _ => rfl))
theorem Uh6 (n : Nat) : Je6 (K32 R n) (JaJ Uae Ujv) := pO (pC (Uz1 n) pN) (by kernel_rfl)
theorem Uz0 (n : Nat) : K32 R n (true, 17, Ujv) := JkW (lo := UfS n) (cu := UfR n) (Uh6 n) Uiy (Umv n) (fun K _ _ _ _ _ _ _ _ _ => by show _ = _; kernel_rfl) (JkW (lo := UfS n) (cu := UfR n) (Uh6 n) Uiz (Umw n) (fun K _ _ _ _ _ _ _ _ _ _ _ => by show _ = _; kernel_rfl) (JkW (lo := UfS n) (cu := UfR n) (Uh6 n) UiA (Umx n) (fun K _ _ _ _ _ _ _ _ _ _ => by show _ = _; kernel_rfl) fun _ _ => rfl))
theorem Ukn (n : Nat) : Je6 (K32 R n) (JaJ Uae UoD) := pO (pC (UDV n) (pC (Uz2 n) (pC (Uz0 n) pN))) (by kernel_rfl)
theorem UDU (n : Nat) : K32 R n (true, 3, UoD) := JkW (lo := UfS n) (cu := UfR n) (Ukn n) UkO (Uq5 n) (fun K _ _ _ _ _ _ _ _ _ => by show _ = _; kernel_rfl) (JkW (lo := UfS n) (cu := UfR n) (Ukn n) UkP (Uq6 n) (fun K _ _ _ _ _ _ _ _ _ _ _ => by show _ = _; kernel_rfl) (JkW (lo := UfS n) (cu := UfR n) (Ukn n) UkQ (Uq7 n) (fun K _ _ _ _ _ _ _ _ _ _ => by show _ = _; kernel_rfl) fun _ _ => rfl))
theorem UH6 (n : Nat) : Je6 (K32 R n) (JaJ Uae (Jll Tryz.f32)) := pO (pC (UDU n) pN) (by kernel_rfl)
abbrev UIC : Sl (List SV) := (.c (sP (JlI (.c (Jlv .i64) (.c sSh (.c sSh (.c sSh (.c sSh (.c Jlf (.c (JlJ 29 (.c (sFb (.c (Jlv .i64) (.c sSh .n))) (.c (sFb (.c sSh .n)) .n))) .n))))))))) .n)
abbrev UJm (n : Nat) (K : List SV → O R) : UIC.T (O R) := fun x1 x2 x3 x4 x5 x6 x7 x8 x9 => p32 n x1 x2 x3 x4 x5 x6 x7 x8 x9 (fun y1 => K [vI y1])
abbrev UID : Sl (List SV) := (.c (sP (JlI (.c (Jlv .i64) (.c sSh (.c sSh (.c sSh (.c sSh (.c Jlf (.c (JlJ 35 (.c (sFb (.c (Jlv .i64) (.c sSh .n))) (.c (sFb (.c sSh .n)) (.c (sFb (.c sSh .n)) (.c (sFb (.c sSh .n)) .n))))) .n))))))))) .n)
abbrev UJn (n : Nat) (K : List SV → O R) : UID.T (O R) := fun x1 x2 x3 x4 x5 x6 x7 x8 x9 x10 x11 => UDt n x1 x2 x3 x4 x5 x6 x7 x8 x9 x10 x11 (fun y1 => K [vI y1])
abbrev UIE : Sl (List SV) := (.c (sP (JlI (.c (Jlv .i64) (.c sSh (.c sSh (.c sSh (.c sSh (.c Jlf (.c (JlJ 59 (.c (sFb (.c sSh .n)) (.c (sFb (.c (Jlv .i64) (.c sSh .n))) (.c (sFb (.c sSh .n)) .n)))) .n))))))))) .n)
abbrev UJo (n : Nat) (K : List SV → O R) : UIE.T (O R) := fun x1 x2 x3 x4 x5 x6 x7 x8 x9 x10 => UDu n x1 x2 x3 x4 x5 x6 x7 x8 x9 x10 (fun y1 => K [vI y1])
abbrev UEZ (n : Nat) : FS := { om := [false], run := fun args K => Jjg (UIC.ap args (UJm n K)) (Jjg (UID.ap args (UJn n K)) (Jjg (UIE.ap args (UJo n K)) none)) }
theorem UHe (n : Nat) : FSound Tryz.prog GI 32 (UEZ n) := gd Uae n (Ug5 n) Tryz.func32 (.cons (Ug5 n) UIC (UJm n) (fun K _ _ _ _ _ _ _ _ _ => (Jkq (c := Jll Tryz.f32) (by kernel_rfl) (UH6 n) K).trans (by kernel_rfl)) (.cons (Ug5 n) UID (UJn n) (fun K _ _ _ _ _ _ _ _ _ _ _ => (Jkq (c := Jll Tryz.f32) (by kernel_rfl) (UH6 n) K).trans (by kernel_rfl)) (.cons (Ug5 n) UIE (UJo n) (fun K _ _ _ _ _ _ _ _ _ _ => (Jkq (c := Jll Tryz.f32) (by kernel_rfl) (UH6 n) K).trans (by kernel_rfl)) .nil))) (by kernel_rfl)
def UwM : Ann := { loops := [], cuts := [], frz := [], rm := [.id] }
abbrev UBC (n : Nat) : Env := eC 32 (UEZ n) eN
theorem Ups (n : Nat) : EnvOK Tryz.prog GI (UBC n) := .cons (.nil) (UHe n)
def p12 (n : Nat) (x1 : Int) (x2 x3 : LP) (k0 : Int → O R) : O R :=
  p32 n x1 x2 [] [] x3 true x1 x2 x3 (fun y4 => k0 y4)
abbrev UL1 (n : Nat) : Orc R := oN
abbrev ULk (n : Nat) : Orc R := oN
abbrev K12 (R : Type) (n : Nat) := JcH (R := R) Tryz.prog (UBC n) UwM n (10, []) (UL1 n) (ULk n)
theorem UNm (n : Nat) : Je6 (K12 R n) (JaJ UwM (Jll Tryz.f12)) := pO pN (by kernel_rfl)
abbrev t12 : Sl (List SV) := (.c (sP (JlI (.c (Jlv .i64) (.c sSh .n)))) (cH .n))
abbrev f12 (n : Nat) (K : List SV → O R) : t12.T (O R) := fun x1 x2 x3 => p12 n x1 x2 x3 (fun y1 => K [vI y1])
abbrev UF0 (n : Nat) : FS := fT [false, false] t12 (f12 n)
theorem UKv (n : Nat) : FSound Tryz.prog GI 12 (UF0 n) := gd UwM n (Ups n) Tryz.func12 (.cons (Ups n) t12 (f12 n) (fun K _ _ _ => (Jkq (c := Jll Tryz.f12) (by kernel_rfl) (UNm n) K).trans (by kernel_rfl)) .nil) (by kernel_rfl)
end
end Go.Proofs.YtmgfmlhdnadglaaGreatDoor
set_option linter.unusedVariables false
set_option linter.unusedSimpArgs false
namespace Go.Proofs.YtmgfmlhdnadglaaGreatDoor
open Go Th Go.Proofs
variable {R : Type}
theorem Ug1 {p : Rat} : Ulp p 0 < 0 ↔ p < 0 := by
  rcases tri p 0 with h | h | h
  · rw [UoT h]; exact ⟨fun _ => h, fun _ => by decide⟩
  · rw [h, UiO]; exact ⟨fun q => absurd q (by decide), fun q => absurd q (by decide)⟩
  · rw [UoS h]; exact ⟨fun q => absurd q (by decide), fun q => absurd (Rat.le_of_lt h) (Rat.not_le.2 q)⟩
theorem UoR {p : Rat} : Ulp p 0 > 0 ↔ 0 < p := by
  rcases tri p 0 with h | h | h
  · rw [UoT h]; exact ⟨fun q => absurd q (by decide), fun q => absurd (Rat.le_of_lt h) (Rat.not_le.2 q)⟩
  · rw [h, UiO]; exact ⟨fun q => absurd q (by decide), fun q => absurd q (by decide)⟩
  · rw [UoS h]; exact ⟨fun _ => h, fun _ => by decide⟩
theorem UFA (n : Nat) (hn : 10 ^ 1000 ≤ n) (p : Rat) (hp : fits p) (k0 : Int → Option R) : p19 n (bs (Uag p)) (bs [48]) k0 = k0 (Ulp p 0) := by
  rw [← Ujb]; exact UwG n hn p 0 hp Uey k0
structure okRM (cols : Int) (rows : List RowT) (mult : List (List UInt8)) : Prop where
  hc : cols ≤ 2048
  few : rows.length ≤ 2048
  len : mult.length = rows.length
  hr : ∀ r ∈ rows, okR cols r = true
  hm : ∀ m ∈ mult, qb m = true
noncomputable def zsR (rows : List RowT) (mult : List (List UInt8)) : List (SpR × Rat) := (rows.zip mult).map fun x => (spR x.1, rq x.2)
theorem UeK {a b : Int} (h : a ≤ b) {r : SpR} (hr : okF a r) : okF b r := ⟨⟨hr.1.1, UtO h hr.1.2⟩, hr.2⟩
theorem UIL {cols : Int} {rows : List RowT} {mult : List (List UInt8)} (h : okRM cols rows mult) : ∀ y ∈ zsR rows mult, okF cols y.1 := by
  intro y hy
  obtain ⟨x, hx, rfl⟩ := List.mem_map.1 hy
  exact (Uf2 (h.hr _ (List.of_mem_zip hx).1)).1
theorem Uk1 : ∀ {cols : Int}, okF cols ([], 0) := fun {cols} => ⟨⟨trivial, fun t ht => (by cases ht)⟩, Uey⟩
theorem Ufr {α β σ : Type} (f : α → β) (step : σ → β → Option σ) : ∀ (l : List α) (s : σ), UaM (fun s a => step s (f a)) s l = UaM step s (l.map f)
  | [], s => rfl
  | a :: l, s => by
    rw [List.map_cons, UaM, UaM]
    congr 1
    funext s'
    exact Ufr f step l s'
theorem UfY : ∀ (l : List (SpR × Rat)) (s : SpR), Ucu l s = UaM (fun s x => UeA x.2 x.1 s) s l
  | [], s => rfl
  | x :: l, s => by
    rw [Ucu, UaM]
    congr 1
    funext s'
    exact UfY l s'
theorem UAo {cols : Int} {q : Rat} {r s x : SpR} (hr : okF cols r) (hs : okF cols s) (he : UeA q r s = some x) : okF cols x := by
  unfold UeA at he
  by_cases h0 : q = 0
  · rw [if_pos h0, Option.some.injEq] at he; rwa [← he]
  · rw [if_neg h0] at he
    obtain ⟨w, f1, f2⟩ := Option.bind_eq_some_iff.1 he
    exact (Uzj hs (Uus h0 hr f1).1 f2).1
theorem Ung (n : Nat) (hn : 10 ^ 1000 ≤ n) (cols : Int) (rows : List RowT) (mult : List (List UInt8)) (h : okRM cols rows mult) (k0 : List PV → ByteArray → Int → Option R) :
    p30 n cols (rws rows) (sl mult) k0 = Ut k0 (Ucu (zsR rows mult) ([], 0)) := by
  have hN := Uaq (UaR hn)
  have hlen : (rows.zip mult).length = rows.length := by rw [List.length_zip, h.len]; omega
  have hf := h.few
  have hl := h.len
  unfold p30 Uwf
  have H := Udg (R := R) (l := rows.zip mult) (step := fun s x => UeA (rq x.2) (spR x.1) s) (kerr := k0 [] (bs []) 5) (kend := fun s => k0 (tms (vt s.1)) (bs (Uag s.2)) 0) (Inv := fun i s => okF 2048 s)
    (fun m s i => UdC n m (sl mult) cols (rws rows) ByteArray.empty (tms (vt s.1)) (bs (Uag s.2)) ((rws rows).length : Int) (i : Int) (fun y4 y5 y6 y7 y8 => k0 y4 y5 y6) (fun y9 y10 y11 => k0 y10 y11 0))
    (fun m s hs => by
      simp only [UdC, UhE]
      rw [hlen]
      simp (disch := (first | omega | (simp only [JlE]; omega))) only [↓JlH, JlF, Uab])
    (fun s s' i hi hs he => by
      have hr := h.hr _ (List.of_mem_zip (List.getElem_mem hi)).1
      exact UAo (UeK h.hc (Uf2 hr).1) hs he)
    (fun m s i hi hs => by
      have hi1 : i < rows.length := by omega
      have hi2 : i < mult.length := by omega
      have e0 : (rows.zip mult)[i] = (rows[i], mult[i]) := List.getElem_zip
      rw [e0]
      have hr := h.hr rows[i] (List.getElem_mem hi1)
      have hq := h.hm mult[i] (List.getElem_mem hi2)
      obtain ⟨o1, o2, o3⟩ := Uf2 hr
      obtain ⟨m1, m2⟩ := UsF hq
      have o1' := UeK h.hc o1
      simp only [UdC, UhE]
      show _ = UAy _ _ (UeA (rq mult[i]) (spR rows[i]) s)
      unfold UeA
      by_cases h0 : rq mult[i] = 0
      · have e3 : (mult[i] == [48]) = true := Ujt (by rw [m2, h0, Ujb])
        rw [if_pos h0]
        simp (disch := (first | omega | (simp only [JlE]; omega))) only [↓JlH, JlF, Uab, Uaj, Jji, UbS hi2, i1, e3]
        rfl
      · have e3 : (mult[i] == [48]) = false := UiL (by rw [m2]; exact fun q => h0 (Ueu.1 q))
        have g1 : ∀ k : List PV → ByteArray → Int → Option R, p74 n (tms (rows[i]).tm) (bs (rows[i]).c) (bs mult[i]) k = Ut k (tmO (rq mult[i]) (spR rows[i])) := fun k => by
          rw [o2, o3, m2]
          have := UrD (R := R) n hn o1' m1 h0 k
          rw [← m2, ← o2, ← o3] at this ⊢
          exact this
        rw [if_neg h0]
        simp (disch := (first | omega | (simp only [JlE]; omega))) only [↓JlH, JlF, Uab, Uaj, Jji, UbS hi2, UaH hi1, i1, e3, g1]
        cases h1 : tmO (rq mult[i]) (spR rows[i]) with
        | none => rfl
        | some x =>
          have hx := (Uus h0 o1' h1).1
          have g2 : ∀ k : List PV → ByteArray → Int → Option R, p75 n (tms (vt s.1)) (bs (Uag s.2)) (tms (vt x.1)) (bs (Uag x.2)) k = Ut k (plO s x) := fun k => UyM n hn hs hx k
          simp only [Ut, UnC, Uak, g2, Option.bind_some]
          cases plO s x <;> rfl) rows.length n 0 ([], 0) (by omega) (by omega) Uk1
  rw [List.drop_zero, Ufr (fun x : RowT × List UInt8 => (spR x.1, rq x.2)) (fun s x => UeA x.2 x.1 s), ← UfY] at H
  have e48 : (⟨#[48]⟩ : ByteArray) = bs (Uag 0) := by rw [Ujb]; rfl
  rw [e48]
  refine Eq.trans H ?_
  unfold zsR
  cases Ucu ((rows.zip mult).map fun x => (spR x.1, rq x.2)) ([], 0) <;> rfl
noncomputable def UwK (x : RowT × List UInt8) : Bool := x.1.eq || !decide (rq x.2 < 0)
noncomputable def adm (rows : List RowT) (mult : List (List UInt8)) : Bool := (rows.zip mult).all UwK
theorem UgN (n : Nat) (hn : 10 ^ 1000 ≤ n) (cols : Int) (rows : List RowT) (mult : List (List UInt8)) (h : okRM cols rows mult) (k0 : Bool → Option R) :
    p31 n cols (rws rows) (sl mult) k0 = k0 (adm rows mult) := by
  have hN := Uaq (UaR hn)
  have hlen : (rows.zip mult).length = rows.length := by rw [List.length_zip, h.len]; omega
  have hf := h.few
  have hl := h.len
  unfold p31 Uwg
  have H := Uan (R := R) (l := rows.zip mult) (ok := UwK) (kbad := k0 false) (kend := k0 true)
    (fun m i => UdD n m (sl mult) cols (rws rows) ((rws rows).length : Int) (i : Int) (fun y4 => k0 y4) (k0 true))
    (fun m => by
      simp only [UdD, UhF]
      rw [hlen]
      simp (disch := (first | omega | (simp only [JlE]; omega))) only [↓JlH, JlF, Uab])
    (fun m i hi => by
      have hi1 : i < rows.length := by omega
      have hi2 : i < mult.length := by omega
      have e0 : (rows.zip mult)[i] = (rows[i], mult[i]) := List.getElem_zip
      rw [e0]
      obtain ⟨m1, m2⟩ := UsF (h.hm mult[i] (List.getElem_mem hi2))
      have g1 : ∀ k : Int → Option R, p19 n (bs mult[i]) (bs [48]) k = k (Ulp (rq mult[i]) 0) := fun k => by
        have := UFA (R := R) n hn (rq mult[i]) m1 k
        rw [← m2] at this
        exact this
      simp only [UdD, UhF, UwK]
      rcases Bool.eq_false_or_eq_true (rows[i]).eq with he | he
      · simp (disch := (first | omega | (simp only [JlE]; omega))) only [↓JlH, JlF, Uab, Uaj, Jji, UbS hi2, UaH hi1, i1, he]
        simp [he]
      · by_cases h0 : rq mult[i] < 0
        · have h0' := Ug1.2 h0
          simp (disch := (first | omega | (simp only [JlE]; omega))) only [↓JlH, JlF, Uab, Uaj, Jji, UbS hi2, UaH hi1, i1, he, g1]
          simp [h0]
        · have h0' : ¬ Ulp (rq mult[i]) 0 < 0 := fun q => h0 (Ug1.1 q)
          simp (disch := (first | omega | (simp only [JlE]; omega))) only [↓JlH, JlF, Uab, Uaj, Jji, UbS hi2, UaH hi1, i1, he, g1]
          simp [h0]) rows.length n 0 (by omega) (by omega)
  rw [List.drop_zero] at H
  refine Eq.trans H ?_
  unfold adm
  cases (rows.zip mult).all UwK <;> rfl
noncomputable def Unm (rows : List RowT) (mult : List (List UInt8)) (x : SpR) : Bool := (x.1.all fun t => decide (t.2 ≤ 0)) && (adm rows mult && decide (x.2 < 0))
noncomputable def UyN (rows : List RowT) (mult : List (List UInt8)) : Option SpR → Int
  | none => 5
  | some x => if Unm rows mult x = true then 0 else 16
theorem UtV (n : Nat) (hn : 10 ^ 1000 ≤ n) (cols : Int) (rows : List RowT) (mult : List (List UInt8)) (h : okRM cols rows mult) (k0 : Bool → Int → Option R) :
    p29 n cols (rws rows) (sl mult) k0 = match Ucu (zsR rows mult) ([], 0) with
      | none => k0 false 5
      | some x => k0 (Unm rows mult x) 0 := by
  have hN := Uaq (UaR hn)
  unfold p29
  rw [Ung n hn cols rows mult h]
  cases hx : Ucu (zsR rows mult) ([], 0) with
  | none => rfl
  | some x =>
    have ox : okF 2048 x := Ux2 (fun y hy => UeK h.hc (UIL h y hy)) Uk1 hx
    have hL := UbN ox.1
    have g0 := fun k => UgN (R := R) n hn cols rows mult h k
    have g1 := fun k => UFA (R := R) n hn x.2 ox.2 k
    simp only [Ut, UnC, Uak]
    have H := Uan (R := R) (l := x.1) (ok := fun t => decide (t.2 ≤ 0)) (kbad := k0 false 0) (kend := k0 (adm rows mult && decide (x.2 < 0)) 0)
      (fun m i => UdB n m cols (rws rows) (sl mult) (tms (vt x.1)) (bs (Uag x.2)) (tms (vt x.1)) ((tms (vt x.1)).length : Int) (i : Int) (fun y7 y8 y9 y10 y11 y12 y13 => k0 y10 y11)
        (fun y14 y15 y16 y17 y18 => p31 n y14 y15 y16 (fun y19 => bif y19 then (p19 n y18 ⟨#[48]⟩ (fun y20 => k0 (bif true then (decide (y20 < 0)) else false) 0)) else (k0 false 0))))
      (fun m => by
        simp only [UdB, UhD]
        simp (disch := (first | omega | (simp only [JlE]; omega))) only [↓JlH, JlF, Ua, Uau, g0]
        cases adm rows mult with
        | false => rfl
        | true =>
          simp (disch := (first | omega | (simp only [JlE]; omega))) only [↓JlH, JlF, g1]
          by_cases h0 : x.2 < 0
          · have h0' := Ug1.2 h0
            simp [h0, h0']
          · have h0' : ¬ Ulp x.2 0 < 0 := fun q => h0 (Ug1.1 q)
            simp [h0, h0'])
      (fun m i hi => by
        have g2 := fun k => UFA (R := R) n hn (x.1[i]).2 (ox.1.2 _ (List.getElem_mem hi)).2.1 k
        simp only [UdB, UhD]
        by_cases h0 : 0 < (x.1[i]).2
        · have h0' := UoR.2 h0
          have h1 : ¬ (x.1[i]).2 ≤ 0 := Rat.not_le.2 h0
          simp (disch := (first | omega | (simp only [JlE]; omega))) only [↓JlH, JlF, Ua, Uau, Jji, UaI hi, i1, g2]
          simp [h1]
        · have h0' : ¬ Ulp (x.1[i]).2 0 > 0 := fun q => h0 (UoR.1 q)
          have h1 : (x.1[i]).2 ≤ 0 := Rat.not_lt.1 h0
          simp (disch := (first | omega | (simp only [JlE]; omega))) only [↓JlH, JlF, Ua, Uau, Jji, UaI hi, i1, g2] <;> simp [h1]) x.1.length n 0 (by omega) (by omega)
    rw [List.drop_zero] at H
    unfold Uwe
    refine Eq.trans H ?_
    unfold Unm
    cases (x.1.all fun t => decide (t.2 ≤ 0)) <;> rfl
noncomputable def Unn (cols : Int) (rows : List RowT) (mult : List (List UInt8)) : Int :=
  if Um7 cols rows ≠ 0 then 3 else if Uuy mult = false then 3 else if mult.length ≠ rows.length then 6 else UyN rows mult (Ucu (zsR rows mult) ([], 0))
theorem UsM {cols : Int} {rows : List RowT} (h : Um7 cols rows = 0) : 0 ≤ cols ∧ cols ≤ 2048 ∧ rows.length ≤ 2048 ∧ ∀ r ∈ rows, okR cols r = true := by
  unfold Um7 at h
  by_cases h1 : cols < 0
  · rw [if_pos h1] at h; cases h
  rw [if_neg h1] at h
  by_cases h2 : cols > 2048
  · rw [if_pos h2] at h; cases h
  rw [if_neg h2] at h
  by_cases h3 : rows.length > 2048
  · rw [if_pos h3] at h; cases h
  rw [if_neg h3] at h
  cases h4 : rows.all (okR cols) with
  | false => rw [h4] at h; cases h
  | true => exact ⟨by omega, by omega, by omega, fun r hr => List.all_eq_true.1 h4 r hr⟩
theorem UrS {cols : Int} {rows : List RowT} {mult : List (List UInt8)} (h : Um7 cols rows = 0) (hm : Uuy mult = true) (hl : mult.length = rows.length) : okRM cols rows mult := by
  obtain ⟨a, b, c, d⟩ := UsM h
  exact ⟨b, c, hl, d, fun m hm' => List.all_eq_true.1 hm m hm'⟩
theorem UrA (n : Nat) (hn : 10 ^ 1000 ≤ n) (cols : Int) (rows : List RowT) (mult : List (List UInt8)) (hr : smA rows) (hm : smS mult) (k0 : Int → Option R) :
    p12 n cols (rws rows) (sl mult) k0 = k0 (Unn cols rows mult) := by
  have hN := Uaq (UaR hn)
  unfold p12 p32 Unn
  rw [UEG n (UaR hn) cols rows hr]
  by_cases h1 : Um7 cols rows = 0
  · obtain ⟨a, b, c, d⟩ := UsM h1
    have e1 : (Um7 cols rows != 0) = false := by rw [h1]; rfl
    have g1 : ∀ k : Bool → Option R, p76 n cols [] k = k true := fun k => by
      have := Utp (R := R) n (UaR hn) cols b [] ⟨by simp, by simp⟩ k
      exact this
    rw [e1, if_neg (by simp [h1])]
    simp only [Uak, g1, Bool.not_true, Uns n (UaR hn) mult hm]
    cases h2 : Uuy mult with
    | false => rfl
    | true =>
      rw [if_neg (by decide)]
      unfold Usi Uwh Usj
      obtain ⟨m, rfl⟩ : ∃ m, n = m + 1 := ⟨n - 1, by omega⟩
      simp only [UhJ, Ukf, Ue1, UhI]
      by_cases h3 : mult.length = rows.length
      · have e3 : ((mult.length : Int) != (rows.length : Int)) = false := by simp [h3]
        simp (disch := (first | omega | (simp only [JlE]; omega))) only [↓JlH, JlF, Uaj, Uab, e3, UhG, UhH, UtV (m + 1) hn cols rows mult (UrS h1 h2 h3)]
        cases Ucu (zsR rows mult) ([], 0) with
        | none => rfl
        | some x =>
          simp only [UyN]
          cases Unm rows mult x <;> rfl
      · have e3 : ((mult.length : Int) != (rows.length : Int)) = true := by simp; omega
        simp (disch := (first | omega | (simp only [JlE]; omega))) only [↓JlH, JlF, Uaj, Uab, e3]
  · have e1 : (Um7 cols rows != 0) = true := by simp [h1]
    rw [e1, if_pos h1]; rfl
end Go.Proofs.YtmgfmlhdnadglaaGreatDoor
set_option linter.unusedVariables false
set_option maxRecDepth 100000
namespace Go.Proofs.YtmgfmlhdnadglaaGreatDoor
open Go Th Go.Proofs
noncomputable section
variable {R : Type}
abbrev t45 : Sl (List SV) := (.c (sP (JlI (.c Jlf (.c sSh (.c Jlf (.c sSh .n)))))) .n)
def UnL : Ann := { loops := [], cuts := [], frz := [], rm := [.id] }
abbrev Uvo (n : Nat) : Env := eN
theorem UlL (n : Nat) : EnvOK Tryz.prog GI (Uvo n) := .nil
def UFj (n : Nat) (x1 : Bool) (x2 : LP) (k0 : Bool → O R) : O R :=
  k0 (decide (((x2).length : Int) > 400))
abbrev UGp (n : Nat) : Orc R := oN
abbrev UFF (n : Nat) : Orc R := oN
abbrev UK8 (R : Type) (n : Nat) := JcH (R := R) Tryz.prog (Uvo n) UnL n (7, []) (UGp n) (UFF n)
theorem UHE (n : Nat) : Je6 (UK8 R n) (JaJ UnL (Jll Tryz.f111)) := pO pN (by kernel_rfl)
abbrev UIi : Sl (List SV) := (.c (sP (JlI (.c Jlf (.c sSh .n)))) .n)
abbrev f111 (n : Nat) (K : List SV → O R) : UIi.T (O R) := fun x1 x2 => UFj n x1 x2 (fun y1 => K [vB y1])
abbrev UCt (n : Nat) : FS := fT [false] UIi (f111 n)
theorem UGO (n : Nat) : FSound Tryz.prog GI 111 (UCt n) := gd UnL n (UlL n) Tryz.func111 (.cons (UlL n) UIi (f111 n) (fun K _ _ => (Jkq (c := Jll Tryz.f111) (by kernel_rfl) (UHE n) K).trans (by kernel_rfl)) .nil) (by kernel_rfl)
def Uw8 : Ann := { loops := [], cuts := [], frz := [], rm := [.id] }
abbrev UBY (n : Nat) : Env := eC 111 (UCt n) eN
theorem Uqd (n : Nat) : EnvOK Tryz.prog GI (UBY n) := .cons (.nil) (UGO n)
def p71 (n : Nat) (x1 : Bool) (x2 : LP) (x3 : Bool) (x4 : LP) (k0 : Bool → O R) : O R :=
  UFj n x1 x2 (fun y5 => bif y5 then (k0 true) else (UFj n x3 x4 (fun y6 => k0 (bif false then true else y6))))
abbrev UMm (n : Nat) : Orc R := oN
abbrev ULG (n : Nat) : Orc R := oN
abbrev K71 (R : Type) (n : Nat) := JcH (R := R) Tryz.prog (UBY n) Uw8 n (11, []) (UMm n) (ULG n)
theorem UN7 (n : Nat) : Je6 (K71 R n) (JaJ Uw8 (Jll Tryz.f71)) := pO pN (by kernel_rfl)
abbrev t71 : Sl (List SV) := (.c (sP (JlI (.c Jlf (.c sSh (.c Jlf (.c sSh .n)))))) .n)
abbrev f71 (n : Nat) (K : List SV → O R) : t71.T (O R) := fun x1 x2 x3 x4 => p71 n x1 x2 x3 x4 (fun y1 => K [vB y1])
abbrev UGa (n : Nat) : FS := fT [false] t71 (f71 n)
theorem UKG (n : Nat) : FSound Tryz.prog GI 71 (UGa n) := gd Uw8 n (Uqd n) Tryz.func71 (.cons (Uqd n) t71 (f71 n) (fun K _ _ _ _ => (Jkq (c := Jll Tryz.f71) (by kernel_rfl) (UN7 n) K).trans (by kernel_rfl)) .nil) (by kernel_rfl)
def Uxj : Ann := { loops := [], cuts := [], frz := [], rm := [.id] }
abbrev UC (n : Nat) : Env := eC 124 (UyS n) (eC 123 (UrC n) (eC 89 (UE5 n) eN))
theorem Uqt (n : Nat) : EnvOK Tryz.prog GI (UC n) := .cons (.cons (.cons (.nil) (UHk n)) (UtN n)) (UDc n)
def p91 (n : Nat) (x1 : Bool) (x2 : LP) (x3 : Bool) (x4 : LP) (x5 : Bool) (x6 : LP) (x7 : Bool) (x8 : LP) (k0 : Bool → LP → Bool → LP → O R) : O R :=
  p89 n x1 x2 x7 x8 (fun y9 y10 => p89 n x5 x6 x3 x4 (fun y11 y12 => UDn n y9 y10 y11 y12 (fun y13 y14 => p89 n x3 x4 x7 x8 (fun y15 y16 => Uv7 n y13 y14 y15 y16 (fun y17 y18 y19 y20 => k0 y17 y18 y19 y20)))))
abbrev UMy (n : Nat) : Orc R := oN
abbrev ULS (n : Nat) : Orc R := oN
abbrev K91 (R : Type) (n : Nat) := JcH (R := R) Tryz.prog (UC n) Uxj n (22, []) (UMy n) (ULS n)
theorem UOm (n : Nat) : Je6 (K91 R n) (JaJ Uxj (Jll Tryz.f91)) := pO pN (by kernel_rfl)
abbrev t91 : Sl (List SV) := (.c (sP (JlI (.c Jlf (.c sSh (.c Jlf (.c sSh .n)))))) (.c (sP (JlI (.c Jlf (.c sSh (.c Jlf (.c sSh .n)))))) .n))
abbrev f91 (n : Nat) (K : List SV → O R) : t91.T (O R) := fun x1 x2 x3 x4 x5 x6 x7 x8 => p91 n x1 x2 x3 x4 x5 x6 x7 x8 (fun y1 y2 y3 y4 => K [.p (.agg [.v (.bool y1), .sh y2, .v (.bool y3), .sh y4])])
abbrev UGf (n : Nat) : FS := fT [false, false] t91 (f91 n)
theorem UKL (n : Nat) : FSound Tryz.prog GI 91 (UGf n) := gd Uxj n (Uqt n) Tryz.func91 (.cons (Uqt n) t91 (f91 n) (fun K _ _ _ _ _ _ _ _ => (Jkq (c := Jll Tryz.f91) (by kernel_rfl) (UOm n) K).trans (by kernel_rfl)) .nil) (by kernel_rfl)
def UnJ : Ann := { loops := [], cuts := [], frz := [], rm := [.id] }
abbrev Uvm (n : Nat) : Env := eC 123 (UrC n) (eC 89 (UE5 n) eN)
theorem UlI (n : Nat) : EnvOK Tryz.prog GI (Uvm n) := .cons (.cons (.nil) (UHk n)) (UtN n)
def UAE (n : Nat) (x1 : Bool) (x2 : LP) (x3 : Bool) (x4 : LP) (x5 : Bool) (x6 : LP) (x7 : Bool) (x8 : LP) (k0 : Bool → LP → Bool → LP → O R) : O R :=
  p89 n x1 x2 x5 x6 (fun y9 y10 => p89 n x3 x4 x7 x8 (fun y11 y12 => Uv7 n y9 y10 y11 y12 (fun y13 y14 y15 y16 => k0 y13 y14 y15 y16)))
abbrev UGn (n : Nat) : Orc R := oN
abbrev UFD (n : Nat) : Orc R := oN
abbrev UK6 (R : Type) (n : Nat) := JcH (R := R) Tryz.prog (Uvm n) UnJ n (16, []) (UGn n) (UFD n)
theorem UHB (n : Nat) : Je6 (UK6 R n) (JaJ UnJ (Jll Tryz.f108)) := pO pN (by kernel_rfl)
abbrev UIg : Sl (List SV) := (.c (sP (JlI (.c Jlf (.c sSh (.c Jlf (.c sSh .n)))))) (.c (sP (JlI (.c Jlf (.c sSh (.c Jlf (.c sSh .n)))))) .n))
abbrev f108 (n : Nat) (K : List SV → O R) : UIg.T (O R) := fun x1 x2 x3 x4 x5 x6 x7 x8 => UAE n x1 x2 x3 x4 x5 x6 x7 x8 (fun y1 y2 y3 y4 => K [.p (.agg [.v (.bool y1), .sh y2, .v (.bool y3), .sh y4])])
abbrev UCs (n : Nat) : FS := fT [false, false] UIg (f108 n)
theorem UGN (n : Nat) : FSound Tryz.prog GI 108 (UCs n) := gd UnJ n (UlI n) Tryz.func108 (.cons (UlI n) UIg (f108 n) (fun K _ _ _ _ _ _ _ _ => (Jkq (c := Jll Tryz.f108) (by kernel_rfl) (UHB n) K).trans (by kernel_rfl)) .nil) (by kernel_rfl)
abbrev t44 : Sl (List SV) := (.c (sP (JlI (.c Jlf (.c sSh (.c Jlf (.c sSh .n)))))) (.c (sP (JlI (.c Jlf (.c sSh (.c Jlf (.c sSh .n)))))) .n))
def Uw9 : Ann := { loops := [], cuts := [], frz := [], rm := [.id] }
abbrev UBZ (n : Nat) : Env := eC 77 (UCW n) eN
theorem Uqe (n : Nat) : EnvOK Tryz.prog GI (UBZ n) := .cons (.nil) (UFg n)
def p72 (n : Nat) (x1 : Bool) (x2 : LP) (x3 : Bool) (x4 : LP) (k0 : Bool → O R) : O R :=
  p77 n x1 x2 (fun y5 => k0 y5)
abbrev UMn (n : Nat) : Orc R := oN
abbrev ULH (n : Nat) : Orc R := oN
abbrev K72 (R : Type) (n : Nat) := JcH (R := R) Tryz.prog (UBZ n) Uw9 n (6, []) (UMn n) (ULH n)
theorem UN8 (n : Nat) : Je6 (K72 R n) (JaJ Uw9 (Jll Tryz.f72)) := pO pN (by kernel_rfl)
abbrev t72 : Sl (List SV) := (.c (sP (JlI (.c Jlf (.c sSh (.c Jlf (.c sSh .n)))))) .n)
abbrev f72 (n : Nat) (K : List SV → O R) : t72.T (O R) := fun x1 x2 x3 x4 => p72 n x1 x2 x3 x4 (fun y1 => K [vB y1])
abbrev UJ0 (n : Nat) : FS := fT [false] t72 (f72 n)
theorem UM8 (n : Nat) : FSound Tryz.prog GI 72 (UJ0 n) := gd Uw9 n (Uqe n) Tryz.func72 (.cons (Uqe n) t72 (f72 n) (fun K _ _ _ _ => (Jkq (c := Jll Tryz.f72) (by kernel_rfl) (UN8 n) K).trans (by kernel_rfl)) .nil) (by kernel_rfl)
end
end Go.Proofs.YtmgfmlhdnadglaaGreatDoor
set_option linter.unusedVariables false
set_option linter.unusedSimpArgs false
namespace Go.Proofs.YtmgfmlhdnadglaaGreatDoor
open Go Th Go.Proofs
variable {R : Type}
theorem Ucx {q : Rat} : fits q ↔ ll q.num.natAbs ≤ 400 ∧ ll q.den ≤ 400 := by
  unfold fits; rw [Udt, Udt]
theorem Unc (p q : Rat) : Rat.divInt (p.num * q.den + q.num * p.den) ((p.den * q.den : Nat) : Int) = p + q := by rw [Rat.divInt_ofNat, Uv1]
theorem Unr (p q : Rat) : Rat.divInt (p.num * q.num) ((p.den * q.den : Nat) : Int) = p * q := by rw [Rat.divInt_ofNat, Uv2]
theorem Uj5 {x y : Int} {i j : Nat} (hx : ll x.natAbs ≤ i) (hy : ll y.natAbs ≤ j) : ll (x * y).natAbs ≤ i + j := by
  rw [Int.natAbs_mul]
  exact Nat.le_trans (UmH _ _) (Nat.add_le_add hx hy)
theorem Uy5 {x y : Int} {i : Nat} (hx : ll x.natAbs ≤ i) (hy : ll y.natAbs ≤ i) : ll (x + y).natAbs ≤ i + 1 :=
  Nat.le_trans (Ua5 (Int.natAbs_add_le x y)) (UvY hx hy)
theorem Ubb (a : Nat) : ll ((a : Int)).natAbs = ll a := by rw [Int.natAbs_natCast]
section
variable (n : Nat) (hn : 10 ^ 1000 ≤ n) (p q : Rat) (hp : fits p) (hq : fits q)
include hp hq
include hn
theorem UfK (k0 : Bool → List PV → Bool → List PV → Option R) : p91 n (sg p.num) (II p.num.natAbs) false (II p.den) (sg q.num) (II q.num.natAbs) false (II q.den) k0 = k0 (sg (p + q).num) (II (p + q).num.natAbs) false (II (p + q).den) := by
  obtain ⟨a1, a2⟩ := Ucx.1 hp
  obtain ⟨b1, b2⟩ := Ucx.1 hq
  have hN := Uaq (UaR hn)
  have hw : ((p.den * q.den : Nat) : Int) ≠ 0 := by have := Nat.mul_ne_zero p.den_nz q.den_nz; omega
  have m1 := fun k => UdZ (R := R) n p.num (q.den : Int) (by omega) (by rw [Ubb]; omega) hN k
  have m2 := fun k => UdZ (R := R) n q.num (p.den : Int) (by omega) (by rw [Ubb]; omega) hN k
  have m3 := fun k => UdZ (R := R) n (p.den : Int) (q.den : Int) (by rw [Ubb]; omega) (by rw [Ubb]; omega) hN k
  have l1 : ll (p.num * (q.den : Int)).natAbs ≤ 800 := Uj5 a1 (by rw [Ubb]; exact b2)
  have l2 : ll (q.num * (p.den : Int)).natAbs ≤ 800 := Uj5 b1 (by rw [Ubb]; exact a2)
  have l3 := Uy5 l1 l2
  have l4 : ll ((p.den * q.den : Nat) : Int).natAbs ≤ 800 := by rw [Ubb]; exact Nat.le_trans (UmH _ _) (by omega)
  have m4 := fun k => UsB (R := R) n (p.num * (q.den : Int)) (q.num * (p.den : Int)) (by omega) (by omega) hN k
  have m5 := fun k => UrQ (R := R) n (p.num * (q.den : Int) + q.num * (p.den : Int)) ((p.den * q.den : Nat) : Int) hw (by omega) (by omega) hN (by rw [Int.natAbs_natCast]; exact UFa hn hp.2 hq.2) k
  rw [Unc] at m5
  have e : (p.den : Int) * (q.den : Int) = ((p.den * q.den : Nat) : Int) := by rw [Int.natCast_mul]
  rw [e] at m3
  simp only [UbT, Int.natAbs_natCast] at m1 m2 m3 m5
  simp only [p91, m1, m2, m3, m4, m5]
theorem Uj (k0 : Bool → List PV → Bool → List PV → Option R) : UAE n (sg p.num) (II p.num.natAbs) false (II p.den) (sg q.num) (II q.num.natAbs) false (II q.den) k0 = k0 (sg (p * q).num) (II (p * q).num.natAbs) false (II (p * q).den) := by
  obtain ⟨a1, a2⟩ := Ucx.1 hp
  obtain ⟨b1, b2⟩ := Ucx.1 hq
  have hN := Uaq (UaR hn)
  have hw : ((p.den * q.den : Nat) : Int) ≠ 0 := by have := Nat.mul_ne_zero p.den_nz q.den_nz; omega
  have m1 := fun k => UdZ (R := R) n p.num q.num (by omega) (by omega) hN k
  have m3 := fun k => UdZ (R := R) n (p.den : Int) (q.den : Int) (by rw [Ubb]; omega) (by rw [Ubb]; omega) hN k
  have l1 : ll (p.num * q.num).natAbs ≤ 800 := Uj5 a1 b1
  have l4 : ll ((p.den * q.den : Nat) : Int).natAbs ≤ 800 := by rw [Ubb]; exact Nat.le_trans (UmH _ _) (by omega)
  have m5 := fun k => UrQ (R := R) n (p.num * q.num) ((p.den * q.den : Nat) : Int) hw (by omega) (by omega) hN (by rw [Int.natAbs_natCast]; exact UFa hn hp.2 hq.2) k
  rw [Unr] at m5
  have e : (p.den : Int) * (q.den : Int) = ((p.den * q.den : Nat) : Int) := by rw [Int.natCast_mul]
  rw [e] at m3
  simp only [UbT, Int.natAbs_natCast] at m1 m3 m5
  simp only [UAE, m1, m3, m5]
end
end Go.Proofs.YtmgfmlhdnadglaaGreatDoor
set_option linter.unusedVariables false
set_option maxRecDepth 100000
namespace Go.Proofs.YtmgfmlhdnadglaaGreatDoor
open Go Th Go.Proofs
noncomputable section
variable {R : Type}
def Ufj : Ann := { loops := [(3, [(1, .id), (5, .own 66), (6, .id)], ids [1, 2, 3, 4, 5])], cuts := [(4, ids [1, 5, 6], ids [1, 2, 3, 4, 5, 6])], frz := [], rm := [.sh, .id, .id] }
abbrev Uyi (n : Nat) : Env := eC 73 (UGb n) (eC 72 (UJ0 n) (eC 71 (UGa n) eN))
theorem UpD (n : Nat) : EnvOK Tryz.prog GI (Uyi n) := .cons (.cons (.cons (.nil) (UKG n)) (UM8 n)) (UKH n)
def Uf3 (n : Nat) (x1 : LP) (x2 : Bool) (x3 : LP) (x4 : Bool) (x5 x6 : LP) (x7 : Int) (k0 : LP → Bool → LP → Bool → LP → LP → Int → O R) : O R :=
  k0 x1 x2 x3 x4 x5 x6 (IntKind.i64.wrap (x7 + 1))
def Udz (n : Nat) (l0 : LP → Bool → LP → Bool → LP → LP → Int → O R) (x1 : LP) (x2 : Bool) (x3 : LP) (x4 : Bool) (x5 x6 : LP) (x7 : Int) (k0 : LP → Bool → LP → Bool → LP → ByteArray → Int → LP → O R) (k1 : LP → Bool → LP → Bool → LP → LP → O R) : O R :=
  bif (decide (x7 < ((x1).length : Int))) then (bif (inR x7 ((x1).length)) then (Jh2 ((x1).getD ((x7 : Int).toNat) (.v (.bool false))) fun a8 => JdT a8 fun h9 t10 => Jj2 h9 fun e11 => JdT t10 fun h12 t13 => Jkr h12 fun e14 => JdT t13 fun h15 t16 => Jj2 h15 fun e17 => JdT t16 fun h18 t19 => Jkr h18 fun e20 => Ji2 t19 (p71 n e11 e14 e17 e20 (fun y21 => bif y21 then (k0 x1 x2 x3 x4 x5 ⟨#[]⟩ 5 x6) else (bif (inR x7 ((x1).length)) then (Jh2 ((x1).getD ((x7 : Int).toNat) (.v (.bool false))) fun a22 => JdT a22 fun h23 t24 => Jj2 h23 fun e25 => JdT t24 fun h26 t27 => Jkr h26 fun e28 => JdT t27 fun h29 t30 => Jj2 h29 fun e31 => JdT t30 fun h32 t33 => Jkr h32 fun e34 => Ji2 t33 (p72 n e25 e28 e31 e34 (fun y35 => bif (!y35) then (bif (inR x7 ((x1).length)) then (Jh2 ((x1).getD ((x7 : Int).toNat) (.v (.bool false))) fun a36 => JdT a36 fun h37 t38 => Jj2 h37 fun e39 => JdT t38 fun h40 t41 => Jkr h40 fun e42 => JdT t41 fun h43 t44 => Jj2 h43 fun e45 => JdT t44 fun h46 t47 => Jkr h46 fun e48 => Ji2 t47 (p73 n e39 e42 e45 e48 (fun y49 => bif (Jbu ((x6).length + 1) 24) then (Uf3 n x1 x2 x3 x4 x5 (x6 ++ ([.agg [.v (.int .i64 x7), .v (.string y49)]] : LP)) x7 (fun y50 y51 y52 y53 y54 y55 y56 => l0 y50 y51 y52 y53 y54 y55 y56)) else none))) else none) else (Uf3 n x1 x2 x3 x4 x5 x6 x7 (fun y57 y58 y59 y60 y61 y62 y63 => l0 y57 y58 y59 y60 y61 y62 y63))))) else none)))) else none) else (k1 x1 x2 x3 x4 x5 x6)
def UbR (n : Nat) : Nat → LP → Bool → LP → Bool → LP → LP → Int → (LP → Bool → LP → Bool → LP → ByteArray → Int → LP → O R) → (LP → Bool → LP → Bool → LP → LP → O R) → O R
  | 0, _, _, _, _, _, _, _, _, _ => none
  | m + 1, x1, x2, x3, x4, x5, x6, x7, k0, k1 => Udz n (fun x1 x2 x3 x4 x5 x6 x7 => UbR n m x1 x2 x3 x4 x5 x6 x7 k0 k1) x1 x2 x3 x4 x5 x6 x7 k0 k1
def Uwb (n : Nat) (x1 : LP) (x2 : Bool) (x3 : LP) (x4 : Bool) (x5 x6 : LP) (x7 : Int) (k0 : LP → Bool → LP → Bool → LP → ByteArray → Int → LP → O R) (k1 : LP → Bool → LP → Bool → LP → LP → O R) : O R := UbR n n x1 x2 x3 x4 x5 x6 x7 k0 k1
def p25 (n : Nat) (x1 : LP) (x2 : Bool) (x3 : LP) (x4 : Bool) (x5 : LP) (k0 : LP → ByteArray → Int → O R) : O R :=
  Uwb n x1 x2 x3 x4 x5 [] 0 (fun y6 y7 y8 y9 y10 y11 y12 y13 => k0 [] y11 y12) (fun y14 y15 y16 y17 y18 y19 => p71 n y15 y16 y17 y18 (fun y20 => bif y20 then (k0 [] ⟨#[]⟩ 5) else (p73 n y15 y16 y17 y18 (fun y21 => k0 y19 y21 0))))
abbrev E25 (n : Nat) : Code → Fr → Kc R → O R := evC Tryz.prog (Uyi n) Ufj n (45, [])
noncomputable def UuG : Code := Jj4 (Jll Tryz.f25) [1, 1, 0, 1, 0, 0, 1, 1]
abbrev UsR : Sl (List SV) := (.c (sBx 59 (cH (cB (cH (cB (cH .n)))))) (cO 66 (cI .n)))
abbrev UvF (n : Nat) (K : Kc R) : UsR.T (O R) := fun x1 x2 x3 x4 x5 x6 x7 => Uf3 n x1 x2 x3 x4 x5 x6 x7 (fun y1 y2 y3 y4 y5 y6 y7 => xC Ufj 4 K .normal [.bx 59 [vH y1, vB y2, vH y3, vB y4, vH y5], dD, dD, dD, .own 66 y6, vI y7])
noncomputable def UuH : Code := Jj4 (Jll Tryz.f25) [1, 1, 0, 1, 0, 0]
abbrev Ugi : Sl (List SV) := (.c (sBx 59 (cH (cB (cH (cB (cH .n)))))) (cO 66 (cI .n)))
abbrev UqZ (n m : Nat) (K : Kc R) : Ugi.T (O R) := fun x1 x2 x3 x4 x5 x6 x7 => UbR n m x1 x2 x3 x4 x5 x6 x7 (fun y1 y2 y3 y4 y5 y6 y7 y8 => xL Ufj 3 K .ret [.bx 59 [vH y1, vB y2, vH y3, vB y4, vH y5], .nl, vS y6, vI y7, .own 66 y8]) (fun y1 y2 y3 y4 y5 y6 => xL Ufj 3 K (.exit 0) [.bx 59 [vH y1, vB y2, vH y3, vB y4, vH y5], dD, dD, dD, .own 66 y6])
abbrev UAU (n : Nat) (K : Kc R) (l0 : Ugi.T (O R)) : Ugi.T (O R) := fun x1 x2 x3 x4 x5 x6 x7 => Udz n l0 x1 x2 x3 x4 x5 x6 x7 (fun y1 y2 y3 y4 y5 y6 y7 y8 => xL Ufj 3 K .ret [.bx 59 [vH y1, vB y2, vH y3, vB y4, vH y5], .nl, vS y6, vI y7, .own 66 y8]) (fun y1 y2 y3 y4 y5 y6 => xL Ufj 3 K (.exit 0) [.bx 59 [vH y1, vB y2, vH y3, vB y4, vH y5], dD, dD, dD, .own 66 y6])
abbrev UGC (n : Nat) : Orc R := oL Ufj (E25 n) n 3 UuH Ugi (UqZ n n) oN
abbrev UFS (n : Nat) : Orc R := oC Ufj (E25 n) 4 UuG UsR (UvF n) oN
abbrev K25 (R : Type) (n : Nat) := JcH (R := R) Tryz.prog (Uyi n) Ufj n (45, []) (UGC n) (UFS n)
theorem UDM (n : Nat) : K25 R n (true, 4, UuG) := JkW (lo := UGC n) (cu := UFS n) (pO pN (by kernel_rfl)) UsR (UvF n) (fun K _ _ _ _ _ _ _ => by show _ = _; kernel_rfl) fun _ _ => rfl
theorem UDN (n : Nat) : K25 R n (false, 3, UuH) := JkF (lo := UGC n) (cu := UFS n) (pO (pC (UDM n) pN) (by kernel_rfl)) Ugi (UqZ n n) (JiE (F := UqZ n) Ugi (UAU n) (fun K _ _ _ _ _ _ _ => rfl) (fun _ _ => rfl) (fun L K _ _ _ _ _ _ _ => by show _ = _; kernel_rfl) n) fun _ _ => rfl
theorem UNx (n : Nat) : Je6 (K25 R n) (JaJ Ufj (Jll Tryz.f25)) := pO (pC (UDN n) pN) (by kernel_rfl)
abbrev t25 : Sl (List SV) := (.c (sP (JlI (.c sSh (.c Jlf (.c sSh (.c Jlf (.c sSh .n))))))) .n)
abbrev f25 (n : Nat) (K : List SV → O R) : t25.T (O R) := fun x1 x2 x3 x4 x5 => p25 n x1 x2 x3 x4 x5 (fun y1 y2 y3 => K [vH y1, vS y2, vI y3])
abbrev UJE (n : Nat) : FS := fT [false] t25 (f25 n)
theorem UMM (n : Nat) : FSound Tryz.prog GI 25 (UJE n) := gd Ufj n (UpD n) Tryz.func25 (.cons (UpD n) t25 (f25 n) (fun K _ _ _ _ _ => (Jkq (c := Jll Tryz.f25) (by kernel_rfl) (UNx n) K).trans (by kernel_rfl)) .nil) (by kernel_rfl)
def UnP : Ann := { loops := [], cuts := [], frz := [], rm := [.id] }
abbrev Uvs (n : Nat) : Env := eN
theorem UlY (n : Nat) : EnvOK Tryz.prog GI (Uvs n) := .nil
def UHo (n : Nat)  (k0 : ByteArray → O R) : O R :=
  bif (Je5 0 (IntKind.i64.wrap (0 + 1)) ((⟨#[48, 49, 50, 51, 52, 53, 54, 55, 56, 57]⟩ : ByteArray)).size) then (k0 (ByteArray.extract (⟨#[48, 49, 50, 51, 52, 53, 54, 55, 56, 57]⟩ : ByteArray) (0 : Int).toNat (IntKind.i64.wrap (0 + 1) : Int).toNat)) else none
abbrev UGt (n : Nat) : Orc R := oN
abbrev UFJ (n : Nat) : Orc R := oN
abbrev ULb (R : Type) (n : Nat) := JcH (R := R) Tryz.prog (Uvs n) UnP n (36, []) (UGt n) (UFJ n)
theorem UHR (n : Nat) : Je6 (ULb R n) (JaJ UnP (Jll Tryz.f126)) := pO pN (by kernel_rfl)
abbrev UIs : Sl (List SV) := (.c (sP (Jlw .i64 0)) .n)
abbrev f126 (n : Nat) (K : List SV → O R) : UIs.T (O R) := UHo n  (fun y1 => K [vS y1])
abbrev UCA (n : Nat) : FS := fT [false] UIs (f126 n)
theorem UGV (n : Nat) : FSound Tryz.prog GI 126 (UCA n) := gd UnP n (UlY n) Tryz.func126 (.cons (UlY n) UIs (f126 n) (fun K => (Jkq (c := Jll Tryz.f126) (by kernel_rfl) (UHR n) K).trans (by kernel_rfl)) .nil) (by kernel_rfl)
def Uxk : Ann := { loops := [], cuts := [], frz := [], rm := [.id] }
abbrev UCa (n : Nat) : Env := eC 126 (UCA n) (eC 125 (UyT n) (eC 123 (UrC n) (eC 110 (UrB n) eN)))
theorem Uqu (n : Nat) : EnvOK Tryz.prog GI (UCa n) := .cons (.cons (.cons (.cons (.nil) (UtM n)) (UtN n)) (UDd n)) (UGV n)
def p92 (n : Nat)  (k0 : Bool → LP → Bool → LP → O R) : O R :=
  UHo n (fun y1 => Uv8 n y1 (fun y2 y3 => UtP n (fun y4 y5 => Uv7 n y2 y3 y4 y5 (fun y6 y7 y8 y9 => k0 y6 y7 y8 y9))))
abbrev UMz (n : Nat) : Orc R := oN
abbrev ULT (n : Nat) : Orc R := oN
abbrev K92 (R : Type) (n : Nat) := JcH (R := R) Tryz.prog (UCa n) Uxk n (8, []) (UMz n) (ULT n)
theorem UOn (n : Nat) : Je6 (K92 R n) (JaJ Uxk (Jll Tryz.f92)) := pO pN (by kernel_rfl)
abbrev t92 : Sl (List SV) := (.c (sP (Jlw .i64 0)) .n)
abbrev f92 (n : Nat) (K : List SV → O R) : t92.T (O R) := p92 n  (fun y1 y2 y3 y4 => K [.p (.agg [.v (.bool y1), .sh y2, .v (.bool y3), .sh y4])])
abbrev UGg (n : Nat) : FS := fT [false] t92 (f92 n)
theorem UKM (n : Nat) : FSound Tryz.prog GI 92 (UGg n) := gd Uxk n (Uqu n) Tryz.func92 (.cons (Uqu n) t92 (f92 n) (fun K => (Jkq (c := Jll Tryz.f92) (by kernel_rfl) (UOn n) K).trans (by kernel_rfl)) .nil) (by kernel_rfl)
def Ujo : Ann := { loops := [(3, [(0, .id), (2, .id), (3, .cs [some 57, none, none, none, none]), (4, .id)], ids [2, 3])], cuts := [], frz := [1000006, 1000018], rm := [.cs [some 57, none, none, none, none]] }
abbrev UyB (n : Nat) : Env := eC 92 (UGg n) eN
theorem Up9 (n : Nat) : EnvOK Tryz.prog GI (UyB n) := .cons (.nil) (UKM n)
def UhW (n : Nat) (l0 : Int → Bool → Bool → LP → Bool → LP → Bool → LP → Int → O R) (x1 : Int) (x2 x3 : Bool) (x4 : LP) (x5 : Bool) (x6 : LP) (x7 : Bool) (x8 : LP) (x9 : Int) (k0 : Bool → Bool → LP → Bool → LP → Bool → LP → O R) : O R :=
  bif (decide (x9 < x1)) then (p92 n (fun y10 y11 y12 y13 => bif (Jbu ((x4).length + 1) 64) then (l0 x1 x2 x3 (x4 ++ ([.agg [.v (.bool y10), .sh y11, .v (.bool y12), .sh y13]] : LP)) x5 x6 x7 x8 (IntKind.i64.wrap (x9 + 1))) else none)) else (k0 x2 x3 x4 x5 x6 x7 x8)
def UdO (n : Nat) : Nat → Int → Bool → Bool → LP → Bool → LP → Bool → LP → Int → (Bool → Bool → LP → Bool → LP → Bool → LP → O R) → O R
  | 0, _, _, _, _, _, _, _, _, _, _ => none
  | m + 1, x1, x2, x3, x4, x5, x6, x7, x8, x9, k0 => UhW n (fun x1 x2 x3 x4 x5 x6 x7 x8 x9 => UdO n m x1 x2 x3 x4 x5 x6 x7 x8 x9 k0) x1 x2 x3 x4 x5 x6 x7 x8 x9 k0
def Uws (n : Nat) (x1 : Int) (x2 x3 : Bool) (x4 : LP) (x5 : Bool) (x6 : LP) (x7 : Bool) (x8 : LP) (x9 : Int) (k0 : Bool → Bool → LP → Bool → LP → Bool → LP → O R) : O R := UdO n n x1 x2 x3 x4 x5 x6 x7 x8 x9 k0
def p67 (n : Nat) (x1 : Int) (k0 : LP → Bool → LP → Bool → LP → O R) : O R :=
  p92 n (fun y2 y3 y4 y5 => Uws n x1 false false [] y2 y3 y4 y5 0 (fun y6 y7 y8 y9 y10 y11 y12 => k0 y8 y9 y10 y11 y12))
abbrev E67 (n : Nat) : Code → Fr → Kc R → O R := evC Tryz.prog (UyB n) Ujo n (19, [])
noncomputable def Uu4 : Code := Jj4 (Jll Tryz.f67) [1, 1, 0, 1, 0, 0]
abbrev UgB : Sl (List SV) := (cI (.c (sBx 59 (.c sNl (cB (.c sNl (cB (.c sNl .n)))))) (.c (sBx 59 (cO 57 (cB (cH (cB (cH .n)))))) (cI .n))))
abbrev Urn (n m : Nat) (K : Kc R) : UgB.T (O R) := fun x1 x2 x3 x4 x5 x6 x7 x8 x9 => UdO n m x1 x2 x3 x4 x5 x6 x7 x8 x9 (fun y1 y2 y3 y4 y5 y6 y7 => xL Ujo 3 K (.exit 0) [.bx 59 [.nl, vB y1, .nl, vB y2, .nl], .bx 59 [.own 57 y3, vB y4, vH y5, vB y6, vH y7]])
abbrev UBc (n : Nat) (K : Kc R) (l0 : UgB.T (O R)) : UgB.T (O R) := fun x1 x2 x3 x4 x5 x6 x7 x8 x9 => UhW n l0 x1 x2 x3 x4 x5 x6 x7 x8 x9 (fun y1 y2 y3 y4 y5 y6 y7 => xL Ujo 3 K (.exit 0) [.bx 59 [.nl, vB y1, .nl, vB y2, .nl], .bx 59 [.own 57 y3, vB y4, vH y5, vB y6, vH y7]])
abbrev UKo (n : Nat) : Orc R := oL Ujo (E67 n) n 3 Uu4 UgB (Urn n n) oN
abbrev UJd (n : Nat) : Orc R := oN
abbrev K67 (R : Type) (n : Nat) := JcH (R := R) Tryz.prog (UyB n) Ujo n (19, []) (UKo n) (UJd n)
theorem UEc (n : Nat) : K67 R n (false, 3, Uu4) := JkF (lo := UKo n) (cu := UJd n) (pO pN (by kernel_rfl)) UgB (Urn n n) (JiE (F := Urn n) UgB (UBc n) (fun K _ _ _ _ _ _ _ _ _ => rfl) (fun _ _ => rfl) (fun L K _ _ _ _ _ _ _ _ _ => by show _ = _; kernel_rfl) n) fun _ _ => rfl
theorem UN3 (n : Nat) : Je6 (K67 R n) (JaJ Ujo (Jll Tryz.f67)) := pO (pC (UEc n) pN) (by kernel_rfl)
abbrev t67 : Sl (List SV) := (cI .n)
abbrev f67 (n : Nat) (K : List SV → O R) : t67.T (O R) := fun x1 => p67 n x1 (fun y1 y2 y3 y4 y5 => K [.st [.own 57 y1, vB y2, vH y3, vB y4, vH y5]])
abbrev UCV (n : Nat) : FS := fT [false] t67 (f67 n)
theorem UFf (n : Nat) : FSound Tryz.prog GI 67 (UCV n) := gd Ujo n (Up9 n) Tryz.func67 (.cons (Up9 n) t67 (f67 n) (fun K _ => (Jkq (c := Jll Tryz.f67) (by kernel_rfl) (UN3 n) K).trans (by kernel_rfl)) .nil) (by kernel_rfl)
def Uw7 : Ann := { loops := [], cuts := [], frz := [], rm := [.id] }
abbrev UBX (n : Nat) : Env := eC 110 (UrB n) (eC 109 (UyP n) eN)
theorem Uqb (n : Nat) : EnvOK Tryz.prog GI (UBX n) := .cons (.cons (.nil) (UD n)) (UtM n)
def p69 (n : Nat) (x1 : ByteArray) (k0 : Bool → LP → Bool → LP → O R) : O R :=
  Uv5 n x1 (fun y2 y3 y4 y5 y6 => bif (!y6) then (UtP n (fun y7 y8 => k0 false [] y7 y8)) else (k0 y2 y3 y4 y5))
abbrev UMl (n : Nat) : Orc R := oN
abbrev ULF (n : Nat) : Orc R := oN
abbrev K69 (R : Type) (n : Nat) := JcH (R := R) Tryz.prog (UBX n) Uw7 n (16, []) (UMl n) (ULF n)
theorem UN5 (n : Nat) : Je6 (K69 R n) (JaJ Uw7 (Jll Tryz.f69)) := pO pN (by kernel_rfl)
abbrev t69 : Sl (List SV) := (cS .n)
abbrev f69 (n : Nat) (K : List SV → O R) : t69.T (O R) := fun x1 => p69 n x1 (fun y1 y2 y3 y4 => K [.p (.agg [.v (.bool y1), .sh y2, .v (.bool y3), .sh y4])])
abbrev UE3 (n : Nat) : FS := fT [false] t69 (f69 n)
theorem UHi (n : Nat) : FSound Tryz.prog GI 69 (UE3 n) := gd Uw7 n (Uqb n) Tryz.func69 (.cons (Uqb n) t69 (f69 n) (fun K _ => (Jkq (c := Jll Tryz.f69) (by kernel_rfl) (UN5 n) K).trans (by kernel_rfl)) .nil) (by kernel_rfl)
end
end Go.Proofs.YtmgfmlhdnadglaaGreatDoor
