/- Proved: what the evaluator of pure values says of a function's code, its calls keep (part 3; no further conditions). -/
import Derived.Test.YtfbahcfojiaeaaaGreatDoorT1
import Derived.Test.YtfbahcfojiaeaaaGreatDoorT0
import Derived.Shelf.Small.Strs
import Derived.Shelf.Strings.Count
import Derived.Shelf.Strings.Repeat
import Derived.IntWalk
import Derived.Shelf.Strings.SlTrimAscii
import Derived.Shelf.Strconv.AtoiAll
import Derived.Shelf.Strconv.Itoa4
import Derived.Shelf.Strings.Builder1
import Derived.Shelf.Strings.Builder2
import Derived.Shelf.Strings.Trim
import Derived.Shelf.Small.Utf8
import Derived.Shelf.Small.Wraps
import Derived.Shelf.Strings.BuilderF
import Derived.Shelf.Strings.BuilderK
import Derived.Shelf.Strings.Builder2Cap
import Derived.Shelf.Strconv.Atoi
import Derived.Shelf.Strconv.Itoa0
import Derived.Shelf.Strconv.Itoa1
import Derived.Shelf.LaysM
import Derived.Shelf.Strconv.Itoa2
import Derived.Shelf.Strconv.Itoa3
import Derived.Shelf.Strconv.AtoiErrFast
import Derived.Shelf.Strconv.ParseIntEmpty
import Derived.Shelf.Strconv.AtoiFail
import Derived.Shelf.Strconv.Clone
import Derived.Shelf.Strconv.SyntaxError
import Derived.Shelf.LaysC
import Derived.Shelf.Strconv.ToError
import Derived.Shelf.Strconv.Lower
import Derived.Shelf.Strconv.ParseUint10
import Derived.Shelf.Strconv.ParseUint10Empty
import Derived.Shelf.Strconv.ParseUint10Any
import Derived.Shelf.Strconv.ParseInt10
import Derived.Shelf.Strconv.AtoiLong
import Derived.Shelf.Strconv.AtoiInnerAll
import Derived.Shelf.Strconv.RangeError
import Derived.Shelf.Strconv.ToErrorRange
import Derived.Shelf.Strings.Search1
import Derived.Shelf.Strings.Search2
import Derived.Shelf.Strings.Cut
import Derived.Shelf.Strings.Shaped
import Derived.Shelf.Strings.Prefix
import Derived.Shelf.Strings.Runes
import Derived.Shelf.Strings.AsciiSet
import Derived.Shelf.Bits.Mul64
import Derived.Shelf.Unicode.DecodeSlow
import Derived.Shelf.Strings.BuilderCap
import Derived.Test.YtfbahcfojiaeaaaGreatDoorProg

set_option linter.unusedVariables false
namespace Go.Proofs.YtfbahcfojiaeaaaGreatDoor.Th
open Go
theorem cg2 {A B C : Type _} (f : A → B → C) {a a' : A} {b b' : B} (h : a = a') (g : b = b') : f a b = f a' b' := by rw [h, g]
abbrev dcnd {α : Type _} (b : Bool) (x y : α) : α := match b with
  | true => x
  | false => y
abbrev oget {α : Type} (o : Option α) (d : α) : α := match o with
  | some a => a
  | none => d
abbrev obind {α β : Type} (o : Option α) (k : α → Option β) : Option β := match o with
  | some a => k a
  | none => none
structure Sl (A : Type) where
  T : Type → Type
  ap : {r : Type} → A → T r → Option r
  all : {r : Type} → (A → r → Prop) → T r → Prop
  dom : A → Bool
  h1 : ∀ {r : Type} (x : A) (f : T r), (ap x f).isSome = dom x
  h2 : ∀ {r : Type} (P : A → r → Prop) (x : A) (f : T r) (g : r), all P f → ap x f = some g → P x g
abbrev Sl.any {B : Type} : Sl B := ⟨fun r => B → r, fun x f => some (f x), fun P f => ∀ b, P b (f b), fun _ => true, fun _ _ => rfl, fun P x f g h e => by cases e; exact h x⟩
abbrev Sl.one : Sl Unit := ⟨fun r => r, fun _ f => some f, fun P f => P () f, fun _ => true, fun _ _ => rfl, fun P x f g h e => by cases e; exact h⟩
abbrev Sl.comp {A B : Type} (enc : B → A) (view : A → Option B) (hv : ∀ x b, view x = some b → x = enc b) (s : Sl B) : Sl A :=
  ⟨s.T, fun x f => obind (view x) fun b => s.ap b f, fun P f => s.all (fun b g => P (enc b) g) f, fun x => dcnd (view x).isSome (oget ((view x).map s.dom) false) false,
   fun {r} x f => by
    cases h : view x with
    | none => rfl
    | some b => exact s.h1 b f,
   fun {r} P x f g h e => by
    cases hx : view x with
    | none => rw [hx] at e; cases e
    | some b =>
      rw [hx] at e
      rw [hv x b hx]
      exact s.h2 _ b f g h e⟩
abbrev Sl.n {A : Type} : Sl (List A) := ⟨fun r => r, fun l f => match l with
  | [] => some f
  | _ :: _ => none, fun P f => P [] f, fun l => match l with
  | [] => true
  | _ :: _ => false, fun x f => by cases x <;> rfl, fun P x f g h e => by
    cases x with
    | nil => cases e; exact h
    | cons a l => cases e⟩
abbrev Sl.c {A : Type} (s : Sl A) (t : Sl (List A)) : Sl (List A) := ⟨fun r => s.T (t.T r), fun l f => match l with
  | x :: xs => obind (s.ap x f) fun g => t.ap xs g
  | [] => none, fun P f => s.all (fun x g => t.all (fun xs h => P (x :: xs) h) g) f, fun l => match l with
  | x :: xs => dcnd (s.dom x) (t.dom xs) false
  | [] => false,
  fun x f => by
    cases x with
    | nil => rfl
    | cons a l =>
      have h := s.h1 a f
      show (obind (s.ap a f) fun g => t.ap l g).isSome = dcnd (s.dom a) (t.dom l) false
      rw [← h]
      cases h2 : s.ap a f with
      | none => rfl
      | some g => exact t.h1 l g,
  fun {r} P x f g h e => by
    cases x with
    | nil => cases e
    | cons a l =>
      have e' : obind (s.ap a f) (fun g => t.ap l g) = some g := e
      cases h2 : s.ap a f with
      | none => rw [h2] at e'; cases e'
      | some g' =>
        rw [h2] at e'
        exact t.h2 _ l g' g (s.h2 _ a f g' h h2) e'⟩
abbrev sP (s : Sl PV) : Sl SV := .comp .p (fun x => match x with
  | .p y => some y
  | _ => none) (fun x b h => by cases x <;> first | (cases h; rfl) | cases h) s
abbrev sNl : Sl SV := .comp (fun _ => .nl) (fun x => match x with
  | .nl => some ()
  | _ => none) (fun x b h => by cases x <;> first | rfl | cases h) .one
theorem dcnd_some {α : Type} {c : Bool} {a b : α} (h : dcnd c (some a) none = some b) : c = true ∧ a = b := by
  cases c
  · cases h
  · cases h; exact ⟨rfl, rfl⟩
abbrev sOwn (T : Nat) : Sl SV := .comp (fun es => .own T es) (fun x => match x with
  | .own T' es => dcnd (Nat.beq T' T) (some es) none
  | _ => none) (fun x b h => by
    split at h
    · obtain ⟨h1, h2⟩ := dcnd_some h
      rw [Nat.eq_of_beq_eq_true h1, h2]
    · cases h) .any
abbrev sBx (T : Nat) (t : Sl (List SV)) : Sl SV := .comp (fun es => .bx T es) (fun x => match x with
  | .bx T' es => dcnd (Nat.beq T' T) (some es) none
  | _ => none) (fun x b h => by
    split at h
    · obtain ⟨h1, h2⟩ := dcnd_some h
      rw [Nat.eq_of_beq_eq_true h1, h2]
    · cases h) t
abbrev sOb (T e : Nat) : Sl SV := .comp (fun b => .ob T e b) (fun x => match x with
  | .ob T' e' b => dcnd (Nat.beq T' T && Nat.beq e' e) (some b) none
  | _ => none) (fun x b h => by
    split at h
    · obtain ⟨h1, h2⟩ := dcnd_some h
      rw [Bool.and_eq_true] at h1
      rw [Nat.eq_of_beq_eq_true h1.1, Nat.eq_of_beq_eq_true h1.2, h2]
    · cases h) .any
abbrev sInt (k : IntKind) : Sl PV := .comp (fun v => .v (.int k v)) (fun x => match x with
  | .v (.int k' v) => dcnd (ikEq k k') (some v) none
  | _ => none) (fun x b h => by
    split at h
    · obtain ⟨h1, h2⟩ := dcnd_some h
      rw [ikEq_eq h1, h2]
    · cases h) .any
abbrev sBool : Sl PV := .comp (fun v => .v (.bool v)) (fun x => match x with
  | .v (.bool v) => some v
  | _ => none) (fun x b h => by
    split at h
    · cases h; rfl
    · cases h) .any
abbrev sStr : Sl PV := .comp (fun v => .v (.string v)) (fun x => match x with
  | .v (.string v) => some v
  | _ => none) (fun x b h => by
    split at h
    · cases h; rfl
    · cases h) .any
abbrev sIntC (k : IntKind) (c : Int) : Sl PV := .comp (fun _ => .v (.int k c)) (fun x => match x with
  | .v (.int k' v) => dcnd (ikEq k k' && decide (v = c)) (some ()) none
  | _ => none) (fun x b h => by
    split at h
    · obtain ⟨h1, h2⟩ := dcnd_some h
      rw [Bool.and_eq_true] at h1
      rw [ikEq_eq h1.1, of_decide_eq_true h1.2]
    · cases h) .one
theorem eqS_eq {a b : ByteArray} (h : eqS a b = true) : a = b := by
  unfold eqS at h
  have := eq_of_beq h
  cases a; cases b
  rename_i a b
  cases a; cases b
  simp only at this
  rw [this]
abbrev sStrC (c : ByteArray) : Sl PV := .comp (fun _ => .v (.string c)) (fun x => match x with
  | .v (.string v) => dcnd (eqS v c) (some ()) none
  | _ => none) (fun x b h => by
    split at h
    · obtain ⟨h1, h2⟩ := dcnd_some h
      rw [eqS_eq h1]
    · cases h) .one
abbrev sSh : Sl PV := .comp .sh (fun x => match x with
  | .sh y => some y
  | _ => none) (fun x b h => by cases x <;> first | (cases h; rfl) | cases h) .any
abbrev sAgg (t : Sl (List PV)) : Sl PV := .comp .agg (fun x => match x with
  | .agg y => some y
  | _ => none) (fun x b h => by cases x <;> first | (cases h; rfl) | cases h) t
abbrev sFn (g : Nat) : Sl PV := .comp (fun _ => .v (.func (.func g) #[] #[])) (fun x => match x with
  | .v (.func (.func g') l c) => (match l.toList, c.toList with
    | [], [] => dcnd (Nat.beq g' g) (some ()) none
    | _, _ => none)
  | _ => none) (fun x b h => by
    split at h
    · rename_i g' l c
      split at h
      · rename_i e1 e2
        obtain ⟨h1, h2⟩ := dcnd_some h
        rw [Nat.eq_of_beq_eq_true h1]
        obtain ⟨l⟩ := l
        obtain ⟨c⟩ := c
        simp only at e1 e2
        rw [e1, e2]
      · cases h
    · cases h) .one
abbrev sNilPtr : Sl PV := .comp (fun _ => .v (.pointer none)) (fun x => match x with
  | .v (.pointer none) => some ()
  | _ => none) (fun x b h => by
    split at h
    · rfl
    · cases h) .one
abbrev cutE {R : Type} (ann : Ann) (i : Nat) (f : Fr → Kc R → Option R) (vs : List SV) (K : Kc R) : Option R := evCut f (liveA ann.cuts i) (outA ann.cuts i) vs K
abbrev loopE {R : Type} (ann : Ann) (i : Nat) (f : Fr → Kc R → Option R) (m : Nat) (vs : List SV) (K : Kc R) : Option R := evLoop f (liveA ann.loops i) (outA ann.loops i) m vs K
theorem Sl.eq {A r : Type} (t : Sl A) (X : A → r) (x : A) (d : r) (f : t.T r) (hd : X x = d) (h : t.all (fun y g => X y = g) f) : X x = oget (t.ap x f) d := by
  cases e : t.ap x f with
  | none => exact hd
  | some g => exact t.h2 _ x f g h e
section
variable {R : Type} {P : Program} {env : Env} {ann : Ann} {n : Nat} {N : Nat × List Nat} {lo cu : Orc R}
theorem part_cut {i : Nat} {c : Code} (hp : allP (PartOK P env ann n N lo cu) (partsOf ann c)) (t : Sl (List SV)) (F : Kc R → t.T (Option R)) {D : List SV → Kc R → Option R}
    (he : ∀ K, t.all (fun vs r => cutE ann i (evOi P env ann N lo cu c) vs K = r) (F K))
    (hD : ∀ vs K, cutE ann i (evC P env ann n N c) vs K = D vs K) (vs : List SV) (K : Kc R) :
    cutE ann i (evC P env ann n N c) vs K = oget (t.ap vs (F K)) (D vs K) := by
  have e : evC P env ann n N c = evOi P env ann N lo cu c := funext fun fr => funext fun K => evC_evOi c hp fr K
  refine t.eq (fun vs => cutE ann i (evC P env ann n N c) vs K) vs _ _ (hD vs K) ?_
  rw [e]; exact he K
theorem part_loop {i : Nat} {c : Code} (hp : allP (PartOK P env ann n N lo cu) (partsOf ann c)) (t : Sl (List SV)) (F : Kc R → t.T (Option R)) {D : List SV → Kc R → Option R}
    (he : ∀ K, t.all (fun vs r => loopE ann i (evOi P env ann N lo cu c) n vs K = r) (F K))
    (hD : ∀ vs K, loopE ann i (evC P env ann n N c) n vs K = D vs K) (vs : List SV) (K : Kc R) :
    loopE ann i (evC P env ann n N c) n vs K = oget (t.ap vs (F K)) (D vs K) := by
  have e : evC P env ann n N c = evOi P env ann N lo cu c := funext fun fr => funext fun K => evC_evOi c hp fr K
  refine t.eq (fun vs => loopE ann i (evC P env ann n N c) n vs K) vs _ _ (hD vs K) ?_
  rw [e]; exact he K
end
structure Good (P : Program) (env : Env) (ann : Ann) (n : Nat) (fn : Func) (run : (R : Type) → List SV → (List SV → Option R) → Option R) : Prop where
  a : ∀ R args K res, run R args K = some res → evFn P env ann n fn args K = some res
  d : ∀ args, DetK fun R K => run R args K
theorem Good.nil {P : Program} {env : Env} {ann : Ann} {n : Nat} {fn : Func} : Good P env ann n fn fun _ _ _ => none := ⟨fun _ _ _ _ h => (nomatch h), fun _ => det_none⟩
theorem det_cong {α : Type} {f g : (R : Type) → (α → Option R) → Option R} (h : DetK f) (e : ∀ R K, f R K = g R K) : DetK g := by
  have : f = g := funext fun R => funext fun K => e R K
  rw [← this]; exact h
theorem Good.cons {P : Program} {I : GInv} {env : Env} (henv : EnvOK P I env) {ann : Ann} {n : Nat} {fn : Func} (t : Sl (List SV)) (F : {R : Type} → (List SV → Option R) → t.T (Option R))
    (he : ∀ {R : Type} (K : List SV → Option R), t.all (fun args r => evFn P env ann n fn args K = r) (F K)) {D : (R : Type) → List SV → (List SV → Option R) → Option R} (hD : Good P env ann n fn D) :
    Good P env ann n fn fun R args K => oget (t.ap args (F K)) (D R args K) := by
  refine ⟨fun R args K res h => ?_, fun args => ?_⟩
  · cases e : t.ap args (F K) with
    | none => rw [e] at h; exact hD.a R args K res h
    | some g => rw [e] at h; exact (t.h2 _ args (F K) g (he K) e).trans h
  · cases hd : t.dom args with
    | false =>
      refine det_cong (hD.d args) fun R K => ?_
      have h := t.h1 args (F K)
      rw [hd] at h
      cases e : t.ap args (F K) with
      | none => rfl
      | some g => rw [e] at h; cases h
    | true =>
      refine det_cong (det_evFn (P := P) henv.det ann n fn args) fun R K => ?_
      have h := t.h1 args (F K)
      rw [hd] at h
      cases e : t.ap args (F K) with
      | none => rw [e] at h; cases h
      | some g => exact t.h2 _ args (F K) g (he K) e
theorem FSound.good {P : Program} {I : GInv} {env : Env} (henv : EnvOK P I env) {ann : Ann} {n : Nat} {fn : Func} {g : Nat} {fs : FS} (hg : P.funcs[g]? = some fn) (hr : Good P env ann n fn fun R args K => @FS.run fs R args K)
    (hann : annOK P ann = true) (hb : fn.body.isNone = false) (hnm : (fn.name == "runtime.NumGoroutine") = false) : FSound P I g fs :=
  FSound.of henv hann hg hb hnm (fun {R args K res} h => hr.a R args K res h) hr.d
end Go.Proofs.YtfbahcfojiaeaaaGreatDoor.Th


set_option linter.unusedVariables false
set_option linter.unusedSimpArgs false
namespace Go.Proofs.YtfbahcfojiaeaaaGreatDoor.Th
open Go Go.Proofs Go.Shelf Go.RowKit
section
variable {P : Program} {I : GInv} {R : Type} {res : R}
theorem back_pure {F : Nat → Prop} {W : World} {args : List SV} {cargs : List Value} {B : List Nat} {xs : List SV} {vs : List Value} (hxs : RSs P F W xs vs []) (hF : ∀ b, F b → b < W.heap.size)
    (hbx : bxv args cargs = []) : Back P F W args cargs B xs (tupV vs) W :=
  ⟨F, [], xs, [], vs, by simp, hxs.length, rfl, by rw [hbx, List.append_nil, List.append_nil]; exact hxs, by simp, by simp, fun _ q => q, fun _ q => .inl q, hF, Keep.refl _ _⟩
theorem args2p {F : Nat → Prop} {W : World} {x y : Value} {cs : Array Value} {B : List Nat} (h : RSs P F W [.p (.v x), .p (.v y)] cs.toList B) : cs = #[x, y] := by
  obtain ⟨c, d, B1, rfl, h1, h2, _⟩ := args2 h
  cases h1 with
  | p h1 => rw [RP_v h1, RP_v h2]
theorem one_byte {t : ByteArray} (h : t.size = 1) : t = ⟨#[t.data.toList.headD 0]⟩ := by
  cases t with
  | mk d =>
    cases d with
    | mk l =>
      match l, h with
      | [x], _ => rfl
end
end Go.Proofs.YtfbahcfojiaeaaaGreatDoor.Th


set_option linter.unusedVariables false
namespace Go.Proofs.YtfbahcfojiaeaaaGreatDoor.Th
open Go Go.Proofs Go.Shelf Go.RowKit
def repB (s : ByteArray) (c : Int) : ByteArray := ⟨(Lib.repeatL s.data.toList c.toNat).toArray⟩
noncomputable def fsRepeat : FS := { om := [false, false], run := fun args K => match args with
  | [.p (.v (.string s)), .p (.v (.int .i64 c))] => bif decide (0 ≤ c) && decide (c ≤ 9223372036854775807) && roomB (s.size * c.toNat) then K [.p (.v (.string (repB s c)))] else none
  | _ => none }
theorem det_fsRepeat (args : List SV) : DetK (fun R K => @FS.run fsRepeat R args K) := det_of fun R K res h => by
  simp only [fsRepeat] at h
  split at h
  · obtain ⟨hc, _⟩ := bif_some h
    exact ⟨_, fun R' K' => by simp only [fsRepeat, hc, cond_true]; rfl⟩
  · cases h
section
variable {P : Program} {I : GInv} {R : Type} {res : R}
theorem back_below {F : Nat → Prop} {W w' : World} {args : List SV} {cargs : List Value} {B : List Nat} {xs : List SV} {vs : List Value} (hb : Below W.heap.size W w') (hxs : RSs P F w' xs vs []) (hF : ∀ b, F b → b < W.heap.size)
    (hbx : bxv args cargs = []) : Back P F W args cargs B xs (tupV vs) w' :=
  ⟨F, [], xs, [], vs, by simp, hxs.length, rfl, by rw [hbx, List.append_nil, List.append_nil]; exact hxs, by simp, by simp, fun _ q => q, fun _ q => .inl q, fun b q => Nat.lt_of_lt_of_le (hF b q) hb.size,
    ⟨hb.os, hb.tape, hb.output, hb.size, fun b hlt _ => hb.block b hlt⟩⟩
theorem ok_Repeat {g : Nat} (hfn : ∃ fn, P.funcs[g]? = some fn ∧ fn.body.isNone = false ∧ (fn.name == "runtime.NumGoroutine") = false)
    (H : ∀ (s : ByteArray) (c : Nat) (w : World), c ≤ 9223372036854775807 → s.size * c ≤ 140737488355328 →
      Calls P g #[.string s, .int .i64 c] w fun e w' => e = .returned (.string ⟨(Lib.repeatL s.data.toList c).toArray⟩) ∧ Below w.heap.size w w') : FSound P I g fsRepeat := by
  refine ⟨det_fsRepeat, hfn, fun {R args K res} hk F W cargs B ha hn hB hF _ => ?_⟩
  simp only [fsRepeat] at hk
  split at hk
  · rename_i s c
    obtain ⟨h1, hk1⟩ := bif_some hk
    simp only [Bool.and_eq_true, decide_eq_true_eq] at h1
    obtain ⟨a, rfl⟩ := Int.eq_ofNat_of_zero_le h1.1.1
    have := args2p ha
    subst this
    have hr : s.size * a ≤ 140737488355328 := of_decide_eq_true h1.2
    refine Calls.mono (H s a W (by omega) hr) fun e w' he => ?_
    obtain ⟨rfl, hb⟩ := he
    exact ⟨_, hk1, back_below (vs := [.string (repB s (a : Int))]) hb (.cons (B := []) (Bs := []) (.p (.v _)) .nil) hF rfl⟩
  · cases hk
end
end Go.Proofs.YtfbahcfojiaeaaaGreatDoor.Th


set_option linter.unusedVariables false
set_option linter.unusedSimpArgs false
namespace Go.Proofs.YtfbahcfojiaeaaaGreatDoor.Th
open Go Go.Proofs Go.Shelf Go.RowKit
section
variable {P : Program} {ρ : Ren} {w : World} {T e : TypeId} {b : Nat} {p v : Value} {bs : List Value}
theorem Wrote.after {w0 w1 w2 : World} {v0 v1 : Value} (k : Keep w0 (· = b) w1) (h : Wrote T e b v1 bs w1 w2) (hv : v1.ownBlock = v0.ownBlock) : Wrote T e b v0 bs w0 w2 := by
  obtain ⟨v', h1, h2, h3⟩ := h
  refine ⟨v', h1, ?_, fun c hc => ?_⟩
  · rw [← hv]; exact (k.mono fun k q => .inl q).trans h2 fun _ _ q => q
  · rw [← hv]; exact (h3 c hc).imp id fun q => Nat.le_trans k.size q
end
end Go.Proofs.YtfbahcfojiaeaaaGreatDoor.Th


set_option linter.unusedVariables false
set_option linter.unusedSimpArgs false
namespace Go.Proofs.YtfbahcfojiaeaaaGreatDoor.Th
open Go Go.Proofs Go.Shelf Go.RowKit
section
variable {P : Program} {ρ : Ren} {I : GInv} {R : Type} {res : R}
end
end Go.Proofs.YtfbahcfojiaeaaaGreatDoor.Th


set_option linter.unusedVariables false
namespace Go.Proofs.YtfbahcfojiaeaaaGreatDoor.Th
open Go Go.Proofs
theorem w64 {x : Int} (h1 : -9223372036854775808 ≤ x) (h2 : x < 9223372036854775808) : IntKind.i64.wrap x = x := by
  exact IntWalk.i64_in _ (by omega)
theorem inR_t {i : Int} {n : Nat} (h1 : 0 ≤ i) (h2 : i < n) : inR i n = true := by simp [inR, h1, h2]
theorem cutR_t {l h : Int} {n : Nat} (h1 : 0 ≤ l) (h2 : l ≤ h) (h3 : h ≤ n) : cutR l h n = true := by simp [cutR, h1, h2, h3]
theorem roomB_t {n : Nat} (h : n ≤ 140737488355328) : roomB n = true := by simp [roomB, h]
def bs (l : List UInt8) : ByteArray := ⟨⟨l⟩⟩
theorem bs_size (l : List UInt8) : (bs l).size = l.length := (Eq.refl _).trans (Eq.refl _)
theorem bs_data (l : List UInt8) : (bs l).data.toList = l := (Eq.refl _).trans (Eq.refl _)
theorem bs_append (a b : List UInt8) : bs a ++ bs b = bs (a ++ b) := by
  apply ByteArray.ext
  simp [bs]
theorem bs_empty : ByteArray.empty = bs [] := (Eq.refl _).trans (Eq.refl _)
theorem bs_push (a : List UInt8) (c : UInt8) : ByteArray.push (bs a) c = bs (a ++ [c]) := by
  apply ByteArray.ext
  simp [bs, ByteArray.push]
theorem bs_extract (l : List UInt8) (i j : Nat) : ByteArray.extract (bs l) i j = bs ((l.take j).drop i) := by
  apply ByteArray.ext
  rw [ByteArray.data_extract]
  apply Array.ext'
  simp only [bs, List.size_toArray, List.extract_toArray, List.extract_eq_take_drop, List.take_drop]
  by_cases h : i ≤ j
  · rw [show i + (j - i) = j from by omega]
  · rw [List.drop_eq_nil_of_le (by simp; omega), List.drop_eq_nil_of_le (by simp; omega)]
theorem eqS_bs (a b : List UInt8) : eqS (bs a) (bs b) = (a == b) := by rfl
theorem byteAt_bs (l : List UInt8) (i : Int) : byteAt (bs l) i = ((l.getD i.toNat 0).toNat : Int) := rfl
theorem byteAt_nat {l : List UInt8} {i : Nat} (h : i < l.length) : byteAt (bs l) (i : Int) = ((l[i]).toNat : Int) := by
  rw [byteAt_bs]; simp [List.getD_eq_getElem?_getD, h]
theorem catS_bs {R : Type} {a b : List UInt8} (h : a.length + b.length < 9223372036854775808) (K : ByteArray → Option R) : catS (bs a) (bs b) K = K (bs (a ++ b)) := by
  unfold catS
  rw [bs_append, bs_size, bs_size, leN_eq, decide_eq_true (by omega)]; rfl
theorem repB_bs (l : List UInt8) (c : Int) : repB (bs l) c = bs (Lib.repeatL l c.toNat) := rfl
theorem u8_eq {a b : UInt8} : ((a.toNat : Int) == (b.toNat : Int)) = (a == b) := by
  rw [Bool.eq_iff_iff]; simp only [beq_iff_eq]; rw [← UInt8.toNat_inj]; omega
theorem bs_lit (l : List UInt8) : ByteArray.mk (List.toArray l) = bs l := (Eq.refl _).trans (Eq.refl _)
theorem dec_t {p : Prop} {d : Decidable p} (h : p) : @decide p d = true := decide_eq_true h
theorem dec_f {p : Prop} {d : Decidable p} (h : ¬ p) : @decide p d = false := decide_eq_false h
theorem c_pos {R : Type} {p : Prop} {d : Decidable p} {a b : R} (h : p) : (bif @decide p d then a else b) = a := by rw [decide_eq_true h]; rfl
theorem c_neg {R : Type} {p : Prop} {d : Decidable p} {a b : R} (h : ¬ p) : (bif @decide p d then a else b) = b := by rw [decide_eq_false h]; rfl
theorem ite_pos' {R : Type} {p : Prop} {d : Decidable p} {a b : R} (h : p) : @ite _ p d a b = a := if_pos h
theorem ite_neg' {R : Type} {p : Prop} {d : Decidable p} {a b : R} (h : ¬ p) : @ite _ p d a b = b := if_neg h
theorem lenOK_t {n b : Nat} (h1 : n * b ≤ 140737488355328) (h2 : n ≤ 140737488355328) : lenOK n b = true := by simp [lenOK, h1, h2]
end Go.Proofs.YtfbahcfojiaeaaaGreatDoor.Th


set_option linter.unusedVariables false
set_option linter.unusedSimpArgs false
namespace Go.Proofs.YtfbahcfojiaeaaaGreatDoor.Th
open Go Go.Proofs
theorem wu32 {x : Int} (h1 : 0 ≤ x) (h2 : x < 4294967296) : IntKind.u32.wrap x = x := by
  simp [IntKind.wrap, IntKind.bits, IntKind.signed]; omega
theorem wu64 {x : Int} (h1 : 0 ≤ x) (h2 : x < 18446744073709551616) : IntKind.u64.wrap x = x := by
  simp [IntKind.wrap, IntKind.bits, IntKind.signed]; omega
theorem wu8 {x : Int} (h1 : 0 ≤ x) (h2 : x < 256) : IntKind.u8.wrap x = x := by
  simp [IntKind.wrap, IntKind.bits, IntKind.signed]; omega
def nl (k : IntKind) (l : List Nat) : List PV := l.map fun (x : Nat) => PV.v (Value.int k (x : Int))
theorem nl_len (k : IntKind) (l : List Nat) : (nl k l).length = l.length := by unfold nl; rw [List.length_map]
theorem getI_nl {R : Type} {k : IntKind} {l : List Nat} {i : Nat} {d : PV} {K : Int → Option R} (h : i < l.length) : getI k ((nl k l).getD i d) K = K ((l.getD i 0 : Nat) : Int) := by
  unfold nl
  rw [List.getD_eq_getElem?_getD, List.getElem?_map, List.getD_eq_getElem?_getD, List.getElem?_eq_getElem h]
  simp only [Option.map_some, Option.getD_some, getI]
  cases k <;> rfl
theorem nl_set (k : IntKind) (l : List Nat) (i x : Nat) : (nl k l).set i (.v (.int k (x : Int))) = nl k (l.set i x) := by unfold nl; rw [List.map_set]
theorem nl_set0 (k : IntKind) (l : List Nat) (i : Nat) : (nl k l).set i (.v (.int k 0)) = nl k (l.set i 0) := nl_set k l i 0
theorem nl_take (k : IntKind) (l : List Nat) (i : Nat) : (nl k l).take i = nl k (l.take i) := by unfold nl; rw [List.map_take]
theorem nl_drop (k : IntKind) (l : List Nat) (i : Nat) : (nl k l).drop i = nl k (l.drop i) := by unfold nl; rw [List.map_drop]
theorem nl_rep (k : IntKind) (n : Nat) : List.replicate n (PV.v (.int k 0)) = nl k (List.replicate n 0) := by unfold nl; rw [List.map_replicate]; rfl
theorem nl_app (k : IntKind) (a b : List Nat) : nl k a ++ nl k b = nl k (a ++ b) := by unfold nl; rw [List.map_append]
theorem hdSz_nl (k : IntKind) (l : List Nat) : hdSz 1 (nl k l) = true := by
  cases l with
  | nil => rfl
  | cons x l => rfl
theorem nl_nil (k : IntKind) : nl k [] = [] := rfl
theorem nl_one (k : IntKind) (x : Nat) : [PV.v (.int k (x : Int))] = nl k [x] := rfl
theorem beqInt_nat (a b : Nat) : (((a : Int)) == (b : Int)) = (a == b) := by
  rw [Bool.eq_iff_iff]; simp only [beq_iff_eq]; omega
theorem bneInt_nat (a b : Nat) : (((a : Int)) != (b : Int)) = (a != b) := by
  rw [bne, beqInt_nat]; rfl
theorem beqInt0 (a : Nat) : (((a : Int)) == 0) = (a == 0) := beqInt_nat a 0
theorem tdivN (a b : Nat) : Int.tdiv (a : Int) (b : Int) = ((a / b : Nat) : Int) := (Int.ofNat_tdiv a b).symm
theorem tmodN (a b : Nat) : Int.tmod (a : Int) (b : Int) = ((a % b : Nat) : Int) := (Int.ofNat_tmod a b).symm
theorem tdivB (a : Nat) : Int.tdiv (a : Int) 1000000000 = ((a / 1000000000 : Nat) : Int) := tdivN a 1000000000
theorem tmodB (a : Nat) : Int.tmod (a : Int) 1000000000 = ((a % 1000000000 : Nat) : Int) := tmodN a 1000000000
theorem toNatC (a : Nat) : (a : Int).toNat = a := Int.toNat_natCast a
theorem drop0 {α : Type} (l : List α) : l.drop (0 : Int).toNat = l := rfl
end Go.Proofs.YtfbahcfojiaeaaaGreatDoor.Th


set_option linter.unusedVariables false
set_option linter.unusedSimpArgs false
namespace Go.Proofs.YtfbahcfojiaeaaaGreatDoor.Th
open Go Go.Proofs Go.Shelf Go.RowKit
def GInv.tab (P : Program) (name : String) (k : IntKind) (zs : List Int) (g : Nat) (hg : P.globalNamed name = some g) : GInv :=
  ⟨fun F w => F g ∧ Lib.TabIs P w name k zs, fun F F' W w h hF _ hb => ⟨hF g h.1, by
    have h2 := h.2
    unfold Lib.TabIs World.var? at h2 ⊢
    rw [hg] at h2 ⊢
    simp only [Option.bind_some] at h2 ⊢
    rw [hb g h.1]; exact h2⟩⟩
def trimOK (s t : ByteArray) : Bool := decide (s.size ≤ 9223372036854775807) && decide (t.size < 4294967281) && t.data.toList.all fun b => decide (b.toNat < 128)
def trimB (s t : ByteArray) : ByteArray := ⟨(Lib.trimS s.data.toList t.data.toList).toArray⟩
def atoiK {R : Type} (s : ByteArray) (K : Int → Option R) : Option R :=
  match Lib.atoiAll s.data.toList with
  | .ok v => bif decide (s.size ≤ 9223372036854775806) then K v else none
  | _ => none
def i64R (x : Int) : Bool := decide (-9223372036854775808 ≤ x) && decide (x ≤ 9223372036854775807)
def itoaB (x : Int) : ByteArray := ⟨(Lib.itoa x).toArray⟩
noncomputable def fsTrim : FS := { om := [false, false], run := fun args K => match args with
  | [.p (.v (.string s)), .p (.v (.string t))] => bif trimOK s t then K [.p (.v (.string (trimB s t)))] else none
  | _ => none }
noncomputable def fsAtoi : FS := { om := [false], run := fun args K => match args with
  | [.p (.v (.string s))] => atoiK s fun v => K [.p (.v (.int .i64 v)), .p (.v .nilIface)]
  | _ => none }
noncomputable def fsItoa : FS := { om := [false], run := fun args K => match args with
  | [.p (.v (.int .i64 x))] => bif i64R x then K [.p (.v (.string (itoaB x)))] else none
  | _ => none }
noncomputable def fsFormatInt : FS := { om := [false, false], run := fun args K => match args with
  | [.p (.v (.int .i64 x)), .p (.v (.int .i64 b))] => bif decide (b = 10) then (bif i64R x then K [.p (.v (.string (itoaB x)))] else none) else none
  | _ => none }
noncomputable def fsIndex1 : FS := { om := [false, false], run := fun args K => match args with
  | [.p (.v (.string s)), .p (.v (.string t))] => bif Nat.beq t.size 1 then K [.p (.v (.int .i64 (Lib.indexByte s.data.toList (t.data.toList.headD 0))))] else none
  | _ => none }
theorem det_fsTrim (args : List SV) : DetK (fun R K => @FS.run fsTrim R args K) := det_of fun R K res h => by
  simp only [fsTrim] at h
  split at h
  · obtain ⟨hc, _⟩ := bif_some h
    exact ⟨_, fun R' K' => by simp only [fsTrim, hc, cond_true]; rfl⟩
  · cases h
theorem det_fsAtoi (args : List SV) : DetK (fun R K => @FS.run fsAtoi R args K) := det_of fun R K res h => by
  simp only [fsAtoi] at h
  split at h
  · unfold atoiK at h
    split at h
    · rename_i v hv
      obtain ⟨hc, _⟩ := bif_some h
      exact ⟨_, fun R' K' => by simp only [fsAtoi, atoiK, hv, hc, cond_true]; rfl⟩
    · cases h
  · cases h
theorem det_fsItoa (args : List SV) : DetK (fun R K => @FS.run fsItoa R args K) := det_of fun R K res h => by
  simp only [fsItoa] at h
  split at h
  · obtain ⟨hc, _⟩ := bif_some h
    exact ⟨_, fun R' K' => by simp only [fsItoa, hc, cond_true]; rfl⟩
  · cases h
theorem det_fsFormatInt (args : List SV) : DetK (fun R K => @FS.run fsFormatInt R args K) := det_of fun R K res h => by
  simp only [fsFormatInt] at h
  split at h
  · obtain ⟨hb, h⟩ := bif_some h
    obtain ⟨hc, _⟩ := bif_some h
    exact ⟨_, fun R' K' => by simp only [fsFormatInt, hb, hc, cond_true]; rfl⟩
  · cases h
theorem det_fsIndex1 (args : List SV) : DetK (fun R K => @FS.run fsIndex1 R args K) := det_of fun R K res h => by
  simp only [fsIndex1] at h
  split at h
  · obtain ⟨hc, _⟩ := bif_some h
    exact ⟨_, fun R' K' => by simp only [fsIndex1, hc, cond_true]; rfl⟩
  · cases h
section
variable {P : Program} {I : GInv} {R : Type} {res : R}
theorem args1p {F : Nat → Prop} {W : World} {x : Value} {cs : Array Value} {B : List Nat} (h : RSs P F W [.p (.v x)] cs.toList B) : cs = #[x] := by
  obtain ⟨l⟩ := cs
  cases h with
  | cons h1 h2 =>
    cases h2
    cases h1 with
    | p h1 => rw [RP_v h1]
theorem ok_Trim {g : Nat} (hfn : ∃ fn, P.funcs[g]? = some fn ∧ fn.body.isNone = false ∧ (fn.name == "runtime.NumGoroutine") = false)
    (H : ∀ (s t : ByteArray) (w : World), s.size ≤ 9223372036854775807 → t.size < 4294967281 → (∀ (j : Nat) b, t.data.toList[j]? = some b → b.toNat < 128) →
      Calls P g #[.string s, .string t] w fun e w' => e = .returned (.string ⟨(Lib.trimS s.data.toList t.data.toList).toArray⟩) ∧ Below w.heap.size w w') : FSound P I g fsTrim := by
  refine ⟨det_fsTrim, hfn, fun {R args K res} hk F W cargs B ha hn hB hF _ => ?_⟩
  simp only [fsTrim] at hk
  split at hk
  · rename_i s t
    obtain ⟨h1, hk1⟩ := bif_some hk
    simp only [trimOK, Bool.and_eq_true, decide_eq_true_eq] at h1
    have := args2p ha
    subst this
    refine Calls.mono (H s t W h1.1.1 h1.1.2 (ascii_of_all h1.2)) fun e w' he => ?_
    obtain ⟨rfl, hb⟩ := he
    exact ⟨_, hk1, back_below (vs := [.string (trimB s t)]) hb (.cons (B := []) (Bs := []) (.p (.v _)) .nil) hF rfl⟩
  · cases hk
theorem ok_Index1 {g : Nat} (hfn : ∃ fn, P.funcs[g]? = some fn ∧ fn.body.isNone = false ∧ (fn.name == "runtime.NumGoroutine") = false)
    (H : ∀ (s : ByteArray) (c : UInt8) (w : World), Calls P g #[.string s, .string ⟨#[c]⟩] w fun e w' => e = .returned (.int .i64 (Lib.indexByte s.data.toList c)) ∧ w' = w) : FSound P I g fsIndex1 := by
  refine ⟨det_fsIndex1, hfn, fun {R args K res} hk F W cargs B ha hn hB hF _ => ?_⟩
  simp only [fsIndex1] at hk
  split at hk
  · rename_i s t
    obtain ⟨h1, hk1⟩ := bif_some hk
    have ht := one_byte (eqB h1)
    have := args2p ha
    subst this
    refine Calls.mono (by rw [ht]; exact H s (t.data.toList.headD 0) W) fun e w' he => ?_
    obtain ⟨rfl, rfl⟩ := he
    exact ⟨_, hk1, back_pure (vs := [.int .i64 (Lib.indexByte s.data.toList (t.data.toList.headD 0))]) (.cons (B := []) (Bs := []) (.p (.v _)) .nil) hF rfl⟩
  · cases hk
theorem bytes_below (w : World) (e : TypeId) (s : ByteArray) : Below w.heap.size w (Lib.bytesWorld w e s) :=
  ⟨rfl, rfl, rfl, by rw [Lib.bytesWorld_size]; omega, fun b hb => Lib.bytesWorld_at_old w e s b hb⟩
theorem drewN_heap (w : World) (k : Nat) : (w.drewN k).heap = w.heap := rfl
theorem grow_below (w : World) (k : Nat) (os : Array Obj) : Below w.heap.size w (Sort.grow (w.drewN k) os) :=
  ⟨rfl, rfl, rfl, by simp [Sort.grow, drewN_heap], fun b hb => by simp only [Sort.grow, drewN_heap]; rw [Array.getElem?_append_left hb]⟩
theorem ok_Atoi {g : Nat} (hfn : ∃ fn, P.funcs[g]? = some fn ∧ fn.body.isNone = false ∧ (fn.name == "runtime.NumGoroutine") = false) {T : TypeId}
    (H : ∀ (s : ByteArray), s.size ≤ 9223372036854775806 → ∀ (v : Int), Lib.atoiAll s.data.toList = .ok v → ∀ (w : World),
      Calls P g #[.string s] w fun e w' => e = .returned (.tuple #[.int .i64 v, .nilIface]) ∧ (w' = w ∨ ∃ t, w' = Lib.bytesWorld w T t)) : FSound P I g fsAtoi := by
  refine ⟨det_fsAtoi, hfn, fun {R args K res} hk F W cargs B ha hn hB hF _ => ?_⟩
  simp only [fsAtoi] at hk
  split at hk
  · rename_i s
    have := args1p ha
    subst this
    unfold atoiK at hk
    split at hk
    · rename_i v hv
      obtain ⟨h1, hk1⟩ := bif_some hk
      refine Calls.mono (H s (of_decide_eq_true h1) v hv W) fun e w' he => ?_
      obtain ⟨rfl, hb⟩ := he
      have hbl : Below W.heap.size W w' := by
        rcases hb with rfl | ⟨t, rfl⟩
        · exact Below.refl _ _
        · exact bytes_below _ _ _
      exact ⟨_, hk1, back_below (vs := [.int .i64 v, .nilIface]) hbl (.cons (B := []) (Bs := []) (.p (.v _)) (.cons (B := []) (Bs := []) (.p (.v _)) .nil)) hF rfl⟩
    · cases hk
  · cases hk
theorem ok_Itoa {g : Nat} (hfn : ∃ fn, P.funcs[g]? = some fn ∧ fn.body.isNone = false ∧ (fn.name == "runtime.NumGoroutine") = false)
    (hI : ∀ F W, I.ok F W → Lib.TabIs P W "internal/strconv.uint64pow10" .u64 Lib.pow10Tab)
    (H : ∀ (n : Int), -9223372036854775808 ≤ n → n ≤ 9223372036854775807 → ∀ (w : World), Lib.TabIs P w "internal/strconv.uint64pow10" .u64 Lib.pow10Tab →
      Calls P g #[.int .i64 n] w fun e w' => e = .returned (.string ⟨(Lib.itoa n).toArray⟩) ∧ ∃ k os, w' = Sort.grow (w.drewN k) os) : FSound P I g fsItoa := by
  refine ⟨det_fsItoa, hfn, fun {R args K res} hk F W cargs B ha hn hB hF hi => ?_⟩
  simp only [fsItoa] at hk
  split at hk
  · rename_i x
    obtain ⟨h1, hk1⟩ := bif_some hk
    simp only [i64R, Bool.and_eq_true, decide_eq_true_eq] at h1
    have := args1p ha
    subst this
    refine Calls.mono (H x h1.1 h1.2 W (hI F W hi)) fun e w' he => ?_
    obtain ⟨rfl, k, os, rfl⟩ := he
    exact ⟨_, hk1, back_below (vs := [.string (itoaB x)]) (grow_below _ _ _) (.cons (B := []) (Bs := []) (.p (.v _)) .nil) hF rfl⟩
  · cases hk
theorem ok_FormatInt {g : Nat} (hfn : ∃ fn, P.funcs[g]? = some fn ∧ fn.body.isNone = false ∧ (fn.name == "runtime.NumGoroutine") = false)
    (hI : ∀ F W, I.ok F W → Lib.TabIs P W "internal/strconv.uint64pow10" .u64 Lib.pow10Tab)
    (H : ∀ (n : Int), -9223372036854775808 ≤ n → n ≤ 9223372036854775807 → ∀ (w : World), Lib.TabIs P w "internal/strconv.uint64pow10" .u64 Lib.pow10Tab →
      Calls P g #[.int .i64 n, .int .i64 10] w fun e w' => e = .returned (.string ⟨(Lib.itoa n).toArray⟩) ∧ ∃ k os, w' = Sort.grow (w.drewN k) os) : FSound P I g fsFormatInt := by
  refine ⟨det_fsFormatInt, hfn, fun {R args K res} hk F W cargs B ha hn hB hF hi => ?_⟩
  simp only [fsFormatInt] at hk
  split at hk
  · rename_i x b
    obtain ⟨hb, hk2⟩ := bif_some hk
    have hb2 := of_decide_eq_true hb
    subst hb2
    obtain ⟨h1, hk1⟩ := bif_some hk2
    simp only [i64R, Bool.and_eq_true, decide_eq_true_eq] at h1
    have := args2p ha
    subst this
    refine Calls.mono (H x h1.1 h1.2 W (hI F W hi)) fun e w' he => ?_
    obtain ⟨rfl, k, os, rfl⟩ := he
    exact ⟨_, hk1, back_below (vs := [.string (itoaB x)]) (grow_below _ _ _) (.cons (B := []) (Bs := []) (.p (.v _)) .nil) hF rfl⟩
  · cases hk
end
end Go.Proofs.YtfbahcfojiaeaaaGreatDoor.Th


namespace Go.Proofs
open Go.Shelf
def Tryz.lays169_ren : Go.Shelf.Ren := ⟨fun | 169 => 98 | n => n, fun | 70 => 112 | 9 => 9 | 0 => 0 | 72 => 114 | 37 => 52 | 127 => 140 | 3 => 3 | 5 => 5 | n => n, fun | n => n⟩
theorem Tryz.lays169 : Go.Proofs.Lays.n169 Tryz.prog Tryz.lays169_ren := {
  mixed := by kernel_rfl
  f169 := Tryz.func98.trans (congrArg some (by kernel_rfl))
  t0 := Tryz.underlying0
  a0 := Tryz.isAgg0
  z0 := Tryz.sizeOf0
  v0 := Tryz.zeroValue0
  t3 := Tryz.underlying3
  a3 := Tryz.isAgg3
  z3 := Tryz.sizeOf3
  v3 := Tryz.zeroValue3
  t9 := Tryz.underlying9
  a9 := Tryz.isAgg9
  z9 := Tryz.sizeOf9
  v9 := Tryz.zeroValue9
  t37 := Tryz.underlying52
  a37 := Tryz.isAgg52
  z37 := Tryz.sizeOf52
  v37 := Tryz.zeroValue52
  t70 := Tryz.underlying112
  a70 := Tryz.isAgg112
  z70 := Tryz.sizeOf112
  v70 := Tryz.zeroValue112
  t72 := Tryz.underlying114
  a72 := Tryz.isAgg114
  z72 := Tryz.sizeOf114
  v72 := Tryz.zeroValue114
  t127 := Tryz.underlying140
  a127 := Tryz.isAgg140
  z127 := Tryz.sizeOf140
  v127 := Tryz.zeroValue140 }
theorem Tryz.Builder_Extra_169 : Builder.Extra Tryz.prog Tryz.lays169_ren := {
  sizeBuilder := by kernel_rfl
  liesBuilder := by kernel_rfl
  t5 := Tryz.underlying5
  a5 := Tryz.isAgg5
  z5 := Tryz.sizeOf5
  v5 := Tryz.zeroValue5
  infoByte := by kernel_rfl
  cellsByte := by kernel_rfl
  sizeByte := by kernel_rfl
  neB5 := by decide }
def Tryz.lays160_ren : Go.Shelf.Ren := ⟨fun | 160 => 91 | 232 => 107 | 231 => 106 | 227 => 108 | 234 => 110 | 233 => 109 | 236 => 112 | 235 => 111 | 228 => 133 | 271 => 136 | 151 => 135 | 197 => 134 | 120 => 150 | 152 => 149 | 260 => 148 | 137 => 154 | 119 => 155 | 224 => 126 | 225 => 125 | 217 => 124 | 266 => 144 | n => n, fun | 9 => 9 | 4 => 4 | 3 => 3 | 5 => 5 | 117 => 125 | 116 => 124 | 0 => 0 | 124 => 128 | 21 => 21 | 105 => 149 | 46 => 135 | 119 => 173 | 139 => 176 | 138 => 175 | n => n, fun | 3 => 6 | 4 => 7 | n => n⟩
theorem Tryz.lays160 : Go.Proofs.Lays.n160 Tryz.prog Tryz.lays160_ren := {
  mixed := by kernel_rfl
  f119 := Tryz.func155.trans (congrArg some (by kernel_rfl))
  f120 := Tryz.func150.trans (congrArg some (by kernel_rfl))
  f137 := Tryz.func154.trans (congrArg some (by kernel_rfl))
  f151 := Tryz.func135.trans (congrArg some (by kernel_rfl))
  f152 := Tryz.func149.trans (congrArg some (by kernel_rfl))
  f160 := Tryz.func91.trans (congrArg some (by kernel_rfl))
  f197 := Tryz.func134.trans (congrArg some (by kernel_rfl))
  f217 := Tryz.func124.trans (congrArg some (by kernel_rfl))
  f224 := Tryz.func126.trans (congrArg some (by kernel_rfl))
  f225 := Tryz.func125.trans (congrArg some (by kernel_rfl))
  f227 := Tryz.func108.trans (congrArg some (by kernel_rfl))
  f228 := Tryz.func133.trans (congrArg some (by kernel_rfl))
  f231 := Tryz.func106.trans (congrArg some (by kernel_rfl))
  f232 := Tryz.func107.trans (congrArg some (by kernel_rfl))
  f233 := Tryz.func109.trans (congrArg some (by kernel_rfl))
  f234 := Tryz.func110.trans (congrArg some (by kernel_rfl))
  f235 := Tryz.func111.trans (congrArg some (by kernel_rfl))
  f236 := Tryz.func112.trans (congrArg some (by kernel_rfl))
  f260 := Tryz.func148.trans (congrArg some (by kernel_rfl))
  f266 := Tryz.func144.trans (congrArg some (by kernel_rfl))
  f271 := Tryz.func136.trans (congrArg some (by kernel_rfl))
  t0 := Tryz.underlying0
  a0 := Tryz.isAgg0
  z0 := Tryz.sizeOf0
  v0 := Tryz.zeroValue0
  t3 := Tryz.underlying3
  a3 := Tryz.isAgg3
  z3 := Tryz.sizeOf3
  v3 := Tryz.zeroValue3
  t4 := Tryz.underlying4
  a4 := Tryz.isAgg4
  z4 := Tryz.sizeOf4
  v4 := Tryz.zeroValue4
  t5 := Tryz.underlying5
  a5 := Tryz.isAgg5
  z5 := Tryz.sizeOf5
  v5 := Tryz.zeroValue5
  t9 := Tryz.underlying9
  a9 := Tryz.isAgg9
  z9 := Tryz.sizeOf9
  v9 := Tryz.zeroValue9
  t21 := Tryz.underlying21
  a21 := Tryz.isAgg21
  z21 := Tryz.sizeOf21
  v21 := Tryz.zeroValue21
  t46 := Tryz.underlying135
  a46 := Tryz.isAgg135
  z46 := Tryz.sizeOf135
  v46 := Tryz.zeroValue135
  t105 := Tryz.underlying149
  a105 := Tryz.isAgg149
  z105 := Tryz.sizeOf149
  v105 := Tryz.zeroValue149
  t116 := Tryz.underlying124
  a116 := Tryz.isAgg124
  z116 := Tryz.sizeOf124
  t117 := Tryz.underlying125
  a117 := Tryz.isAgg125
  z117 := Tryz.sizeOf125
  v117 := Tryz.zeroValue125
  t119 := Tryz.underlying173
  a119 := Tryz.isAgg173
  z119 := Tryz.sizeOf173
  t124 := Tryz.underlying128
  a124 := Tryz.isAgg128
  z124 := Tryz.sizeOf128
  v124 := Tryz.zeroValue128
  t138 := Tryz.underlying175
  a138 := Tryz.isAgg175
  z138 := Tryz.sizeOf175
  v138 := Tryz.zeroValue175
  t139 := Tryz.underlying176
  a139 := Tryz.isAgg176
  z139 := Tryz.sizeOf176
  v139 := Tryz.zeroValue176
  g3 := by kernel_rfl
  g4 := by kernel_rfl }
def Tryz.laysM171_ren : Go.Shelf.Ren := ⟨fun | 171 => 95 | 243 => 118 | 246 => 87 | 283 => 101 | 284 => 102 | 285 => 103 | 286 => 104 | 129 => 129 | 317 => 128 | 318 => 130 | 319 => 131 | 320 => 132 | 337 => 146 | 338 => 147 | n => n, fun | 3 => 3 | 9 => 9 | 2 => 2 | 4 => 4 | 171 => 117 | 0 => 0 | 53 => 107 | 37 => 52 | 5 => 5 | 173 => 120 | 212 => 144 | 51 => 98 | 20 => 20 | 213 => 145 | 46 => 135 | 232 => 171 | 233 => 172 | n => n, fun | 17 => 1 | 18 => 4 | 19 => 5 | n => n⟩
theorem Tryz.laysM171 : Go.Proofs.LaysM.n171 Tryz.prog Tryz.laysM171_ren := {
  mixed := by kernel_rfl
  f129 := Tryz.func129.trans (congrArg some (by kernel_rfl))
  f171 := Tryz.func95.trans (congrArg some (by kernel_rfl))
  f243 := Tryz.func118.trans (congrArg some (by kernel_rfl))
  f246 := Tryz.func87.trans (congrArg some (by kernel_rfl))
  f283 := Tryz.func101.trans (congrArg some (by kernel_rfl))
  f284 := Tryz.func102.trans (congrArg some (by kernel_rfl))
  f285 := Tryz.func103.trans (congrArg some (by kernel_rfl))
  f286 := Tryz.func104.trans (congrArg some (by kernel_rfl))
  f317 := Tryz.func128.trans (congrArg some (by kernel_rfl))
  f318 := Tryz.func130.trans (congrArg some (by kernel_rfl))
  f319 := Tryz.func131.trans (congrArg some (by kernel_rfl))
  f320 := Tryz.func132.trans (congrArg some (by kernel_rfl))
  f337 := Tryz.func146.trans (congrArg some (by kernel_rfl))
  f338 := Tryz.func147.trans (congrArg some (by kernel_rfl))
  t0 := Tryz.underlying0
  a0 := Tryz.isAgg0
  z0 := Tryz.sizeOf0
  v0 := Tryz.zeroValue0
  t2 := Tryz.underlying2
  a2 := Tryz.isAgg2
  z2 := Tryz.sizeOf2
  v2 := Tryz.zeroValue2
  t3 := Tryz.underlying3
  a3 := Tryz.isAgg3
  z3 := Tryz.sizeOf3
  v3 := Tryz.zeroValue3
  t4 := Tryz.underlying4
  a4 := Tryz.isAgg4
  z4 := Tryz.sizeOf4
  v4 := Tryz.zeroValue4
  t5 := Tryz.underlying5
  a5 := Tryz.isAgg5
  z5 := Tryz.sizeOf5
  v5 := Tryz.zeroValue5
  t9 := Tryz.underlying9
  a9 := Tryz.isAgg9
  z9 := Tryz.sizeOf9
  v9 := Tryz.zeroValue9
  t20 := Tryz.underlying20
  a20 := Tryz.isAgg20
  z20 := Tryz.sizeOf20
  v20 := Tryz.zeroValue20
  t37 := Tryz.underlying52
  a37 := Tryz.isAgg52
  z37 := Tryz.sizeOf52
  v37 := Tryz.zeroValue52
  t46 := Tryz.underlying135
  a46 := Tryz.isAgg135
  z46 := Tryz.sizeOf135
  v46 := Tryz.zeroValue135
  t51 := Tryz.underlying98
  a51 := Tryz.isAgg98
  z51 := Tryz.sizeOf98
  v51 := Tryz.zeroValue98
  t53 := Tryz.underlying107
  a53 := Tryz.isAgg107
  z53 := Tryz.sizeOf107
  v53 := Tryz.zeroValue107
  t171 := Tryz.underlying117
  a171 := Tryz.isAgg117
  z171 := Tryz.sizeOf117
  v171 := Tryz.zeroValue117
  t173 := Tryz.underlying120
  a173 := Tryz.isAgg120
  z173 := Tryz.sizeOf120
  v173 := Tryz.zeroValue120
  t212 := Tryz.underlying144
  a212 := Tryz.isAgg144
  z212 := Tryz.sizeOf144
  v212 := Tryz.zeroValue144
  t213 := Tryz.underlying145
  a213 := Tryz.isAgg145
  z213 := Tryz.sizeOf145
  t232 := Tryz.underlying171
  a232 := Tryz.isAgg171
  z232 := Tryz.sizeOf171
  v232 := Tryz.zeroValue171
  t233 := Tryz.underlying172
  a233 := Tryz.isAgg172
  z233 := Tryz.sizeOf172
  v233 := Tryz.zeroValue172
  g17 := by kernel_rfl
  g18 := by kernel_rfl
  g19 := by kernel_rfl
  i0 := by kernel_rfl
  i2 := by kernel_rfl
  i3 := by kernel_rfl
  i4 := by kernel_rfl
  i5 := by kernel_rfl
  i9 := by kernel_rfl
  i20 := by kernel_rfl
  i37 := by kernel_rfl
  i46 := by kernel_rfl
  i51 := by kernel_rfl
  i53 := by kernel_rfl
  i171 := by kernel_rfl
  i173 := by kernel_rfl
  i212 := by kernel_rfl
  i232 := by kernel_rfl
  i233 := by kernel_rfl
  m17 := by kernel_rfl
  m18 := by kernel_rfl
  m19 := by kernel_rfl }
open Go.RowKit Go.Sort Go.Lib in
theorem Tryz.strconv_Itoa (n : Int) (h0 : -9223372036854775808 ≤ n) (h1 : n ≤ 9223372036854775807) (w : World) (htab : Lib.TabIs Tryz.prog w "internal/strconv.uint64pow10" .u64 Lib.pow10Tab) :
    Calls Tryz.prog 95 #[.int .i64 n] w fun e w' => e = .returned (.string ⟨(Lib.itoa n).toArray⟩) ∧ ∃ k os, w' = grow (w.drewN k) os := Any.strconv_Itoa Tryz.laysM171 n h0 h1 w htab
def Tryz.laysM173_ren : Go.Shelf.Ren := ⟨fun | 173 => 63 | 246 => 87 | 283 => 101 | 284 => 102 | 285 => 103 | 286 => 104 | 129 => 129 | 317 => 128 | 318 => 130 | 319 => 131 | 320 => 132 | 337 => 146 | 338 => 147 | n => n, fun | 2 => 2 | 3 => 3 | 9 => 9 | 4 => 4 | 171 => 117 | 0 => 0 | 53 => 107 | 37 => 52 | 5 => 5 | 173 => 120 | 212 => 144 | 51 => 98 | 20 => 20 | 213 => 145 | 46 => 135 | 232 => 171 | 233 => 172 | n => n, fun | 17 => 1 | 18 => 4 | 19 => 5 | n => n⟩
theorem Tryz.laysM173 : Go.Proofs.LaysM.n173 Tryz.prog Tryz.laysM173_ren := {
  mixed := by kernel_rfl
  f129 := Tryz.func129.trans (congrArg some (by kernel_rfl))
  f173 := Tryz.func63.trans (congrArg some (by kernel_rfl))
  f246 := Tryz.func87.trans (congrArg some (by kernel_rfl))
  f283 := Tryz.func101.trans (congrArg some (by kernel_rfl))
  f284 := Tryz.func102.trans (congrArg some (by kernel_rfl))
  f285 := Tryz.func103.trans (congrArg some (by kernel_rfl))
  f286 := Tryz.func104.trans (congrArg some (by kernel_rfl))
  f317 := Tryz.func128.trans (congrArg some (by kernel_rfl))
  f318 := Tryz.func130.trans (congrArg some (by kernel_rfl))
  f319 := Tryz.func131.trans (congrArg some (by kernel_rfl))
  f320 := Tryz.func132.trans (congrArg some (by kernel_rfl))
  f337 := Tryz.func146.trans (congrArg some (by kernel_rfl))
  f338 := Tryz.func147.trans (congrArg some (by kernel_rfl))
  t0 := Tryz.underlying0
  a0 := Tryz.isAgg0
  z0 := Tryz.sizeOf0
  v0 := Tryz.zeroValue0
  t2 := Tryz.underlying2
  a2 := Tryz.isAgg2
  z2 := Tryz.sizeOf2
  v2 := Tryz.zeroValue2
  t3 := Tryz.underlying3
  a3 := Tryz.isAgg3
  z3 := Tryz.sizeOf3
  v3 := Tryz.zeroValue3
  t4 := Tryz.underlying4
  a4 := Tryz.isAgg4
  z4 := Tryz.sizeOf4
  v4 := Tryz.zeroValue4
  t5 := Tryz.underlying5
  a5 := Tryz.isAgg5
  z5 := Tryz.sizeOf5
  v5 := Tryz.zeroValue5
  t9 := Tryz.underlying9
  a9 := Tryz.isAgg9
  z9 := Tryz.sizeOf9
  v9 := Tryz.zeroValue9
  t20 := Tryz.underlying20
  a20 := Tryz.isAgg20
  z20 := Tryz.sizeOf20
  v20 := Tryz.zeroValue20
  t37 := Tryz.underlying52
  a37 := Tryz.isAgg52
  z37 := Tryz.sizeOf52
  v37 := Tryz.zeroValue52
  t46 := Tryz.underlying135
  a46 := Tryz.isAgg135
  z46 := Tryz.sizeOf135
  v46 := Tryz.zeroValue135
  t51 := Tryz.underlying98
  a51 := Tryz.isAgg98
  z51 := Tryz.sizeOf98
  v51 := Tryz.zeroValue98
  t53 := Tryz.underlying107
  a53 := Tryz.isAgg107
  z53 := Tryz.sizeOf107
  v53 := Tryz.zeroValue107
  t171 := Tryz.underlying117
  a171 := Tryz.isAgg117
  z171 := Tryz.sizeOf117
  v171 := Tryz.zeroValue117
  t173 := Tryz.underlying120
  a173 := Tryz.isAgg120
  z173 := Tryz.sizeOf120
  v173 := Tryz.zeroValue120
  t212 := Tryz.underlying144
  a212 := Tryz.isAgg144
  z212 := Tryz.sizeOf144
  v212 := Tryz.zeroValue144
  t213 := Tryz.underlying145
  a213 := Tryz.isAgg145
  z213 := Tryz.sizeOf145
  t232 := Tryz.underlying171
  a232 := Tryz.isAgg171
  z232 := Tryz.sizeOf171
  v232 := Tryz.zeroValue171
  t233 := Tryz.underlying172
  a233 := Tryz.isAgg172
  z233 := Tryz.sizeOf172
  v233 := Tryz.zeroValue172
  g17 := by kernel_rfl
  g18 := by kernel_rfl
  g19 := by kernel_rfl
  i0 := by kernel_rfl
  i2 := by kernel_rfl
  i3 := by kernel_rfl
  i4 := by kernel_rfl
  i5 := by kernel_rfl
  i9 := by kernel_rfl
  i20 := by kernel_rfl
  i37 := by kernel_rfl
  i46 := by kernel_rfl
  i51 := by kernel_rfl
  i53 := by kernel_rfl
  i171 := by kernel_rfl
  i173 := by kernel_rfl
  i212 := by kernel_rfl
  i232 := by kernel_rfl
  i233 := by kernel_rfl
  m17 := by kernel_rfl
  m18 := by kernel_rfl
  m19 := by kernel_rfl }
open Go.RowKit Go.Sort Go.Lib in
theorem Tryz.strconv_FormatInt_10 (n : Int) (h0 : -9223372036854775808 ≤ n) (h1 : n ≤ 9223372036854775807) (w : World) (htab : Lib.TabIs Tryz.prog w "internal/strconv.uint64pow10" .u64 Lib.pow10Tab) :
    Calls Tryz.prog 63 #[.int .i64 n, .int .i64 10] w fun e w' => e = .returned (.string ⟨(Lib.itoa n).toArray⟩) ∧ ∃ k os, w' = grow (w.drewN k) os := Any.strconv_FormatInt_10 Tryz.laysM173 n h0 h1 w htab
def Tryz.laysC172_ren : Go.Shelf.Ren := ⟨fun | 172 => 77 | 244 => 92 | 245 => 93 | 247 => 113 | 279 => 114 | 280 => 115 | 281 => 116 | 282 => 117 | 287 => 137 | 316 => 138 | 171 => 95 | 205 => 139 | 321 => 151 | 322 => 152 | 243 => 118 | 246 => 87 | 283 => 101 | 284 => 102 | 285 => 103 | 286 => 104 | 129 => 129 | 317 => 128 | 318 => 130 | 319 => 131 | 320 => 132 | 337 => 146 | 338 => 147 | n => n, fun | 9 => 9 | 3 => 3 | 75 => 95 | 76 => 96 | 4 => 4 | 5 => 5 | 167 => 129 | 37 => 52 | 0 => 0 | 85 => 130 | 2 => 2 | 168 => 132 | 53 => 107 | 175 => 152 | 46 => 135 | 210 => 155 | 127 => 140 | 145 => 169 | 143 => 167 | 21 => 21 | 171 => 117 | 173 => 120 | 212 => 144 | 51 => 98 | 20 => 20 | 213 => 145 | 232 => 171 | 233 => 172 | 80 => 102 | n => n, fun | 15 => 2 | 16 => 3 | 17 => 1 | 18 => 4 | 19 => 5 | n => n⟩
theorem Tryz.laysC172 : Go.Proofs.LaysC.n172 Tryz.prog Tryz.laysC172_ren := {
  mixed := by kernel_rfl
  f129 := Tryz.func129.trans (congrArg some (by kernel_rfl))
  f171 := Tryz.func95.trans (congrArg some (by kernel_rfl))
  f172 := Tryz.func77.trans (congrArg some (by kernel_rfl))
  f205 := Tryz.func139.trans (congrArg some (by kernel_rfl))
  f243 := Tryz.func118.trans (congrArg some (by kernel_rfl))
  f244 := Tryz.func92.trans (congrArg some (by kernel_rfl))
  f245 := Tryz.func93.trans (congrArg some (by kernel_rfl))
  f246 := Tryz.func87.trans (congrArg some (by kernel_rfl))
  f247 := Tryz.func113.trans (congrArg some (by kernel_rfl))
  f279 := Tryz.func114.trans (congrArg some (by kernel_rfl))
  f280 := Tryz.func115.trans (congrArg some (by kernel_rfl))
  f281 := Tryz.func116.trans (congrArg some (by kernel_rfl))
  f282 := Tryz.func117.trans (congrArg some (by kernel_rfl))
  f283 := Tryz.func101.trans (congrArg some (by kernel_rfl))
  f284 := Tryz.func102.trans (congrArg some (by kernel_rfl))
  f285 := Tryz.func103.trans (congrArg some (by kernel_rfl))
  f286 := Tryz.func104.trans (congrArg some (by kernel_rfl))
  f287 := Tryz.func137.trans (congrArg some (by kernel_rfl))
  f316 := Tryz.func138.trans (congrArg some (by kernel_rfl))
  f317 := Tryz.func128.trans (congrArg some (by kernel_rfl))
  f318 := Tryz.func130.trans (congrArg some (by kernel_rfl))
  f319 := Tryz.func131.trans (congrArg some (by kernel_rfl))
  f320 := Tryz.func132.trans (congrArg some (by kernel_rfl))
  f321 := Tryz.func151.trans (congrArg some (by kernel_rfl))
  f322 := Tryz.func152.trans (congrArg some (by kernel_rfl))
  f337 := Tryz.func146.trans (congrArg some (by kernel_rfl))
  f338 := Tryz.func147.trans (congrArg some (by kernel_rfl))
  t0 := Tryz.underlying0
  a0 := Tryz.isAgg0
  z0 := Tryz.sizeOf0
  v0 := Tryz.zeroValue0
  t2 := Tryz.underlying2
  a2 := Tryz.isAgg2
  z2 := Tryz.sizeOf2
  v2 := Tryz.zeroValue2
  t3 := Tryz.underlying3
  a3 := Tryz.isAgg3
  z3 := Tryz.sizeOf3
  v3 := Tryz.zeroValue3
  t4 := Tryz.underlying4
  a4 := Tryz.isAgg4
  z4 := Tryz.sizeOf4
  v4 := Tryz.zeroValue4
  t5 := Tryz.underlying5
  a5 := Tryz.isAgg5
  z5 := Tryz.sizeOf5
  v5 := Tryz.zeroValue5
  t9 := Tryz.underlying9
  a9 := Tryz.isAgg9
  z9 := Tryz.sizeOf9
  v9 := Tryz.zeroValue9
  t20 := Tryz.underlying20
  a20 := Tryz.isAgg20
  z20 := Tryz.sizeOf20
  v20 := Tryz.zeroValue20
  t21 := Tryz.underlying21
  a21 := Tryz.isAgg21
  z21 := Tryz.sizeOf21
  v21 := Tryz.zeroValue21
  t37 := Tryz.underlying52
  a37 := Tryz.isAgg52
  z37 := Tryz.sizeOf52
  v37 := Tryz.zeroValue52
  t46 := Tryz.underlying135
  a46 := Tryz.isAgg135
  z46 := Tryz.sizeOf135
  v46 := Tryz.zeroValue135
  t51 := Tryz.underlying98
  a51 := Tryz.isAgg98
  z51 := Tryz.sizeOf98
  v51 := Tryz.zeroValue98
  t53 := Tryz.underlying107
  a53 := Tryz.isAgg107
  z53 := Tryz.sizeOf107
  v53 := Tryz.zeroValue107
  t75 := Tryz.underlying95
  a75 := Tryz.isAgg95
  z75 := Tryz.sizeOf95
  v75 := Tryz.zeroValue95
  t76 := Tryz.underlying96
  a76 := Tryz.isAgg96
  z76 := Tryz.sizeOf96
  v76 := Tryz.zeroValue96
  t85 := Tryz.underlying130
  a85 := Tryz.isAgg130
  z85 := Tryz.sizeOf130
  v85 := Tryz.zeroValue130
  t127 := Tryz.underlying140
  a127 := Tryz.isAgg140
  z127 := Tryz.sizeOf140
  v127 := Tryz.zeroValue140
  t143 := Tryz.underlying167
  a143 := Tryz.isAgg167
  z143 := Tryz.sizeOf167
  v143 := Tryz.zeroValue167
  t145 := Tryz.underlying169
  a145 := Tryz.isAgg169
  z145 := Tryz.sizeOf169
  v145 := Tryz.zeroValue169
  t167 := Tryz.underlying129
  a167 := Tryz.isAgg129
  z167 := Tryz.sizeOf129
  v167 := Tryz.zeroValue129
  t168 := Tryz.underlying132
  a168 := Tryz.isAgg132
  z168 := Tryz.sizeOf132
  v168 := Tryz.zeroValue132
  t171 := Tryz.underlying117
  a171 := Tryz.isAgg117
  z171 := Tryz.sizeOf117
  v171 := Tryz.zeroValue117
  t173 := Tryz.underlying120
  a173 := Tryz.isAgg120
  z173 := Tryz.sizeOf120
  v173 := Tryz.zeroValue120
  t175 := Tryz.underlying152
  a175 := Tryz.isAgg152
  z175 := Tryz.sizeOf152
  v175 := Tryz.zeroValue152
  t210 := Tryz.underlying155
  a210 := Tryz.isAgg155
  z210 := Tryz.sizeOf155
  v210 := Tryz.zeroValue155
  t212 := Tryz.underlying144
  a212 := Tryz.isAgg144
  z212 := Tryz.sizeOf144
  v212 := Tryz.zeroValue144
  t213 := Tryz.underlying145
  a213 := Tryz.isAgg145
  z213 := Tryz.sizeOf145
  t232 := Tryz.underlying171
  a232 := Tryz.isAgg171
  z232 := Tryz.sizeOf171
  v232 := Tryz.zeroValue171
  t233 := Tryz.underlying172
  a233 := Tryz.isAgg172
  z233 := Tryz.sizeOf172
  v233 := Tryz.zeroValue172
  g15 := by kernel_rfl
  g16 := by kernel_rfl
  g17 := by kernel_rfl
  g18 := by kernel_rfl
  g19 := by kernel_rfl
  t80 := Tryz.underlying102
  a80 := Tryz.isAgg102
  z80 := Tryz.sizeOf102
  v80 := Tryz.zeroValue102
  i0 := by kernel_rfl
  i2 := by kernel_rfl
  i3 := by kernel_rfl
  i4 := by kernel_rfl
  i5 := by kernel_rfl
  i9 := by kernel_rfl
  i20 := by kernel_rfl
  i21 := by kernel_rfl
  i37 := by kernel_rfl
  i46 := by kernel_rfl
  i51 := by kernel_rfl
  i53 := by kernel_rfl
  i75 := by kernel_rfl
  i76 := by kernel_rfl
  i80 := by kernel_rfl
  i85 := by kernel_rfl
  i127 := by kernel_rfl
  i143 := by kernel_rfl
  i145 := by kernel_rfl
  i167 := by kernel_rfl
  i168 := by kernel_rfl
  i171 := by kernel_rfl
  i173 := by kernel_rfl
  i175 := by kernel_rfl
  i210 := by kernel_rfl
  i212 := by kernel_rfl
  i232 := by kernel_rfl
  i233 := by kernel_rfl
  m15 := by kernel_rfl
  m16 := by kernel_rfl
  m17 := by kernel_rfl
  m18 := by kernel_rfl
  m19 := by kernel_rfl
  c0 := by kernel_rfl
  c2 := by kernel_rfl
  c3 := by kernel_rfl
  c4 := by kernel_rfl
  c5 := by kernel_rfl
  c9 := by kernel_rfl
  c20 := by kernel_rfl
  c21 := by kernel_rfl
  c37 := by kernel_rfl
  c46 := by kernel_rfl
  c51 := by kernel_rfl
  c53 := by kernel_rfl
  c75 := by kernel_rfl
  c76 := by kernel_rfl
  c80 := by kernel_rfl
  c85 := by kernel_rfl
  c127 := by kernel_rfl
  c143 := by kernel_rfl
  c145 := by kernel_rfl
  c167 := by kernel_rfl
  c168 := by kernel_rfl
  c171 := by kernel_rfl
  c173 := by kernel_rfl
  c175 := by kernel_rfl
  c210 := by kernel_rfl
  c212 := by kernel_rfl
  c213 := by kernel_rfl
  c232 := by kernel_rfl
  c233 := by kernel_rfl }
open Go.RowKit in
theorem Tryz.strconv_Atoi_ok (s : ByteArray) (hmax : s.size ≤ 9223372036854775806) (v : Int) (h : Lib.atoiAll s.data.toList = .ok v) (w : World) :
    Calls Tryz.prog 77 #[.string s] w fun e w' => e = .returned (.tuple #[.int .i64 v, .nilIface]) ∧ (w' = w ∨ ∃ t, w' = Lib.bytesWorld w 5 t) := Any.strconv_Atoi_ok Tryz.laysC172 s hmax v h w
def Tryz.lays219_ren : Go.Shelf.Ren := ⟨fun | 219 => 100 | 217 => 124 | 225 => 125 | 224 => 126 | 267 => 127 | 266 => 144 | 314 => 145 | n => n, fun | 9 => 9 | 3 => 3 | 4 => 4 | 5 => 5 | 46 => 135 | 146 => 157 | 51 => 98 | n => n, fun | 1 => 0 | n => n⟩
theorem Tryz.lays219 : Go.Proofs.Lays.n219 Tryz.prog Tryz.lays219_ren := {
  mixed := by kernel_rfl
  f217 := Tryz.func124.trans (congrArg some (by kernel_rfl))
  f219 := Tryz.func100.trans (congrArg some (by kernel_rfl))
  f224 := Tryz.func126.trans (congrArg some (by kernel_rfl))
  f225 := Tryz.func125.trans (congrArg some (by kernel_rfl))
  f266 := Tryz.func144.trans (congrArg some (by kernel_rfl))
  f267 := Tryz.func127.trans (congrArg some (by kernel_rfl))
  f314 := Tryz.func145.trans (congrArg some (by kernel_rfl))
  t3 := Tryz.underlying3
  a3 := Tryz.isAgg3
  z3 := Tryz.sizeOf3
  v3 := Tryz.zeroValue3
  t4 := Tryz.underlying4
  a4 := Tryz.isAgg4
  z4 := Tryz.sizeOf4
  v4 := Tryz.zeroValue4
  t5 := Tryz.underlying5
  a5 := Tryz.isAgg5
  z5 := Tryz.sizeOf5
  v5 := Tryz.zeroValue5
  t9 := Tryz.underlying9
  a9 := Tryz.isAgg9
  z9 := Tryz.sizeOf9
  v9 := Tryz.zeroValue9
  t46 := Tryz.underlying135
  a46 := Tryz.isAgg135
  z46 := Tryz.sizeOf135
  v46 := Tryz.zeroValue135
  t51 := Tryz.underlying98
  a51 := Tryz.isAgg98
  z51 := Tryz.sizeOf98
  v51 := Tryz.zeroValue98
  t146 := Tryz.underlying157
  a146 := Tryz.isAgg157
  z146 := Tryz.sizeOf157
  v146 := Tryz.zeroValue157
  g1 := by kernel_rfl }
open Go.RowKit Go.Lib in
theorem Tryz.stringslite_Index_one (s : ByteArray) (c : UInt8) (w : World) :
    Calls Tryz.prog 100 #[.string s, .string ⟨#[c]⟩] w fun e w' => e = .returned (.int .i64 (Lib.indexByte s.data.toList c)) ∧ w' = w := Any.stringslite_Index_one Tryz.lays219 s c w
def Tryz.lays105_ren : Go.Shelf.Ren := ⟨fun | 105 => 96 | 212 => 119 | 99 => 120 | 165 => 121 | 166 => 97 | 170 => 122 | 169 => 98 | 263 => 140 | 264 => 141 | 206 => 105 | 240 => 123 | 241 => 142 | 276 => 143 | 277 => 153 | n => n, fun | 9 => 9 | 3 => 3 | 4 => 4 | 20 => 20 | 0 => 0 | 46 => 135 | 109 => 136 | 5 => 5 | 72 => 114 | 76 => 96 | 51 => 98 | 146 => 157 | 53 => 107 | 148 => 159 | 70 => 112 | 37 => 52 | 75 => 95 | 127 => 140 | 164 => 161 | 80 => 102 | n => n, fun | n => n⟩
theorem Tryz.lays105 : Go.Proofs.Lays.n105 Tryz.prog Tryz.lays105_ren := {
  mixed := by kernel_rfl
  f99 := Tryz.func120.trans (congrArg some (by kernel_rfl))
  f105 := Tryz.func96.trans (congrArg some (by kernel_rfl))
  f165 := Tryz.func121.trans (congrArg some (by kernel_rfl))
  f166 := Tryz.func97.trans (congrArg some (by kernel_rfl))
  f169 := Tryz.func98.trans (congrArg some (by kernel_rfl))
  f170 := Tryz.func122.trans (congrArg some (by kernel_rfl))
  f206 := Tryz.func105.trans (congrArg some (by kernel_rfl))
  f212 := Tryz.func119.trans (congrArg some (by kernel_rfl))
  f240 := Tryz.func123.trans (congrArg some (by kernel_rfl))
  f241 := Tryz.func142.trans (congrArg some (by kernel_rfl))
  f263 := Tryz.func140.trans (congrArg some (by kernel_rfl))
  f264 := Tryz.func141.trans (congrArg some (by kernel_rfl))
  f276 := Tryz.func143.trans (congrArg some (by kernel_rfl))
  f277 := Tryz.func153.trans (congrArg some (by kernel_rfl))
  t0 := Tryz.underlying0
  a0 := Tryz.isAgg0
  z0 := Tryz.sizeOf0
  v0 := Tryz.zeroValue0
  t3 := Tryz.underlying3
  a3 := Tryz.isAgg3
  z3 := Tryz.sizeOf3
  v3 := Tryz.zeroValue3
  t4 := Tryz.underlying4
  a4 := Tryz.isAgg4
  z4 := Tryz.sizeOf4
  v4 := Tryz.zeroValue4
  t5 := Tryz.underlying5
  a5 := Tryz.isAgg5
  z5 := Tryz.sizeOf5
  v5 := Tryz.zeroValue5
  t9 := Tryz.underlying9
  a9 := Tryz.isAgg9
  z9 := Tryz.sizeOf9
  v9 := Tryz.zeroValue9
  t20 := Tryz.underlying20
  a20 := Tryz.isAgg20
  z20 := Tryz.sizeOf20
  v20 := Tryz.zeroValue20
  t37 := Tryz.underlying52
  a37 := Tryz.isAgg52
  z37 := Tryz.sizeOf52
  v37 := Tryz.zeroValue52
  t46 := Tryz.underlying135
  a46 := Tryz.isAgg135
  z46 := Tryz.sizeOf135
  v46 := Tryz.zeroValue135
  t51 := Tryz.underlying98
  a51 := Tryz.isAgg98
  z51 := Tryz.sizeOf98
  v51 := Tryz.zeroValue98
  t53 := Tryz.underlying107
  a53 := Tryz.isAgg107
  z53 := Tryz.sizeOf107
  v53 := Tryz.zeroValue107
  t70 := Tryz.underlying112
  a70 := Tryz.isAgg112
  z70 := Tryz.sizeOf112
  v70 := Tryz.zeroValue112
  t72 := Tryz.underlying114
  a72 := Tryz.isAgg114
  z72 := Tryz.sizeOf114
  v72 := Tryz.zeroValue114
  t75 := Tryz.underlying95
  a75 := Tryz.isAgg95
  z75 := Tryz.sizeOf95
  v75 := Tryz.zeroValue95
  t76 := Tryz.underlying96
  a76 := Tryz.isAgg96
  z76 := Tryz.sizeOf96
  v76 := Tryz.zeroValue96
  t109 := Tryz.underlying136
  a109 := Tryz.isAgg136
  z109 := Tryz.sizeOf136
  v109 := Tryz.zeroValue136
  t127 := Tryz.underlying140
  a127 := Tryz.isAgg140
  z127 := Tryz.sizeOf140
  v127 := Tryz.zeroValue140
  t146 := Tryz.underlying157
  a146 := Tryz.isAgg157
  z146 := Tryz.sizeOf157
  v146 := Tryz.zeroValue157
  t148 := Tryz.underlying159
  a148 := Tryz.isAgg159
  z148 := Tryz.sizeOf159
  v148 := Tryz.zeroValue159
  t164 := Tryz.underlying161
  a164 := Tryz.isAgg161
  z164 := Tryz.sizeOf161
  v164 := Tryz.zeroValue161 }
theorem Tryz.Builder_Extra_105 : Builder.Extra Tryz.prog Tryz.lays105_ren := {
  sizeBuilder := by kernel_rfl
  liesBuilder := by kernel_rfl
  t5 := Tryz.underlying5
  a5 := Tryz.isAgg5
  z5 := Tryz.sizeOf5
  v5 := Tryz.zeroValue5
  infoByte := by kernel_rfl
  cellsByte := by kernel_rfl
  sizeByte := by kernel_rfl
  neB5 := by decide }
open Go.RowKit Go.Lib in
theorem Tryz.strings_Repeat (s : ByteArray) (c : Nat) (w : World) (hc : c ≤ 9223372036854775807) (hlen : s.size * c ≤ 140737488355328) :
    Calls Tryz.prog 96 #[.string s, .int .i64 c] w fun e w' => e = .returned (.string ⟨(Lib.repeatL s.data.toList c).toArray⟩) ∧ Below w.heap.size w w' := Any.strings_Repeat Tryz.lays105 Tryz.Builder_Extra_105 s c w hc hlen
end Go.Proofs
