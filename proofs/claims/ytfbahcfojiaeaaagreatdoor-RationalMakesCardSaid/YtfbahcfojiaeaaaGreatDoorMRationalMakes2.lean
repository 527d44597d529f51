/- Proved: the law RationalMakes returns true at all its arguments (no further conditions): the row and what it stands on. -/
import Derived.Test.YtfbahcfojiaeaaaGreatDoorMRationalMakes0
import Derived.Test.YtfbahcfojiaeaaaGreatDoorMRationalMakes1
import Derived.Test.YtfbahcfojiaeaaaGreatDoorT2
import Derived.Test.YtfbahcfojiaeaaaGreatDoorT1
import Derived.Test.YtfbahcfojiaeaaaGreatDoorRows
import Derived.WalkKit
import Derived.ProofKit
import Derived.LaidMore
import Derived.Lay
import Derived.Lib.LaidTab
import Derived.Test.YtfbahcfojiaeaaaGreatDoorCards
import Derived.Test.YtfbahcfojiaeaaaGreatDoorTie
import Derived.OpenShut
import Derived.ShutString
import Derived.ChangeOld
import Derived.Below
import Derived.SizedLaws
import Derived.SevenTiedAt
import Derived.Stop.Joined

set_option linter.unusedVariables false
set_option maxRecDepth 100000
namespace Go.Proofs.YtfbahcfojiaeaaaGreatDoor
open Go Th Go.Proofs
def ann10 : Ann := { loops := [(2, [(0, .id), (3, .id)], [(2, .id)])], cuts := [], frz := [], rm := [.id] }
noncomputable abbrev env10 (n : Nat) : Env := fun _ => none
theorem envok10 (n : Nat) : EnvOK Tryz.prog GI (env10 n) := EnvOK.nil
noncomputable def p10_l2B {R : Type} (n : Nat) (l0 : List PV → Int → Option R) (x1 : List PV) (x2 : Int) (k0 : Bool → Option R) (k1 : Option R) : Option R :=
  bif (decide (x2 < ((x1).length : Int))) then (bif (inR x2 ((x1).length)) then (getS ((x1).getD ((x2 : Int).toNat) (.v (.bool false))) fun e3 => bif (decide (((e3).size : Int) > 300)) then (k0 false) else (l0 x1 (IntKind.i64.wrap (x2 + 1)))) else none) else (k1)
noncomputable def p10_l2L {R : Type} (n : Nat) : Nat → List PV → Int → (Bool → Option R) → (Option R) → Option R
  | 0, _, _, _, _ => none
  | m + 1, x1, x2, k0, k1 => p10_l2B n (fun x1 x2 => p10_l2L n m x1 x2 k0 k1) x1 x2 k0 k1
noncomputable def p10_l2 {R : Type} (n : Nat) (x1 : List PV) (x2 : Int) (k0 : Bool → Option R) (k1 : Option R) : Option R := p10_l2L n n x1 x2 k0 k1
noncomputable def p10 {R : Type} (n : Nat) (x1 : List PV) (k0 : Bool → Option R) : Option R :=
  p10_l2 n x1 0 (fun y2 => k0 y2) (k0 true)
noncomputable abbrev E10 {R : Type} (n : Nat) (c : Code) : Fr → Kc R → Option R := evC Tryz.prog (env10 n) ann10 n (16, []) c
noncomputable def c10_l2 : Code := subC (bodyOf Tryz.f10) [1, 0, 1, 0, 0]
abbrev t10_l2 : Sl (List SV) := (.c (sP sSh) (.c (sP (sInt .i64)) .n))
noncomputable abbrev f10_l2 {R : Type} (n m : Nat) (K : Kc R) : t10_l2.T (Option R) := fun x1 x2 => p10_l2L n m x1 x2 (fun y1 => K .ret (lk (outA ann10.loops 2) [.p (.v (.bool y1))])) (K (.exit 0) (lk (outA ann10.loops 2) [.dead]))
noncomputable abbrev o10_l2 {R : Type} (n : Nat) (vs : List SV) (K : Kc R) : Option R := oget (t10_l2.ap vs (f10_l2 n n K)) (loopE ann10 2 (E10 n c10_l2) n vs K)
noncomputable abbrev lo10 {R : Type} (n : Nat) : Orc R := fun i vs K => dcnd (Nat.beq i 2) (o10_l2 n vs K) (none)
noncomputable abbrev cu10 {R : Type} (n : Nat) : Orc R := fun i vs K => none
section
variable {R : Type}
noncomputable abbrev V10 (n : Nat) (c : Code) : Fr → Kc R → Option R := evOi Tryz.prog (env10 n) ann10 (16, []) (lo10 n) (cu10 n) c
abbrev K10 (R : Type) (n : Nat) := PartOK (R := R) Tryz.prog (env10 n) ann10 n (16, []) (lo10 n) (cu10 n)
theorem pa10_l2 (n : Nat) : allP (K10 R n) (partsOf ann10 c10_l2) := by
  rw [show partsOf ann10 c10_l2 = [] from by kernel_rfl]; exact trivial
theorem sp10_l2 (n m : Nat) (x1 : List PV) (x2 : Int) (K : Kc R) : loopE ann10 2 (V10 n c10_l2) (m + 1) [.p (.sh x1), .p (.v (.int .i64 x2))] K = p10_l2B n (fun x1 x2 => loopE ann10 2 (V10 n c10_l2) m [.p (.sh x1), .p (.v (.int .i64 x2))] K) x1 x2 (fun y1 => K .ret (lk (outA ann10.loops 2) [.p (.v (.bool y1))])) (K (.exit 0) (lk (outA ann10.loops 2) [.dead])) := by kernel_rfl
theorem ep10_l2 (n : Nat) (K : Kc R) : ∀ (m : Nat) (x1 : List PV) (x2 : Int), loopE ann10 2 (V10 n c10_l2) m [.p (.sh x1), .p (.v (.int .i64 x2))] K = f10_l2 n m K x1 x2
  | 0, _, _ => rfl
  | m + 1, x1, x2 => (sp10_l2 n m x1 x2 K).trans (congrArg (fun l0 => p10_l2B n l0 x1 x2 (fun y1 => K .ret (lk (outA ann10.loops 2) [.p (.v (.bool y1))])) (K (.exit 0) (lk (outA ann10.loops 2) [.dead]))) (funext fun z0 => funext fun z1 => ep10_l2 n K m z0 z1))
theorem q10_l2 (n : Nat) : K10 R n (false, 2, c10_l2) := part_loop (pa10_l2 n) t10_l2 (f10_l2 n n) (fun K x1 x2 => ep10_l2 n K n x1 x2) fun _ _ => rfl
theorem pa10 (n : Nat) : allP (K10 R n) (partsOf ann10 (bodyOf Tryz.f10)) := by
  rw [show partsOf ann10 (bodyOf Tryz.f10) = [(false, 2, c10_l2)] from by kernel_rfl]; exact ⟨q10_l2 n, trivial⟩
end
abbrev t10 : Sl (List SV) := (.c (sP sSh) .n)
noncomputable abbrev f10 (n : Nat) {R : Type} (K : List SV → Option R) : t10.T (Option R) := fun x1 => p10 n x1 (fun y1 => K [.p (.v (.bool y1))])
theorem ep10 {R : Type} (n : Nat) (K : List SV → Option R) (x1 : List PV) : evFn Tryz.prog (env10 n) ann10 n Tryz.f10 [.p (.sh x1)] K = f10 n K x1 := by
  rw [evFn_evOi (c := bodyOf Tryz.f10) (by kernel_rfl) (pa10 n)]; kernel_rfl
noncomputable abbrev fs10 (n : Nat) : FS := { om := [false], run := fun args K => oget (t10.ap args (f10 n K)) none }
theorem ok10 (n : Nat) : FSound Tryz.prog GI 10 (fs10 n) :=
  FSound.good (envok10 n) (ann := ann10) (n := n) Tryz.func10
    (.cons (envok10 n) t10 (f10 n) (fun K x1 => ep10 n K x1) .nil)
    (by kernel_rfl) (by kernel_rfl) (by kernel_rfl)
end Go.Proofs.YtfbahcfojiaeaaaGreatDoor


set_option linter.unusedVariables false
set_option maxRecDepth 100000
namespace Go.Proofs.YtfbahcfojiaeaaaGreatDoor
open Go Th Go.Proofs
def ann56 : Ann := { loops := [(9, [(4, .id), (5, .id), (6, .id), (37, .id), (38, .id)], [(2, .id), (3, .id), (4, .id), (6, .id)])], cuts := [(2, [(0, .id), (4, .id)], [(2, .id), (3, .id)]), (5, [(0, .id), (4, .id), (5, .id)], [(2, .id), (3, .id)]), (7, [(4, .id), (5, .id)], [(2, .id), (3, .id)]), (17, [(6, .id)], [(2, .id), (3, .id)])], frz := [], rm := [.id, .id] }
noncomputable abbrev env56 (n : Nat) : Env := fun _ => none
theorem envok56 (n : Nat) : EnvOK Tryz.prog GI (env56 n) := EnvOK.nil
noncomputable def p56_l9B {R : Type} (n : Nat) (l0 : Bool → ByteArray → Int → Int → Int → Option R) (x1 : Bool) (x2 : ByteArray) (x3 x4 x5 : Int) (k0 : Int → Bool → Bool → Int → Option R) (k1 : Bool → Int → Option R) : Option R :=
  bif (decide (x5 < x4)) then (bif (inR x5 (x2).size) then (bif (decide (byteAt x2 x5 < 48)) then (bif true then (bif true then (bif true then (bif true then (bif true then (k0 0 false x1 x3) else none) else none) else none) else none) else none) else (bif false then none else (bif false then none else (bif (inR x5 (x2).size) then (bif false then none else (bif (bif false then true else (decide (byteAt x2 x5 > 57))) then (k0 0 false x1 x3) else (bif (inR x5 (x2).size) then (let v6 := IntKind.u8.wrap ((byteAt x2 x5) - 48); let v7 := IntKind.i64.wrap ((IntKind.i64.wrap (10 * x3)) + (IntKind.i64.wrap (v6))); l0 x1 x2 v7 x4 (IntKind.i64.wrap (x5 + 1))) else none))) else none)))) else none) else (k1 x1 x3)
noncomputable def p56_l9L {R : Type} (n : Nat) : Nat → Bool → ByteArray → Int → Int → Int → (Int → Bool → Bool → Int → Option R) → (Bool → Int → Option R) → Option R
  | 0, _, _, _, _, _, _, _ => none
  | m + 1, x1, x2, x3, x4, x5, k0, k1 => p56_l9B n (fun x1 x2 x3 x4 x5 => p56_l9L n m x1 x2 x3 x4 x5 k0 k1) x1 x2 x3 x4 x5 k0 k1
noncomputable def p56_l9 {R : Type} (n : Nat) (x1 : Bool) (x2 : ByteArray) (x3 x4 x5 : Int) (k0 : Int → Bool → Bool → Int → Option R) (k1 : Bool → Int → Option R) : Option R := p56_l9L n n x1 x2 x3 x4 x5 k0 k1
noncomputable def p56_c17 {R : Type} (n : Nat) (x1 : Int) (k0 : Int → Bool → Option R) : Option R :=
  k0 x1 true
noncomputable def p56_c7 {R : Type} (n : Nat) (x1 : Bool) (x2 : ByteArray) (k0 : Int → Bool → Option R) : Option R :=
  p56_l9 n x1 x2 0 ((x2).size : Int) 0 (fun y3 y4 y5 y6 => k0 y3 y4) (fun y7 y8 => bif y7 then (p56_c17 n (IntKind.i64.wrap (0 - y8)) (fun y9 y10 => k0 y9 y10)) else (p56_c17 n y8 (fun y11 y12 => k0 y11 y12)))
noncomputable def p56_c5 {R : Type} (n : Nat) (x1 : ByteArray) (x2 : Bool) (x3 : ByteArray) (k0 : Int → Bool → Option R) : Option R :=
  bif (eqS x3 (⟨#[]⟩ : ByteArray)) then (bif true then (bif true then (bif true then (bif true then (bif true then (bif true then (bif true then (bif true then (bif true then (bif true then (k0 0 false) else none) else none) else none) else none) else none) else none) else none) else none) else none) else none) else (bif false then none else (bif false then none else (bif (bif false then true else (decide (((x3).size : Int) > 9))) then (bif true then (bif true then (bif true then (bif true then (bif true then (bif true then (k0 0 false) else none) else none) else none) else none) else none) else none) else (bif false then none else (bif (inR 0 (x3).size) then (bif false then none else (bif false then none else (bif (byteAt x3 0 == 48) then (bif true then (bif true then (bif false then none else (bif (bif false then true else (bif true then (decide (((x1).size : Int) > 1)) else false)) then (k0 0 false) else (p56_c7 n x2 x3 (fun y4 y5 => k0 y4 y5)))) else none) else none) else (bif false then none else (bif false then none else (bif false then none else (bif false then none else (bif false then none else (p56_c7 n x2 x3 (fun y6 y7 => k0 y6 y7)))))))))) else none)))))
noncomputable def p56_c2 {R : Type} (n : Nat) (x1 : ByteArray) (x2 : Bool) (k0 : Int → Bool → Option R) : Option R :=
  bif x2 then (bif (cutR 1 ((x1).size : Int) (x1).size) then (p56_c5 n x1 x2 (ByteArray.extract x1 (1 : Int).toNat (((x1).size : Int) : Int).toNat) (fun y3 y4 => k0 y3 y4)) else none) else (p56_c5 n x1 x2 x1 (fun y5 y6 => k0 y5 y6))
noncomputable def p56 {R : Type} (n : Nat) (x1 : ByteArray) (k0 : Int → Bool → Option R) : Option R :=
  bif (!eqS x1 (⟨#[]⟩ : ByteArray)) then (bif true then (bif (inR 0 (x1).size) then (bif true then (p56_c2 n x1 (bif true then (byteAt x1 0 == 45) else false) (fun y2 y3 => k0 y2 y3)) else none) else none) else none) else (bif false then none else (bif false then none else (bif false then none else (p56_c2 n x1 false (fun y4 y5 => k0 y4 y5)))))
noncomputable abbrev E56 {R : Type} (n : Nat) (c : Code) : Fr → Kc R → Option R := evC Tryz.prog (env56 n) ann56 n (64, []) c
noncomputable def c56_c2 : Code := subC (bodyOf Tryz.f56) [1, 1]
abbrev t56_c2 : Sl (List SV) := (.c (sP sStr) (.c (sP sBool) .n))
noncomputable abbrev f56_c2 {R : Type} (n : Nat) (K : Kc R) : t56_c2.T (Option R) := fun x1 x2 => p56_c2 n x1 x2 (fun y1 y2 => K .ret (lk (outA ann56.cuts 2) [.p (.v (.int .i64 y1)), .p (.v (.bool y2))]))
noncomputable abbrev o56_c2 {R : Type} (n : Nat) (vs : List SV) (K : Kc R) : Option R := oget (t56_c2.ap vs (f56_c2 n K)) (cutE ann56 2 (E56 n c56_c2) vs K)
noncomputable def c56_c5 : Code := subC (bodyOf Tryz.f56) [1, 1, 1, 1]
abbrev t56_c5 : Sl (List SV) := (.c (sP sStr) (.c (sP sBool) (.c (sP sStr) .n)))
noncomputable abbrev f56_c5 {R : Type} (n : Nat) (K : Kc R) : t56_c5.T (Option R) := fun x1 x2 x3 => p56_c5 n x1 x2 x3 (fun y1 y2 => K .ret (lk (outA ann56.cuts 5) [.p (.v (.int .i64 y1)), .p (.v (.bool y2))]))
noncomputable abbrev o56_c5 {R : Type} (n : Nat) (vs : List SV) (K : Kc R) : Option R := oget (t56_c5.ap vs (f56_c5 n K)) (cutE ann56 5 (E56 n c56_c5) vs K)
noncomputable def c56_c7 : Code := subC (bodyOf Tryz.f56) [1, 1, 1, 1, 1]
abbrev t56_c7 : Sl (List SV) := (.c (sP sBool) (.c (sP sStr) .n))
noncomputable abbrev f56_c7 {R : Type} (n : Nat) (K : Kc R) : t56_c7.T (Option R) := fun x1 x2 => p56_c7 n x1 x2 (fun y1 y2 => K .ret (lk (outA ann56.cuts 7) [.p (.v (.int .i64 y1)), .p (.v (.bool y2))]))
noncomputable abbrev o56_c7 {R : Type} (n : Nat) (vs : List SV) (K : Kc R) : Option R := oget (t56_c7.ap vs (f56_c7 n K)) (cutE ann56 7 (E56 n c56_c7) vs K)
noncomputable def c56_c17 : Code := subC (bodyOf Tryz.f56) [1, 1, 1, 1, 1, 1, 1, 1]
abbrev t56_c17 : Sl (List SV) := (.c (sP (sInt .i64)) .n)
noncomputable abbrev f56_c17 {R : Type} (n : Nat) (K : Kc R) : t56_c17.T (Option R) := fun x1 => p56_c17 n x1 (fun y1 y2 => K .ret (lk (outA ann56.cuts 17) [.p (.v (.int .i64 y1)), .p (.v (.bool y2))]))
noncomputable abbrev o56_c17 {R : Type} (n : Nat) (vs : List SV) (K : Kc R) : Option R := oget (t56_c17.ap vs (f56_c17 n K)) (cutE ann56 17 (E56 n c56_c17) vs K)
noncomputable def c56_l9 : Code := subC (bodyOf Tryz.f56) [1, 1, 1, 1, 1, 1, 0, 1, 0, 0]
abbrev t56_l9 : Sl (List SV) := (.c (sP sBool) (.c (sP sStr) (.c (sP (sInt .i64)) (.c (sP (sInt .i64)) (.c (sP (sInt .i64)) .n)))))
noncomputable abbrev f56_l9 {R : Type} (n m : Nat) (K : Kc R) : t56_l9.T (Option R) := fun x1 x2 x3 x4 x5 => p56_l9L n m x1 x2 x3 x4 x5 (fun y1 y2 y3 y4 => K .ret (lk (outA ann56.loops 9) [.p (.v (.int .i64 y1)), .p (.v (.bool y2)), .p (.v (.bool y3)), .p (.v (.int .i64 y4))])) (fun y1 y2 => K (.exit 0) (lk (outA ann56.loops 9) [.dead, .dead, .p (.v (.bool y1)), .p (.v (.int .i64 y2))]))
noncomputable abbrev o56_l9 {R : Type} (n : Nat) (vs : List SV) (K : Kc R) : Option R := oget (t56_l9.ap vs (f56_l9 n n K)) (loopE ann56 9 (E56 n c56_l9) n vs K)
noncomputable abbrev lo56 {R : Type} (n : Nat) : Orc R := fun i vs K => dcnd (Nat.beq i 9) (o56_l9 n vs K) (none)
noncomputable abbrev cu56 {R : Type} (n : Nat) : Orc R := fun i vs K => dcnd (Nat.beq i 17) (o56_c17 n vs K) (dcnd (Nat.beq i 7) (o56_c7 n vs K) (dcnd (Nat.beq i 5) (o56_c5 n vs K) (dcnd (Nat.beq i 2) (o56_c2 n vs K) (none))))
section
variable {R : Type}
noncomputable abbrev V56 (n : Nat) (c : Code) : Fr → Kc R → Option R := evOi Tryz.prog (env56 n) ann56 (64, []) (lo56 n) (cu56 n) c
abbrev K56 (R : Type) (n : Nat) := PartOK (R := R) Tryz.prog (env56 n) ann56 n (64, []) (lo56 n) (cu56 n)
theorem pa56_l9 (n : Nat) : allP (K56 R n) (partsOf ann56 c56_l9) := by
  rw [show partsOf ann56 c56_l9 = [] from by kernel_rfl]; exact trivial
theorem sp56_l9 (n m : Nat) (x1 : Bool) (x2 : ByteArray) (x3 x4 x5 : Int) (K : Kc R) : loopE ann56 9 (V56 n c56_l9) (m + 1) [.p (.v (.bool x1)), .p (.v (.string x2)), .p (.v (.int .i64 x3)), .p (.v (.int .i64 x4)), .p (.v (.int .i64 x5))] K = p56_l9B n (fun x1 x2 x3 x4 x5 => loopE ann56 9 (V56 n c56_l9) m [.p (.v (.bool x1)), .p (.v (.string x2)), .p (.v (.int .i64 x3)), .p (.v (.int .i64 x4)), .p (.v (.int .i64 x5))] K) x1 x2 x3 x4 x5 (fun y1 y2 y3 y4 => K .ret (lk (outA ann56.loops 9) [.p (.v (.int .i64 y1)), .p (.v (.bool y2)), .p (.v (.bool y3)), .p (.v (.int .i64 y4))])) (fun y1 y2 => K (.exit 0) (lk (outA ann56.loops 9) [.dead, .dead, .p (.v (.bool y1)), .p (.v (.int .i64 y2))])) := by kernel_rfl
theorem ep56_l9 (n : Nat) (K : Kc R) : ∀ (m : Nat) (x1 : Bool) (x2 : ByteArray) (x3 x4 x5 : Int), loopE ann56 9 (V56 n c56_l9) m [.p (.v (.bool x1)), .p (.v (.string x2)), .p (.v (.int .i64 x3)), .p (.v (.int .i64 x4)), .p (.v (.int .i64 x5))] K = f56_l9 n m K x1 x2 x3 x4 x5
  | 0, _, _, _, _, _ => rfl
  | m + 1, x1, x2, x3, x4, x5 => (sp56_l9 n m x1 x2 x3 x4 x5 K).trans (congrArg (fun l0 => p56_l9B n l0 x1 x2 x3 x4 x5 (fun y1 y2 y3 y4 => K .ret (lk (outA ann56.loops 9) [.p (.v (.int .i64 y1)), .p (.v (.bool y2)), .p (.v (.bool y3)), .p (.v (.int .i64 y4))])) (fun y1 y2 => K (.exit 0) (lk (outA ann56.loops 9) [.dead, .dead, .p (.v (.bool y1)), .p (.v (.int .i64 y2))]))) (funext fun z0 => funext fun z1 => funext fun z2 => funext fun z3 => funext fun z4 => ep56_l9 n K m z0 z1 z2 z3 z4))
theorem q56_l9 (n : Nat) : K56 R n (false, 9, c56_l9) := part_loop (pa56_l9 n) t56_l9 (f56_l9 n n) (fun K x1 x2 x3 x4 x5 => ep56_l9 n K n x1 x2 x3 x4 x5) fun _ _ => rfl
theorem pa56_c17 (n : Nat) : allP (K56 R n) (partsOf ann56 c56_c17) := by
  rw [show partsOf ann56 c56_c17 = [] from by kernel_rfl]; exact trivial
theorem q56_c17 (n : Nat) : K56 R n (true, 17, c56_c17) := part_cut (pa56_c17 n) t56_c17 (f56_c17 n) (fun K x1 => by show cutE _ _ _ _ _ = _; kernel_rfl) fun _ _ => rfl
theorem pa56_c7 (n : Nat) : allP (K56 R n) (partsOf ann56 c56_c7) := by
  rw [show partsOf ann56 c56_c7 = [(false, 9, c56_l9), (true, 17, c56_c17)] from by kernel_rfl]; exact ⟨q56_l9 n, q56_c17 n, trivial⟩
theorem q56_c7 (n : Nat) : K56 R n (true, 7, c56_c7) := part_cut (pa56_c7 n) t56_c7 (f56_c7 n) (fun K x1 x2 => by show cutE _ _ _ _ _ = _; kernel_rfl) fun _ _ => rfl
theorem pa56_c5 (n : Nat) : allP (K56 R n) (partsOf ann56 c56_c5) := by
  rw [show partsOf ann56 c56_c5 = [(true, 7, c56_c7)] from by kernel_rfl]; exact ⟨q56_c7 n, trivial⟩
theorem q56_c5 (n : Nat) : K56 R n (true, 5, c56_c5) := part_cut (pa56_c5 n) t56_c5 (f56_c5 n) (fun K x1 x2 x3 => by show cutE _ _ _ _ _ = _; kernel_rfl) fun _ _ => rfl
theorem pa56_c2 (n : Nat) : allP (K56 R n) (partsOf ann56 c56_c2) := by
  rw [show partsOf ann56 c56_c2 = [(true, 5, c56_c5)] from by kernel_rfl]; exact ⟨q56_c5 n, trivial⟩
theorem q56_c2 (n : Nat) : K56 R n (true, 2, c56_c2) := part_cut (pa56_c2 n) t56_c2 (f56_c2 n) (fun K x1 x2 => by show cutE _ _ _ _ _ = _; kernel_rfl) fun _ _ => rfl
theorem pa56 (n : Nat) : allP (K56 R n) (partsOf ann56 (bodyOf Tryz.f56)) := by
  rw [show partsOf ann56 (bodyOf Tryz.f56) = [(true, 2, c56_c2)] from by kernel_rfl]; exact ⟨q56_c2 n, trivial⟩
end
abbrev t56 : Sl (List SV) := (.c (sP sStr) .n)
noncomputable abbrev f56 (n : Nat) {R : Type} (K : List SV → Option R) : t56.T (Option R) := fun x1 => p56 n x1 (fun y1 y2 => K [.p (.v (.int .i64 y1)), .p (.v (.bool y2))])
theorem ep56 {R : Type} (n : Nat) (K : List SV → Option R) (x1 : ByteArray) : evFn Tryz.prog (env56 n) ann56 n Tryz.f56 [.p (.v (.string x1))] K = f56 n K x1 := by
  rw [evFn_evOi (c := bodyOf Tryz.f56) (by kernel_rfl) (pa56 n)]; kernel_rfl
noncomputable abbrev fs56 (n : Nat) : FS := { om := [false], run := fun args K => oget (t56.ap args (f56 n K)) none }
theorem ok56 (n : Nat) : FSound Tryz.prog GI 56 (fs56 n) :=
  FSound.good (envok56 n) (ann := ann56) (n := n) Tryz.func56
    (.cons (envok56 n) t56 (f56 n) (fun K x1 => ep56 n K x1) .nil)
    (by kernel_rfl) (by kernel_rfl) (by kernel_rfl)
end Go.Proofs.YtfbahcfojiaeaaaGreatDoor


set_option linter.unusedVariables false
set_option maxRecDepth 100000
namespace Go.Proofs.YtfbahcfojiaeaaaGreatDoor
open Go Th Go.Proofs
def ann86 : Ann := { loops := [], cuts := [], frz := [], rm := [.id, .id, .id] }
noncomputable abbrev env86 (n : Nat) : Env := fun i => bif Nat.beq i 100 then some (fs100 n) else (fun _ => none) i
theorem envok86 (n : Nat) : EnvOK Tryz.prog GI (env86 n) := EnvOK.cons (EnvOK.nil) (ok100 n)
noncomputable def p86 {R : Type} (n : Nat) (x1 : ByteArray) (k0 : ByteArray → ByteArray → Bool → Option R) : Option R :=
  let v2 := Lib.indexByte (x1).data.toList (((⟨#[47]⟩ : ByteArray)).data.toList.headD 0); bif (decide (v2 ≥ 0)) then (bif (cutR 0 v2 (x1).size) then (let v3 := IntKind.i64.wrap (v2 + ((⟨#[47]⟩ : ByteArray).size : Int)); bif (cutR v3 ((x1).size : Int) (x1).size) then (k0 (ByteArray.extract x1 (0 : Int).toNat (v2 : Int).toNat) (ByteArray.extract x1 (v3 : Int).toNat (((x1).size : Int) : Int).toNat) true) else none) else none) else (k0 x1 ⟨#[]⟩ false)
noncomputable abbrev lo86 {R : Type} (n : Nat) : Orc R := fun i vs K => none
noncomputable abbrev cu86 {R : Type} (n : Nat) : Orc R := fun i vs K => none
section
variable {R : Type}
abbrev K86 (R : Type) (n : Nat) := PartOK (R := R) Tryz.prog (env86 n) ann86 n (23, []) (lo86 n) (cu86 n)
theorem pa86 (n : Nat) : allP (K86 R n) (partsOf ann86 (bodyOf Tryz.f86)) := by
  rw [show partsOf ann86 (bodyOf Tryz.f86) = [] from by kernel_rfl]; exact trivial
end
abbrev t86 : Sl (List SV) := (.c (sP sStr) (.c (sP (sStrC (⟨#[47]⟩ : ByteArray))) .n))
noncomputable abbrev f86 (n : Nat) {R : Type} (K : List SV → Option R) : t86.T (Option R) := fun x1 => p86 n x1 (fun y1 y2 y3 => K [.p (.v (.string y1)), .p (.v (.string y2)), .p (.v (.bool y3))])
theorem ep86 {R : Type} (n : Nat) (K : List SV → Option R) (x1 : ByteArray) : evFn Tryz.prog (env86 n) ann86 n Tryz.f86 [.p (.v (.string x1)), .p (.v (.string ⟨#[47]⟩))] K = f86 n K x1 := by
  rw [evFn_evOi (c := bodyOf Tryz.f86) (by kernel_rfl) (pa86 n)]; kernel_rfl
noncomputable abbrev fs86 (n : Nat) : FS := { om := [false, false], run := fun args K => oget (t86.ap args (f86 n K)) none }
theorem ok86 (n : Nat) : FSound Tryz.prog GI 86 (fs86 n) :=
  FSound.good (envok86 n) (ann := ann86) (n := n) Tryz.func86
    (.cons (envok86 n) t86 (f86 n) (fun K x1 => ep86 n K x1) .nil)
    (by kernel_rfl) (by kernel_rfl) (by kernel_rfl)
end Go.Proofs.YtfbahcfojiaeaaaGreatDoor


set_option linter.unusedVariables false
set_option maxRecDepth 100000
namespace Go.Proofs.YtfbahcfojiaeaaaGreatDoor
open Go Th Go.Proofs
def ann55 : Ann := { loops := [], cuts := [], frz := [], rm := [.id, .id, .id] }
noncomputable abbrev env55 (n : Nat) : Env := fun i => bif Nat.beq i 86 then some (fs86 n) else (fun _ => none) i
theorem envok55 (n : Nat) : EnvOK Tryz.prog GI (env55 n) := EnvOK.cons (EnvOK.nil) (ok86 n)
noncomputable def p55 {R : Type} (n : Nat) (x1 : ByteArray) (k0 : ByteArray → ByteArray → Bool → Option R) : Option R :=
  p86 n x1 (fun y2 y3 y4 => k0 y2 y3 y4)
noncomputable abbrev lo55 {R : Type} (n : Nat) : Orc R := fun i vs K => none
noncomputable abbrev cu55 {R : Type} (n : Nat) : Orc R := fun i vs K => none
section
variable {R : Type}
abbrev K55 (R : Type) (n : Nat) := PartOK (R := R) Tryz.prog (env55 n) ann55 n (13, []) (lo55 n) (cu55 n)
theorem pa55 (n : Nat) : allP (K55 R n) (partsOf ann55 (bodyOf Tryz.f55)) := by
  rw [show partsOf ann55 (bodyOf Tryz.f55) = [] from by kernel_rfl]; exact trivial
end
abbrev t55 : Sl (List SV) := (.c (sP sStr) (.c (sP (sStrC (⟨#[47]⟩ : ByteArray))) .n))
noncomputable abbrev f55 (n : Nat) {R : Type} (K : List SV → Option R) : t55.T (Option R) := fun x1 => p55 n x1 (fun y1 y2 y3 => K [.p (.v (.string y1)), .p (.v (.string y2)), .p (.v (.bool y3))])
theorem ep55 {R : Type} (n : Nat) (K : List SV → Option R) (x1 : ByteArray) : evFn Tryz.prog (env55 n) ann55 n Tryz.f55 [.p (.v (.string x1)), .p (.v (.string ⟨#[47]⟩))] K = f55 n K x1 := by
  rw [evFn_evOi (c := bodyOf Tryz.f55) (by kernel_rfl) (pa55 n)]; kernel_rfl
noncomputable abbrev fs55 (n : Nat) : FS := { om := [false, false], run := fun args K => oget (t55.ap args (f55 n K)) none }
theorem ok55 (n : Nat) : FSound Tryz.prog GI 55 (fs55 n) :=
  FSound.good (envok55 n) (ann := ann55) (n := n) Tryz.func55
    (.cons (envok55 n) t55 (f55 n) (fun K x1 => ep55 n K x1) .nil)
    (by kernel_rfl) (by kernel_rfl) (by kernel_rfl)
end Go.Proofs.YtfbahcfojiaeaaaGreatDoor


set_option linter.unusedVariables false
set_option maxRecDepth 100000
namespace Go.Proofs.YtfbahcfojiaeaaaGreatDoor
open Go Th Go.Proofs
def ann57 : Ann := { loops := [], cuts := [(10, [(2, .id), (5, .id), (10, .id)], [(2, .id), (3, .id)])], frz := [], rm := [.id, .id] }
noncomputable abbrev env57 (n : Nat) : Env := fun i => bif Nat.beq i 79 then some (fs79 n) else (fun i => bif Nat.beq i 76 then some (fs76 n) else (fun i => bif Nat.beq i 55 then some (fs55 n) else (fun i => bif Nat.beq i 45 then some (fs45 n) else (fun i => bif Nat.beq i 44 then some (fs44 n) else (fun _ => none) i) i) i) i) i
theorem envok57 (n : Nat) : EnvOK Tryz.prog GI (env57 n) := EnvOK.cons (EnvOK.cons (EnvOK.cons (EnvOK.cons (EnvOK.cons (EnvOK.nil) (ok44 n)) (ok45 n)) (ok55 n)) (ok76 n)) (ok79 n)
noncomputable def p57_c10 {R : Type} (n : Nat) (x1 : Bool) (x2 : ByteArray) (x3 : Bool) (x4 x5 : List PV) (k0 : Bool → List PV → List PV → Bool → Option R) : Option R :=
  p45 n x2 (fun y6 => p79 n x4 y6 (fun y7 => bif (((y7).length : Int) == 1) then (bif true then (bif (inR 0 ((y7).length)) then (getI .u32 ((y7).getD ((0 : Int).toNat) (.v (.bool false))) fun e8 => bif true then (bif true then (k0 x3 x4 y6 (bif true then (e8 == 1) else false)) else none) else none) else none) else none) else (bif false then none else (bif false then none else (bif false then none else (bif false then none else (k0 x3 x4 y6 false)))))))
noncomputable def p57 {R : Type} (n : Nat) (x1 : ByteArray) (k0 : Bool → List PV → List PV → Bool → Option R) : Option R :=
  p55 n x1 (fun y2 y3 y4 => p44 n y2 (fun y5 y6 y7 => bif (!y7) then (k0 false [] [] false) else (p45 n y6 (fun y8 => bif (!y4) then (k0 y5 y8 ([.v (.int .u32 1)] : List PV) true) else (p76 n y3 (fun y9 => bif (!y9) then (bif true then (bif true then (bif true then (bif true then (bif true then (bif true then (k0 false [] [] false) else none) else none) else none) else none) else none) else none) else (bif false then none else (bif (bif false then true else eqS y3 (⟨#[48]⟩ : ByteArray)) then (bif true then (bif true then (bif true then (k0 false [] [] false) else none) else none) else none) else (bif false then none else (bif (bif false then true else eqS y3 (⟨#[49]⟩ : ByteArray)) then (k0 false [] [] false) else (p57_c10 n false y3 y5 y8 ([.v (.int .u32 1)] : List PV) (fun y10 y11 y12 y13 => k0 y10 y11 y12 y13))))))))))))
noncomputable abbrev E57 {R : Type} (n : Nat) (c : Code) : Fr → Kc R → Option R := evC Tryz.prog (env57 n) ann57 n (65, []) c
noncomputable def c57_c10 : Code := subC (bodyOf Tryz.f57) [1, 1, 1, 1, 1, 1, 1]
abbrev t57_c10 : Sl (List SV) := (.c (sBx 65 (.c (sP sBool) (.c sNl (.c sNl .n)))) (.c (sP sStr) (.c (sBx 65 (.c (sP sBool) (.c (sP sSh) (.c (sP sSh) .n)))) .n)))
noncomputable abbrev f57_c10 {R : Type} (n : Nat) (K : Kc R) : t57_c10.T (Option R) := fun x1 x2 x3 x4 x5 => p57_c10 n x1 x2 x3 x4 x5 (fun y1 y2 y3 y4 => K .ret (lk (outA ann57.cuts 10) [.bx 65 [.p (.v (.bool y1)), .p (.sh y2), .p (.sh y3)], .p (.v (.bool y4))]))
noncomputable abbrev o57_c10 {R : Type} (n : Nat) (vs : List SV) (K : Kc R) : Option R := oget (t57_c10.ap vs (f57_c10 n K)) (cutE ann57 10 (E57 n c57_c10) vs K)
noncomputable abbrev lo57 {R : Type} (n : Nat) : Orc R := fun i vs K => none
noncomputable abbrev cu57 {R : Type} (n : Nat) : Orc R := fun i vs K => dcnd (Nat.beq i 10) (o57_c10 n vs K) (none)
section
variable {R : Type}
abbrev K57 (R : Type) (n : Nat) := PartOK (R := R) Tryz.prog (env57 n) ann57 n (65, []) (lo57 n) (cu57 n)
theorem pa57_c10 (n : Nat) : allP (K57 R n) (partsOf ann57 c57_c10) := by
  rw [show partsOf ann57 c57_c10 = [] from by kernel_rfl]; exact trivial
theorem q57_c10 (n : Nat) : K57 R n (true, 10, c57_c10) := part_cut (pa57_c10 n) t57_c10 (f57_c10 n) (fun K x1 x2 x3 x4 x5 => by show cutE _ _ _ _ _ = _; kernel_rfl) fun _ _ => rfl
theorem pa57 (n : Nat) : allP (K57 R n) (partsOf ann57 (bodyOf Tryz.f57)) := by
  rw [show partsOf ann57 (bodyOf Tryz.f57) = [(true, 10, c57_c10)] from by kernel_rfl]; exact ⟨q57_c10 n, trivial⟩
end
abbrev t57 : Sl (List SV) := (.c (sP sStr) .n)
noncomputable abbrev f57 (n : Nat) {R : Type} (K : List SV → Option R) : t57.T (Option R) := fun x1 => p57 n x1 (fun y1 y2 y3 y4 => K [.p (.agg [.v (.bool y1), .sh y2, .sh y3]), .p (.v (.bool y4))])
theorem ep57 {R : Type} (n : Nat) (K : List SV → Option R) (x1 : ByteArray) : evFn Tryz.prog (env57 n) ann57 n Tryz.f57 [.p (.v (.string x1))] K = f57 n K x1 := by
  rw [evFn_evOi (c := bodyOf Tryz.f57) (by kernel_rfl) (pa57 n)]; kernel_rfl
noncomputable abbrev fs57 (n : Nat) : FS := { om := [false], run := fun args K => oget (t57.ap args (f57 n K)) none }
theorem ok57 (n : Nat) : FSound Tryz.prog GI 57 (fs57 n) :=
  FSound.good (envok57 n) (ann := ann57) (n := n) Tryz.func57
    (.cons (envok57 n) t57 (f57 n) (fun K x1 => ep57 n K x1) .nil)
    (by kernel_rfl) (by kernel_rfl) (by kernel_rfl)
end Go.Proofs.YtfbahcfojiaeaaaGreatDoor


set_option linter.unusedVariables false
set_option maxRecDepth 100000
namespace Go.Proofs.YtfbahcfojiaeaaaGreatDoor
open Go Th Go.Proofs
def ann19 : Ann := { loops := [], cuts := [], frz := [], rm := [.id] }
noncomputable abbrev env19 (n : Nat) : Env := fun i => bif Nat.beq i 57 then some (fs57 n) else (fun i => bif Nat.beq i 56 then some (fs56 n) else (fun _ => none) i) i
theorem envok19 (n : Nat) : EnvOK Tryz.prog GI (env19 n) := EnvOK.cons (EnvOK.cons (EnvOK.nil) (ok56 n)) (ok57 n)
noncomputable def p19 {R : Type} (n : Nat) (x1 : ByteArray) (k0 : Bool → Option R) : Option R :=
  p56 n x1 (fun y2 y3 => bif y3 then (k0 true) else (p57 n x1 (fun y4 y5 y6 y7 => k0 y7)))
noncomputable abbrev lo19 {R : Type} (n : Nat) : Orc R := fun i vs K => none
noncomputable abbrev cu19 {R : Type} (n : Nat) : Orc R := fun i vs K => none
section
variable {R : Type}
abbrev K19 (R : Type) (n : Nat) := PartOK (R := R) Tryz.prog (env19 n) ann19 n (19, []) (lo19 n) (cu19 n)
theorem pa19 (n : Nat) : allP (K19 R n) (partsOf ann19 (bodyOf Tryz.f19)) := by
  rw [show partsOf ann19 (bodyOf Tryz.f19) = [] from by kernel_rfl]; exact trivial
end
abbrev t19 : Sl (List SV) := (.c (sP sStr) .n)
noncomputable abbrev f19 (n : Nat) {R : Type} (K : List SV → Option R) : t19.T (Option R) := fun x1 => p19 n x1 (fun y1 => K [.p (.v (.bool y1))])
theorem ep19 {R : Type} (n : Nat) (K : List SV → Option R) (x1 : ByteArray) : evFn Tryz.prog (env19 n) ann19 n Tryz.f19 [.p (.v (.string x1))] K = f19 n K x1 := by
  rw [evFn_evOi (c := bodyOf Tryz.f19) (by kernel_rfl) (pa19 n)]; kernel_rfl
noncomputable abbrev fs19 (n : Nat) : FS := { om := [false], run := fun args K => oget (t19.ap args (f19 n K)) none }
theorem ok19 (n : Nat) : FSound Tryz.prog GI 19 (fs19 n) :=
  FSound.good (envok19 n) (ann := ann19) (n := n) Tryz.func19
    (.cons (envok19 n) t19 (f19 n) (fun K x1 => ep19 n K x1) .nil)
    (by kernel_rfl) (by kernel_rfl) (by kernel_rfl)
end Go.Proofs.YtfbahcfojiaeaaaGreatDoor


set_option linter.unusedVariables false
set_option maxRecDepth 100000
namespace Go.Proofs.YtfbahcfojiaeaaaGreatDoor
open Go Th Go.Proofs
def ann62 : Ann := { loops := [], cuts := [], frz := [], rm := [.id, .id, .id] }
noncomputable abbrev env62 (n : Nat) : Env := fun i => bif Nat.beq i 56 then some (fs56 n) else (fun _ => none) i
theorem envok62 (n : Nat) : EnvOK Tryz.prog GI (env62 n) := EnvOK.cons (EnvOK.nil) (ok56 n)
noncomputable def p62 {R : Type} (n : Nat) (x1 x2 : ByteArray) (k0 : Int → Int → Bool → Option R) : Option R :=
  p56 n x1 (fun y3 y4 => p56 n x2 (fun y5 y6 => bif y4 then (k0 y3 y5 (bif true then y6 else false)) else (bif false then none else (k0 y3 y5 false))))
noncomputable abbrev lo62 {R : Type} (n : Nat) : Orc R := fun i vs K => none
noncomputable abbrev cu62 {R : Type} (n : Nat) : Orc R := fun i vs K => none
section
variable {R : Type}
abbrev K62 (R : Type) (n : Nat) := PartOK (R := R) Tryz.prog (env62 n) ann62 n (27, []) (lo62 n) (cu62 n)
theorem pa62 (n : Nat) : allP (K62 R n) (partsOf ann62 (bodyOf Tryz.f62)) := by
  rw [show partsOf ann62 (bodyOf Tryz.f62) = [] from by kernel_rfl]; exact trivial
end
abbrev t62 : Sl (List SV) := (.c (sP sStr) (.c (sP sStr) .n))
noncomputable abbrev f62 (n : Nat) {R : Type} (K : List SV → Option R) : t62.T (Option R) := fun x1 x2 => p62 n x1 x2 (fun y1 y2 y3 => K [.p (.v (.int .i64 y1)), .p (.v (.int .i64 y2)), .p (.v (.bool y3))])
theorem ep62 {R : Type} (n : Nat) (K : List SV → Option R) (x1 x2 : ByteArray) : evFn Tryz.prog (env62 n) ann62 n Tryz.f62 [.p (.v (.string x1)), .p (.v (.string x2))] K = f62 n K x1 x2 := by
  rw [evFn_evOi (c := bodyOf Tryz.f62) (by kernel_rfl) (pa62 n)]; kernel_rfl
noncomputable abbrev fs62 (n : Nat) : FS := { om := [false, false], run := fun args K => oget (t62.ap args (f62 n K)) none }
theorem ok62 (n : Nat) : FSound Tryz.prog GI 62 (fs62 n) :=
  FSound.good (envok62 n) (ann := ann62) (n := n) Tryz.func62
    (.cons (envok62 n) t62 (f62 n) (fun K x1 x2 => ep62 n K x1 x2) .nil)
    (by kernel_rfl) (by kernel_rfl) (by kernel_rfl)
end Go.Proofs.YtfbahcfojiaeaaaGreatDoor


set_option linter.unusedVariables false
set_option maxRecDepth 100000
namespace Go.Proofs.YtfbahcfojiaeaaaGreatDoor
open Go Th Go.Proofs
def ann66 : Ann := { loops := [], cuts := [], frz := [], rm := [.id] }
noncomputable abbrev env66 (n : Nat) : Env := fun i => bif Nat.beq i 89 then some (fs89 n) else (fun i => bif Nat.beq i 88 then some (fs88 n) else (fun i => bif Nat.beq i 73 then some (fs73 n) else (fun i => bif Nat.beq i 70 then some (fs70 n) else (fun _ => none) i) i) i) i
theorem envok66 (n : Nat) : EnvOK Tryz.prog GI (env66 n) := EnvOK.cons (EnvOK.cons (EnvOK.cons (EnvOK.cons (EnvOK.nil) (ok70 n)) (ok73 n)) (ok88 n)) (ok89 n)
noncomputable def p66 {R : Type} (n : Nat) (x1 : Bool) (x2 x3 : List PV) (x4 : Bool) (x5 x6 : List PV) (k0 : Bool → List PV → List PV → Option R) : Option R :=
  p70 n x2 x6 (fun y7 => p70 n x5 x3 (fun y8 => p70 n x3 x6 (fun y9 => bif (x1 == x4) then (p88 n y7 y8 (fun y10 => k0 x1 y10 y9)) else (p73 n y7 y8 (fun y11 => bif (decide (y11 < 0)) then (p89 n y8 y7 (fun y12 => k0 x4 y12 y9)) else (p89 n y7 y8 (fun y13 => k0 x1 y13 y9)))))))
noncomputable abbrev lo66 {R : Type} (n : Nat) : Orc R := fun i vs K => none
noncomputable abbrev cu66 {R : Type} (n : Nat) : Orc R := fun i vs K => none
section
variable {R : Type}
abbrev K66 (R : Type) (n : Nat) := PartOK (R := R) Tryz.prog (env66 n) ann66 n (53, []) (lo66 n) (cu66 n)
theorem pa66 (n : Nat) : allP (K66 R n) (partsOf ann66 (bodyOf Tryz.f66)) := by
  rw [show partsOf ann66 (bodyOf Tryz.f66) = [] from by kernel_rfl]; exact trivial
end
abbrev t66 : Sl (List SV) := (.c (sP (sAgg (.c sBool (.c sSh (.c sSh .n))))) (.c (sP (sAgg (.c sBool (.c sSh (.c sSh .n))))) .n))
noncomputable abbrev f66 (n : Nat) {R : Type} (K : List SV → Option R) : t66.T (Option R) := fun x1 x2 x3 x4 x5 x6 => p66 n x1 x2 x3 x4 x5 x6 (fun y1 y2 y3 => K [.p (.agg [.v (.bool y1), .sh y2, .sh y3])])
theorem ep66 {R : Type} (n : Nat) (K : List SV → Option R) (x1 : Bool) (x2 x3 : List PV) (x4 : Bool) (x5 x6 : List PV) : evFn Tryz.prog (env66 n) ann66 n Tryz.f66 [.p (.agg [.v (.bool x1), .sh x2, .sh x3]), .p (.agg [.v (.bool x4), .sh x5, .sh x6])] K = f66 n K x1 x2 x3 x4 x5 x6 := by
  rw [evFn_evOi (c := bodyOf Tryz.f66) (by kernel_rfl) (pa66 n)]; kernel_rfl
noncomputable abbrev fs66 (n : Nat) : FS := { om := [false, false], run := fun args K => oget (t66.ap args (f66 n K)) none }
theorem ok66 (n : Nat) : FSound Tryz.prog GI 66 (fs66 n) :=
  FSound.good (envok66 n) (ann := ann66) (n := n) Tryz.func66
    (.cons (envok66 n) t66 (f66 n) (fun K x1 x2 x3 x4 x5 x6 => ep66 n K x1 x2 x3 x4 x5 x6) .nil)
    (by kernel_rfl) (by kernel_rfl) (by kernel_rfl)
end Go.Proofs.YtfbahcfojiaeaaaGreatDoor


set_option linter.unusedVariables false
set_option maxRecDepth 100000
namespace Go.Proofs.YtfbahcfojiaeaaaGreatDoor
open Go Th Go.Proofs
def ann65 : Ann := { loops := [], cuts := [], frz := [], rm := [.id, .id] }
noncomputable abbrev env65 (n : Nat) : Env := fun i => bif Nat.beq i 66 then some (fs66 n) else (fun _ => none) i
theorem envok65 (n : Nat) : EnvOK Tryz.prog GI (env65 n) := EnvOK.cons (EnvOK.nil) (ok66 n)
noncomputable def p65 {R : Type} (n : Nat) (x1 : Bool) (x2 x3 : List PV) (x4 : Bool) (x5 x6 : List PV) (k0 : Bool → List PV → List PV → Int → Option R) : Option R :=
  p66 n x1 x2 x3 x4 x5 x6 (fun y7 y8 y9 => k0 y7 y8 y9 0)
noncomputable abbrev lo65 {R : Type} (n : Nat) : Orc R := fun i vs K => none
noncomputable abbrev cu65 {R : Type} (n : Nat) : Orc R := fun i vs K => none
section
variable {R : Type}
abbrev K65 (R : Type) (n : Nat) := PartOK (R := R) Tryz.prog (env65 n) ann65 n (9, []) (lo65 n) (cu65 n)
theorem pa65 (n : Nat) : allP (K65 R n) (partsOf ann65 (bodyOf Tryz.f65)) := by
  rw [show partsOf ann65 (bodyOf Tryz.f65) = [] from by kernel_rfl]; exact trivial
end
abbrev t65 : Sl (List SV) := (.c (sP (sAgg (.c sBool (.c sSh (.c sSh .n))))) (.c (sP (sAgg (.c sBool (.c sSh (.c sSh .n))))) .n))
noncomputable abbrev f65 (n : Nat) {R : Type} (K : List SV → Option R) : t65.T (Option R) := fun x1 x2 x3 x4 x5 x6 => p65 n x1 x2 x3 x4 x5 x6 (fun y1 y2 y3 y4 => K [.p (.agg [.v (.bool y1), .sh y2, .sh y3]), .p (.v (.int .i64 y4))])
theorem ep65 {R : Type} (n : Nat) (K : List SV → Option R) (x1 : Bool) (x2 x3 : List PV) (x4 : Bool) (x5 x6 : List PV) : evFn Tryz.prog (env65 n) ann65 n Tryz.f65 [.p (.agg [.v (.bool x1), .sh x2, .sh x3]), .p (.agg [.v (.bool x4), .sh x5, .sh x6])] K = f65 n K x1 x2 x3 x4 x5 x6 := by
  rw [evFn_evOi (c := bodyOf Tryz.f65) (by kernel_rfl) (pa65 n)]; kernel_rfl
noncomputable abbrev fs65 (n : Nat) : FS := { om := [false, false], run := fun args K => oget (t65.ap args (f65 n K)) none }
theorem ok65 (n : Nat) : FSound Tryz.prog GI 65 (fs65 n) :=
  FSound.good (envok65 n) (ann := ann65) (n := n) Tryz.func65
    (.cons (envok65 n) t65 (f65 n) (fun K x1 x2 x3 x4 x5 x6 => ep65 n K x1 x2 x3 x4 x5 x6) .nil)
    (by kernel_rfl) (by kernel_rfl) (by kernel_rfl)
end Go.Proofs.YtfbahcfojiaeaaaGreatDoor


set_option linter.unusedVariables false
set_option maxRecDepth 100000
namespace Go.Proofs.YtfbahcfojiaeaaaGreatDoor
open Go Th Go.Proofs
def ann68 : Ann := { loops := [], cuts := [], frz := [], rm := [.id] }
noncomputable abbrev env68 (n : Nat) : Env := fun _ => none
theorem envok68 (n : Nat) : EnvOK Tryz.prog GI (env68 n) := EnvOK.nil
noncomputable def p68 {R : Type} (n : Nat) (x1 : Bool) (x2 x3 : List PV) (k0 : Bool → List PV → List PV → Option R) : Option R :=
  bif (!x1) then (bif true then (bif true then (bif true then (k0 (bif true then (decide (((x2).length : Int) > 0)) else false) x2 x3) else none) else none) else none) else (bif false then none else (bif false then none else (bif false then none else (bif false then none else (k0 false x2 x3)))))
noncomputable abbrev lo68 {R : Type} (n : Nat) : Orc R := fun i vs K => none
noncomputable abbrev cu68 {R : Type} (n : Nat) : Orc R := fun i vs K => none
section
variable {R : Type}
abbrev K68 (R : Type) (n : Nat) := PartOK (R := R) Tryz.prog (env68 n) ann68 n (14, []) (lo68 n) (cu68 n)
theorem pa68 (n : Nat) : allP (K68 R n) (partsOf ann68 (bodyOf Tryz.f68)) := by
  rw [show partsOf ann68 (bodyOf Tryz.f68) = [] from by kernel_rfl]; exact trivial
end
abbrev t68 : Sl (List SV) := (.c (sP (sAgg (.c sBool (.c sSh (.c sSh .n))))) .n)
noncomputable abbrev f68 (n : Nat) {R : Type} (K : List SV → Option R) : t68.T (Option R) := fun x1 x2 x3 => p68 n x1 x2 x3 (fun y1 y2 y3 => K [.p (.agg [.v (.bool y1), .sh y2, .sh y3])])
theorem ep68 {R : Type} (n : Nat) (K : List SV → Option R) (x1 : Bool) (x2 x3 : List PV) : evFn Tryz.prog (env68 n) ann68 n Tryz.f68 [.p (.agg [.v (.bool x1), .sh x2, .sh x3])] K = f68 n K x1 x2 x3 := by
  rw [evFn_evOi (c := bodyOf Tryz.f68) (by kernel_rfl) (pa68 n)]; kernel_rfl
noncomputable abbrev fs68 (n : Nat) : FS := { om := [false], run := fun args K => oget (t68.ap args (f68 n K)) none }
theorem ok68 (n : Nat) : FSound Tryz.prog GI 68 (fs68 n) :=
  FSound.good (envok68 n) (ann := ann68) (n := n) Tryz.func68
    (.cons (envok68 n) t68 (f68 n) (fun K x1 x2 x3 => ep68 n K x1 x2 x3) .nil)
    (by kernel_rfl) (by kernel_rfl) (by kernel_rfl)
end Go.Proofs.YtfbahcfojiaeaaaGreatDoor


set_option linter.unusedVariables false
set_option maxRecDepth 100000
namespace Go.Proofs.YtfbahcfojiaeaaaGreatDoor
open Go Th Go.Proofs
def ann67 : Ann := { loops := [], cuts := [], frz := [], rm := [.id, .id] }
noncomputable abbrev env67 (n : Nat) : Env := fun i => bif Nat.beq i 68 then some (fs68 n) else (fun i => bif Nat.beq i 66 then some (fs66 n) else (fun _ => none) i) i
theorem envok67 (n : Nat) : EnvOK Tryz.prog GI (env67 n) := EnvOK.cons (EnvOK.cons (EnvOK.nil) (ok66 n)) (ok68 n)
noncomputable def p67 {R : Type} (n : Nat) (x1 : Bool) (x2 x3 : List PV) (x4 : Bool) (x5 x6 : List PV) (k0 : Bool → List PV → List PV → Int → Option R) : Option R :=
  p68 n x4 x5 x6 (fun y7 y8 y9 => p66 n x1 x2 x3 y7 y8 y9 (fun y10 y11 y12 => k0 y10 y11 y12 0))
noncomputable abbrev lo67 {R : Type} (n : Nat) : Orc R := fun i vs K => none
noncomputable abbrev cu67 {R : Type} (n : Nat) : Orc R := fun i vs K => none
section
variable {R : Type}
abbrev K67 (R : Type) (n : Nat) := PartOK (R := R) Tryz.prog (env67 n) ann67 n (10, []) (lo67 n) (cu67 n)
theorem pa67 (n : Nat) : allP (K67 R n) (partsOf ann67 (bodyOf Tryz.f67)) := by
  rw [show partsOf ann67 (bodyOf Tryz.f67) = [] from by kernel_rfl]; exact trivial
end
abbrev t67 : Sl (List SV) := (.c (sP (sAgg (.c sBool (.c sSh (.c sSh .n))))) (.c (sP (sAgg (.c sBool (.c sSh (.c sSh .n))))) .n))
noncomputable abbrev f67 (n : Nat) {R : Type} (K : List SV → Option R) : t67.T (Option R) := fun x1 x2 x3 x4 x5 x6 => p67 n x1 x2 x3 x4 x5 x6 (fun y1 y2 y3 y4 => K [.p (.agg [.v (.bool y1), .sh y2, .sh y3]), .p (.v (.int .i64 y4))])
theorem ep67 {R : Type} (n : Nat) (K : List SV → Option R) (x1 : Bool) (x2 x3 : List PV) (x4 : Bool) (x5 x6 : List PV) : evFn Tryz.prog (env67 n) ann67 n Tryz.f67 [.p (.agg [.v (.bool x1), .sh x2, .sh x3]), .p (.agg [.v (.bool x4), .sh x5, .sh x6])] K = f67 n K x1 x2 x3 x4 x5 x6 := by
  rw [evFn_evOi (c := bodyOf Tryz.f67) (by kernel_rfl) (pa67 n)]; kernel_rfl
noncomputable abbrev fs67 (n : Nat) : FS := { om := [false, false], run := fun args K => oget (t67.ap args (f67 n K)) none }
theorem ok67 (n : Nat) : FSound Tryz.prog GI 67 (fs67 n) :=
  FSound.good (envok67 n) (ann := ann67) (n := n) Tryz.func67
    (.cons (envok67 n) t67 (f67 n) (fun K x1 x2 x3 x4 x5 x6 => ep67 n K x1 x2 x3 x4 x5 x6) .nil)
    (by kernel_rfl) (by kernel_rfl) (by kernel_rfl)
end Go.Proofs.YtfbahcfojiaeaaaGreatDoor


set_option linter.unusedVariables false
set_option maxRecDepth 100000
namespace Go.Proofs.YtfbahcfojiaeaaaGreatDoor
open Go Th Go.Proofs
def ann69 : Ann := { loops := [], cuts := [], frz := [], rm := [.id, .id] }
noncomputable abbrev env69 (n : Nat) : Env := fun i => bif Nat.beq i 70 then some (fs70 n) else (fun _ => none) i
theorem envok69 (n : Nat) : EnvOK Tryz.prog GI (env69 n) := EnvOK.cons (EnvOK.nil) (ok70 n)
noncomputable def p69 {R : Type} (n : Nat) (x1 : Bool) (x2 x3 : List PV) (x4 : Bool) (x5 x6 : List PV) (k0 : Bool → List PV → List PV → Int → Option R) : Option R :=
  p70 n x2 x5 (fun y7 => p70 n x3 x6 (fun y8 => k0 (!(x1 == x4)) y7 y8 0))
noncomputable abbrev lo69 {R : Type} (n : Nat) : Orc R := fun i vs K => none
noncomputable abbrev cu69 {R : Type} (n : Nat) : Orc R := fun i vs K => none
section
variable {R : Type}
abbrev K69 (R : Type) (n : Nat) := PartOK (R := R) Tryz.prog (env69 n) ann69 n (22, []) (lo69 n) (cu69 n)
theorem pa69 (n : Nat) : allP (K69 R n) (partsOf ann69 (bodyOf Tryz.f69)) := by
  rw [show partsOf ann69 (bodyOf Tryz.f69) = [] from by kernel_rfl]; exact trivial
end
abbrev t69 : Sl (List SV) := (.c (sP (sAgg (.c sBool (.c sSh (.c sSh .n))))) (.c (sP (sAgg (.c sBool (.c sSh (.c sSh .n))))) .n))
noncomputable abbrev f69 (n : Nat) {R : Type} (K : List SV → Option R) : t69.T (Option R) := fun x1 x2 x3 x4 x5 x6 => p69 n x1 x2 x3 x4 x5 x6 (fun y1 y2 y3 y4 => K [.p (.agg [.v (.bool y1), .sh y2, .sh y3]), .p (.v (.int .i64 y4))])
theorem ep69 {R : Type} (n : Nat) (K : List SV → Option R) (x1 : Bool) (x2 x3 : List PV) (x4 : Bool) (x5 x6 : List PV) : evFn Tryz.prog (env69 n) ann69 n Tryz.f69 [.p (.agg [.v (.bool x1), .sh x2, .sh x3]), .p (.agg [.v (.bool x4), .sh x5, .sh x6])] K = f69 n K x1 x2 x3 x4 x5 x6 := by
  rw [evFn_evOi (c := bodyOf Tryz.f69) (by kernel_rfl) (pa69 n)]; kernel_rfl
noncomputable abbrev fs69 (n : Nat) : FS := { om := [false, false], run := fun args K => oget (t69.ap args (f69 n K)) none }
theorem ok69 (n : Nat) : FSound Tryz.prog GI 69 (fs69 n) :=
  FSound.good (envok69 n) (ann := ann69) (n := n) Tryz.func69
    (.cons (envok69 n) t69 (f69 n) (fun K x1 x2 x3 x4 x5 x6 => ep69 n K x1 x2 x3 x4 x5 x6) .nil)
    (by kernel_rfl) (by kernel_rfl) (by kernel_rfl)
end Go.Proofs.YtfbahcfojiaeaaaGreatDoor


set_option linter.unusedVariables false
set_option maxRecDepth 100000
namespace Go.Proofs.YtfbahcfojiaeaaaGreatDoor
open Go Th Go.Proofs
def ann71 : Ann := { loops := [], cuts := [], frz := [], rm := [.id, .id] }
noncomputable abbrev env71 (n : Nat) : Env := fun i => bif Nat.beq i 70 then some (fs70 n) else (fun _ => none) i
theorem envok71 (n : Nat) : EnvOK Tryz.prog GI (env71 n) := EnvOK.cons (EnvOK.nil) (ok70 n)
noncomputable def p71 {R : Type} (n : Nat) (x1 : Bool) (x2 x3 : List PV) (x4 : Bool) (x5 x6 : List PV) (k0 : Bool → List PV → List PV → Int → Option R) : Option R :=
  bif (((x5).length : Int) == 0) then (k0 false [] [] 24) else (p70 n x2 x6 (fun y7 => p70 n x3 x5 (fun y8 => k0 (!(x1 == x4)) y7 y8 0)))
noncomputable abbrev lo71 {R : Type} (n : Nat) : Orc R := fun i vs K => none
noncomputable abbrev cu71 {R : Type} (n : Nat) : Orc R := fun i vs K => none
section
variable {R : Type}
abbrev K71 (R : Type) (n : Nat) := PartOK (R := R) Tryz.prog (env71 n) ann71 n (27, []) (lo71 n) (cu71 n)
theorem pa71 (n : Nat) : allP (K71 R n) (partsOf ann71 (bodyOf Tryz.f71)) := by
  rw [show partsOf ann71 (bodyOf Tryz.f71) = [] from by kernel_rfl]; exact trivial
end
abbrev t71 : Sl (List SV) := (.c (sP (sAgg (.c sBool (.c sSh (.c sSh .n))))) (.c (sP (sAgg (.c sBool (.c sSh (.c sSh .n))))) .n))
noncomputable abbrev f71 (n : Nat) {R : Type} (K : List SV → Option R) : t71.T (Option R) := fun x1 x2 x3 x4 x5 x6 => p71 n x1 x2 x3 x4 x5 x6 (fun y1 y2 y3 y4 => K [.p (.agg [.v (.bool y1), .sh y2, .sh y3]), .p (.v (.int .i64 y4))])
theorem ep71 {R : Type} (n : Nat) (K : List SV → Option R) (x1 : Bool) (x2 x3 : List PV) (x4 : Bool) (x5 x6 : List PV) : evFn Tryz.prog (env71 n) ann71 n Tryz.f71 [.p (.agg [.v (.bool x1), .sh x2, .sh x3]), .p (.agg [.v (.bool x4), .sh x5, .sh x6])] K = f71 n K x1 x2 x3 x4 x5 x6 := by
  rw [evFn_evOi (c := bodyOf Tryz.f71) (by kernel_rfl) (pa71 n)]; kernel_rfl
noncomputable abbrev fs71 (n : Nat) : FS := { om := [false, false], run := fun args K => oget (t71.ap args (f71 n K)) none }
theorem ok71 (n : Nat) : FSound Tryz.prog GI 71 (fs71 n) :=
  FSound.good (envok71 n) (ann := ann71) (n := n) Tryz.func71
    (.cons (envok71 n) t71 (f71 n) (fun K x1 x2 x3 x4 x5 x6 => ep71 n K x1 x2 x3 x4 x5 x6) .nil)
    (by kernel_rfl) (by kernel_rfl) (by kernel_rfl)
end Go.Proofs.YtfbahcfojiaeaaaGreatDoor


set_option linter.unusedVariables false
set_option maxRecDepth 100000
namespace Go.Proofs.YtfbahcfojiaeaaaGreatDoor
open Go Th Go.Proofs
def ann64 : Ann := { loops := [], cuts := [(5, [(2, .id), (8, .id), (10, .id)], [(6, .id), (7, .id)])], frz := [], rm := [.id, .id] }
noncomputable abbrev env64 (n : Nat) : Env := fun i => bif Nat.beq i 71 then some (fs71 n) else (fun i => bif Nat.beq i 69 then some (fs69 n) else (fun i => bif Nat.beq i 67 then some (fs67 n) else (fun i => bif Nat.beq i 65 then some (fs65 n) else (fun i => bif Nat.beq i 57 then some (fs57 n) else (fun i => bif Nat.beq i 46 then some (fs46 n) else (fun _ => none) i) i) i) i) i) i
theorem envok64 (n : Nat) : EnvOK Tryz.prog GI (env64 n) := EnvOK.cons (EnvOK.cons (EnvOK.cons (EnvOK.cons (EnvOK.cons (EnvOK.cons (EnvOK.nil) (ok46 n)) (ok57 n)) (ok65 n)) (ok67 n)) (ok69 n)) (ok71 n)
noncomputable def p64_c5 {R : Type} (n : Nat) (x1 : Bool) (x2 x3 : List PV) (x4 : Bool) (x5 x6 : List PV) (k0 : ByteArray → Int → Option R) : Option R :=
  p65 n x1 x2 x3 x4 x5 x6 (fun y7 y8 y9 y10 => bif (y10 != 0) then (k0 ⟨#[]⟩ y10) else (p46 n y7 y8 y9 (fun y11 y12 => k0 y11 y12)))
noncomputable def p64 {R : Type} (n : Nat) (x1 x2 : ByteArray) (k0 : ByteArray → Int → Option R) : Option R :=
  p57 n x1 (fun y3 y4 y5 y6 => p57 n x2 (fun y7 y8 y9 y10 => bif (!y6) then (bif true then (bif true then (bif true then (k0 ⟨#[]⟩ 3) else none) else none) else none) else (bif false then none else (bif (bif false then true else (!y10)) then (k0 ⟨#[]⟩ 3) else (p64_c5 n y3 y4 y5 y7 y8 y9 (fun y11 y12 => k0 y11 y12))))))
noncomputable def p64_c5v1 {R : Type} (n : Nat) (x1 : Bool) (x2 x3 : List PV) (x4 : Bool) (x5 x6 : List PV) (k0 : ByteArray → Int → Option R) : Option R :=
  p71 n x1 x2 x3 x4 x5 x6 (fun y7 y8 y9 y10 => bif (y10 != 0) then (k0 ⟨#[]⟩ y10) else (p46 n y7 y8 y9 (fun y11 y12 => k0 y11 y12)))
noncomputable def p64v1 {R : Type} (n : Nat) (x1 x2 : ByteArray) (k0 : ByteArray → Int → Option R) : Option R :=
  p57 n x1 (fun y3 y4 y5 y6 => p57 n x2 (fun y7 y8 y9 y10 => bif (!y6) then (bif true then (bif true then (bif true then (k0 ⟨#[]⟩ 3) else none) else none) else none) else (bif false then none else (bif (bif false then true else (!y10)) then (k0 ⟨#[]⟩ 3) else (p64_c5v1 n y3 y4 y5 y7 y8 y9 (fun y11 y12 => k0 y11 y12))))))
noncomputable def p64_c5v2 {R : Type} (n : Nat) (x1 : Bool) (x2 x3 : List PV) (x4 : Bool) (x5 x6 : List PV) (k0 : ByteArray → Int → Option R) : Option R :=
  p67 n x1 x2 x3 x4 x5 x6 (fun y7 y8 y9 y10 => bif (y10 != 0) then (k0 ⟨#[]⟩ y10) else (p46 n y7 y8 y9 (fun y11 y12 => k0 y11 y12)))
noncomputable def p64v2 {R : Type} (n : Nat) (x1 x2 : ByteArray) (k0 : ByteArray → Int → Option R) : Option R :=
  p57 n x1 (fun y3 y4 y5 y6 => p57 n x2 (fun y7 y8 y9 y10 => bif (!y6) then (bif true then (bif true then (bif true then (k0 ⟨#[]⟩ 3) else none) else none) else none) else (bif false then none else (bif (bif false then true else (!y10)) then (k0 ⟨#[]⟩ 3) else (p64_c5v2 n y3 y4 y5 y7 y8 y9 (fun y11 y12 => k0 y11 y12))))))
noncomputable def p64_c5v3 {R : Type} (n : Nat) (x1 : Bool) (x2 x3 : List PV) (x4 : Bool) (x5 x6 : List PV) (k0 : ByteArray → Int → Option R) : Option R :=
  p69 n x1 x2 x3 x4 x5 x6 (fun y7 y8 y9 y10 => bif (y10 != 0) then (k0 ⟨#[]⟩ y10) else (p46 n y7 y8 y9 (fun y11 y12 => k0 y11 y12)))
noncomputable def p64v3 {R : Type} (n : Nat) (x1 x2 : ByteArray) (k0 : ByteArray → Int → Option R) : Option R :=
  p57 n x1 (fun y3 y4 y5 y6 => p57 n x2 (fun y7 y8 y9 y10 => bif (!y6) then (bif true then (bif true then (bif true then (k0 ⟨#[]⟩ 3) else none) else none) else none) else (bif false then none else (bif (bif false then true else (!y10)) then (k0 ⟨#[]⟩ 3) else (p64_c5v3 n y3 y4 y5 y7 y8 y9 (fun y11 y12 => k0 y11 y12))))))
noncomputable abbrev E64 {R : Type} (n : Nat) (c : Code) : Fr → Kc R → Option R := evC Tryz.prog (env64 n) ann64 n (44, []) c
noncomputable def c64_c5 : Code := subC (bodyOf Tryz.f64) [1, 1, 1, 1]
abbrev t64_c5a : Sl (List SV) := (.c (sP (sFn 65)) (.c (sBx 65 (.c (sP sBool) (.c (sP sSh) (.c (sP sSh) .n)))) (.c (sBx 65 (.c (sP sBool) (.c (sP sSh) (.c (sP sSh) .n)))) .n)))
noncomputable abbrev f64_c5a {R : Type} (n : Nat) (K : Kc R) : t64_c5a.T (Option R) := fun x1 x2 x3 x4 x5 x6 => p64_c5 n x1 x2 x3 x4 x5 x6 (fun y1 y2 => K .ret (lk (outA ann64.cuts 5) [.p (.v (.string y1)), .p (.v (.int .i64 y2))]))
abbrev t64_c5b : Sl (List SV) := (.c (sP (sFn 71)) (.c (sBx 65 (.c (sP sBool) (.c (sP sSh) (.c (sP sSh) .n)))) (.c (sBx 65 (.c (sP sBool) (.c (sP sSh) (.c (sP sSh) .n)))) .n)))
noncomputable abbrev f64_c5b {R : Type} (n : Nat) (K : Kc R) : t64_c5b.T (Option R) := fun x1 x2 x3 x4 x5 x6 => p64_c5v1 n x1 x2 x3 x4 x5 x6 (fun y1 y2 => K .ret (lk (outA ann64.cuts 5) [.p (.v (.string y1)), .p (.v (.int .i64 y2))]))
abbrev t64_c5c : Sl (List SV) := (.c (sP (sFn 67)) (.c (sBx 65 (.c (sP sBool) (.c (sP sSh) (.c (sP sSh) .n)))) (.c (sBx 65 (.c (sP sBool) (.c (sP sSh) (.c (sP sSh) .n)))) .n)))
noncomputable abbrev f64_c5c {R : Type} (n : Nat) (K : Kc R) : t64_c5c.T (Option R) := fun x1 x2 x3 x4 x5 x6 => p64_c5v2 n x1 x2 x3 x4 x5 x6 (fun y1 y2 => K .ret (lk (outA ann64.cuts 5) [.p (.v (.string y1)), .p (.v (.int .i64 y2))]))
abbrev t64_c5d : Sl (List SV) := (.c (sP (sFn 69)) (.c (sBx 65 (.c (sP sBool) (.c (sP sSh) (.c (sP sSh) .n)))) (.c (sBx 65 (.c (sP sBool) (.c (sP sSh) (.c (sP sSh) .n)))) .n)))
noncomputable abbrev f64_c5d {R : Type} (n : Nat) (K : Kc R) : t64_c5d.T (Option R) := fun x1 x2 x3 x4 x5 x6 => p64_c5v3 n x1 x2 x3 x4 x5 x6 (fun y1 y2 => K .ret (lk (outA ann64.cuts 5) [.p (.v (.string y1)), .p (.v (.int .i64 y2))]))
noncomputable abbrev o64_c5 {R : Type} (n : Nat) (vs : List SV) (K : Kc R) : Option R := oget (t64_c5a.ap vs (f64_c5a n K)) (oget (t64_c5b.ap vs (f64_c5b n K)) (oget (t64_c5c.ap vs (f64_c5c n K)) (oget (t64_c5d.ap vs (f64_c5d n K)) (cutE ann64 5 (E64 n c64_c5) vs K))))
noncomputable abbrev lo64 {R : Type} (n : Nat) : Orc R := fun i vs K => none
noncomputable abbrev cu64 {R : Type} (n : Nat) : Orc R := fun i vs K => dcnd (Nat.beq i 5) (o64_c5 n vs K) (none)
section
variable {R : Type}
abbrev K64 (R : Type) (n : Nat) := PartOK (R := R) Tryz.prog (env64 n) ann64 n (44, []) (lo64 n) (cu64 n)
theorem pa64_c5 (n : Nat) : allP (K64 R n) (partsOf ann64 c64_c5) := by
  rw [show partsOf ann64 c64_c5 = [] from by kernel_rfl]; exact trivial
theorem q64_c5 (n : Nat) : K64 R n (true, 5, c64_c5) := part_cut (pa64_c5 n) t64_c5a (f64_c5a n) (fun K x1 x2 x3 x4 x5 x6 => by show cutE _ _ _ _ _ = _; kernel_rfl) (part_cut (pa64_c5 n) t64_c5b (f64_c5b n) (fun K x1 x2 x3 x4 x5 x6 => by show cutE _ _ _ _ _ = _; kernel_rfl) (part_cut (pa64_c5 n) t64_c5c (f64_c5c n) (fun K x1 x2 x3 x4 x5 x6 => by show cutE _ _ _ _ _ = _; kernel_rfl) (part_cut (pa64_c5 n) t64_c5d (f64_c5d n) (fun K x1 x2 x3 x4 x5 x6 => by show cutE _ _ _ _ _ = _; kernel_rfl) fun _ _ => rfl)))
theorem pa64 (n : Nat) : allP (K64 R n) (partsOf ann64 (bodyOf Tryz.f64)) := by
  rw [show partsOf ann64 (bodyOf Tryz.f64) = [(true, 5, c64_c5)] from by kernel_rfl]; exact ⟨q64_c5 n, trivial⟩
end
abbrev t64a : Sl (List SV) := (.c (sP sStr) (.c (sP sStr) (.c (sP (sFn 65)) .n)))
noncomputable abbrev f64a (n : Nat) {R : Type} (K : List SV → Option R) : t64a.T (Option R) := fun x1 x2 => p64 n x1 x2 (fun y1 y2 => K [.p (.v (.string y1)), .p (.v (.int .i64 y2))])
theorem ep64 {R : Type} (n : Nat) (K : List SV → Option R) (x1 x2 : ByteArray) : evFn Tryz.prog (env64 n) ann64 n Tryz.f64 [.p (.v (.string x1)), .p (.v (.string x2)), .p (.v (.func (.func 65) #[] #[]))] K = f64a n K x1 x2 := by
  rw [evFn_evOi (c := bodyOf Tryz.f64) (by kernel_rfl) (pa64 n)]; kernel_rfl
abbrev t64b : Sl (List SV) := (.c (sP sStr) (.c (sP sStr) (.c (sP (sFn 71)) .n)))
noncomputable abbrev f64b (n : Nat) {R : Type} (K : List SV → Option R) : t64b.T (Option R) := fun x1 x2 => p64v1 n x1 x2 (fun y1 y2 => K [.p (.v (.string y1)), .p (.v (.int .i64 y2))])
theorem ep64v1 {R : Type} (n : Nat) (K : List SV → Option R) (x1 x2 : ByteArray) : evFn Tryz.prog (env64 n) ann64 n Tryz.f64 [.p (.v (.string x1)), .p (.v (.string x2)), .p (.v (.func (.func 71) #[] #[]))] K = f64b n K x1 x2 := by
  rw [evFn_evOi (c := bodyOf Tryz.f64) (by kernel_rfl) (pa64 n)]; kernel_rfl
abbrev t64c : Sl (List SV) := (.c (sP sStr) (.c (sP sStr) (.c (sP (sFn 67)) .n)))
noncomputable abbrev f64c (n : Nat) {R : Type} (K : List SV → Option R) : t64c.T (Option R) := fun x1 x2 => p64v2 n x1 x2 (fun y1 y2 => K [.p (.v (.string y1)), .p (.v (.int .i64 y2))])
theorem ep64v2 {R : Type} (n : Nat) (K : List SV → Option R) (x1 x2 : ByteArray) : evFn Tryz.prog (env64 n) ann64 n Tryz.f64 [.p (.v (.string x1)), .p (.v (.string x2)), .p (.v (.func (.func 67) #[] #[]))] K = f64c n K x1 x2 := by
  rw [evFn_evOi (c := bodyOf Tryz.f64) (by kernel_rfl) (pa64 n)]; kernel_rfl
abbrev t64d : Sl (List SV) := (.c (sP sStr) (.c (sP sStr) (.c (sP (sFn 69)) .n)))
noncomputable abbrev f64d (n : Nat) {R : Type} (K : List SV → Option R) : t64d.T (Option R) := fun x1 x2 => p64v3 n x1 x2 (fun y1 y2 => K [.p (.v (.string y1)), .p (.v (.int .i64 y2))])
theorem ep64v3 {R : Type} (n : Nat) (K : List SV → Option R) (x1 x2 : ByteArray) : evFn Tryz.prog (env64 n) ann64 n Tryz.f64 [.p (.v (.string x1)), .p (.v (.string x2)), .p (.v (.func (.func 69) #[] #[]))] K = f64d n K x1 x2 := by
  rw [evFn_evOi (c := bodyOf Tryz.f64) (by kernel_rfl) (pa64 n)]; kernel_rfl
noncomputable abbrev fs64 (n : Nat) : FS := { om := [false, false, false], run := fun args K => oget (t64a.ap args (f64a n K)) (oget (t64b.ap args (f64b n K)) (oget (t64c.ap args (f64c n K)) (oget (t64d.ap args (f64d n K)) none))) }
theorem ok64 (n : Nat) : FSound Tryz.prog GI 64 (fs64 n) :=
  FSound.good (envok64 n) (ann := ann64) (n := n) Tryz.func64
    (.cons (envok64 n) t64a (f64a n) (fun K x1 x2 => ep64 n K x1 x2) (.cons (envok64 n) t64b (f64b n) (fun K x1 x2 => ep64v1 n K x1 x2) (.cons (envok64 n) t64c (f64c n) (fun K x1 x2 => ep64v2 n K x1 x2) (.cons (envok64 n) t64d (f64d n) (fun K x1 x2 => ep64v3 n K x1 x2) .nil))))
    (by kernel_rfl) (by kernel_rfl) (by kernel_rfl)
end Go.Proofs.YtfbahcfojiaeaaaGreatDoor


set_option linter.unusedVariables false
set_option maxRecDepth 100000
namespace Go.Proofs.YtfbahcfojiaeaaaGreatDoor
open Go Th Go.Proofs
def ann27 : Ann := { loops := [], cuts := [], frz := [], rm := [.id, .id] }
noncomputable abbrev env27 (n : Nat) : Env := fun i => bif Nat.beq i 64 then some (fs64 n) else (fun i => bif Nat.beq i 63 then some (fs63 n) else (fun i => bif Nat.beq i 62 then some (fs62 n) else (fun _ => none) i) i) i
theorem envok27 (n : Nat) : EnvOK Tryz.prog GI (env27 n) := EnvOK.cons (EnvOK.cons (EnvOK.cons (EnvOK.nil) (ok62 n)) (ok63 n)) (ok64 n)
noncomputable def p27 {R : Type} (n : Nat) (x1 x2 : ByteArray) (k0 : ByteArray → Int → Option R) : Option R :=
  p62 n x1 x2 (fun y3 y4 y5 => bif y5 then (bif (i64R (IntKind.i64.wrap (y3 + y4))) then (k0 (itoaB (IntKind.i64.wrap (y3 + y4))) 0) else none) else (p64 n x1 x2 (fun y6 y7 => k0 y6 y7)))
noncomputable abbrev lo27 {R : Type} (n : Nat) : Orc R := fun i vs K => none
noncomputable abbrev cu27 {R : Type} (n : Nat) : Orc R := fun i vs K => none
section
variable {R : Type}
abbrev K27 (R : Type) (n : Nat) := PartOK (R := R) Tryz.prog (env27 n) ann27 n (26, []) (lo27 n) (cu27 n)
theorem pa27 (n : Nat) : allP (K27 R n) (partsOf ann27 (bodyOf Tryz.f27)) := by
  rw [show partsOf ann27 (bodyOf Tryz.f27) = [] from by kernel_rfl]; exact trivial
end
abbrev t27 : Sl (List SV) := (.c (sP sStr) (.c (sP sStr) .n))
noncomputable abbrev f27 (n : Nat) {R : Type} (K : List SV → Option R) : t27.T (Option R) := fun x1 x2 => p27 n x1 x2 (fun y1 y2 => K [.p (.v (.string y1)), .p (.v (.int .i64 y2))])
theorem ep27 {R : Type} (n : Nat) (K : List SV → Option R) (x1 x2 : ByteArray) : evFn Tryz.prog (env27 n) ann27 n Tryz.f27 [.p (.v (.string x1)), .p (.v (.string x2))] K = f27 n K x1 x2 := by
  rw [evFn_evOi (c := bodyOf Tryz.f27) (by kernel_rfl) (pa27 n)]; kernel_rfl
noncomputable abbrev fs27 (n : Nat) : FS := { om := [false, false], run := fun args K => oget (t27.ap args (f27 n K)) none }
theorem ok27 (n : Nat) : FSound Tryz.prog GI 27 (fs27 n) :=
  FSound.good (envok27 n) (ann := ann27) (n := n) Tryz.func27
    (.cons (envok27 n) t27 (f27 n) (fun K x1 x2 => ep27 n K x1 x2) .nil)
    (by kernel_rfl) (by kernel_rfl) (by kernel_rfl)
end Go.Proofs.YtfbahcfojiaeaaaGreatDoor


set_option linter.unusedVariables false
set_option maxRecDepth 100000
namespace Go.Proofs.YtfbahcfojiaeaaaGreatDoor
open Go Th Go.Proofs
def ann30 : Ann := { loops := [], cuts := [], frz := [], rm := [.id, .id] }
noncomputable abbrev env30 (n : Nat) : Env := fun i => bif Nat.beq i 64 then some (fs64 n) else (fun _ => none) i
theorem envok30 (n : Nat) : EnvOK Tryz.prog GI (env30 n) := EnvOK.cons (EnvOK.nil) (ok64 n)
noncomputable def p30 {R : Type} (n : Nat) (x1 x2 : ByteArray) (k0 : ByteArray → Int → Option R) : Option R :=
  p64v1 n x1 x2 (fun y3 y4 => k0 y3 y4)
noncomputable abbrev lo30 {R : Type} (n : Nat) : Orc R := fun i vs K => none
noncomputable abbrev cu30 {R : Type} (n : Nat) : Orc R := fun i vs K => none
section
variable {R : Type}
abbrev K30 (R : Type) (n : Nat) := PartOK (R := R) Tryz.prog (env30 n) ann30 n (11, []) (lo30 n) (cu30 n)
theorem pa30 (n : Nat) : allP (K30 R n) (partsOf ann30 (bodyOf Tryz.f30)) := by
  rw [show partsOf ann30 (bodyOf Tryz.f30) = [] from by kernel_rfl]; exact trivial
end
abbrev t30 : Sl (List SV) := (.c (sP sStr) (.c (sP sStr) .n))
noncomputable abbrev f30 (n : Nat) {R : Type} (K : List SV → Option R) : t30.T (Option R) := fun x1 x2 => p30 n x1 x2 (fun y1 y2 => K [.p (.v (.string y1)), .p (.v (.int .i64 y2))])
theorem ep30 {R : Type} (n : Nat) (K : List SV → Option R) (x1 x2 : ByteArray) : evFn Tryz.prog (env30 n) ann30 n Tryz.f30 [.p (.v (.string x1)), .p (.v (.string x2))] K = f30 n K x1 x2 := by
  rw [evFn_evOi (c := bodyOf Tryz.f30) (by kernel_rfl) (pa30 n)]; kernel_rfl
noncomputable abbrev fs30 (n : Nat) : FS := { om := [false, false], run := fun args K => oget (t30.ap args (f30 n K)) none }
theorem ok30 (n : Nat) : FSound Tryz.prog GI 30 (fs30 n) :=
  FSound.good (envok30 n) (ann := ann30) (n := n) Tryz.func30
    (.cons (envok30 n) t30 (f30 n) (fun K x1 x2 => ep30 n K x1 x2) .nil)
    (by kernel_rfl) (by kernel_rfl) (by kernel_rfl)
end Go.Proofs.YtfbahcfojiaeaaaGreatDoor


set_option linter.unusedVariables false
set_option maxRecDepth 100000
namespace Go.Proofs.YtfbahcfojiaeaaaGreatDoor
open Go Th Go.Proofs
def ann72 : Ann := { loops := [], cuts := [], frz := [], rm := [.id] }
noncomputable abbrev env72 (n : Nat) : Env := fun _ => none
theorem envok72 (n : Nat) : EnvOK Tryz.prog GI (env72 n) := EnvOK.nil
noncomputable def p72 {R : Type} (n : Nat) (x1 x2 : Int) (k0 : Int → Option R) : Option R :=
  bif (decide (x1 < x2)) then (k0 (-1)) else (bif (decide (x1 > x2)) then (k0 1) else (k0 0))
noncomputable abbrev lo72 {R : Type} (n : Nat) : Orc R := fun i vs K => none
noncomputable abbrev cu72 {R : Type} (n : Nat) : Orc R := fun i vs K => none
section
variable {R : Type}
abbrev K72 (R : Type) (n : Nat) := PartOK (R := R) Tryz.prog (env72 n) ann72 n (13, []) (lo72 n) (cu72 n)
theorem pa72 (n : Nat) : allP (K72 R n) (partsOf ann72 (bodyOf Tryz.f72)) := by
  rw [show partsOf ann72 (bodyOf Tryz.f72) = [] from by kernel_rfl]; exact trivial
end
abbrev t72 : Sl (List SV) := (.c (sP (sInt .i64)) (.c (sP (sInt .i64)) .n))
noncomputable abbrev f72 (n : Nat) {R : Type} (K : List SV → Option R) : t72.T (Option R) := fun x1 x2 => p72 n x1 x2 (fun y1 => K [.p (.v (.int .i64 y1))])
theorem ep72 {R : Type} (n : Nat) (K : List SV → Option R) (x1 x2 : Int) : evFn Tryz.prog (env72 n) ann72 n Tryz.f72 [.p (.v (.int .i64 x1)), .p (.v (.int .i64 x2))] K = f72 n K x1 x2 := by
  rw [evFn_evOi (c := bodyOf Tryz.f72) (by kernel_rfl) (pa72 n)]; kernel_rfl
noncomputable abbrev fs72 (n : Nat) : FS := { om := [false, false], run := fun args K => oget (t72.ap args (f72 n K)) none }
theorem ok72 (n : Nat) : FSound Tryz.prog GI 72 (fs72 n) :=
  FSound.good (envok72 n) (ann := ann72) (n := n) Tryz.func72
    (.cons (envok72 n) t72 (f72 n) (fun K x1 x2 => ep72 n K x1 x2) .nil)
    (by kernel_rfl) (by kernel_rfl) (by kernel_rfl)
end Go.Proofs.YtfbahcfojiaeaaaGreatDoor


set_option linter.unusedVariables false
set_option maxRecDepth 100000
namespace Go.Proofs.YtfbahcfojiaeaaaGreatDoor
open Go Th Go.Proofs
def ann36 : Ann := { loops := [], cuts := [(8, [(8, .id), (10, .id)], [(4, .id)]), (12, [(8, .id), (10, .id)], [(4, .id)])], frz := [], rm := [.id] }
noncomputable abbrev env36 (n : Nat) : Env := fun i => bif Nat.beq i 73 then some (fs73 n) else (fun i => bif Nat.beq i 72 then some (fs72 n) else (fun i => bif Nat.beq i 70 then some (fs70 n) else (fun i => bif Nat.beq i 62 then some (fs62 n) else (fun i => bif Nat.beq i 57 then some (fs57 n) else (fun _ => none) i) i) i) i) i
theorem envok36 (n : Nat) : EnvOK Tryz.prog GI (env36 n) := EnvOK.cons (EnvOK.cons (EnvOK.cons (EnvOK.cons (EnvOK.cons (EnvOK.nil) (ok57 n)) (ok62 n)) (ok70 n)) (ok72 n)) (ok73 n)
noncomputable def p36_c12 {R : Type} (n : Nat) (x1 : Bool) (x2 x3 : List PV) (x4 : Bool) (x5 x6 : List PV) (k0 : Int → Option R) : Option R :=
  p70 n x2 x6 (fun y7 => p70 n x5 x3 (fun y8 => p73 n y7 y8 (fun y9 => bif x1 then (k0 (IntKind.i64.wrap (0 - y9))) else (k0 y9))))
noncomputable def p36_c8 {R : Type} (n : Nat) (x1 : Bool) (x2 x3 : List PV) (x4 : Bool) (x5 x6 : List PV) (k0 : Int → Option R) : Option R :=
  bif x1 then (bif true then (bif true then (bif (bif true then (!x4) else false) then (k0 (-1)) else (bif x4 then (bif true then (bif true then (bif (bif true then (!x1) else false) then (k0 1) else (p36_c12 n x1 x2 x3 x4 x5 x6 (fun y7 => k0 y7))) else none) else none) else (bif false then none else (bif false then none else (bif false then none else (bif false then none else (p36_c12 n x1 x2 x3 x4 x5 x6 (fun y8 => k0 y8)))))))) else none) else none) else (bif false then none else (bif false then none else (bif false then none else (bif false then none else (bif x4 then (bif true then (bif true then (bif (bif true then (!x1) else false) then (k0 1) else (p36_c12 n x1 x2 x3 x4 x5 x6 (fun y9 => k0 y9))) else none) else none) else (bif false then none else (bif false then none else (bif false then none else (bif false then none else (p36_c12 n x1 x2 x3 x4 x5 x6 (fun y10 => k0 y10)))))))))))
noncomputable def p36 {R : Type} (n : Nat) (x1 x2 : ByteArray) (k0 : Int → Option R) : Option R :=
  p62 n x1 x2 (fun y3 y4 y5 => bif y5 then (p72 n y3 y4 (fun y6 => k0 y6)) else (p57 n x1 (fun y7 y8 y9 y10 => p57 n x2 (fun y11 y12 y13 y14 => bif (!y10) then (bif true then (bif true then (bif true then (k0 0) else none) else none) else none) else (bif false then none else (bif (bif false then true else (!y14)) then (k0 0) else (p36_c8 n y7 y8 y9 y11 y12 y13 (fun y15 => k0 y15))))))))
noncomputable abbrev E36 {R : Type} (n : Nat) (c : Code) : Fr → Kc R → Option R := evC Tryz.prog (env36 n) ann36 n (72, []) c
noncomputable def c36_c8 : Code := subC (bodyOf Tryz.f36) [1, 1, 1, 1, 1]
abbrev t36_c8 : Sl (List SV) := (.c (sBx 65 (.c (sP sBool) (.c (sP sSh) (.c (sP sSh) .n)))) (.c (sBx 65 (.c (sP sBool) (.c (sP sSh) (.c (sP sSh) .n)))) .n))
noncomputable abbrev f36_c8 {R : Type} (n : Nat) (K : Kc R) : t36_c8.T (Option R) := fun x1 x2 x3 x4 x5 x6 => p36_c8 n x1 x2 x3 x4 x5 x6 (fun y1 => K .ret (lk (outA ann36.cuts 8) [.p (.v (.int .i64 y1))]))
noncomputable abbrev o36_c8 {R : Type} (n : Nat) (vs : List SV) (K : Kc R) : Option R := oget (t36_c8.ap vs (f36_c8 n K)) (cutE ann36 8 (E36 n c36_c8) vs K)
noncomputable def c36_c12 : Code := subC (bodyOf Tryz.f36) [1, 1, 1, 1, 1, 1]
abbrev t36_c12 : Sl (List SV) := (.c (sBx 65 (.c (sP sBool) (.c (sP sSh) (.c (sP sSh) .n)))) (.c (sBx 65 (.c (sP sBool) (.c (sP sSh) (.c (sP sSh) .n)))) .n))
noncomputable abbrev f36_c12 {R : Type} (n : Nat) (K : Kc R) : t36_c12.T (Option R) := fun x1 x2 x3 x4 x5 x6 => p36_c12 n x1 x2 x3 x4 x5 x6 (fun y1 => K .ret (lk (outA ann36.cuts 12) [.p (.v (.int .i64 y1))]))
noncomputable abbrev o36_c12 {R : Type} (n : Nat) (vs : List SV) (K : Kc R) : Option R := oget (t36_c12.ap vs (f36_c12 n K)) (cutE ann36 12 (E36 n c36_c12) vs K)
noncomputable abbrev lo36 {R : Type} (n : Nat) : Orc R := fun i vs K => none
noncomputable abbrev cu36 {R : Type} (n : Nat) : Orc R := fun i vs K => dcnd (Nat.beq i 12) (o36_c12 n vs K) (dcnd (Nat.beq i 8) (o36_c8 n vs K) (none))
section
variable {R : Type}
abbrev K36 (R : Type) (n : Nat) := PartOK (R := R) Tryz.prog (env36 n) ann36 n (72, []) (lo36 n) (cu36 n)
theorem pa36_c12 (n : Nat) : allP (K36 R n) (partsOf ann36 c36_c12) := by
  rw [show partsOf ann36 c36_c12 = [] from by kernel_rfl]; exact trivial
theorem q36_c12 (n : Nat) : K36 R n (true, 12, c36_c12) := part_cut (pa36_c12 n) t36_c12 (f36_c12 n) (fun K x1 x2 x3 x4 x5 x6 => by show cutE _ _ _ _ _ = _; kernel_rfl) fun _ _ => rfl
theorem pa36_c8 (n : Nat) : allP (K36 R n) (partsOf ann36 c36_c8) := by
  rw [show partsOf ann36 c36_c8 = [(true, 12, c36_c12)] from by kernel_rfl]; exact ⟨q36_c12 n, trivial⟩
theorem q36_c8 (n : Nat) : K36 R n (true, 8, c36_c8) := part_cut (pa36_c8 n) t36_c8 (f36_c8 n) (fun K x1 x2 x3 x4 x5 x6 => by show cutE _ _ _ _ _ = _; kernel_rfl) fun _ _ => rfl
theorem pa36 (n : Nat) : allP (K36 R n) (partsOf ann36 (bodyOf Tryz.f36)) := by
  rw [show partsOf ann36 (bodyOf Tryz.f36) = [(true, 8, c36_c8)] from by kernel_rfl]; exact ⟨q36_c8 n, trivial⟩
end
abbrev t36 : Sl (List SV) := (.c (sP sStr) (.c (sP sStr) .n))
noncomputable abbrev f36 (n : Nat) {R : Type} (K : List SV → Option R) : t36.T (Option R) := fun x1 x2 => p36 n x1 x2 (fun y1 => K [.p (.v (.int .i64 y1))])
theorem ep36 {R : Type} (n : Nat) (K : List SV → Option R) (x1 x2 : ByteArray) : evFn Tryz.prog (env36 n) ann36 n Tryz.f36 [.p (.v (.string x1)), .p (.v (.string x2))] K = f36 n K x1 x2 := by
  rw [evFn_evOi (c := bodyOf Tryz.f36) (by kernel_rfl) (pa36 n)]; kernel_rfl
noncomputable abbrev fs36 (n : Nat) : FS := { om := [false, false], run := fun args K => oget (t36.ap args (f36 n K)) none }
theorem ok36 (n : Nat) : FSound Tryz.prog GI 36 (fs36 n) :=
  FSound.good (envok36 n) (ann := ann36) (n := n) Tryz.func36
    (.cons (envok36 n) t36 (f36 n) (fun K x1 x2 => ep36 n K x1 x2) .nil)
    (by kernel_rfl) (by kernel_rfl) (by kernel_rfl)
end Go.Proofs.YtfbahcfojiaeaaaGreatDoor


set_option linter.unusedVariables false
set_option maxRecDepth 100000
namespace Go.Proofs.YtfbahcfojiaeaaaGreatDoor
open Go Th Go.Proofs
def ann74 : Ann := { loops := [], cuts := [(4, [(1, .id), (2, .id), (3, .id)], [(2, .id)])], frz := [], rm := [.id] }
noncomputable abbrev env74 (n : Nat) : Env := fun i => bif Nat.beq i 88 then some (fs88 n) else (fun i => bif Nat.beq i 80 then some (fs80 n) else (fun _ => none) i) i
theorem envok74 (n : Nat) : EnvOK Tryz.prog GI (env74 n) := EnvOK.cons (EnvOK.cons (EnvOK.nil) (ok80 n)) (ok88 n)
noncomputable def p74_c4 {R : Type} (n : Nat) (x1 : Bool) (x2 x3 : List PV) (x4 : Bool) (x5 : List PV) (k0 : Bool → List PV → List PV → Option R) : Option R :=
  bif x1 then (bif true then (bif true then (k0 (bif true then (decide (((x5).length : Int) > 0)) else false) x5 ([.v (.int .u32 1)] : List PV)) else none) else none) else (bif false then none else (bif false then none else (bif false then none else (k0 false x5 ([.v (.int .u32 1)] : List PV)))))
noncomputable def p74 {R : Type} (n : Nat) (x1 : Bool) (x2 x3 : List PV) (k0 : Bool → List PV → List PV → Option R) : Option R :=
  p80 n x2 x3 (fun y4 y5 => bif x1 then (bif true then (bif true then (bif (bif true then (decide (((y5).length : Int) > 0)) else false) then (p88 n y4 ([.v (.int .u32 1)] : List PV) (fun y6 => p74_c4 n x1 x2 x3 false y6 (fun y7 y8 y9 => k0 y7 y8 y9))) else (p74_c4 n x1 x2 x3 false y4 (fun y10 y11 y12 => k0 y10 y11 y12))) else none) else none) else (bif false then none else (bif false then none else (bif false then none else (bif false then none else (p74_c4 n x1 x2 x3 false y4 (fun y13 y14 y15 => k0 y13 y14 y15)))))))
noncomputable abbrev E74 {R : Type} (n : Nat) (c : Code) : Fr → Kc R → Option R := evC Tryz.prog (env74 n) ann74 n (33, []) c
noncomputable def c74_c4 : Code := subC (bodyOf Tryz.f74) [1, 1, 1]
abbrev t74_c4 : Sl (List SV) := (.c (sBx 65 (.c (sP sBool) (.c (sP sSh) (.c (sP sSh) .n)))) (.c (sBx 65 (.c (sP sBool) (.c sNl (.c sNl .n)))) (.c (sP sSh) .n)))
noncomputable abbrev f74_c4 {R : Type} (n : Nat) (K : Kc R) : t74_c4.T (Option R) := fun x1 x2 x3 x4 x5 => p74_c4 n x1 x2 x3 x4 x5 (fun y1 y2 y3 => K .ret (lk (outA ann74.cuts 4) [.bx 65 [.p (.v (.bool y1)), .p (.sh y2), .p (.sh y3)]]))
noncomputable abbrev o74_c4 {R : Type} (n : Nat) (vs : List SV) (K : Kc R) : Option R := oget (t74_c4.ap vs (f74_c4 n K)) (cutE ann74 4 (E74 n c74_c4) vs K)
noncomputable abbrev lo74 {R : Type} (n : Nat) : Orc R := fun i vs K => none
noncomputable abbrev cu74 {R : Type} (n : Nat) : Orc R := fun i vs K => dcnd (Nat.beq i 4) (o74_c4 n vs K) (none)
section
variable {R : Type}
abbrev K74 (R : Type) (n : Nat) := PartOK (R := R) Tryz.prog (env74 n) ann74 n (33, []) (lo74 n) (cu74 n)
theorem pa74_c4 (n : Nat) : allP (K74 R n) (partsOf ann74 c74_c4) := by
  rw [show partsOf ann74 c74_c4 = [] from by kernel_rfl]; exact trivial
theorem q74_c4 (n : Nat) : K74 R n (true, 4, c74_c4) := part_cut (pa74_c4 n) t74_c4 (f74_c4 n) (fun K x1 x2 x3 x4 x5 => by show cutE _ _ _ _ _ = _; kernel_rfl) fun _ _ => rfl
theorem pa74 (n : Nat) : allP (K74 R n) (partsOf ann74 (bodyOf Tryz.f74)) := by
  rw [show partsOf ann74 (bodyOf Tryz.f74) = [(true, 4, c74_c4)] from by kernel_rfl]; exact ⟨q74_c4 n, trivial⟩
end
abbrev t74 : Sl (List SV) := (.c (sP (sAgg (.c sBool (.c sSh (.c sSh .n))))) .n)
noncomputable abbrev f74 (n : Nat) {R : Type} (K : List SV → Option R) : t74.T (Option R) := fun x1 x2 x3 => p74 n x1 x2 x3 (fun y1 y2 y3 => K [.p (.agg [.v (.bool y1), .sh y2, .sh y3])])
theorem ep74 {R : Type} (n : Nat) (K : List SV → Option R) (x1 : Bool) (x2 x3 : List PV) : evFn Tryz.prog (env74 n) ann74 n Tryz.f74 [.p (.agg [.v (.bool x1), .sh x2, .sh x3])] K = f74 n K x1 x2 x3 := by
  rw [evFn_evOi (c := bodyOf Tryz.f74) (by kernel_rfl) (pa74 n)]; kernel_rfl
noncomputable abbrev fs74 (n : Nat) : FS := { om := [false], run := fun args K => oget (t74.ap args (f74 n K)) none }
theorem ok74 (n : Nat) : FSound Tryz.prog GI 74 (fs74 n) :=
  FSound.good (envok74 n) (ann := ann74) (n := n) Tryz.func74
    (.cons (envok74 n) t74 (f74 n) (fun K x1 x2 x3 => ep74 n K x1 x2 x3) .nil)
    (by kernel_rfl) (by kernel_rfl) (by kernel_rfl)
end Go.Proofs.YtfbahcfojiaeaaaGreatDoor


set_option linter.unusedVariables false
set_option maxRecDepth 100000
namespace Go.Proofs.YtfbahcfojiaeaaaGreatDoor
open Go Th Go.Proofs
def ann38 : Ann := { loops := [], cuts := [], frz := [], rm := [.id, .id] }
noncomputable abbrev env38 (n : Nat) : Env := fun i => bif Nat.beq i 74 then some (fs74 n) else (fun i => bif Nat.beq i 57 then some (fs57 n) else (fun i => bif Nat.beq i 46 then some (fs46 n) else (fun _ => none) i) i) i
theorem envok38 (n : Nat) : EnvOK Tryz.prog GI (env38 n) := EnvOK.cons (EnvOK.cons (EnvOK.cons (EnvOK.nil) (ok46 n)) (ok57 n)) (ok74 n)
noncomputable def p38 {R : Type} (n : Nat) (x1 : ByteArray) (k0 : ByteArray → Int → Option R) : Option R :=
  p57 n x1 (fun y2 y3 y4 y5 => bif (!y5) then (k0 ⟨#[]⟩ 3) else (p74 n y2 y3 y4 (fun y6 y7 y8 => p46 n y6 y7 y8 (fun y9 y10 => k0 y9 y10))))
noncomputable abbrev lo38 {R : Type} (n : Nat) : Orc R := fun i vs K => none
noncomputable abbrev cu38 {R : Type} (n : Nat) : Orc R := fun i vs K => none
section
variable {R : Type}
abbrev K38 (R : Type) (n : Nat) := PartOK (R := R) Tryz.prog (env38 n) ann38 n (18, []) (lo38 n) (cu38 n)
theorem pa38 (n : Nat) : allP (K38 R n) (partsOf ann38 (bodyOf Tryz.f38)) := by
  rw [show partsOf ann38 (bodyOf Tryz.f38) = [] from by kernel_rfl]; exact trivial
end
abbrev t38 : Sl (List SV) := (.c (sP sStr) .n)
noncomputable abbrev f38 (n : Nat) {R : Type} (K : List SV → Option R) : t38.T (Option R) := fun x1 => p38 n x1 (fun y1 y2 => K [.p (.v (.string y1)), .p (.v (.int .i64 y2))])
theorem ep38 {R : Type} (n : Nat) (K : List SV → Option R) (x1 : ByteArray) : evFn Tryz.prog (env38 n) ann38 n Tryz.f38 [.p (.v (.string x1))] K = f38 n K x1 := by
  rw [evFn_evOi (c := bodyOf Tryz.f38) (by kernel_rfl) (pa38 n)]; kernel_rfl
noncomputable abbrev fs38 (n : Nat) : FS := { om := [false], run := fun args K => oget (t38.ap args (f38 n K)) none }
theorem ok38 (n : Nat) : FSound Tryz.prog GI 38 (fs38 n) :=
  FSound.good (envok38 n) (ann := ann38) (n := n) Tryz.func38
    (.cons (envok38 n) t38 (f38 n) (fun K x1 => ep38 n K x1) .nil)
    (by kernel_rfl) (by kernel_rfl) (by kernel_rfl)
end Go.Proofs.YtfbahcfojiaeaaaGreatDoor


set_option linter.unusedVariables false
set_option maxRecDepth 100000
namespace Go.Proofs.YtfbahcfojiaeaaaGreatDoor
open Go Th Go.Proofs
def ann11 : Ann := { loops := [], cuts := [], frz := [], rm := [.id] }
noncomputable abbrev env11 (n : Nat) : Env := fun i => bif Nat.beq i 38 then some (fs38 n) else (fun i => bif Nat.beq i 36 then some (fs36 n) else (fun i => bif Nat.beq i 30 then some (fs30 n) else (fun i => bif Nat.beq i 27 then some (fs27 n) else (fun i => bif Nat.beq i 19 then some (fs19 n) else (fun i => bif Nat.beq i 12 then some (fs12 n) else (fun _ => none) i) i) i) i) i) i
theorem envok11 (n : Nat) : EnvOK Tryz.prog GI (env11 n) := EnvOK.cons (EnvOK.cons (EnvOK.cons (EnvOK.cons (EnvOK.cons (EnvOK.cons (EnvOK.nil) (ok12 n)) (ok19 n)) (ok27 n)) (ok30 n)) (ok36 n)) (ok38 n)
noncomputable def p11 {R : Type} (n : Nat)  (k0 : Bool → Option R) : Option R :=
  p12 n ⟨#[54]⟩ ⟨#[45, 52]⟩ (fun y1 y2 => p27 n ⟨#[49, 47, 50]⟩ ⟨#[49, 47, 51]⟩ (fun y3 y4 => p38 n ⟨#[45, 49, 47, 50]⟩ (fun y5 y6 => p30 n ⟨#[49]⟩ ⟨#[48]⟩ (fun y7 y8 => bif (y2 == 0) then (bif true then (bif (bif true then eqS y1 (⟨#[45, 51, 47, 50]⟩ : ByteArray) else false) then (bif true then (bif (bif true then (y4 == 0) else false) then (bif true then (bif (bif true then eqS y3 (⟨#[53, 47, 54]⟩ : ByteArray) else false) then (bif true then (bif (bif true then (y6 == 0) else false) then (bif true then (bif (bif true then eqS y5 (⟨#[45, 49]⟩ : ByteArray) else false) then (bif true then (bif (bif true then (y8 == 24) else false) then (p36 n ⟨#[49, 47, 51]⟩ ⟨#[49, 47, 50]⟩ (fun y9 => bif true then (bif (bif true then (y9 == (-1)) else false) then (p19 n ⟨#[52, 47, 50]⟩ (fun y10 => bif true then (k0 (bif true then (!y10) else false)) else none)) else (bif false then none else (bif false then none else (k0 false)))) else none)) else (bif false then none else (bif false then none else (bif false then none else (bif false then none else (bif false then none else (k0 false))))))) else none) else (bif false then none else (bif false then none else (bif false then none else (bif false then none else (bif false then none else (bif false then none else (bif false then none else (bif false then none else (k0 false)))))))))) else none) else (bif false then none else (bif false then none else (bif false then none else (bif false then none else (bif false then none else (bif false then none else (bif false then none else (bif false then none else (bif false then none else (bif false then none else (bif false then none else (k0 false))))))))))))) else none) else (bif false then none else (bif false then none else (bif false then none else (bif false then none else (bif false then none else (bif false then none else (bif false then none else (bif false then none else (bif false then none else (bif false then none else (bif false then none else (bif false then none else (bif false then none else (bif false then none else (k0 false)))))))))))))))) else none) else (bif false then none else (bif false then none else (bif false then none else (bif false then none else (bif false then none else (bif false then none else (bif false then none else (bif false then none else (bif false then none else (bif false then none else (bif false then none else (bif false then none else (bif false then none else (bif false then none else (bif false then none else (bif false then none else (bif false then none else (k0 false))))))))))))))))))) else none) else (bif false then none else (bif false then none else (bif false then none else (bif false then none else (bif false then none else (bif false then none else (bif false then none else (bif false then none else (bif false then none else (bif false then none else (bif false then none else (bif false then none else (bif false then none else (bif false then none else (bif false then none else (bif false then none else (bif false then none else (bif false then none else (bif false then none else (bif false then none else (k0 false)))))))))))))))))))))) else none) else (bif false then none else (bif false then none else (bif false then none else (bif false then none else (bif false then none else (bif false then none else (bif false then none else (bif false then none else (bif false then none else (bif false then none else (bif false then none else (bif false then none else (bif false then none else (bif false then none else (bif false then none else (bif false then none else (bif false then none else (bif false then none else (bif false then none else (bif false then none else (bif false then none else (bif false then none else (bif false then none else (k0 false))))))))))))))))))))))))))))
noncomputable abbrev lo11 {R : Type} (n : Nat) : Orc R := fun i vs K => none
noncomputable abbrev cu11 {R : Type} (n : Nat) : Orc R := fun i vs K => none
section
variable {R : Type}
abbrev K11 (R : Type) (n : Nat) := PartOK (R := R) Tryz.prog (env11 n) ann11 n (59, []) (lo11 n) (cu11 n)
theorem pa11 (n : Nat) : allP (K11 R n) (partsOf ann11 (bodyOf Tryz.f11)) := by
  rw [show partsOf ann11 (bodyOf Tryz.f11) = [] from by kernel_rfl]; exact trivial
end
abbrev t11 : Sl (List SV) := .n
noncomputable abbrev f11 (n : Nat) {R : Type} (K : List SV → Option R) : t11.T (Option R) := p11 n  (fun y1 => K [.p (.v (.bool y1))])
theorem ep11 {R : Type} (n : Nat) (K : List SV → Option R)  : evFn Tryz.prog (env11 n) ann11 n Tryz.f11 [] K = f11 n K  := by
  rw [evFn_evOi (c := bodyOf Tryz.f11) (by kernel_rfl) (pa11 n)]; kernel_rfl
noncomputable abbrev fs11 (n : Nat) : FS := { om := [], run := fun args K => oget (t11.ap args (f11 n K)) none }
theorem ok11 (n : Nat) : FSound Tryz.prog GI 11 (fs11 n) :=
  FSound.good (envok11 n) (ann := ann11) (n := n) Tryz.func11
    (.cons (envok11 n) t11 (f11 n) (fun K  => ep11 n K ) .nil)
    (by kernel_rfl) (by kernel_rfl) (by kernel_rfl)
end Go.Proofs.YtfbahcfojiaeaaaGreatDoor


namespace Go.Proofs.YtfbahcfojiaeaaaGreatDoor
open Go Th Go.Proofs
theorem p11_eq {R : Type} (m : Nat) (k0 : Bool → Option R) : p11 (m + 40) k0 = k0 true := by kernel_rfl
theorem p11_run {R : Type} (n : Nat) (h : 40 ≤ n) (k0 : Bool → Option R) : p11 n k0 = k0 true := by
  rw [show n = (n - 40) + 40 from by omega]; exact p11_eq _ k0
end Go.Proofs.YtfbahcfojiaeaaaGreatDoor


set_option linter.unusedVariables false
set_option linter.unusedSimpArgs false
namespace Go.Proofs.YtfbahcfojiaeaaaGreatDoor
open Go Th Go.Proofs
variable {R : Type}
theorem condT {α : Type} (a b : α) : (bif true then a else b) = a := (Eq.refl _).trans (Eq.refl _)
theorem condF {α : Type} (a b : α) : (bif false then a else b) = b := (Eq.refl _).trans (Eq.refl _)
theorem notT : (!true) = false := (Eq.refl _).trans (Eq.refl _)
theorem notF : (!false) = true := (Eq.refl _).trans (Eq.refl _)
def digs1 (t : List UInt8) : Bool := !t.isEmpty && decide (t.length ≤ 400) && !(t.head? == some 48) && t.all isD
theorem digs1_eq (t : List UInt8) : (digs t && !(t == [48])) = digs1 t := by
  unfold digs digs1
  match t with
  | [] => rfl
  | [c] =>
    by_cases h : c = 48
    · subst h; rfl
    · have e1 : ([c] == [48]) = false := by simpa using h
      have e2 : (([c] : List UInt8).head? == some 48) = false := by simpa using h
      rw [e1, e2]; simp
  | c :: d :: r =>
    have e1 : ((c :: d :: r) == [48]) = false := by simp
    rw [e1]
    by_cases h : c = 48
    · subst h; simp
    · have e2 : ((c :: d :: r : List UInt8).head? == some 48) = false := by simpa using h
      rw [e2]; simp
theorem valid_loop (n : Nat) (t : List UInt8) (h40 : t.length < 2 ^ 40) (k0 : Bool → Option R) (k1 : Option R) : ∀ (d m i : Nat), d + i = t.length → d < m → p13_l8L n m (bs t) i k0 k1 = if (t.drop i).all isD then k1 else k0 false
  | 0, m + 1, i, hd, hm => by
    rw [List.drop_eq_nil_of_le (by omega), List.all_nil, if_pos rfl]
    simp only [p13_l8L, p13_l8B]
    simp (disch := (first | omega | (simp only [List.length_append, List.length_cons, List.length_nil, List.length_replicate, List.length_take, List.length_drop]; omega))) only [↓c_pos, ↓c_neg, dec_t, dec_f, Bool.and_true, Bool.true_and, Bool.and_false, Bool.false_and, Bool.not_true, Bool.not_false, cond_true, cond_false, inR_t, cutR_t, roomB_t, lenOK_t, w64, bs_size, List.length_append, List.length_cons, List.length_nil, bs_extract, bs_append, bs_push, bs_data, bs_empty, bs_lit, catS_bs, eqS_bs, ite_pos', ite_neg', decide_true, decide_false, if_true, if_false]
  | d + 1, m + 1, i, hd, hm => by
    have hi : i < t.length := by omega
    have hdr : t.drop i = t[i] :: t.drop (i + 1) := List.drop_eq_getElem_cons hi
    have ih := valid_loop n t h40 k0 k1 d m (i + 1) (by omega) (by omega)
    have e1 : (i : Int) + 1 = ((i + 1 : Nat) : Int) := by omega
    have e2 : byteAt (bs t) (i : Int) = (t[i].toNat : Int) := byteAt_nat hi
    rw [hdr, List.all_cons]
    simp only [p13_l8L, p13_l8B]
    by_cases h : isD t[i] = true
    · have hc := isD_iff.1 h
      rw [h, Bool.true_and, ← ih]
      simp (disch := (first | omega | (simp only [List.length_append, List.length_cons, List.length_nil, List.length_replicate, List.length_take, List.length_drop]; omega))) only [↓c_pos, ↓c_neg, dec_t, dec_f, Bool.and_true, Bool.true_and, Bool.and_false, Bool.false_and, Bool.not_true, Bool.not_false, cond_true, cond_false, inR_t, cutR_t, roomB_t, lenOK_t, w64, bs_size, List.length_append, List.length_cons, List.length_nil, bs_extract, bs_append, bs_push, bs_data, bs_empty, bs_lit, catS_bs, eqS_bs, ite_pos', ite_neg', decide_true, decide_false, if_true, if_false, e1, e2]
    · have hc : ¬ (48 ≤ t[i].toNat ∧ t[i].toNat ≤ 57) := fun q => h (isD_iff.2 q)
      have hf : isD t[i] = false := by simpa using h
      rw [hf, Bool.false_and, if_neg (by simp)]
      by_cases h1 : t[i].toNat < 48
      · simp (disch := (first | omega | (simp only [List.length_append, List.length_cons, List.length_nil, List.length_replicate, List.length_take, List.length_drop]; omega))) only [↓c_pos, ↓c_neg, dec_t, dec_f, Bool.and_true, Bool.true_and, Bool.and_false, Bool.false_and, Bool.not_true, Bool.not_false, cond_true, cond_false, inR_t, cutR_t, roomB_t, lenOK_t, w64, bs_size, List.length_append, List.length_cons, List.length_nil, bs_extract, bs_append, bs_push, bs_data, bs_empty, bs_lit, catS_bs, eqS_bs, ite_pos', ite_neg', decide_true, decide_false, if_true, if_false, e1, e2]
      · simp (disch := (first | omega | (simp only [List.length_append, List.length_cons, List.length_nil, List.length_replicate, List.length_take, List.length_drop]; omega))) only [↓c_pos, ↓c_neg, dec_t, dec_f, Bool.and_true, Bool.true_and, Bool.and_false, Bool.false_and, Bool.not_true, Bool.not_false, cond_true, cond_false, inR_t, cutR_t, roomB_t, lenOK_t, w64, bs_size, List.length_append, List.length_cons, List.length_nil, bs_extract, bs_append, bs_push, bs_data, bs_empty, bs_lit, catS_bs, eqS_bs, ite_pos', ite_neg', decide_true, decide_false, if_true, if_false, e1, e2]
theorem validC_eq (n : Nat) (t : List UInt8) (ht : t.length < 2 ^ 40) (hn : t.length < n) (k0 : Bool → Option R) : p13_c5 n (bs t) k0 = k0 (digs1 t) := by
  cases t with
  | nil => rfl
  | cons c r =>
    rw [List.length_cons] at ht hn
    unfold p13_c5
    by_cases h4 : 400 < r.length + 1
    · have e1 : digs1 (c :: r) = false := by
        unfold digs1
        rw [List.length_cons, decide_eq_false (by omega)]; simp
      simp (disch := (first | omega | (simp only [List.length_append, List.length_cons, List.length_nil, List.length_replicate, List.length_take, List.length_drop]; omega))) only [↓c_pos, ↓c_neg, dec_t, dec_f, Bool.and_true, Bool.true_and, Bool.and_false, Bool.false_and, Bool.not_true, Bool.not_false, cond_true, cond_false, inR_t, cutR_t, roomB_t, lenOK_t, w64, bs_size, List.length_append, List.length_cons, List.length_nil, bs_extract, bs_append, bs_push, bs_data, bs_empty, bs_lit, catS_bs, eqS_bs, ite_pos', ite_neg', decide_true, decide_false, if_true, if_false, e1, List.length_cons]
    have e0 : byteAt (bs (c :: r)) 0 = (c.toNat : Int) := rfl
    have hb := beqB c 48
    rw [show ((48 : UInt8).toNat : Int) = 48 from rfl] at hb
    by_cases hc : c = 48
    · have e1 : digs1 (c :: r) = false := by unfold digs1; rw [hc]; simp
      have e2 : (c == 48) = true := by simpa using hc
      simp (disch := (first | omega | (simp only [List.length_append, List.length_cons, List.length_nil, List.length_replicate, List.length_take, List.length_drop]; omega))) only [↓c_pos, ↓c_neg, dec_t, dec_f, Bool.and_true, Bool.true_and, Bool.and_false, Bool.false_and, Bool.not_true, Bool.not_false, cond_true, cond_false, inR_t, cutR_t, roomB_t, lenOK_t, w64, bs_size, List.length_append, List.length_cons, List.length_nil, bs_extract, bs_append, bs_push, bs_data, bs_empty, bs_lit, catS_bs, eqS_bs, ite_pos', ite_neg', decide_true, decide_false, if_true, if_false, e1, List.length_cons, e0, hb, e2]
    · have e1 : digs1 (c :: r) = (c :: r).all isD := by
        have : ((c :: r : List UInt8).head? == some 48) = false := by simpa using hc
        unfold digs1
        rw [List.length_cons, decide_eq_true (by omega), this]; simp
      have e2 : (c == 48) = false := by simpa using hc
      have hlp := fun k0 k1 => valid_loop (R := R) n (c :: r) (by rw [List.length_cons]; omega) k0 k1 (r.length + 1) n 0 (by rw [List.length_cons]) (by omega)
      rw [List.drop_zero, show ((0 : Nat) : Int) = 0 from rfl] at hlp
      rw [e1]
      simp (disch := (first | omega | (simp only [List.length_append, List.length_cons, List.length_nil, List.length_replicate, List.length_take, List.length_drop]; omega))) only [↓c_pos, ↓c_neg, dec_t, dec_f, Bool.and_true, Bool.true_and, Bool.and_false, Bool.false_and, Bool.not_true, Bool.not_false, cond_true, cond_false, inR_t, cutR_t, roomB_t, lenOK_t, w64, bs_size, List.length_append, List.length_cons, List.length_nil, bs_extract, bs_append, bs_push, bs_data, bs_empty, bs_lit, catS_bs, eqS_bs, ite_pos', ite_neg', decide_true, decide_false, if_true, if_false, List.length_cons, e0, hb, e2, p13_c7, p13_l8, hlp]
      cases (c :: r).all isD <;> rfl
theorem valid_eq (n : Nat) (s : List UInt8) (hs : s.length < 2 ^ 40) (hn : s.length < n) (k0 : Bool → Option R) : p13 n (bs s) k0 = k0 (intB s) := by
  unfold p13
  by_cases h0 : s = [48]
  · subst h0
    have e : intB [48] = true := rfl
    rw [e]; rfl
  · have e0 : (s == [48]) = false := by simpa using h0
    cases s with
    | nil => rfl
    | cons c r =>
      rw [List.length_cons] at hs hn
      have e1 : byteAt (bs (c :: r)) 0 = (c.toNat : Int) := rfl
      have hb := beqB c 45
      rw [show ((45 : UInt8).toNat : Int) = 45 from rfl] at hb
      have e3 : List.drop (1 : Int).toNat (List.take (r.length + 1) (c :: r)) = r := by
        show List.drop 1 (c :: List.take r.length r) = r
        rw [List.take_length]; rfl
      by_cases hc : c = 45
      · have e2 : (c == 45) = true := by simpa using hc
        have hv := fun k0 => validC_eq (R := R) n r (by omega) (by omega) k0
        have hI : intB (c :: r) = digs1 r := by
          unfold intB; rw [cutN_cons, if_pos hc, ← digs1_eq]; simp
        rw [hI]
        simp (disch := (first | omega | (simp only [List.length_append, List.length_cons, List.length_nil, List.length_replicate, List.length_take, List.length_drop]; omega))) only [↓c_pos, ↓c_neg, dec_t, dec_f, Bool.and_true, Bool.true_and, Bool.and_false, Bool.false_and, Bool.not_true, Bool.not_false, cond_true, cond_false, inR_t, cutR_t, roomB_t, lenOK_t, w64, bs_size, List.length_append, List.length_cons, List.length_nil, bs_extract, bs_append, bs_push, bs_data, bs_empty, bs_lit, catS_bs, eqS_bs, ite_pos', ite_neg', decide_true, decide_false, if_true, if_false, List.length_cons, e0, e1, hb, e2, toNatC, e3, hv]
      · have e2 : (c == 45) = false := by simpa using hc
        have hv := fun k0 => validC_eq (R := R) n (c :: r) (by rw [List.length_cons]; omega) (by rw [List.length_cons]; omega) k0
        have hI : intB (c :: r) = digs1 (c :: r) := by
          unfold intB; rw [cutN_cons, if_neg hc, ← digs1_eq, e0]; simp
        rw [hI]
        simp (disch := (first | omega | (simp only [List.length_append, List.length_cons, List.length_nil, List.length_replicate, List.length_take, List.length_drop]; omega))) only [↓c_pos, ↓c_neg, dec_t, dec_f, Bool.and_true, Bool.true_and, Bool.and_false, Bool.false_and, Bool.not_true, Bool.not_false, cond_true, cond_false, inR_t, cutR_t, roomB_t, lenOK_t, w64, bs_size, List.length_append, List.length_cons, List.length_nil, bs_extract, bs_append, bs_push, bs_data, bs_empty, bs_lit, catS_bs, eqS_bs, ite_pos', ite_neg', decide_true, decide_false, if_true, if_false, List.length_cons, e0, e1, hb, e2, hv]
def sl (l : List (List UInt8)) : List PV := l.map fun s => PV.v (.string (bs s))
theorem sl_len (l : List (List UInt8)) : (sl l).length = l.length := by unfold sl; rw [List.length_map]
theorem getS_sl {l : List (List UInt8)} {i : Nat} {d : PV} {K : ByteArray → Option R} (h : i < l.length) : getS ((sl l).getD i d) K = K (bs (l.getD i [])) := by
  unfold sl
  rw [List.getD_eq_getElem?_getD, List.getElem?_map, List.getD_eq_getElem?_getD, List.getElem?_eq_getElem h]
  rfl
theorem shorts_loop (n : Nat) (l : List (List UInt8)) (h40 : l.length < 2 ^ 40) (k0 : Bool → Option R) (k1 : Option R) : ∀ (d m i : Nat), d + i = l.length → d < m → p10_l2L n m (sl l) i k0 k1 = if ∀ s ∈ l.drop i, s.length ≤ 300 then k1 else k0 false
  | 0, m + 1, i, hd, hm => by
    rw [List.drop_eq_nil_of_le (by omega), if_pos (by intro s h; cases h)]
    simp only [p10_l2L, p10_l2B]
    simp (disch := (first | omega | (simp only [List.length_append, List.length_cons, List.length_nil, List.length_replicate, List.length_take, List.length_drop]; omega))) only [↓c_pos, ↓c_neg, dec_t, dec_f, Bool.and_true, Bool.true_and, Bool.and_false, Bool.false_and, Bool.not_true, Bool.not_false, cond_true, cond_false, inR_t, cutR_t, roomB_t, lenOK_t, w64, bs_size, List.length_append, List.length_cons, List.length_nil, bs_extract, bs_append, bs_push, bs_data, bs_empty, bs_lit, catS_bs, eqS_bs, ite_pos', ite_neg', decide_true, decide_false, if_true, if_false, sl_len]
  | d + 1, m + 1, i, hd, hm => by
    have hi : i < l.length := by omega
    have hdr : l.drop i = l.getD i [] :: l.drop (i + 1) := by
      rw [List.drop_eq_getElem_cons hi, List.getD_eq_getElem?_getD, List.getElem?_eq_getElem hi]; rfl
    have ih := shorts_loop n l h40 k0 k1 d m (i + 1) (by omega) (by omega)
    have e1 : (i : Int) + 1 = ((i + 1 : Nat) : Int) := by omega
    have hg : ∀ K : ByteArray → Option R, getS ((sl l).getD i (PV.v (Value.bool false))) K = K (bs (l.getD i [])) := fun K => getS_sl hi
    rw [hdr]
    simp only [p10_l2L, p10_l2B, List.forall_mem_cons]
    by_cases h : (l.getD i []).length ≤ 300
    · simp only [h, true_and]
      rw [← ih]
      simp (disch := (first | omega | (simp only [List.length_append, List.length_cons, List.length_nil, List.length_replicate, List.length_take, List.length_drop]; omega))) only [↓c_pos, ↓c_neg, dec_t, dec_f, Bool.and_true, Bool.true_and, Bool.and_false, Bool.false_and, Bool.not_true, Bool.not_false, cond_true, cond_false, inR_t, cutR_t, roomB_t, lenOK_t, w64, bs_size, List.length_append, List.length_cons, List.length_nil, bs_extract, bs_append, bs_push, bs_data, bs_empty, bs_lit, catS_bs, eqS_bs, ite_pos', ite_neg', decide_true, decide_false, if_true, if_false, e1, sl_len, toNatC, hg]
    · rw [if_neg (fun q => h q.1)]
      simp (disch := (first | omega | (simp only [List.length_append, List.length_cons, List.length_nil, List.length_replicate, List.length_take, List.length_drop]; omega))) only [↓c_pos, ↓c_neg, dec_t, dec_f, Bool.and_true, Bool.true_and, Bool.and_false, Bool.false_and, Bool.not_true, Bool.not_false, cond_true, cond_false, inR_t, cutR_t, roomB_t, lenOK_t, w64, bs_size, List.length_append, List.length_cons, List.length_nil, bs_extract, bs_append, bs_push, bs_data, bs_empty, bs_lit, catS_bs, eqS_bs, ite_pos', ite_neg', decide_true, decide_false, if_true, if_false, e1, sl_len, toNatC, hg]
theorem shorts_eq (n : Nat) (l : List (List UInt8)) (h40 : l.length < 2 ^ 40) (hn : l.length < n) (k0 : Bool → Option R) : p10 n (sl l) k0 = k0 (decide (∀ s ∈ l, s.length ≤ 300)) := by
  unfold p10 p10_l2
  have h := shorts_loop (R := R) n l h40 (fun y => k0 y) (k0 true) l.length n 0 (by omega) hn
  rw [List.drop_zero, show ((0 : Nat) : Int) = 0 from rfl] at h
  rw [h]
  by_cases hc : ∀ s ∈ l, s.length ≤ 300
  · rw [if_pos hc, decide_eq_true hc]
  · rw [if_neg hc, decide_eq_false hc]
end Go.Proofs.YtfbahcfojiaeaaaGreatDoor


set_option linter.unusedVariables false
set_option linter.unusedSimpArgs false
namespace Go.Proofs.YtfbahcfojiaeaaaGreatDoor
open Go Th Go.Proofs
variable {R : Type}
end Go.Proofs.YtfbahcfojiaeaaaGreatDoor


set_option linter.unusedVariables false
set_option maxRecDepth 100000
namespace Go.Proofs.YtfbahcfojiaeaaaGreatDoor
open Go Th Go.Proofs
section
variable {R : Type}
end
end Go.Proofs.YtfbahcfojiaeaaaGreatDoor


set_option linter.unusedVariables false
set_option maxRecDepth 100000
namespace Go.Proofs.YtfbahcfojiaeaaaGreatDoor
open Go Th Go.Proofs
section
variable {R : Type}
end
end Go.Proofs.YtfbahcfojiaeaaaGreatDoor


set_option linter.unusedVariables false
set_option linter.unusedSimpArgs false
namespace Go.Proofs.YtfbahcfojiaeaaaGreatDoor
open Go Th Go.Proofs
variable {R : Type}
theorem ll_lim {a : Nat} (h : a < 10 ^ 400) : ll a ≤ 400 := ll_le.2 h
theorem big_n {n : Nat} (hn : 10 ^ 400 ≤ n) : 200000 ≤ n := Nat.le_trans (by decide +kernel) hn
theorem den_le (z w : Int) (hw : w ≠ 0) : (Rat.divInt z w).den ≤ w.natAbs := by
  rw [divInt_mk, mk_den _ _ _ (by omega)]; exact Nat.div_le_self _ _
theorem num_le (z w : Int) (hw : w ≠ 0) : (Rat.divInt z w).num.natAbs ≤ z.natAbs := by
  rw [divInt_mk, mk_num _ _ _ (by omega), zs_natAbs]; exact Nat.div_le_self _ _
theorem eq_self (s : List UInt8) : (s == s) = true := by simp
end Go.Proofs.YtfbahcfojiaeaaaGreatDoor


set_option linter.unusedVariables false
namespace Go.Proofs.YtfbahcfojiaeaaaGreatDoor
open Go Th Go.Proofs
abbrev laidAll7 : List (String × DataW Unit) := [("math/bits.deBruijn32tab", Rows.laid_math_bits_deBruijn32tab), ("math/bits.deBruijn64tab", Rows.laid_math_bits_deBruijn64tab), ("internal/strconv.uint64pow10", Rows.laid_internal_strconv_uint64pow10), ("unicode/utf8.acceptRanges", Rows.laid_unicode_utf8_acceptRanges), ("strconv.ErrRange", Rows.laid_strconv_ErrRange), ("strconv.ErrSyntax", Rows.laid_strconv_ErrSyntax), ("unicode/utf8.first", Rows.laid_unicode_utf8_first)]
theorem tab_laid {W : World} (h : laidMetH Tryz.prog laidAll7 W) : Lib.TabIs Tryz.prog W "internal/strconv.uint64pow10" .u64 Lib.pow10Tab := by
  rw [MakeChecks.laidMetH_plain _ _ _ (by kernel_rfl)] at h
  obtain ⟨ps, ⟨_, _, _, _, _, _, _, _, _, _, ⟨_, _, _, _, _, _, _, _, _, _, ⟨g, t, cs, f, p, q, hg, ht, hv, hd, _, _⟩, _⟩, _⟩, _⟩ := h
  obtain rfl := Option.some.inj ((show Tryz.prog.globalNamed "internal/strconv.uint64pow10" = some 1 by kernel_rfl).symm.trans hg)
  have e : (Rows.laid_internal_strconv_uint64pow10 : DataW Unit) = Lib.tabData .u64 Lib.pow10Tab := by kernel_rfl
  rw [e] at hd
  obtain rfl := Option.some.inj ((show (Tryz.prog.globals[1]?).map (·.type) = some 144 by kernel_rfl).symm.trans ht)
  have hc := Lib.cells_of_tab Tryz.underlying144 Tryz.underlying107 (by kernel_rfl) (by kernel_rfl) hd
  unfold Lib.TabIs
  rw [hv, ← hc]
theorem tab_size {P : Program} {W : World} {name : String} {k : IntKind} {zs : List Int} {g : Nat} (hg : P.globalNamed name = some g) (h : Lib.TabIs P W name k zs) : g < W.heap.size := by
  unfold Lib.TabIs World.var? at h
  rw [hg] at h
  simp only [Option.bind_some] at h
  split at h
  · rename_i hh
    exact (Array.getElem?_eq_some_iff.1 hh).1
  · cases h
theorem gi_ok {W : World} (h : Lib.TabIs Tryz.prog W "internal/strconv.uint64pow10" .u64 Lib.pow10Tab) : GI.ok (fun b => b = 1) W := ⟨rfl, h⟩
theorem gi_size {W : World} (h : Lib.TabIs Tryz.prog W "internal/strconv.uint64pow10" .u64 Lib.pow10Tab) : ∀ b, b = 1 → b < W.heap.size := by
  rintro b rfl
  exact tab_size (by kernel_rfl) h
theorem law_tab {g : Nat} {fs : FS} (hf : FSound Tryz.prog GI g fs) {cargs : Array Value} (hk : fs.run (cargs.toList.map fun x => .p (.v x)) asBoolK = some true) (W : World) (h : Lib.TabIs Tryz.prog W "internal/strconv.uint64pow10" .u64 Lib.pow10Tab) :
    Calls Tryz.prog g cargs W fun e w' => e = .returned (.bool true) ∧ RowKit.Below W.heap.size W w' :=
  law_calls hf hk W (fun b => b = 1) (gi_size h) (gi_ok h)
end Go.Proofs.YtfbahcfojiaeaaaGreatDoor


set_option linter.unusedVariables false
set_option maxRecDepth 100000
namespace Go.Proofs.YtfbahcfojiaeaaaGreatDoor
open Go Th Go.Proofs
def ann3 : Ann := { loops := [], cuts := [(6, [(0, .id), (1, .id), (5, .id), (6, .id)], [(4, .id)])], frz := [], rm := [.id] }
noncomputable abbrev env3 (n : Nat) : Env := fun i => bif Nat.beq i 16 then some (fs16 n) else (fun i => bif Nat.beq i 15 then some (fs15 n) else (fun i => bif Nat.beq i 14 then some (fs14 n) else (fun i => bif Nat.beq i 13 then some (fs13 n) else (fun i => bif Nat.beq i 12 then some (fs12 n) else (fun i => bif Nat.beq i 11 then some (fs11 n) else (fun i => bif Nat.beq i 10 then some (fs10 n) else (fun _ => none) i) i) i) i) i) i) i
theorem envok3 (n : Nat) : EnvOK Tryz.prog GI (env3 n) := EnvOK.cons (EnvOK.cons (EnvOK.cons (EnvOK.cons (EnvOK.cons (EnvOK.cons (EnvOK.cons (EnvOK.nil) (ok10 n)) (ok11 n)) (ok12 n)) (ok13 n)) (ok14 n)) (ok15 n)) (ok16 n)
noncomputable def p3_c6 {R : Type} (n : Nat) (x1 x2 x3 : ByteArray) (x4 : Int) (k0 : Bool → Option R) : Option R :=
  bif (eqS x2 (⟨#[48]⟩ : ByteArray)) then (p11 n (fun y5 => bif y5 then (bif true then (bif (bif true then eqS x3 (⟨#[]⟩ : ByteArray) else false) then (bif true then (k0 (bif true then (x4 == 24) else false)) else none) else (bif false then none else (bif false then none else (k0 false)))) else none) else (bif false then none else (bif false then none else (bif false then none else (bif false then none else (bif false then none else (k0 false)))))))) else (p11 n (fun y6 => bif y6 then (bif true then (bif (bif true then (x4 == 0) else false) then (bif true then (bif true then (p16 n x1 (fun y7 y8 => bif true then (bif true then (p16 n x2 (fun y9 y10 => bif true then (p15 n y7 y8 y9 y10 (fun y11 y12 y13 y14 => bif true then (p14 n y11 y12 y13 y14 (fun y15 => bif true then (k0 (bif true then eqS x3 y15 else false)) else none)) else none)) else none)) else none) else none)) else none) else none) else (bif false then none else (bif false then none else (bif false then none else (bif false then none else (bif false then none else (bif false then none else (bif false then none else (bif false then none else (k0 false)))))))))) else none) else (bif false then none else (bif false then none else (bif false then none else (bif false then none else (bif false then none else (bif false then none else (bif false then none else (bif false then none else (bif false then none else (bif false then none else (bif false then none else (k0 false))))))))))))))
noncomputable def p3 {R : Type} (n : Nat) (x1 x2 : ByteArray) (k0 : Bool → Option R) : Option R :=
  p10 n ([.v (.string x1), .v (.string x2)] : List PV) (fun y3 => bif (!y3) then (p11 n (fun y4 => k0 y4)) else (p12 n x1 x2 (fun y5 y6 => p13 n x1 (fun y7 => bif (!y7) then (bif true then (bif true then (bif true then (bif true then (p11 n (fun y8 => bif y8 then (bif true then (bif (bif true then eqS y5 (⟨#[]⟩ : ByteArray) else false) then (bif true then (k0 (bif true then (y6 == 3) else false)) else none) else (bif false then none else (bif false then none else (k0 false)))) else none) else (bif false then none else (bif false then none else (bif false then none else (bif false then none else (bif false then none else (k0 false)))))))) else none) else none) else none) else none) else (bif false then none else (p13 n x2 (fun y9 => bif false then none else (bif (bif false then true else (!y9)) then (p11 n (fun y10 => bif y10 then (bif true then (bif (bif true then eqS y5 (⟨#[]⟩ : ByteArray) else false) then (bif true then (k0 (bif true then (y6 == 3) else false)) else none) else (bif false then none else (bif false then none else (k0 false)))) else none) else (bif false then none else (bif false then none else (bif false then none else (bif false then none else (bif false then none else (k0 false)))))))) else (p3_c6 n x1 x2 y5 y6 (fun y11 => k0 y11))))))))))
noncomputable abbrev E3 {R : Type} (n : Nat) (c : Code) : Fr → Kc R → Option R := evC Tryz.prog (env3 n) ann3 n (62, []) c
noncomputable def c3_c6 : Code := subC (bodyOf Tryz.f3) [1, 1, 1, 1]
abbrev t3_c6 : Sl (List SV) := (.c (sP sStr) (.c (sP sStr) (.c (sP sStr) (.c (sP (sInt .i64)) .n))))
noncomputable abbrev f3_c6 {R : Type} (n : Nat) (K : Kc R) : t3_c6.T (Option R) := fun x1 x2 x3 x4 => p3_c6 n x1 x2 x3 x4 (fun y1 => K .ret (lk (outA ann3.cuts 6) [.p (.v (.bool y1))]))
noncomputable abbrev o3_c6 {R : Type} (n : Nat) (vs : List SV) (K : Kc R) : Option R := oget (t3_c6.ap vs (f3_c6 n K)) (cutE ann3 6 (E3 n c3_c6) vs K)
noncomputable abbrev lo3 {R : Type} (n : Nat) : Orc R := fun i vs K => none
noncomputable abbrev cu3 {R : Type} (n : Nat) : Orc R := fun i vs K => dcnd (Nat.beq i 6) (o3_c6 n vs K) (none)
section
variable {R : Type}
abbrev K3 (R : Type) (n : Nat) := PartOK (R := R) Tryz.prog (env3 n) ann3 n (62, []) (lo3 n) (cu3 n)
theorem pa3_c6 (n : Nat) : allP (K3 R n) (partsOf ann3 c3_c6) := by
  rw [show partsOf ann3 c3_c6 = [] from by kernel_rfl]; exact trivial
theorem q3_c6 (n : Nat) : K3 R n (true, 6, c3_c6) := part_cut (pa3_c6 n) t3_c6 (f3_c6 n) (fun K x1 x2 x3 x4 => by show cutE _ _ _ _ _ = _; kernel_rfl) fun _ _ => rfl
theorem pa3 (n : Nat) : allP (K3 R n) (partsOf ann3 (bodyOf Tryz.f3)) := by
  rw [show partsOf ann3 (bodyOf Tryz.f3) = [(true, 6, c3_c6)] from by kernel_rfl]; exact ⟨q3_c6 n, trivial⟩
end
abbrev t3 : Sl (List SV) := (.c (sP sStr) (.c (sP sStr) .n))
noncomputable abbrev f3 (n : Nat) {R : Type} (K : List SV → Option R) : t3.T (Option R) := fun x1 x2 => p3 n x1 x2 (fun y1 => K [.p (.v (.bool y1))])
theorem ep3 {R : Type} (n : Nat) (K : List SV → Option R) (x1 x2 : ByteArray) : evFn Tryz.prog (env3 n) ann3 n Tryz.f3 [.p (.v (.string x1)), .p (.v (.string x2))] K = f3 n K x1 x2 := by
  rw [evFn_evOi (c := bodyOf Tryz.f3) (by kernel_rfl) (pa3 n)]; kernel_rfl
noncomputable abbrev fs3 (n : Nat) : FS := { om := [false, false], run := fun args K => oget (t3.ap args (f3 n K)) none }
theorem ok3 (n : Nat) : FSound Tryz.prog GI 3 (fs3 n) :=
  FSound.good (envok3 n) (ann := ann3) (n := n) Tryz.func3
    (.cons (envok3 n) t3 (f3 n) (fun K x1 x2 => ep3 n K x1 x2) .nil)
    (by kernel_rfl) (by kernel_rfl) (by kernel_rfl)
end Go.Proofs.YtfbahcfojiaeaaaGreatDoor


set_option linter.unusedVariables false
set_option linter.unusedSimpArgs false
namespace Go.Proofs.YtfbahcfojiaeaaaGreatDoor
open Go Th Go.Proofs
variable {R : Type}
theorem eq48 (w : Int) : eqS (bs (Lib.itoa w)) (⟨#[48]⟩ : ByteArray) = decide (w = 0) := by
  rw [show (⟨#[48]⟩ : ByteArray) = bs [48] from rfl, eqS_bs, Bool.eq_iff_iff, beq_iff_eq, decide_eq_true_iff]
  constructor
  · intro e
    have h := congrArg cutN e
    rw [cutN_itoa] at h
    have := dec_inj ((Prod.mk.inj h).2.trans dec_zero.symm)
    omega
  · intro e; rw [e]; exact (itoa_pos 0).trans dec_zero
theorem eqE : eqS (bs []) (⟨#[]⟩ : ByteArray) = true := rfl
theorem runMakes_bad (n : Nat) (hN : 200000 ≤ n) (s t : List UInt8) (ls : s.length ≤ 300) (lt : t.length ≤ 300) (hb : (intB s && intB t) = false) (k : Bool → Option R) :
    (p12 n (bs s) (bs t) (fun (y5 : ByteArray) (y6 : Int) => p13 n (bs s) (fun (y7 : Bool) => bif (!y7) then (bif true then (bif true then (bif true then (bif true then (p11 n (fun (y8 : Bool) => bif y8 then (bif true then (bif (bif true then eqS y5 (⟨#[]⟩ : ByteArray) else false) then (bif true then (k (bif true then (y6 == 3) else false)) else none) else (bif false then none else (bif false then none else (k false)))) else none) else (bif false then none else (bif false then none else (bif false then none else (bif false then none else (bif false then none else (k false)))))))) else none) else none) else none) else none) else (bif false then none else (p13 n (bs t) (fun (y9 : Bool) => bif false then none else (bif (bif false then true else (!y9)) then (p11 n (fun (y10 : Bool) => bif y10 then (bif true then (bif (bif true then eqS y5 (⟨#[]⟩ : ByteArray) else false) then (bif true then (k (bif true then (y6 == 3) else false)) else none) else (bif false then none else (bif false then none else (k false)))) else none) else (bif false then none else (bif false then none else (bif false then none else (bif false then none else (bif false then none else (k false)))))))) else (p3_c6 n (bs s) (bs t) y5 y6 (fun (y11 : Bool) => k y11))))))))) = k true := by
  have hA := fun k => p11_run (R := R) n (by omega) k
  have v1 := fun k => valid_eq (R := R) n s (by omega) (by omega) k
  have v2 := fun k => valid_eq (R := R) n t (by omega) (by omega) k
  have m1 := fun k => make_bad (R := R) n s t (by omega) (by omega) hb k
  simp only [m1, v1, v2]
  cases hi : intB s
  · simp only [notF, condT, hA, eqE, show ((3 : Int) == 3) = true from rfl]
  · rw [hi, Bool.true_and] at hb
    simp only [hb, notT, notF, condT, condF, hA, eqE, show ((3 : Int) == 3) = true from rfl]
theorem runMakes_ok (n : Nat) (hn : 10 ^ 400 ≤ n) (z w : Int) (hz : z.natAbs < 10 ^ 400) (hw : w.natAbs < 10 ^ 400) (k : Bool → Option R) (k2 : ByteArray → Int → Option R) (hk : ∀ y5 y6, k2 y5 y6 = p3_c6 n (bs (Lib.itoa z)) (bs (Lib.itoa w)) y5 y6 k) : p12 n (bs (Lib.itoa z)) (bs (Lib.itoa w)) k2 = k true := by
  have hN := big_n hn
  have hA := fun k => p11_run (R := R) n (by omega) k
  rw [make_ok (R := R) n z w hz hw hn k2, hk, hk]
  unfold p3_c6
  simp only [eq48, hA]
  by_cases hw0 : w = 0
  · rw [if_pos hw0, decide_eq_true hw0]
    simp only [condT, eqE, show ((24 : Int) == 24) = true from rfl]
  · rw [if_neg hw0, decide_eq_false hw0]
    have l1 := ll_lim hz
    have l2 := ll_lim hw
    have wn : w.natAbs < n := Nat.lt_of_lt_of_le hw hn
    clear hz hw hn
    have o1 := fun k => of_eq (R := R) n z (by omega) hN k
    have o2 := fun k => of_eq (R := R) n w (by omega) hN k
    have n1 := fun k => new_eq (R := R) n z w hw0 (by omega) (by omega) hN wn k
    have t1 := fun k => ratTxt_eq (R := R) n (Rat.divInt z w) (Nat.le_trans (ll_mono (num_le z w hw0)) (by omega)) (Nat.le_trans (ll_mono (den_le z w hw0)) (by omega)) hN k
    simp only [o1, o2, n1, t1, eqS_bs, eq_self, condF, condT, show ((0 : Int) == 0) = true from rfl]
theorem run_RationalMakes (n : Nat) (hn : 10 ^ 400 ≤ n) (a0 a1 : ByteArray) (k : Bool → Option R) : p3 n a0 a1 k = k true := by
  obtain ⟨s, rfl⟩ : ∃ s, a0 = bs s := ⟨a0.data.toList, rfl⟩
  obtain ⟨t, rfl⟩ : ∃ t, a1 = bs t := ⟨a1.data.toList, rfl⟩
  have hN := big_n hn
  have hA := fun k => p11_run (R := R) n (Nat.le_trans (by decide) hN) k
  have hS := fun k => shorts_eq (R := R) n [s, t] (by simp) (Nat.lt_of_lt_of_le (by simp) hN) k
  rw [show sl [s, t] = [.v (.string (bs s)), .v (.string (bs t))] from rfl] at hS
  unfold p3
  rw [hS]
  by_cases hsh : ∀ x ∈ [s, t], x.length ≤ 300
  · rw [decide_eq_true hsh]
    have ls : s.length ≤ 300 := hsh s (by simp)
    have lt : t.length ≤ 300 := hsh t (by simp)
    rw [notT, condF]
    by_cases hb : (intB s && intB t) = false
    · exact runMakes_bad n hN s t ls lt hb k
    · simp only [Bool.not_eq_false, Bool.and_eq_true] at hb
      obtain ⟨hi1, hi2⟩ := hb
      have v1 := fun k => valid_eq (R := R) n s (Nat.lt_of_le_of_lt ls (by decide)) (Nat.lt_of_lt_of_le (Nat.lt_of_le_of_lt ls (by decide : 300 < 200000)) hN) k
      have v2 := fun k => valid_eq (R := R) n t (Nat.lt_of_le_of_lt lt (by decide)) (Nat.lt_of_lt_of_le (Nat.lt_of_le_of_lt lt (by decide : 300 < 200000)) hN) k
      obtain ⟨z, hz, rfl⟩ := intB_out hi1
      obtain ⟨w, hw, rfl⟩ := intB_out hi2
      exact runMakes_ok n hn z w hz hw k _ (fun y5 y6 => by rw [v1, hi1, notT, condF, condF, v2, hi2, notT, condF, condF, condF])
  · rw [decide_eq_false hsh]; simp only [notF, condT, hA]
theorem fsr_RationalMakes (n : Nat) (a0 a1 : ByteArray) (K : List SV → Option R) : (fs3 n).run ((#[.string a0, .string a1] : Array Value).toList.map fun x => SV.p (.v x)) K = p3 n a0 a1 (fun y => K [.p (.v (.bool y))]) := rfl
theorem law_RationalMakes (W : World) (a0 a1 : ByteArray) (h : Lib.TabIs Tryz.prog W "internal/strconv.uint64pow10" .u64 Lib.pow10Tab) : Calls Tryz.prog 3 #[.string a0, .string a1] W fun e w' => e = .returned (.bool true) ∧ RowKit.Below W.heap.size W w' :=
  law_tab (ok3 (10 ^ 400)) (by
    rw [fsr_RationalMakes, run_RationalMakes (10 ^ 400) (Nat.le_refl _) a0 a1]; rfl) W h
end Go.Proofs.YtfbahcfojiaeaaaGreatDoor


namespace Go.Proofs.YtfbahcfojiaeaaaGreatDoor.rationalMakes
open Go.ChangeShapes Go.WideShapes Go.ChangeAt Go.RowKit
open Go.ChangeMaps (open_string shut_string)
theorem own : ownKnob Tryz.prog.godebug = none := by kernel_rfl
set_option maxRecDepth 100000 in
theorem lifted (os : Os) (started : os.Started) (H : Type) (enc : TypeId × Value → H) :
    ReturnsInHanded {} Tryz.checked os 3 .any (fun w args => (Rows.rationalMakesSpec.pre enc Tryz.prog Tryz.f3 Rows.rationalMakesRow.domain false w args ∧ laidMetH Tryz.prog laidAll7 w) ∧ sizedMet enc Tryz.prog Tryz.f3 (OpenSpec.ofChange Rows.rationalMakesSpec) false w args)
      (Rows.rationalMakesSpec.post enc Tryz.prog Tryz.f3 false true false false) := by
  refine returnsInHanded_of_change_and (C := Tryz.checked) (X := fun w _ => laidMetH Tryz.prog laidAll7 w) (fun _ _ _ hh h => h.of_heap hh) own started (by kernel_rfl) Tryz.func3
    (ChangeSpec.witness_shaped (enc := enc) (C := Tryz.checked) (os := os) (X := fun w _ => laidMetH Tryz.prog laidAll7 w) false (World.laidAll Tryz.prog os laidAll7) #[.string ByteArray.empty, .string ByteArray.empty] 8 (World.laidAll_os _ _ _)
      (World.shaped_of_ZipB (by kernel_rfl) (by kernel_rfl)) (by kernel_rfl) (by kernel_rfl) (by kernel_rfl)
      (by rw [MakeChecks.laidMetH_plain _ _ _ (by kernel_rfl)]; exact laidMet_laidAll _ (by kernel_rfl) (by kernel_rfl))) ?_
  intro W base args ds gs before hval0 hW hcnd hsz0 hL _
  have hval : ∀ (j : Nat) t v, Tryz.f3.params[j]? = some t → args[j]? = some v → Value.okWide Tryz.prog W .any base t v := hval0
  have hW' := hW
  obtain ⟨p, q, hA0, hV, rfl, hfz, hnd⟩ := hW
  have hA : DataW.TrodAll enc Tryz.prog W 0 (fun _ => true) true Tryz.f3.params.toList args.toList ds p := hA0
  rw [Tryz.params3] at hA hval
  obtain ⟨v0, vs0, d0, ds0, p0, q0, hargs, rfl, rfl, h0, r0⟩ := trodAll_cons hA
  obtain ⟨v1, vs1, d1, ds1, p1, q1, rfl, rfl, rfl, h1, r1⟩ := trodAll_cons r0
  obtain ⟨rfl, rfl, rfl⟩ := trodAll_nil r1
  obtain rfl : args = #[v0, v1] := by cases args; simp_all
  obtain ⟨rfl, rfl⟩ := trodVars_none hV
  obtain ⟨a0, rfl, rfl, rfl, y0⟩ := open_string Tryz.underlying9 (hval 0 9 v0 rfl rfl) h0
  obtain ⟨a1, rfl, rfl, rfl, y1⟩ := open_string Tryz.underlying9 (hval 1 9 v1 rfl rfl) h1
  clear hA0 hval0 hsz0
  refine (law_RationalMakes W a0 a1 (tab_laid hL)).mono fun e W' ⟨he, bel⟩ => ?_
  subst he
  exact ⟨_, rfl, _, _, _, [], _, [], hW', trodAll_mk1 (shut_bool Tryz.underlying4 _), (trodAll_cons_mk (shut_string Tryz.underlying9 y0) (trodAll_cons_mk (shut_string Tryz.underlying9 y1) trodAll_mk0)), rfl, bel.frame _, fun h => by cases h⟩
theorem over : Rows.RationalMakesSaid :=
  OpenClaim.holds_of_wide 3 Tryz.f3 rfl rfl rfl rfl rfl rfl rfl ⟨rfl, rfl, rfl, rfl, rfl⟩ rfl rfl rfl rfl rfl (by kernel_rfl) Tryz.func3 (by kernel_rfl)
    (of_decide_eq_true (by kernel_rfl)) (by unfold Func.isWrapper; first | (rw [if_pos (by decide +kernel)]; kernel_rfl) | (rw [if_neg (by decide +kernel)]; exact ⟨rfl, rfl⟩))
    (fun os started H enc _ => lifted os started H enc)
theorem proved : Rows.RationalMakesCardSaid :=
  Claim7.holds_tied_plain_at .later [] [.data, .data, .data, .data, .sentinel, .sentinel, .pinned] true (true, "e1703cb6245dd261b21fe25032f5445bf19e41f6bf4459650c8c4d0a33e9d8c0") true over (fun _ h => by cases h) (by kernel_rfl) (fun _ h => by cases h) rationalMakes_row_tie rfl ⟨rfl, rfl⟩ (by kernel_rfl) rfl
    (fun f fn hf hfn => by
      obtain rfl : f = 3 := Option.some.inj ((show Tryz.prog.funcNamed "cellarer/cellarerlaw03.RationalMakes" = some 3 by kernel_rfl).symm.trans hf) |>.symm
      obtain rfl : fn = Tryz.f3 := (Option.some.inj (Tryz.func3.symm.trans hfn)).symm
      exact ⟨by kernel_rfl, fun j t ht => by
        rw [Tryz.params3] at ht
        have hm : t ∈ [9, 9] := by simpa using Array.mem_of_getElem? ht
        have hall : ([9, 9].all fun u => !Tryz.prog.wantsStandIn u) = true := by kernel_rfl
        exact (show Tryz.prog.wantsStandIn t = false by simpa using List.all_eq_true.1 hall t hm)⟩)
    (by kernel_rfl)
end Go.Proofs.YtfbahcfojiaeaaaGreatDoor.rationalMakes
namespace Go.Proofs.YtfbahcfojiaeaaaGreatDoor
theorem rationalMakes_holds : Rows.RationalMakesCardSaid := rationalMakes.proved
end Go.Proofs.YtfbahcfojiaeaaaGreatDoor
