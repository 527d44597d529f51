/- Proved: the law RationalAdds returns true at all its arguments (no further conditions): the row and what it stands on. -/
import Derived.Test.YtfbahcfojiaeaaaGreatDoorMRationalAdds0
import Derived.Test.YtfbahcfojiaeaaaGreatDoorMRationalAdds2
import Derived.Test.YtfbahcfojiaeaaaGreatDoorRows
import Derived.Test.YtfbahcfojiaeaaaGreatDoorCards
import Derived.Test.YtfbahcfojiaeaaaGreatDoorTie
import Derived.WalkKit
import Derived.ProofKit
import Derived.OpenShut
import Derived.ShutString
import Derived.ChangeOld
import Derived.Below
import Derived.SizedLaws
import Derived.LaidMore
import Derived.Lay
import Derived.SevenTiedAt
import Derived.Stop.Joined

set_option linter.unusedVariables false
set_option maxRecDepth 100000
namespace Go.Proofs.YtfbahcfojiaeaaaGreatDoor
open Go Th Go.Proofs
def ann6 : Ann := { loops := [], cuts := [(10, [(5, .id), (6, .id), (7, .id), (8, .id), (9, .id), (10, .id), (11, .id), (12, .id), (13, .id), (15, .id), (62, .id)], [(4, .id), (5, .id), (6, .id), (7, .id), (8, .id), (9, .id), (10, .id), (11, .id), (12, .id), (13, .id), (15, .id)]), (11, [(5, .id), (6, .id), (7, .id), (8, .id), (9, .id), (10, .id), (11, .id), (12, .id), (13, .id), (15, .id)], [(4, .id)]), (13, [(11, .id), (12, .id), (13, .id), (15, .id)], [(4, .id)])], frz := [], rm := [.id] }
noncomputable abbrev env6 (n : Nat) : Env := fun i => bif Nat.beq i 35 then some (fs35 n) else (fun i => bif Nat.beq i 34 then some (fs34 n) else (fun i => bif Nat.beq i 33 then some (fs33 n) else (fun i => bif Nat.beq i 32 then some (fs32 n) else (fun i => bif Nat.beq i 31 then some (fs31 n) else (fun i => bif Nat.beq i 30 then some (fs30 n) else (fun i => bif Nat.beq i 29 then some (fs29 n) else (fun i => bif Nat.beq i 28 then some (fs28 n) else (fun i => bif Nat.beq i 27 then some (fs27 n) else (fun i => bif Nat.beq i 24 then some (fs24 n) else (fun i => bif Nat.beq i 18 then some (fs18 n) else (fun i => bif Nat.beq i 11 then some (fs11 n) else (fun i => bif Nat.beq i 10 then some (fs10 n) else (fun _ => none) i) i) i) i) i) i) i) i) i) i) i) i) i
theorem envok6 (n : Nat) : EnvOK Tryz.prog GI (env6 n) := EnvOK.cons (EnvOK.cons (EnvOK.cons (EnvOK.cons (EnvOK.cons (EnvOK.cons (EnvOK.cons (EnvOK.cons (EnvOK.cons (EnvOK.cons (EnvOK.cons (EnvOK.cons (EnvOK.cons (EnvOK.nil) (ok10 n)) (ok11 n)) (ok18 n)) (ok24 n)) (ok27 n)) (ok28 n)) (ok29 n)) (ok30 n)) (ok31 n)) (ok32 n)) (ok33 n)) (ok34 n)) (ok35 n)
noncomputable def p6_c10 {R : Type} (n : Nat) (x1 : ByteArray) (x2 : Int) (x3 : ByteArray) (x4 : Int) (x5 : ByteArray) (x6 : Int) (x7 : ByteArray) (x8 : Int) (x9 : Bool) (x10 : List PV) (x11 : Bool) (x12 : List PV) (x13 : Bool) (x14 : List PV) (x15 : Bool) (x16 : List PV) (x17 : Bool) (k0 : Bool → ByteArray → Int → ByteArray → Int → ByteArray → Int → ByteArray → Int → Bool → List PV → Bool → List PV → Bool → List PV → Bool → List PV → Option R) (k1 : ByteArray → Int → ByteArray → Int → ByteArray → Int → ByteArray → Int → Bool → List PV → Bool → List PV → Bool → List PV → Bool → List PV → Option R) : Option R :=
  bif x17 then (p11 n (fun y18 => bif y18 then (bif true then (bif true then (catS x1 x3 fun s19 => bif true then (bif true then (catS s19 x5 fun s20 => bif true then (bif true then (catS s20 x7 fun s21 => bif true then (bif (bif true then eqS s21 (⟨#[]⟩ : ByteArray) else false) then (bif true then (bif (bif true then (x2 == 3) else false) then (bif true then (bif (bif true then (x4 == 3) else false) then (bif true then (bif (bif true then (x6 == 3) else false) then (bif true then (k0 (bif true then (x8 == 3) else false) x1 x2 x3 x4 x5 x6 x7 x8 x9 x10 x11 x12 x13 x14 x15 x16) else none) else (bif false then none else (bif false then none else (k0 false x1 x2 x3 x4 x5 x6 x7 x8 x9 x10 x11 x12 x13 x14 x15 x16)))) else none) else (bif false then none else (bif false then none else (bif false then none else (bif false then none else (bif false then none else (k0 false x1 x2 x3 x4 x5 x6 x7 x8 x9 x10 x11 x12 x13 x14 x15 x16))))))) else none) else (bif false then none else (bif false then none else (bif false then none else (bif false then none else (bif false then none else (bif false then none else (bif false then none else (bif false then none else (k0 false x1 x2 x3 x4 x5 x6 x7 x8 x9 x10 x11 x12 x13 x14 x15 x16)))))))))) else none) else (bif false then none else (bif false then none else (bif false then none else (bif false then none else (bif false then none else (bif false then none else (bif false then none else (bif false then none else (bif false then none else (bif false then none else (bif false then none else (k0 false x1 x2 x3 x4 x5 x6 x7 x8 x9 x10 x11 x12 x13 x14 x15 x16))))))))))))) else none) else none) else none) else none) else none) else none) else none) else (bif false then none else (bif false then none else (bif false then none else (bif false then none else (bif false then none else (bif false then none else (bif false then none else (bif false then none else (bif false then none else (bif false then none else (bif false then none else (bif false then none else (bif false then none else (bif false then none else (bif false then none else (bif false then none else (bif false then none else (bif false then none else (bif false then none else (bif false then none else (k0 false x1 x2 x3 x4 x5 x6 x7 x8 x9 x10 x11 x12 x13 x14 x15 x16))))))))))))))))))))))) else (k1 x1 x2 x3 x4 x5 x6 x7 x8 x9 x10 x11 x12 x13 x14 x15 x16)
noncomputable def p6_c13 {R : Type} (n : Nat) (x1 : ByteArray) (x2 : Int) (x3 : Bool) (x4 : List PV) (x5 : Bool) (x6 : List PV) (x7 : Bool) (x8 : List PV) (x9 : Bool) (x10 : List PV) (k0 : Bool → Option R) : Option R :=
  p34 n x7 x8 x9 x10 (fun y11 => bif y11 then (p11 n (fun y12 => bif y12 then (bif true then (bif (bif true then eqS x1 (⟨#[]⟩ : ByteArray) else false) then (bif true then (k0 (bif true then (x2 == 24) else false)) else none) else (bif false then none else (bif false then none else (k0 false)))) else none) else (bif false then none else (bif false then none else (bif false then none else (bif false then none else (bif false then none else (k0 false)))))))) else (p11 n (fun y13 => bif y13 then (bif true then (bif true then (bif true then (bif true then (p35 n x3 x4 x5 x6 x7 x8 x9 x10 (fun y14 y15 y16 y17 => bif true then (p31 n x1 x2 y14 y15 y16 y17 (fun y18 => k0 (bif true then y18 else false))) else none)) else none) else none) else none) else none) else (bif false then none else (bif false then none else (bif false then none else (bif false then none else (bif false then none else (bif false then none else (k0 false))))))))))
noncomputable def p6_c11 {R : Type} (n : Nat) (x1 : ByteArray) (x2 : Int) (x3 : ByteArray) (x4 : Int) (x5 : ByteArray) (x6 : Int) (x7 : ByteArray) (x8 : Int) (x9 : Bool) (x10 : List PV) (x11 : Bool) (x12 : List PV) (x13 : Bool) (x14 : List PV) (x15 : Bool) (x16 : List PV) (k0 : Bool → Option R) : Option R :=
  p24 n x9 x10 x11 x12 x13 x14 x15 x16 (fun y17 y18 y19 y20 => p31 n x1 x2 y17 y18 y19 y20 (fun y21 => bif (!y21) then (bif true then (bif true then (bif true then (bif true then (bif true then (bif true then (bif true then (bif true then (bif true then (bif true then (bif true then (bif true then (bif true then (bif true then (bif true then (bif true then (k0 false) else none) else none) else none) else none) else none) else none) else none) else none) else none) else none) else none) else none) else none) else none) else none) else none) else (bif false then none else (bif false then none else (bif false then none else (bif false then none else (p32 n x9 x10 x11 x12 x13 x14 x15 x16 (fun y22 y23 y24 y25 => bif false then none else (p31 n x3 x4 y22 y23 y24 y25 (fun y26 => bif false then none else (bif (bif false then true else (!y26)) then (bif true then (bif true then (bif true then (bif true then (bif true then (bif true then (bif true then (bif true then (k0 false) else none) else none) else none) else none) else none) else none) else none) else none) else (bif false then none else (bif false then none else (bif false then none else (bif false then none else (p33 n x9 x10 x11 x12 x13 x14 x15 x16 (fun y27 y28 y29 y30 => bif false then none else (p31 n x5 x6 y27 y28 y29 y30 (fun y31 => bif false then none else (bif (bif false then true else (!y31)) then (k0 false) else (p6_c13 n x7 x8 x9 x10 x11 x12 x13 x14 x15 x16 (fun y32 => k0 y32))))))))))))))))))))))
noncomputable def p6 {R : Type} (n : Nat) (x1 x2 : ByteArray) (k0 : Bool → Option R) : Option R :=
  p10 n ([.v (.string x1), .v (.string x2)] : List PV) (fun y3 => bif (!y3) then (p11 n (fun y4 => k0 y4)) else (p27 n x1 x2 (fun y5 y6 => p28 n x1 x2 (fun y7 y8 => p29 n x1 x2 (fun y9 y10 => p30 n x1 x2 (fun y11 y12 => p18 n x1 (fun y13 y14 y15 y16 y17 => p18 n x2 (fun y18 y19 y20 y21 y22 => bif (!y17) then (bif true then (bif true then (p6_c10 n y5 y6 y7 y8 y9 y10 y11 y12 y13 y14 y15 y16 y18 y19 y20 y21 true (fun y23 y24 y25 y26 y27 y28 y29 y30 y31 y32 y33 y34 y35 y36 y37 y38 y39 => k0 y23) (fun y40 y41 y42 y43 y44 y45 y46 y47 y48 y49 y50 y51 y52 y53 y54 y55 => p6_c11 n y40 y41 y42 y43 y44 y45 y46 y47 y48 y49 y50 y51 y52 y53 y54 y55 (fun y56 => k0 y56))) else none) else none) else (bif false then none else (p6_c10 n y5 y6 y7 y8 y9 y10 y11 y12 y13 y14 y15 y16 y18 y19 y20 y21 (bif false then true else (!y22)) (fun y57 y58 y59 y60 y61 y62 y63 y64 y65 y66 y67 y68 y69 y70 y71 y72 y73 => k0 y57) (fun y74 y75 y76 y77 y78 y79 y80 y81 y82 y83 y84 y85 y86 y87 y88 y89 => p6_c11 n y74 y75 y76 y77 y78 y79 y80 y81 y82 y83 y84 y85 y86 y87 y88 y89 (fun y90 => k0 y90))))))))))))
noncomputable abbrev E6 {R : Type} (n : Nat) (c : Code) : Fr → Kc R → Option R := evC Tryz.prog (env6 n) ann6 n (135, []) c
noncomputable def c6_c10 : Code := subC (bodyOf Tryz.f6) [1, 1, 1, 1, 1, 1, 1, 1, 0, 1]
abbrev t6_c10 : Sl (List SV) := (.c (sP sStr) (.c (sP (sInt .i64)) (.c (sP sStr) (.c (sP (sInt .i64)) (.c (sP sStr) (.c (sP (sInt .i64)) (.c (sP sStr) (.c (sP (sInt .i64)) (.c (sBx 33 (.c (sP sBool) (.c (sP sSh) (.c (sP sBool) (.c (sP sSh) .n))))) (.c (sBx 33 (.c (sP sBool) (.c (sP sSh) (.c (sP sBool) (.c (sP sSh) .n))))) (.c (sP sBool) .n)))))))))))
noncomputable abbrev f6_c10 {R : Type} (n : Nat) (K : Kc R) : t6_c10.T (Option R) := fun x1 x2 x3 x4 x5 x6 x7 x8 x9 x10 x11 x12 x13 x14 x15 x16 x17 => p6_c10 n x1 x2 x3 x4 x5 x6 x7 x8 x9 x10 x11 x12 x13 x14 x15 x16 x17 (fun y1 y2 y3 y4 y5 y6 y7 y8 y9 y10 y11 y12 y13 y14 y15 y16 y17 => K .ret (lk (outA ann6.cuts 10) [.p (.v (.bool y1)), .p (.v (.string y2)), .p (.v (.int .i64 y3)), .p (.v (.string y4)), .p (.v (.int .i64 y5)), .p (.v (.string y6)), .p (.v (.int .i64 y7)), .p (.v (.string y8)), .p (.v (.int .i64 y9)), .bx 33 [.p (.v (.bool y10)), .p (.sh y11), .p (.v (.bool y12)), .p (.sh y13)], .bx 33 [.p (.v (.bool y14)), .p (.sh y15), .p (.v (.bool y16)), .p (.sh y17)]])) (fun y1 y2 y3 y4 y5 y6 y7 y8 y9 y10 y11 y12 y13 y14 y15 y16 => K .normal (lk (outA ann6.cuts 10) [.dead, .p (.v (.string y1)), .p (.v (.int .i64 y2)), .p (.v (.string y3)), .p (.v (.int .i64 y4)), .p (.v (.string y5)), .p (.v (.int .i64 y6)), .p (.v (.string y7)), .p (.v (.int .i64 y8)), .bx 33 [.p (.v (.bool y9)), .p (.sh y10), .p (.v (.bool y11)), .p (.sh y12)], .bx 33 [.p (.v (.bool y13)), .p (.sh y14), .p (.v (.bool y15)), .p (.sh y16)]]))
noncomputable abbrev o6_c10 {R : Type} (n : Nat) (vs : List SV) (K : Kc R) : Option R := oget (t6_c10.ap vs (f6_c10 n K)) (cutE ann6 10 (E6 n c6_c10) vs K)
noncomputable def c6_c11 : Code := subC (bodyOf Tryz.f6) [1, 1, 1, 1, 1, 1, 1, 1, 1]
abbrev t6_c11 : Sl (List SV) := (.c (sP sStr) (.c (sP (sInt .i64)) (.c (sP sStr) (.c (sP (sInt .i64)) (.c (sP sStr) (.c (sP (sInt .i64)) (.c (sP sStr) (.c (sP (sInt .i64)) (.c (sBx 33 (.c (sP sBool) (.c (sP sSh) (.c (sP sBool) (.c (sP sSh) .n))))) (.c (sBx 33 (.c (sP sBool) (.c (sP sSh) (.c (sP sBool) (.c (sP sSh) .n))))) .n))))))))))
noncomputable abbrev f6_c11 {R : Type} (n : Nat) (K : Kc R) : t6_c11.T (Option R) := fun x1 x2 x3 x4 x5 x6 x7 x8 x9 x10 x11 x12 x13 x14 x15 x16 => p6_c11 n x1 x2 x3 x4 x5 x6 x7 x8 x9 x10 x11 x12 x13 x14 x15 x16 (fun y1 => K .ret (lk (outA ann6.cuts 11) [.p (.v (.bool y1))]))
noncomputable abbrev o6_c11 {R : Type} (n : Nat) (vs : List SV) (K : Kc R) : Option R := oget (t6_c11.ap vs (f6_c11 n K)) (cutE ann6 11 (E6 n c6_c11) vs K)
noncomputable def c6_c13 : Code := subC (bodyOf Tryz.f6) [1, 1, 1, 1, 1, 1, 1, 1, 1, 1]
abbrev t6_c13 : Sl (List SV) := (.c (sP sStr) (.c (sP (sInt .i64)) (.c (sBx 33 (.c (sP sBool) (.c (sP sSh) (.c (sP sBool) (.c (sP sSh) .n))))) (.c (sBx 33 (.c (sP sBool) (.c (sP sSh) (.c (sP sBool) (.c (sP sSh) .n))))) .n))))
noncomputable abbrev f6_c13 {R : Type} (n : Nat) (K : Kc R) : t6_c13.T (Option R) := fun x1 x2 x3 x4 x5 x6 x7 x8 x9 x10 => p6_c13 n x1 x2 x3 x4 x5 x6 x7 x8 x9 x10 (fun y1 => K .ret (lk (outA ann6.cuts 13) [.p (.v (.bool y1))]))
noncomputable abbrev o6_c13 {R : Type} (n : Nat) (vs : List SV) (K : Kc R) : Option R := oget (t6_c13.ap vs (f6_c13 n K)) (cutE ann6 13 (E6 n c6_c13) vs K)
noncomputable abbrev lo6 {R : Type} (n : Nat) : Orc R := fun i vs K => none
noncomputable abbrev cu6 {R : Type} (n : Nat) : Orc R := fun i vs K => dcnd (Nat.beq i 13) (o6_c13 n vs K) (dcnd (Nat.beq i 11) (o6_c11 n vs K) (dcnd (Nat.beq i 10) (o6_c10 n vs K) (none)))
section
variable {R : Type}
abbrev K6 (R : Type) (n : Nat) := PartOK (R := R) Tryz.prog (env6 n) ann6 n (135, []) (lo6 n) (cu6 n)
theorem pa6_c10 (n : Nat) : allP (K6 R n) (partsOf ann6 c6_c10) := by
  rw [show partsOf ann6 c6_c10 = [] from by kernel_rfl]; exact trivial
theorem q6_c10 (n : Nat) : K6 R n (true, 10, c6_c10) := part_cut (pa6_c10 n) t6_c10 (f6_c10 n) (fun K x1 x2 x3 x4 x5 x6 x7 x8 x9 x10 x11 x12 x13 x14 x15 x16 x17 => by show cutE _ _ _ _ _ = _; kernel_rfl) fun _ _ => rfl
theorem pa6_c13 (n : Nat) : allP (K6 R n) (partsOf ann6 c6_c13) := by
  rw [show partsOf ann6 c6_c13 = [] from by kernel_rfl]; exact trivial
theorem q6_c13 (n : Nat) : K6 R n (true, 13, c6_c13) := part_cut (pa6_c13 n) t6_c13 (f6_c13 n) (fun K x1 x2 x3 x4 x5 x6 x7 x8 x9 x10 => by show cutE _ _ _ _ _ = _; kernel_rfl) fun _ _ => rfl
theorem pa6_c11 (n : Nat) : allP (K6 R n) (partsOf ann6 c6_c11) := by
  rw [show partsOf ann6 c6_c11 = [(true, 13, c6_c13)] from by kernel_rfl]; exact ⟨q6_c13 n, trivial⟩
theorem q6_c11 (n : Nat) : K6 R n (true, 11, c6_c11) := part_cut (pa6_c11 n) t6_c11 (f6_c11 n) (fun K x1 x2 x3 x4 x5 x6 x7 x8 x9 x10 x11 x12 x13 x14 x15 x16 => by show cutE _ _ _ _ _ = _; kernel_rfl) fun _ _ => rfl
theorem pa6 (n : Nat) : allP (K6 R n) (partsOf ann6 (bodyOf Tryz.f6)) := by
  rw [show partsOf ann6 (bodyOf Tryz.f6) = [(true, 10, c6_c10), (true, 11, c6_c11)] from by kernel_rfl]; exact ⟨q6_c10 n, q6_c11 n, trivial⟩
end
abbrev t6 : Sl (List SV) := (.c (sP sStr) (.c (sP sStr) .n))
noncomputable abbrev f6 (n : Nat) {R : Type} (K : List SV → Option R) : t6.T (Option R) := fun x1 x2 => p6 n x1 x2 (fun y1 => K [.p (.v (.bool y1))])
theorem ep6 {R : Type} (n : Nat) (K : List SV → Option R) (x1 x2 : ByteArray) : evFn Tryz.prog (env6 n) ann6 n Tryz.f6 [.p (.v (.string x1)), .p (.v (.string x2))] K = f6 n K x1 x2 := by
  rw [evFn_evOi (c := bodyOf Tryz.f6) (by kernel_rfl) (pa6 n)]; kernel_rfl
noncomputable abbrev fs6 (n : Nat) : FS := { om := [false, false], run := fun args K => oget (t6.ap args (f6 n K)) none }
theorem ok6 (n : Nat) : FSound Tryz.prog GI 6 (fs6 n) :=
  FSound.good (envok6 n) (ann := ann6) (n := n) Tryz.func6
    (.cons (envok6 n) t6 (f6 n) (fun K x1 x2 => ep6 n K x1 x2) .nil)
    (by kernel_rfl) (by kernel_rfl) (by kernel_rfl)
end Go.Proofs.YtfbahcfojiaeaaaGreatDoor


set_option linter.unusedVariables false
set_option linter.unusedSimpArgs false
namespace Go.Proofs.YtfbahcfojiaeaaaGreatDoor
open Go Th Go.Proofs
variable {R : Type}
theorem rread_any (n : Nat) (hn : 10 ^ 400 ≤ n) (s : List UInt8) (hs : s.length < 2 ^ 17) : ∃ a b c d e, (∀ k0 : Bool → List PV → Bool → List PV → Bool → Option R, p18 n (bs s) k0 = k0 a b c d e) ∧ (¬ isQ s → e = false) := by
  by_cases h : isQ s
  · obtain ⟨q, h1, rfl⟩ := h
    exact ⟨_, _, _, _, _, fun k0 => rread_ok n hn q h1 k0, fun h => absurd ⟨q, h1, rfl⟩ h⟩
  · obtain ⟨a, b, c, d, h2⟩ := rread_bad (R := R) n hn s hs h
    exact ⟨a, b, c, d, false, h2, fun _ => rfl⟩
theorem zero_eq (q : Rat) : (((ll q.num.natAbs : Nat) : Int) == 0) = decide (q = 0) := by
  rw [beqInt0, Bool.eq_iff_iff, beq_iff_eq, decide_eq_true_iff, ll_eq0, ← Rat.num_eq_zero]
  omega
theorem adds_bad (n : Nat) (hN : 200000 ≤ n) (x9 x11 x13 x15 : Bool) (x10 x12 x14 x16 : List PV) (k0 : Bool → ByteArray → Int → ByteArray → Int → ByteArray → Int → ByteArray → Int → Bool → List PV → Bool → List PV → Bool → List PV → Bool → List PV → Option R) (k1 : ByteArray → Int → ByteArray → Int → ByteArray → Int → ByteArray → Int → Bool → List PV → Bool → List PV → Bool → List PV → Bool → List PV → Option R) :
    p6_c10 n (bs []) 3 (bs []) 3 (bs []) 3 (bs []) 3 x9 x10 x11 x12 x13 x14 x15 x16 true k0 k1 = k0 true (bs []) 3 (bs []) 3 (bs []) 3 (bs []) 3 x9 x10 x11 x12 x13 x14 x15 x16 := by
  have hA := fun k => p11_run (R := R) n (by omega) k
  have c1 : ∀ K : ByteArray → Option R, catS (bs []) (bs []) K = K (bs []) := fun K => by rw [catS_bs (by simp)]; rfl
  have e1 : eqS (bs []) (⟨#[]⟩ : ByteArray) = true := rfl
  simp only [p6_c10, hA, condT, c1, e1, show ((3 : Int) == 3) = true from rfl]
theorem adds_div (n : Nat) (hn : 10 ^ 1000 ≤ n) (p q : Rat) (hp : fits p) (hq : fits q) (k : Bool → Option R) (k2 : ByteArray → Int → Option R) (hk : ∀ y11 y12, k2 y11 y12 = p6_c13 n y11 y12 (sg p.num) (II p.num.natAbs) false (II p.den) (sg q.num) (II q.num.natAbs) false (II q.den) k) :
    (if q = 0 then k2 (bs []) 24 else resK (p / q) k2) = k true := by
  have hN := big_n (n400 hn)
  have hA := fun k => p11_run (R := R) n (by omega) k
  have e1 : eqS (bs []) (⟨#[]⟩ : ByteArray) = true := rfl
  by_cases h0 : q = 0
  · rw [if_pos h0, hk]
    have z := zero_eq q
    rw [decide_eq_true h0] at z
    simp only [p6_c13, p34, p49, II_len, z, condT, hA, e1, show ((24 : Int) == 24) = true from rfl]
  · rw [if_neg h0, resK_eq, hk]
    have z := zero_eq q
    rw [decide_eq_false h0] at z
    obtain ⟨l1, l2⟩ := div_ll p q hp hq h0
    have d1 := fun k => rdiv35_ok (R := R) n hn p q hp hq h0 k
    have r1 := fun k => result_ok (R := R) n hN (p / q) (by omega) (by omega) k
    simp only [p6_c13, p34, p49, II_len, z, condF, condT, hA, d1, r1]
theorem adds_ok (n : Nat) (hn : 10 ^ 1000 ≤ n) (p q : Rat) (hp : fits p) (hq : fits q) (k : Bool → Option R) (y11 : ByteArray) (y12 : Int) :
    p6_c11 n (resS (p + q)) (resE (p + q)) (resS (p - q)) (resE (p - q)) (resS (p * q)) (resE (p * q)) y11 y12 (sg p.num) (II p.num.natAbs) false (II p.den) (sg q.num) (II q.num.natAbs) false (II q.den) k = p6_c13 n y11 y12 (sg p.num) (II p.num.natAbs) false (II p.den) (sg q.num) (II q.num.natAbs) false (II q.den) k := by
  have hN := big_n (n400 hn)
  have a1 := fun k => radd24_ok (R := R) n hn p q hp hq k
  have a2 := fun k => rsub32_ok (R := R) n hn p q hp hq k
  have a3 := fun k => rmul33_ok (R := R) n hn p q hp hq k
  obtain ⟨l1, l2⟩ := add_ll p q hp hq
  obtain ⟨l3, l4⟩ := sub_ll p q hp hq
  obtain ⟨l5, l6⟩ := mul_ll p q hp hq
  have r1 := fun k => result_ok (R := R) n hN (p + q) (by omega) (by omega) k
  have r2 := fun k => result_ok (R := R) n hN (p - q) (by omega) (by omega) k
  have r3 := fun k => result_ok (R := R) n hN (p * q) (by omega) (by omega) k
  simp only [p6_c11, a1, a2, a3, r1, r2, r3, notT, condF]
theorem run_RationalAdds (n : Nat) (hn : 10 ^ 1000 ≤ n) (a0 a1 : ByteArray) (k : Bool → Option R) : p6 n a0 a1 k = k true := by
  obtain ⟨s, rfl⟩ : ∃ s, a0 = bs s := ⟨a0.data.toList, rfl⟩
  obtain ⟨t, rfl⟩ : ∃ t, a1 = bs t := ⟨a1.data.toList, rfl⟩
  have h4 := n400 hn
  have hN := big_n h4
  have hA := fun k => p11_run (R := R) n (by omega) k
  have hS := fun k => shorts_eq (R := R) n [s, t] (by simp) (Nat.lt_of_lt_of_le (by simp) hN) k
  rw [show sl [s, t] = [.v (.string (bs s)), .v (.string (bs t))] from rfl] at hS
  unfold p6
  rw [hS]
  by_cases hsh : ∀ x ∈ [s, t], x.length ≤ 300
  · rw [decide_eq_true hsh]
    have ls : s.length ≤ 300 := hsh s (by simp)
    have lt : t.length ≤ 300 := hsh t (by simp)
    rw [notT, condF]
    clear hsh hS
    by_cases hb : isQ s ∧ isQ t
    · obtain ⟨⟨p, hp, rfl⟩, ⟨q, hq, rfl⟩⟩ := hb
      rw [Add_ok n hn p q hp hq, resK_eq, Sub_ok n hn p q hp hq, resK_eq, Mul_ok n hn p q hp hq, resK_eq, Div_ok n hn p q hp hq]
      refine adds_div n hn p q hp hq k _ fun y11 y12 => ?_
      rw [rread_ok n h4 p hp, rread_ok n h4 q hq, notT, condF, condF, condF]
      unfold p6_c10
      rw [condF]
      exact adds_ok n hn p q hp hq k y11 y12
    · have o1 := fun k0 => (ops_bad (R := R) n h4 s t (by omega) (by omega) hb k0).1
      have o2 := fun k0 => (ops_bad (R := R) n h4 s t (by omega) (by omega) hb k0).2.1
      have o3 := fun k0 => (ops_bad (R := R) n h4 s t (by omega) (by omega) hb k0).2.2.1
      have o4 := fun k0 => (ops_bad (R := R) n h4 s t (by omega) (by omega) hb k0).2.2.2
      rw [o1, o2, o3, o4]
      obtain ⟨a, b, c, d, e, q1, f1⟩ := rread_any (R := R) n h4 s (by omega)
      obtain ⟨a', b', c', d', e', q2, f2⟩ := rread_any (R := R) n h4 t (by omega)
      rw [q1, q2]
      cases e with
      | false => rw [notF, condT, condT, condT, adds_bad n hN]
      | true =>
        have hS : isQ s := Classical.byContradiction fun h => by have := f1 h; cases this
        have e0 := f2 fun hT => hb ⟨hS, hT⟩
        subst e0
        rw [notT, condF, condF, condF, notF, adds_bad n hN]
  · rw [decide_eq_false hsh, notF, condT, hA]
theorem fsr_RationalAdds (n : Nat) (a0 a1 : ByteArray) (K : List SV → Option R) : (fs6 n).run ((#[.string a0, .string a1] : Array Value).toList.map fun x => SV.p (.v x)) K = p6 n a0 a1 (fun y => K [.p (.v (.bool y))]) := rfl
theorem law_RationalAdds (W : World) (a0 a1 : ByteArray) (h : Lib.TabIs Tryz.prog W "internal/strconv.uint64pow10" .u64 Lib.pow10Tab) : Calls Tryz.prog 6 #[.string a0, .string a1] W fun e w' => e = .returned (.bool true) ∧ RowKit.Below W.heap.size W w' :=
  law_tab (ok6 (10 ^ 1000)) (by
    rw [fsr_RationalAdds, run_RationalAdds (10 ^ 1000) (Nat.le_refl _) a0 a1]; rfl) W h
end Go.Proofs.YtfbahcfojiaeaaaGreatDoor


namespace Go.Proofs.YtfbahcfojiaeaaaGreatDoor.rationalAdds
open Go.ChangeShapes Go.WideShapes Go.ChangeAt Go.RowKit
open Go.ChangeMaps (open_string shut_string)
theorem own : ownKnob Tryz.prog.godebug = none := by kernel_rfl
set_option maxRecDepth 100000 in
theorem lifted (os : Os) (started : os.Started) (H : Type) (enc : TypeId × Value → H) :
    ReturnsInHanded {} Tryz.checked os 6 .any (fun w args => (Rows.rationalAddsSpec.pre enc Tryz.prog Tryz.f6 Rows.rationalAddsRow.domain false w args ∧ laidMetH Tryz.prog laidAll7 w) ∧ sizedMet enc Tryz.prog Tryz.f6 (OpenSpec.ofChange Rows.rationalAddsSpec) false w args)
      (Rows.rationalAddsSpec.post enc Tryz.prog Tryz.f6 false true false false) := by
  refine returnsInHanded_of_change_and (C := Tryz.checked) (X := fun w _ => laidMetH Tryz.prog laidAll7 w) (fun _ _ _ hh h => h.of_heap hh) own started (by kernel_rfl) Tryz.func6
    (ChangeSpec.witness_shaped (enc := enc) (C := Tryz.checked) (os := os) (X := fun w _ => laidMetH Tryz.prog laidAll7 w) false (World.laidAll Tryz.prog os laidAll7) #[.string ByteArray.empty, .string ByteArray.empty] 8 (World.laidAll_os _ _ _)
      (World.shaped_of_ZipB (by kernel_rfl) (by kernel_rfl)) (by kernel_rfl) (by kernel_rfl) (by kernel_rfl)
      (by rw [MakeChecks.laidMetH_plain _ _ _ (by kernel_rfl)]; exact laidMet_laidAll _ (by kernel_rfl) (by kernel_rfl))) ?_
  intro W base args ds gs before hval0 hW hcnd hsz0 hL _
  have hval : ∀ (j : Nat) t v, Tryz.f6.params[j]? = some t → args[j]? = some v → Value.okWide Tryz.prog W .any base t v := hval0
  have hW' := hW
  obtain ⟨p, q, hA0, hV, rfl, hfz, hnd⟩ := hW
  have hA : DataW.TrodAll enc Tryz.prog W 0 (fun _ => true) true Tryz.f6.params.toList args.toList ds p := hA0
  rw [Tryz.params6] at hA hval
  obtain ⟨v0, vs0, d0, ds0, p0, q0, hargs, rfl, rfl, h0, r0⟩ := trodAll_cons hA
  obtain ⟨v1, vs1, d1, ds1, p1, q1, rfl, rfl, rfl, h1, r1⟩ := trodAll_cons r0
  obtain ⟨rfl, rfl, rfl⟩ := trodAll_nil r1
  obtain rfl : args = #[v0, v1] := by cases args; simp_all
  obtain ⟨rfl, rfl⟩ := trodVars_none hV
  obtain ⟨a0, rfl, rfl, rfl, y0⟩ := open_string Tryz.underlying9 (hval 0 9 v0 rfl rfl) h0
  obtain ⟨a1, rfl, rfl, rfl, y1⟩ := open_string Tryz.underlying9 (hval 1 9 v1 rfl rfl) h1
  clear hA0 hval0 hsz0
  refine (law_RationalAdds W a0 a1 (tab_laid hL)).mono fun e W' ⟨he, bel⟩ => ?_
  subst he
  exact ⟨_, rfl, _, _, _, [], _, [], hW', trodAll_mk1 (shut_bool Tryz.underlying4 _), (trodAll_cons_mk (shut_string Tryz.underlying9 y0) (trodAll_cons_mk (shut_string Tryz.underlying9 y1) trodAll_mk0)), rfl, bel.frame _, fun h => by cases h⟩
theorem over : Rows.RationalAddsSaid :=
  OpenClaim.holds_of_wide 6 Tryz.f6 rfl rfl rfl rfl rfl rfl rfl ⟨rfl, rfl, rfl, rfl, rfl⟩ rfl rfl rfl rfl rfl (by kernel_rfl) Tryz.func6 (by kernel_rfl)
    (of_decide_eq_true (by kernel_rfl)) (by unfold Func.isWrapper; first | (rw [if_pos (by decide +kernel)]; kernel_rfl) | (rw [if_neg (by decide +kernel)]; exact ⟨rfl, rfl⟩))
    (fun os started H enc _ => lifted os started H enc)
theorem proved : Rows.RationalAddsCardSaid :=
  Claim7.holds_tied_plain_at .later [] [.data, .data, .data, .data, .sentinel, .sentinel, .pinned] true (true, "e1703cb6245dd261b21fe25032f5445bf19e41f6bf4459650c8c4d0a33e9d8c0") true over (fun _ h => by cases h) (by kernel_rfl) (fun _ h => by cases h) rationalAdds_row_tie rfl ⟨rfl, rfl⟩ (by kernel_rfl) rfl
    (fun f fn hf hfn => by
      obtain rfl : f = 6 := Option.some.inj ((show Tryz.prog.funcNamed "cellarer/cellarerlaw03.RationalAdds" = some 6 by kernel_rfl).symm.trans hf) |>.symm
      obtain rfl : fn = Tryz.f6 := (Option.some.inj (Tryz.func6.symm.trans hfn)).symm
      exact ⟨by kernel_rfl, fun j t ht => by
        rw [Tryz.params6] at ht
        have hm : t ∈ [9, 9] := by simpa using Array.mem_of_getElem? ht
        have hall : ([9, 9].all fun u => !Tryz.prog.wantsStandIn u) = true := by kernel_rfl
        exact (show Tryz.prog.wantsStandIn t = false by simpa using List.all_eq_true.1 hall t hm)⟩)
    (by kernel_rfl)
end Go.Proofs.YtfbahcfojiaeaaaGreatDoor.rationalAdds
namespace Go.Proofs.YtfbahcfojiaeaaaGreatDoor
theorem rationalAdds_holds : Rows.RationalAddsCardSaid := rationalAdds.proved
end Go.Proofs.YtfbahcfojiaeaaaGreatDoor
