/- Proved: the law CertifyFarkas returns true at all its arguments (no further conditions): the row and what it stands on. -/
import Derived.Test.YtmgfmlhdnadglaaGreatDoorMCertifyFarkas0
import Derived.Test.YtmgfmlhdnadglaaGreatDoorMCertifyFarkas2
import Derived.Test.YtmgfmlhdnadglaaGreatDoorMCertifyFarkas1
import Derived.Test.YtmgfmlhdnadglaaGreatDoorT2
import Derived.Test.YtmgfmlhdnadglaaGreatDoorT1
import Derived.Test.YtmgfmlhdnadglaaGreatDoorRows
import Derived.WalkKit
import Derived.ProofKit
import Derived.LaidMore
import Derived.Lay
import Derived.Lib.LaidTab
import Derived.Test.YtmgfmlhdnadglaaGreatDoorCards
import Derived.Test.YtmgfmlhdnadglaaGreatDoorTie
import Derived.OpenShut
import Derived.ShutString
import Derived.ChangeOld
import Derived.Below
import Derived.SizedLaws
import Derived.SevenTiedAt
import Derived.Stop.Joined
import Derived.Deep.Strs
import Derived.Carry
set_option linter.unusedVariables false
set_option maxRecDepth 100000
namespace Go.Proofs.YtmgfmlhdnadglaaGreatDoor
open Go Th Go.Proofs
noncomputable section
variable {R : Type}
def Ubl : Ann := { loops := [(4, ids [0, 1, 4, 6], ids [0, 1, 4, 5]), (10, ids [0, 1, 4, 7, 8], ids [0, 1, 4, 5, 7]), (18, ids [1, 4, 9, 10], ids [4, 5, 9])], cuts := [], frz := [], rm := [.id, .id] }
abbrev Uys (n : Nat) : Env := eC 91 (UGf n) (eC 84 (UE4 n) (eC 71 (UGa n) (eC 69 (UE3 n) (eC 67 (UCV n) eN))))
theorem UpR (n : Nat) : EnvOK Tryz.prog GI (Uys n) := .cons (.cons (.cons (.cons (.cons (.nil) (UFf n)) (UHi n)) (UKG n)) (UHj n)) (UKL n)
def UhO (n : Nat) (l0 : ByteArray → LP → Bool → Bool → Int → O R) (x1 : ByteArray) (x2 : LP) (x3 x4 : Bool) (x5 : Int) (k0 : ByteArray → LP → LP → Bool → LP → Bool → LP → Int → O R) (k1 : ByteArray → LP → Bool → Bool → O R) : O R :=
  bif (decide (x5 < ((x2).length : Int))) then (bif (inR x5 ((x2).length)) then (Jh2 ((x2).getD ((x5 : Int).toNat) (.v (.bool false))) fun a6 => JdT a6 fun h7 t8 => Jj .i64 h7 fun e9 => JdT t8 fun h10 t11 => Jj3 h10 fun e12 => Ji2 t11 (p84 n e12 (fun y13 => bif (!y13) then (k0 x1 x2 [] false [] false [] 3) else (l0 x1 x2 x3 x4 (IntKind.i64.wrap (x5 + 1)))))) else none) else (k1 x1 x2 x3 x4)
def UdI (n : Nat) : Nat → ByteArray → LP → Bool → Bool → Int → (ByteArray → LP → LP → Bool → LP → Bool → LP → Int → O R) → (ByteArray → LP → Bool → Bool → O R) → O R
  | 0, _, _, _, _, _, _, _ => none
  | m + 1, x1, x2, x3, x4, x5, k0, k1 => UhO n (fun x1 x2 x3 x4 x5 => UdI n m x1 x2 x3 x4 x5 k0 k1) x1 x2 x3 x4 x5 k0 k1
def Uwm (n : Nat) (x1 : ByteArray) (x2 : LP) (x3 x4 : Bool) (x5 : Int) (k0 : ByteArray → LP → LP → Bool → LP → Bool → LP → Int → O R) (k1 : ByteArray → LP → Bool → Bool → O R) : O R := UdI n n x1 x2 x3 x4 x5 k0 k1
def Ue2 (n : Nat) (l0 : ByteArray → LP → Bool → Bool → Int → Int → O R) (x1 : ByteArray) (x2 : LP) (x3 x4 : Bool) (x5 x6 : Int) (k0 : ByteArray → LP → LP → Bool → LP → Bool → LP → Int → Int → O R) (k1 : ByteArray → LP → Bool → Bool → Int → O R) : O R :=
  bif (decide (x6 < ((x2).length : Int))) then (bif (inR x6 ((x2).length)) then (Jh2 ((x2).getD ((x6 : Int).toNat) (.v (.bool false))) fun a7 => JdT a7 fun h8 t9 => Jj .i64 h8 fun e10 => JdT t9 fun h11 t12 => Jj3 h11 fun e13 => Ji2 t12 (bif (decide (e10 < 0)) then (k0 x1 x2 [] false [] false [] 2 x5) else (bif (inR x6 ((x2).length)) then (Jh2 ((x2).getD ((x6 : Int).toNat) (.v (.bool false))) fun a14 => JdT a14 fun h15 t16 => Jj .i64 h15 fun e17 => JdT t16 fun h18 t19 => Jj3 h18 fun e20 => Ji2 t19 (bif (bif false then true else (decide (e17 ≥ 2048))) then (k0 x1 x2 [] false [] false [] 2 x5) else (bif (inR x6 ((x2).length)) then (Jh2 ((x2).getD ((x6 : Int).toNat) (.v (.bool false))) fun a21 => JdT a21 fun h22 t23 => Jj .i64 h22 fun e24 => JdT t23 fun h25 t26 => Jj3 h25 fun e27 => Ji2 t26 (let v28 := JkU x5 (IntKind.i64.wrap (e24 + 1)); l0 x1 x2 x3 x4 v28 (IntKind.i64.wrap (x6 + 1)))) else none))) else none))) else none) else (k1 x1 x2 x3 x4 x5)
def Ucc (n : Nat) : Nat → ByteArray → LP → Bool → Bool → Int → Int → (ByteArray → LP → LP → Bool → LP → Bool → LP → Int → Int → O R) → (ByteArray → LP → Bool → Bool → Int → O R) → O R
  | 0, _, _, _, _, _, _, _, _ => none
  | m + 1, x1, x2, x3, x4, x5, x6, k0, k1 => Ue2 n (fun x1 x2 x3 x4 x5 x6 => Ucc n m x1 x2 x3 x4 x5 x6 k0 k1) x1 x2 x3 x4 x5 x6 k0 k1
def UhN (n : Nat) (x1 : ByteArray) (x2 : LP) (x3 x4 : Bool) (x5 x6 : Int) (k0 : ByteArray → LP → LP → Bool → LP → Bool → LP → Int → Int → O R) (k1 : ByteArray → LP → Bool → Bool → Int → O R) : O R := Ucc n n x1 x2 x3 x4 x5 x6 k0 k1
def Ue3 (n : Nat) (l0 : LP → Bool → Bool → LP → Bool → LP → Bool → LP → Int → O R) (x1 : LP) (x2 x3 : Bool) (x4 : LP) (x5 : Bool) (x6 : LP) (x7 : Bool) (x8 : LP) (x9 : Int) (k0 : LP → Bool → LP → Bool → LP → Int → LP → Bool → LP → Bool → LP → O R) (k1 : Bool → Bool → LP → Bool → LP → Bool → LP → O R) : O R :=
  bif (decide (x9 < ((x1).length : Int))) then (bif (inR x9 ((x1).length)) then (Jh2 ((x1).getD ((x9 : Int).toNat) (.v (.bool false))) fun a10 => JdT a10 fun h11 t12 => Jj .i64 h11 fun e13 => JdT t12 fun h14 t15 => Jj3 h14 fun e16 => Ji2 t15 (bif (inR x9 ((x1).length)) then (Jh2 ((x1).getD ((x9 : Int).toNat) (.v (.bool false))) fun a17 => JdT a17 fun h18 t19 => Jj .i64 h18 fun e20 => JdT t19 fun h21 t22 => Jj3 h21 fun e23 => Ji2 t22 (bif (inR e20 ((x4).length)) then (Jh2 ((x4).getD ((e20 : Int).toNat) (.v (.bool false))) fun a24 => JdT a24 fun h25 t26 => Jj2 h25 fun e27 => JdT t26 fun h28 t29 => Jkr h28 fun e30 => JdT t29 fun h31 t32 => Jj2 h31 fun e33 => JdT t32 fun h34 t35 => Jkr h34 fun e36 => Ji2 t35 (bif (inR x9 ((x1).length)) then (Jh2 ((x1).getD ((x9 : Int).toNat) (.v (.bool false))) fun a37 => JdT a37 fun h38 t39 => Jj .i64 h38 fun e40 => JdT t39 fun h41 t42 => Jj3 h41 fun e43 => Ji2 t42 (p69 n e43 (fun y44 y45 y46 y47 => p91 n e27 e30 e33 e36 y44 y45 y46 y47 (fun y48 y49 y50 y51 => bif (inR e13 ((x4).length)) then (Jh2 ((x4).getD ((e13 : Int).toNat) (.v (.bool false))) fun a52 => JdT a52 fun h53 t54 => Jj2 h53 fun e55 => JdT t54 fun h56 t57 => Jkr h56 fun e58 => JdT t57 fun h59 t60 => Jj2 h59 fun e61 => JdT t60 fun h62 t63 => Jkr h62 fun e64 => Ji2 t63 (bif (inR x9 ((x1).length)) then (Jh2 ((x1).getD ((x9 : Int).toNat) (.v (.bool false))) fun a65 => JdT a65 fun h66 t67 => Jj .i64 h66 fun e68 => JdT t67 fun h69 t70 => Jj3 h69 fun e71 => Ji2 t70 (bif (inR e68 (((x4).set ((e13 : Int).toNat) (.agg [.v (.bool y48), .sh y49, .v (.bool y50), .sh y51])).length)) then (Jh2 (((x4).set ((e13 : Int).toNat) (.agg [.v (.bool y48), .sh y49, .v (.bool y50), .sh y51])).getD ((e68 : Int).toNat) (.v (.bool false))) fun a72 => JdT a72 fun h73 t74 => Jj2 h73 fun e75 => JdT t74 fun h76 t77 => Jkr h76 fun e78 => JdT t77 fun h79 t80 => Jj2 h79 fun e81 => JdT t80 fun h82 t83 => Jkr h82 fun e84 => Ji2 t83 (p71 n e75 e78 e81 e84 (fun y85 => bif y85 then (k0 [] false [] false [] 5 ((x4).set ((e13 : Int).toNat) (.agg [.v (.bool y48), .sh y49, .v (.bool y50), .sh y51])) x5 x6 x7 x8) else (l0 x1 x2 x3 ((x4).set ((e13 : Int).toNat) (.agg [.v (.bool y48), .sh y49, .v (.bool y50), .sh y51])) x5 x6 x7 x8 (IntKind.i64.wrap (x9 + 1)))))) else none)) else none)) else none)))) else none)) else none)) else none)) else none) else (k1 x2 x3 x4 x5 x6 x7 x8)
def Ucd (n : Nat) : Nat → LP → Bool → Bool → LP → Bool → LP → Bool → LP → Int → (LP → Bool → LP → Bool → LP → Int → LP → Bool → LP → Bool → LP → O R) → (Bool → Bool → LP → Bool → LP → Bool → LP → O R) → O R
  | 0, _, _, _, _, _, _, _, _, _, _, _ => none
  | m + 1, x1, x2, x3, x4, x5, x6, x7, x8, x9, k0, k1 => Ue3 n (fun x1 x2 x3 x4 x5 x6 x7 x8 x9 => Ucd n m x1 x2 x3 x4 x5 x6 x7 x8 x9 k0 k1) x1 x2 x3 x4 x5 x6 x7 x8 x9 k0 k1
def UcC (n : Nat) (x1 : LP) (x2 x3 : Bool) (x4 : LP) (x5 : Bool) (x6 : LP) (x7 : Bool) (x8 : LP) (x9 : Int) (k0 : LP → Bool → LP → Bool → LP → Int → LP → Bool → LP → Bool → LP → O R) (k1 : Bool → Bool → LP → Bool → LP → Bool → LP → O R) : O R := Ucd n n x1 x2 x3 x4 x5 x6 x7 x8 x9 k0 k1
def p46 (n : Nat) (x1 : ByteArray) (x2 : LP) (k0 : LP → Bool → LP → Bool → LP → Int → O R) : O R :=
  p84 n x1 (fun y3 => bif (!y3) then (k0 [] false [] false [] 3) else (Uwm n x1 x2 false false 0 (fun y4 y5 y6 y7 y8 y9 y10 y11 => k0 y6 y7 y8 y9 y10 y11) (fun y12 y13 y14 y15 => UhN n y12 y13 y14 y15 0 0 (fun y16 y17 y18 y19 y20 y21 y22 y23 y24 => k0 y18 y19 y20 y21 y22 y23) (fun y25 y26 y27 y28 y29 => p67 n y29 (fun y30 y31 y32 y33 y34 => p69 n y25 (fun y35 y36 y37 y38 => UcC n y26 y27 y28 y30 y35 y36 y37 y38 0 (fun y39 y40 y41 y42 y43 y44 y45 y46 y47 y48 y49 => k0 y39 y40 y41 y42 y43 y44) (fun y50 y51 y52 y53 y54 y55 y56 => k0 y52 y53 y54 y55 y56 0)))))))
abbrev E46 (n : Nat) : Code → Fr → Kc R → O R := evC Tryz.prog (Uys n) Ubl n (105, [])
noncomputable def UuV : Code := Jj4 (Jll Tryz.f46) [1, 1, 0, 1, 0, 0]
abbrev Ugs : Sl (List SV) := (cS (cH (.c (sBx 59 (.c sNl (cB (.c sNl (cB (.c sNl .n)))))) (cI .n))))
abbrev Urb (n m : Nat) (K : Kc R) : Ugs.T (O R) := fun x1 x2 x3 x4 x5 => UdI n m x1 x2 x3 x4 x5 (fun y1 y2 y3 y4 y5 y6 y7 y8 => xL Ubl 4 K .ret [vS y1, vH y2, .bx 59 [vH y3, vB y4, vH y5, vB y6, vH y7], vI y8]) (fun y1 y2 y3 y4 => xL Ubl 4 K (.exit 0) [vS y1, vH y2, .bx 59 [.nl, vB y3, .nl, vB y4, .nl], dD])
abbrev UA4 (n : Nat) (K : Kc R) (l0 : Ugs.T (O R)) : Ugs.T (O R) := fun x1 x2 x3 x4 x5 => UhO n l0 x1 x2 x3 x4 x5 (fun y1 y2 y3 y4 y5 y6 y7 y8 => xL Ubl 4 K .ret [vS y1, vH y2, .bx 59 [vH y3, vB y4, vH y5, vB y6, vH y7], vI y8]) (fun y1 y2 y3 y4 => xL Ubl 4 K (.exit 0) [vS y1, vH y2, .bx 59 [.nl, vB y3, .nl, vB y4, .nl], dD])
noncomputable def UoE : Code := Jj4 (Jll Tryz.f46) [1, 1, 1, 1, 0, 1, 0, 0]
abbrev Uel : Sl (List SV) := (cS (cH (.c (sBx 59 (.c sNl (cB (.c sNl (cB (.c sNl .n)))))) (cI (cI .n)))))
abbrev UjZ (n m : Nat) (K : Kc R) : Uel.T (O R) := fun x1 x2 x3 x4 x5 x6 => Ucc n m x1 x2 x3 x4 x5 x6 (fun y1 y2 y3 y4 y5 y6 y7 y8 y9 => xL Ubl 10 K .ret [vS y1, vH y2, .bx 59 [vH y3, vB y4, vH y5, vB y6, vH y7], vI y8, vI y9]) (fun y1 y2 y3 y4 y5 => xL Ubl 10 K (.exit 2) [vS y1, vH y2, .bx 59 [.nl, vB y3, .nl, vB y4, .nl], dD, vI y5])
abbrev UxQ (n : Nat) (K : Kc R) (l0 : Uel.T (O R)) : Uel.T (O R) := fun x1 x2 x3 x4 x5 x6 => Ue2 n l0 x1 x2 x3 x4 x5 x6 (fun y1 y2 y3 y4 y5 y6 y7 y8 y9 => xL Ubl 10 K .ret [vS y1, vH y2, .bx 59 [vH y3, vB y4, vH y5, vB y6, vH y7], vI y8, vI y9]) (fun y1 y2 y3 y4 y5 => xL Ubl 10 K (.exit 2) [vS y1, vH y2, .bx 59 [.nl, vB y3, .nl, vB y4, .nl], dD, vI y5])
noncomputable def UoF : Code := Jj4 (Jll Tryz.f46) [1, 1, 1, 1, 1, 1, 1, 0, 1, 0, 0]
abbrev Uem : Sl (List SV) := (cH (.c (sBx 59 (.c sNl (cB (.c sNl (cB (.c sNl .n)))))) (.c (sBx 59 (cO 57 (cB (cH (cB (cH .n)))))) (cI .n))))
abbrev Uj0 (n m : Nat) (K : Kc R) : Uem.T (O R) := fun x1 x2 x3 x4 x5 x6 x7 x8 x9 => Ucd n m x1 x2 x3 x4 x5 x6 x7 x8 x9 (fun y1 y2 y3 y4 y5 y6 y7 y8 y9 y10 y11 => xL Ubl 18 K .ret [.bx 59 [vH y1, vB y2, vH y3, vB y4, vH y5], vI y6, .bx 59 [.own 57 y7, vB y8, vH y9, vB y10, vH y11]]) (fun y1 y2 y3 y4 y5 y6 y7 => xL Ubl 18 K (.exit 4) [.bx 59 [.nl, vB y1, .nl, vB y2, .nl], dD, .bx 59 [.own 57 y3, vB y4, vH y5, vB y6, vH y7]])
abbrev UxR (n : Nat) (K : Kc R) (l0 : Uem.T (O R)) : Uem.T (O R) := fun x1 x2 x3 x4 x5 x6 x7 x8 x9 => Ue3 n l0 x1 x2 x3 x4 x5 x6 x7 x8 x9 (fun y1 y2 y3 y4 y5 y6 y7 y8 y9 y10 y11 => xL Ubl 18 K .ret [.bx 59 [vH y1, vB y2, vH y3, vB y4, vH y5], vI y6, .bx 59 [.own 57 y7, vB y8, vH y9, vB y10, vH y11]]) (fun y1 y2 y3 y4 y5 y6 y7 => xL Ubl 18 K (.exit 4) [.bx 59 [.nl, vB y1, .nl, vB y2, .nl], dD, .bx 59 [.own 57 y3, vB y4, vH y5, vB y6, vH y7]])
abbrev UE8 (n : Nat) : Orc R := oL Ubl (E46 n) n 18 UoF Uem (Uj0 n n) (oL Ubl (E46 n) n 10 UoE Uel (UjZ n n) (oL Ubl (E46 n) n 4 UuV Ugs (Urb n n) oN))
abbrev UEV (n : Nat) : Orc R := oN
abbrev K46 (R : Type) (n : Nat) := JcH (R := R) Tryz.prog (Uys n) Ubl n (105, []) (UE8 n) (UEV n)
theorem UD3 (n : Nat) : K46 R n (false, 4, UuV) := JkF (lo := UE8 n) (cu := UEV n) (pO pN (by kernel_rfl)) Ugs (Urb n n) (JiE (F := Urb n) Ugs (UA4 n) (fun K _ _ _ _ _ => rfl) (fun _ _ => rfl) (fun L K _ _ _ _ _ => by show _ = _; kernel_rfl) n) fun _ _ => rfl
theorem Uz3 (n : Nat) : K46 R n (false, 10, UoE) := JkF (lo := UE8 n) (cu := UEV n) (pO pN (by kernel_rfl)) Uel (UjZ n n) (JiE (F := UjZ n) Uel (UxQ n) (fun K _ _ _ _ _ _ => rfl) (fun _ _ => rfl) (fun L K _ _ _ _ _ _ => by show _ = _; kernel_rfl) n) fun _ _ => rfl
theorem Uz4 (n : Nat) : K46 R n (false, 18, UoF) := JkF (lo := UE8 n) (cu := UEV n) (pO pN (by kernel_rfl)) Uem (Uj0 n n) (JiE (F := Uj0 n) Uem (UxR n) (fun K _ _ _ _ _ _ _ _ _ => rfl) (fun _ _ => rfl) (fun L K _ _ _ _ _ _ _ _ _ => by show _ = _; kernel_rfl) n) fun _ _ => rfl
theorem UNL (n : Nat) : Je6 (K46 R n) (JaJ Ubl (Jll Tryz.f46)) := pO (pC (UD3 n) (pC (Uz3 n) (pC (Uz4 n) pN))) (by kernel_rfl)
abbrev t46 : Sl (List SV) := (cS (cH .n))
abbrev f46 (n : Nat) (K : List SV → O R) : t46.T (O R) := fun x1 x2 => p46 n x1 x2 (fun y1 y2 y3 y4 y5 y6 => K [.p (.agg [.sh y1, .v (.bool y2), .sh y3, .v (.bool y4), .sh y5]), vI y6])
abbrev UJO (n : Nat) : FS := fT [false, false] t46 (f46 n)
theorem UMW (n : Nat) : FSound Tryz.prog GI 46 (UJO n) := gd Ubl n (UpR n) Tryz.func46 (.cons (UpR n) t46 (f46 n) (fun K _ _ => (Jkq (c := Jll Tryz.f46) (by kernel_rfl) (UNL n) K).trans (by kernel_rfl)) .nil) (by kernel_rfl)
def Ujp : Ann := { loops := [(3, ids [2, 3, 4, 5, 6], ids [2, 3, 4, 5])], cuts := [], frz := [], rm := [.id] }
abbrev UyC (n : Nat) : Env := eC 108 (UCs n) (eC 67 (UCV n) eN)
theorem Uqa (n : Nat) : EnvOK Tryz.prog GI (UyC n) := .cons (.cons (.nil) (UFf n)) (UGN n)
def UhX (n : Nat) (l0 : LP → Bool → LP → Bool → LP → Bool → LP → Bool → LP → Bool → Bool → LP → Bool → LP → Bool → LP → Int → O R) (x1 : LP) (x2 : Bool) (x3 : LP) (x4 : Bool) (x5 : LP) (x6 : Bool) (x7 : LP) (x8 : Bool) (x9 : LP) (x10 x11 : Bool) (x12 : LP) (x13 : Bool) (x14 : LP) (x15 : Bool) (x16 : LP) (x17 : Int) (k0 : LP → Bool → LP → Bool → LP → Bool → LP → Bool → LP → Bool → Bool → LP → Bool → LP → Bool → LP → O R) : O R :=
  bif (decide (x17 < ((x12).length : Int))) then (bif (inR x17 ((x1).length)) then (Jh2 ((x1).getD ((x17 : Int).toNat) (.v (.bool false))) fun a18 => JdT a18 fun h19 t20 => Jj2 h19 fun e21 => JdT t20 fun h22 t23 => Jkr h22 fun e24 => JdT t23 fun h25 t26 => Jj2 h25 fun e27 => JdT t26 fun h28 t29 => Jkr h28 fun e30 => Ji2 t29 (UAE n e21 e24 e27 e30 x6 x7 x8 x9 (fun y31 y32 y33 y34 => bif (inR x17 ((x12).length)) then (Jh2 ((x12).getD ((x17 : Int).toNat) (.v (.bool false))) fun a35 => JdT a35 fun h36 t37 => Jj2 h36 fun e38 => JdT t37 fun h39 t40 => Jkr h39 fun e41 => JdT t40 fun h42 t43 => Jj2 h42 fun e44 => JdT t43 fun h45 t46 => Jkr h45 fun e47 => Ji2 t46 (l0 x1 x2 x3 x4 x5 x6 x7 x8 x9 x10 x11 ((x12).set ((x17 : Int).toNat) (.agg [.v (.bool y31), .sh y32, .v (.bool y33), .sh y34])) x13 x14 x15 x16 (IntKind.i64.wrap (x17 + 1)))) else none))) else none) else (k0 x1 x2 x3 x4 x5 x6 x7 x8 x9 x10 x11 x12 x13 x14 x15 x16)
def UdP (n : Nat) : Nat → LP → Bool → LP → Bool → LP → Bool → LP → Bool → LP → Bool → Bool → LP → Bool → LP → Bool → LP → Int → (LP → Bool → LP → Bool → LP → Bool → LP → Bool → LP → Bool → Bool → LP → Bool → LP → Bool → LP → O R) → O R
  | 0, _, _, _, _, _, _, _, _, _, _, _, _, _, _, _, _, _, _ => none
  | m + 1, x1, x2, x3, x4, x5, x6, x7, x8, x9, x10, x11, x12, x13, x14, x15, x16, x17, k0 => UhX n (fun x1 x2 x3 x4 x5 x6 x7 x8 x9 x10 x11 x12 x13 x14 x15 x16 x17 => UdP n m x1 x2 x3 x4 x5 x6 x7 x8 x9 x10 x11 x12 x13 x14 x15 x16 x17 k0) x1 x2 x3 x4 x5 x6 x7 x8 x9 x10 x11 x12 x13 x14 x15 x16 x17 k0
def Uwt (n : Nat) (x1 : LP) (x2 : Bool) (x3 : LP) (x4 : Bool) (x5 : LP) (x6 : Bool) (x7 : LP) (x8 : Bool) (x9 : LP) (x10 x11 : Bool) (x12 : LP) (x13 : Bool) (x14 : LP) (x15 : Bool) (x16 : LP) (x17 : Int) (k0 : LP → Bool → LP → Bool → LP → Bool → LP → Bool → LP → Bool → Bool → LP → Bool → LP → Bool → LP → O R) : O R := UdP n n x1 x2 x3 x4 x5 x6 x7 x8 x9 x10 x11 x12 x13 x14 x15 x16 x17 k0
def p68 (n : Nat) (x1 : LP) (x2 : Bool) (x3 : LP) (x4 : Bool) (x5 : LP) (x6 : Bool) (x7 : LP) (x8 : Bool) (x9 : LP) (k0 : LP → Bool → LP → Bool → LP → O R) : O R :=
  p67 n ((x1).length : Int) (fun y10 y11 y12 y13 y14 => Uwt n x1 x2 x3 x4 x5 x6 x7 x8 x9 false false y10 y11 y12 y13 y14 0 (fun y15 y16 y17 y18 y19 y20 y21 y22 y23 y24 y25 y26 y27 y28 y29 y30 => UAE n y16 y17 y18 y19 y20 y21 y22 y23 (fun y31 y32 y33 y34 => k0 y26 y31 y32 y33 y34)))
abbrev E68 (n : Nat) : Code → Fr → Kc R → O R := evC Tryz.prog (UyC n) Ujp n (35, [])
noncomputable def Uu5 : Code := Jj4 (Jll Tryz.f68) [1, 1, 0, 1, 0, 0]
abbrev UgC : Sl (List SV) := (.c (sBx 59 (cH (cB (cH (cB (cH .n)))))) (.c (sBx 57 (cB (cH (cB (cH .n))))) (.c (sBx 59 (.c sNl (cB (.c sNl (cB (.c sNl .n)))))) (.c (sBx 59 (cO 57 (cB (cH (cB (cH .n)))))) (cI .n)))))
abbrev Uro (n m : Nat) (K : Kc R) : UgC.T (O R) := fun x1 x2 x3 x4 x5 x6 x7 x8 x9 x10 x11 x12 x13 x14 x15 x16 x17 => UdP n m x1 x2 x3 x4 x5 x6 x7 x8 x9 x10 x11 x12 x13 x14 x15 x16 x17 (fun y1 y2 y3 y4 y5 y6 y7 y8 y9 y10 y11 y12 y13 y14 y15 y16 => xL Ujp 3 K (.exit 0) [.bx 59 [vH y1, vB y2, vH y3, vB y4, vH y5], .bx 57 [vB y6, vH y7, vB y8, vH y9], .bx 59 [.nl, vB y10, .nl, vB y11, .nl], .bx 59 [.own 57 y12, vB y13, vH y14, vB y15, vH y16]])
abbrev UBd (n : Nat) (K : Kc R) (l0 : UgC.T (O R)) : UgC.T (O R) := fun x1 x2 x3 x4 x5 x6 x7 x8 x9 x10 x11 x12 x13 x14 x15 x16 x17 => UhX n l0 x1 x2 x3 x4 x5 x6 x7 x8 x9 x10 x11 x12 x13 x14 x15 x16 x17 (fun y1 y2 y3 y4 y5 y6 y7 y8 y9 y10 y11 y12 y13 y14 y15 y16 => xL Ujp 3 K (.exit 0) [.bx 59 [vH y1, vB y2, vH y3, vB y4, vH y5], .bx 57 [vB y6, vH y7, vB y8, vH y9], .bx 59 [.nl, vB y10, .nl, vB y11, .nl], .bx 59 [.own 57 y12, vB y13, vH y14, vB y15, vH y16]])
abbrev UKp (n : Nat) : Orc R := oL Ujp (E68 n) n 3 Uu5 UgC (Uro n n) oN
abbrev UJe (n : Nat) : Orc R := oN
abbrev K68 (R : Type) (n : Nat) := JcH (R := R) Tryz.prog (UyC n) Ujp n (35, []) (UKp n) (UJe n)
theorem UEd (n : Nat) : K68 R n (false, 3, Uu5) := JkF (lo := UKp n) (cu := UJe n) (pO pN (by kernel_rfl)) UgC (Uro n n) (JiE (F := Uro n) UgC (UBd n) (fun K _ _ _ _ _ _ _ _ _ _ _ _ _ _ _ _ _ => rfl) (fun _ _ => rfl) (fun L K _ _ _ _ _ _ _ _ _ _ _ _ _ _ _ _ _ => by show _ = _; kernel_rfl) n) fun _ _ => rfl
theorem UN4 (n : Nat) : Je6 (K68 R n) (JaJ Ujp (Jll Tryz.f68)) := pO (pC (UEd n) pN) (by kernel_rfl)
abbrev t68 : Sl (List SV) := (.c (sP (JlI (.c sSh (.c Jlf (.c sSh (.c Jlf (.c sSh .n))))))) (.c (sP (JlI (.c Jlf (.c sSh (.c Jlf (.c sSh .n)))))) .n))
abbrev f68 (n : Nat) (K : List SV → O R) : t68.T (O R) := fun x1 x2 x3 x4 x5 x6 x7 x8 x9 => p68 n x1 x2 x3 x4 x5 x6 x7 x8 x9 (fun y1 y2 y3 y4 y5 => K [.p (.agg [.sh y1, .v (.bool y2), .sh y3, .v (.bool y4), .sh y5])])
abbrev UJY (n : Nat) : FS := fT [false, false] t68 (f68 n)
theorem UM6 (n : Nat) : FSound Tryz.prog GI 68 (UJY n) := gd Ujp n (Uqa n) Tryz.func68 (.cons (Uqa n) t68 (f68 n) (fun K _ _ _ _ _ _ _ _ _ => (Jkq (c := Jll Tryz.f68) (by kernel_rfl) (UN4 n) K).trans (by kernel_rfl)) .nil) (by kernel_rfl)
def UwW : Ann := { loops := [], cuts := [], frz := [], rm := [.id] }
abbrev UBM (n : Nat) : Env := eC 92 (UGg n) eN
theorem UpS (n : Nat) : EnvOK Tryz.prog GI (UBM n) := .cons (.nil) (UKM n)
def p47 (n : Nat) (x1 : LP) (x2 : Bool) (x3 : LP) (x4 : Bool) (x5 : LP) (x6 : Int) (k0 : Bool → LP → Bool → LP → O R) : O R :=
  bif (decide (x6 < 0)) then (p92 n (fun y7 y8 y9 y10 => k0 y7 y8 y9 y10)) else (bif (bif false then true else (decide (x6 ≥ ((x1).length : Int)))) then (p92 n (fun y11 y12 y13 y14 => k0 y11 y12 y13 y14)) else (bif (inR x6 ((x1).length)) then (Jh2 ((x1).getD ((x6 : Int).toNat) (.v (.bool false))) fun a15 => JdT a15 fun h16 t17 => Jj2 h16 fun e18 => JdT t17 fun h19 t20 => Jkr h19 fun e21 => JdT t20 fun h22 t23 => Jj2 h22 fun e24 => JdT t23 fun h25 t26 => Jkr h25 fun e27 => Ji2 t26 (k0 e18 e21 e24 e27)) else none))
abbrev UMa (n : Nat) : Orc R := oN
abbrev ULu (n : Nat) : Orc R := oN
abbrev K47 (R : Type) (n : Nat) := JcH (R := R) Tryz.prog (UBM n) UwW n (20, []) (UMa n) (ULu n)
theorem UNM (n : Nat) : Je6 (K47 R n) (JaJ UwW (Jll Tryz.f47)) := pO pN (by kernel_rfl)
abbrev t47 : Sl (List SV) := (.c (sP (JlI (.c sSh (.c Jlf (.c sSh (.c Jlf (.c sSh .n))))))) (cI .n))
abbrev f47 (n : Nat) (K : List SV → O R) : t47.T (O R) := fun x1 x2 x3 x4 x5 x6 => p47 n x1 x2 x3 x4 x5 x6 (fun y1 y2 y3 y4 => K [.p (.agg [.v (.bool y1), .sh y2, .v (.bool y3), .sh y4])])
abbrev UJP (n : Nat) : FS := fT [false, false] t47 (f47 n)
theorem UMX (n : Nat) : FSound Tryz.prog GI 47 (UJP n) := gd UwW n (UpS n) Tryz.func47 (.cons (UpS n) t47 (f47 n) (fun K _ _ _ _ _ _ => (Jkq (c := Jll Tryz.f47) (by kernel_rfl) (UNM n) K).trans (by kernel_rfl)) .nil) (by kernel_rfl)
def Ujq : Ann := { loops := [(3, ids [2, 3, 4, 5, 6], ids [2, 3, 4, 5])], cuts := [], frz := [], rm := [.id] }
abbrev UyD (n : Nat) : Env := eC 91 (UGf n) (eC 67 (UCV n) (eC 47 (UJP n) eN))
theorem Uqc (n : Nat) : EnvOK Tryz.prog GI (UyD n) := .cons (.cons (.cons (.nil) (UMX n)) (UFf n)) (UKL n)
def UhY (n : Nat) (l0 : LP → Bool → LP → Bool → LP → LP → Bool → LP → Bool → LP → Bool → Bool → LP → Bool → LP → Bool → LP → Int → O R) (x1 : LP) (x2 : Bool) (x3 : LP) (x4 : Bool) (x5 x6 : LP) (x7 : Bool) (x8 : LP) (x9 : Bool) (x10 : LP) (x11 x12 : Bool) (x13 : LP) (x14 : Bool) (x15 : LP) (x16 : Bool) (x17 : LP) (x18 : Int) (k0 : LP → Bool → LP → Bool → LP → LP → Bool → LP → Bool → LP → Bool → Bool → LP → Bool → LP → Bool → LP → O R) : O R :=
  bif (decide (x18 < ((x13).length : Int))) then (p47 n x1 x2 x3 x4 x5 x18 (fun y19 y20 y21 y22 => p47 n x6 x7 x8 x9 x10 x18 (fun y23 y24 y25 y26 => p91 n y19 y20 y21 y22 y23 y24 y25 y26 (fun y27 y28 y29 y30 => bif (inR x18 ((x13).length)) then (Jh2 ((x13).getD ((x18 : Int).toNat) (.v (.bool false))) fun a31 => JdT a31 fun h32 t33 => Jj2 h32 fun e34 => JdT t33 fun h35 t36 => Jkr h35 fun e37 => JdT t36 fun h38 t39 => Jj2 h38 fun e40 => JdT t39 fun h41 t42 => Jkr h41 fun e43 => Ji2 t42 (l0 x1 x2 x3 x4 x5 x6 x7 x8 x9 x10 x11 x12 ((x13).set ((x18 : Int).toNat) (.agg [.v (.bool y27), .sh y28, .v (.bool y29), .sh y30])) x14 x15 x16 x17 (IntKind.i64.wrap (x18 + 1)))) else none)))) else (k0 x1 x2 x3 x4 x5 x6 x7 x8 x9 x10 x11 x12 x13 x14 x15 x16 x17)
def UdQ (n : Nat) : Nat → LP → Bool → LP → Bool → LP → LP → Bool → LP → Bool → LP → Bool → Bool → LP → Bool → LP → Bool → LP → Int → (LP → Bool → LP → Bool → LP → LP → Bool → LP → Bool → LP → Bool → Bool → LP → Bool → LP → Bool → LP → O R) → O R
  | 0, _, _, _, _, _, _, _, _, _, _, _, _, _, _, _, _, _, _, _ => none
  | m + 1, x1, x2, x3, x4, x5, x6, x7, x8, x9, x10, x11, x12, x13, x14, x15, x16, x17, x18, k0 => UhY n (fun x1 x2 x3 x4 x5 x6 x7 x8 x9 x10 x11 x12 x13 x14 x15 x16 x17 x18 => UdQ n m x1 x2 x3 x4 x5 x6 x7 x8 x9 x10 x11 x12 x13 x14 x15 x16 x17 x18 k0) x1 x2 x3 x4 x5 x6 x7 x8 x9 x10 x11 x12 x13 x14 x15 x16 x17 x18 k0
def Uwu (n : Nat) (x1 : LP) (x2 : Bool) (x3 : LP) (x4 : Bool) (x5 x6 : LP) (x7 : Bool) (x8 : LP) (x9 : Bool) (x10 : LP) (x11 x12 : Bool) (x13 : LP) (x14 : Bool) (x15 : LP) (x16 : Bool) (x17 : LP) (x18 : Int) (k0 : LP → Bool → LP → Bool → LP → LP → Bool → LP → Bool → LP → Bool → Bool → LP → Bool → LP → Bool → LP → O R) : O R := UdQ n n x1 x2 x3 x4 x5 x6 x7 x8 x9 x10 x11 x12 x13 x14 x15 x16 x17 x18 k0
def p70 (n : Nat) (x1 : LP) (x2 : Bool) (x3 : LP) (x4 : Bool) (x5 x6 : LP) (x7 : Bool) (x8 : LP) (x9 : Bool) (x10 : LP) (k0 : LP → Bool → LP → Bool → LP → O R) : O R :=
  let v11 := JkU ((x1).length : Int) ((x6).length : Int); p67 n v11 (fun y12 y13 y14 y15 y16 => Uwu n x1 x2 x3 x4 x5 x6 x7 x8 x9 x10 false false y12 y13 y14 y15 y16 0 (fun y17 y18 y19 y20 y21 y22 y23 y24 y25 y26 y27 y28 y29 y30 y31 y32 y33 => p91 n y18 y19 y20 y21 y23 y24 y25 y26 (fun y34 y35 y36 y37 => k0 y29 y34 y35 y36 y37)))
abbrev E70 (n : Nat) : Code → Fr → Kc R → O R := evC Tryz.prog (UyD n) Ujq n (40, [])
noncomputable def Uu6 : Code := Jj4 (Jll Tryz.f70) [1, 1, 0, 1, 0, 0]
abbrev UgD : Sl (List SV) := (.c (sBx 59 (cH (cB (cH (cB (cH .n)))))) (.c (sBx 59 (cH (cB (cH (cB (cH .n)))))) (.c (sBx 59 (.c sNl (cB (.c sNl (cB (.c sNl .n)))))) (.c (sBx 59 (cO 57 (cB (cH (cB (cH .n)))))) (cI .n)))))
abbrev Urp (n m : Nat) (K : Kc R) : UgD.T (O R) := fun x1 x2 x3 x4 x5 x6 x7 x8 x9 x10 x11 x12 x13 x14 x15 x16 x17 x18 => UdQ n m x1 x2 x3 x4 x5 x6 x7 x8 x9 x10 x11 x12 x13 x14 x15 x16 x17 x18 (fun y1 y2 y3 y4 y5 y6 y7 y8 y9 y10 y11 y12 y13 y14 y15 y16 y17 => xL Ujq 3 K (.exit 0) [.bx 59 [vH y1, vB y2, vH y3, vB y4, vH y5], .bx 59 [vH y6, vB y7, vH y8, vB y9, vH y10], .bx 59 [.nl, vB y11, .nl, vB y12, .nl], .bx 59 [.own 57 y13, vB y14, vH y15, vB y16, vH y17]])
abbrev UBe (n : Nat) (K : Kc R) (l0 : UgD.T (O R)) : UgD.T (O R) := fun x1 x2 x3 x4 x5 x6 x7 x8 x9 x10 x11 x12 x13 x14 x15 x16 x17 x18 => UhY n l0 x1 x2 x3 x4 x5 x6 x7 x8 x9 x10 x11 x12 x13 x14 x15 x16 x17 x18 (fun y1 y2 y3 y4 y5 y6 y7 y8 y9 y10 y11 y12 y13 y14 y15 y16 y17 => xL Ujq 3 K (.exit 0) [.bx 59 [vH y1, vB y2, vH y3, vB y4, vH y5], .bx 59 [vH y6, vB y7, vH y8, vB y9, vH y10], .bx 59 [.nl, vB y11, .nl, vB y12, .nl], .bx 59 [.own 57 y13, vB y14, vH y15, vB y16, vH y17]])
abbrev UKq (n : Nat) : Orc R := oL Ujq (E70 n) n 3 Uu6 UgD (Urp n n) oN
abbrev UJf (n : Nat) : Orc R := oN
abbrev K70 (R : Type) (n : Nat) := JcH (R := R) Tryz.prog (UyD n) Ujq n (40, []) (UKq n) (UJf n)
theorem UEe (n : Nat) : K70 R n (false, 3, Uu6) := JkF (lo := UKq n) (cu := UJf n) (pO pN (by kernel_rfl)) UgD (Urp n n) (JiE (F := Urp n) UgD (UBe n) (fun K _ _ _ _ _ _ _ _ _ _ _ _ _ _ _ _ _ _ => rfl) (fun _ _ => rfl) (fun L K _ _ _ _ _ _ _ _ _ _ _ _ _ _ _ _ _ _ => by show _ = _; kernel_rfl) n) fun _ _ => rfl
theorem UN6 (n : Nat) : Je6 (K70 R n) (JaJ Ujq (Jll Tryz.f70)) := pO (pC (UEe n) pN) (by kernel_rfl)
abbrev t70 : Sl (List SV) := (.c (sP (JlI (.c sSh (.c Jlf (.c sSh (.c Jlf (.c sSh .n))))))) (.c (sP (JlI (.c sSh (.c Jlf (.c sSh (.c Jlf (.c sSh .n))))))) .n))
abbrev f70 (n : Nat) (K : List SV → O R) : t70.T (O R) := fun x1 x2 x3 x4 x5 x6 x7 x8 x9 x10 => p70 n x1 x2 x3 x4 x5 x6 x7 x8 x9 x10 (fun y1 y2 y3 y4 y5 => K [.p (.agg [.sh y1, .v (.bool y2), .sh y3, .v (.bool y4), .sh y5])])
abbrev UJZ (n : Nat) : FS := fT [false, false] t70 (f70 n)
theorem UM7 (n : Nat) : FSound Tryz.prog GI 70 (UJZ n) := gd Ujq n (Uqc n) Tryz.func70 (.cons (Uqc n) t70 (f70 n) (fun K _ _ _ _ _ _ _ _ _ _ => (Jkq (c := Jll Tryz.f70) (by kernel_rfl) (UN6 n) K).trans (by kernel_rfl)) .nil) (by kernel_rfl)
def UaF : Ann := { loops := [(7, ids [1, 2, 4, 6, 7], ids [4, 5, 6])], cuts := [(3, ids [1, 2, 4], ids [4, 5]), (8, ids [1, 2, 4, 6, 7], ids [1, 2, 4, 5, 6, 7])], frz := [], rm := [.id, .id] }
abbrev Upo (n : Nat) : Env := eC 70 (UJZ n) (eC 69 (UE3 n) (eC 68 (UJY n) (eC 67 (UCV n) (eC 46 (UJO n) (eC 41 (UJN n) (eC 39 (UJM n) (eC 25 (UJE n) eN)))))))
theorem UpC (n : Nat) : EnvOK Tryz.prog GI (Upo n) := .cons (.cons (.cons (.cons (.cons (.cons (.cons (.cons (.nil) (UMM n)) (UMU n)) (UMV n)) (UMW n)) (UFf n)) (UM6 n)) (UHi n)) (UM7 n)
def Ush (n : Nat) (x1 : LP) (x2 : Int) (x3 : LP) (x4 x5 : Bool) (x6 : LP) (x7 : Bool) (x8 : LP) (x9 : Bool) (x10 : LP) (x11 : Int) (k0 : LP → Int → LP → Bool → Bool → LP → Bool → LP → Bool → LP → Int → O R) : O R :=
  k0 x1 x2 x3 x4 x5 x6 x7 x8 x9 x10 (IntKind.i64.wrap (x11 + 1))
def Ucb (n : Nat) (x1 : LP) (x2 : Int) (x3 : LP) (x4 x5 : Bool) (x6 : LP) (x7 : Bool) (x8 : LP) (x9 : Bool) (x10 : LP) (x11 : Int) (k0 : LP → Int → LP → Bool → Bool → LP → Bool → LP → Bool → LP → Int → O R) : O R :=
  k0 x1 x2 x3 x4 x5 x6 x7 x8 x9 x10 (IntKind.i64.wrap (x11 + 1))
def Udb (n : Nat) (l0 : LP → Int → LP → Bool → Bool → LP → Bool → LP → Bool → LP → Int → O R) (x1 : LP) (x2 : Int) (x3 : LP) (x4 x5 : Bool) (x6 : LP) (x7 : Bool) (x8 : LP) (x9 : Bool) (x10 : LP) (x11 : Int) (k0 : LP → Bool → LP → Bool → LP → Int → LP → Bool → LP → Bool → LP → O R) (k1 : Bool → Bool → LP → Bool → LP → Bool → LP → O R) : O R :=
  bif (decide (x11 < ((x1).length : Int))) then (bif (inR x11 ((x1).length)) then (Jj3 ((x1).getD ((x11 : Int).toNat) (.v (.bool false))) fun e12 => bif (eqS e12 (⟨#[48]⟩ : ByteArray)) then (Ucb n x1 x2 x3 x4 x5 x6 x7 x8 x9 x10 x11 (fun y13 y14 y15 y16 y17 y18 y19 y20 y21 y22 y23 => l0 y13 y14 y15 y16 y17 y18 y19 y20 y21 y22 y23)) else (bif (inR x11 ((x3).length)) then (Jh2 ((x3).getD ((x11 : Int).toNat) (.v (.bool false))) fun a24 => JdT a24 fun h25 t26 => Jkr h25 fun e27 => JdT t26 fun h28 t29 => Jj3 h28 fun e30 => JdT t29 fun h31 t32 => Jj2 h31 fun e33 => JdT t32 fun h34 t35 => Jj .i64 h34 fun e36 => Ji2 t35 (bif (inR x11 ((x3).length)) then (Jh2 ((x3).getD ((x11 : Int).toNat) (.v (.bool false))) fun a37 => JdT a37 fun h38 t39 => Jkr h38 fun e40 => JdT t39 fun h41 t42 => Jj3 h41 fun e43 => JdT t42 fun h44 t45 => Jj2 h44 fun e46 => JdT t45 fun h47 t48 => Jj .i64 h47 fun e49 => Ji2 t48 (p46 n e30 e40 (fun y50 y51 y52 y53 y54 y55 => bif (inR x11 ((x1).length)) then (Jj3 ((x1).getD ((x11 : Int).toNat) (.v (.bool false))) fun e56 => p69 n e56 (fun y57 y58 y59 y60 => p68 n y50 y51 y52 y53 y54 y57 y58 y59 y60 (fun y61 y62 y63 y64 y65 => p25 n y61 y62 y63 y64 y65 (fun y66 y67 y68 => bif (y68 != 0) then (k0 [] false [] false [] 5 x6 x7 x8 x9 x10) else (p70 n x6 x7 x8 x9 x10 y61 y62 y63 y64 y65 (fun y69 y70 y71 y72 y73 => p25 n y69 y70 y71 y72 y73 (fun y74 y75 y76 => bif (y76 != 0) then (k0 [] false [] false [] 5 y69 y70 y71 y72 y73) else (Ucb n x1 x2 x3 x4 x5 y69 y70 y71 y72 y73 x11 (fun y77 y78 y79 y80 y81 y82 y83 y84 y85 y86 y87 => l0 y77 y78 y79 y80 y81 y82 y83 y84 y85 y86 y87))))))))) else none))) else none)) else none)) else none) else (k1 x4 x5 x6 x7 x8 x9 x10)
def Ua8 (n : Nat) : Nat → LP → Int → LP → Bool → Bool → LP → Bool → LP → Bool → LP → Int → (LP → Bool → LP → Bool → LP → Int → LP → Bool → LP → Bool → LP → O R) → (Bool → Bool → LP → Bool → LP → Bool → LP → O R) → O R
  | 0, _, _, _, _, _, _, _, _, _, _, _, _, _ => none
  | m + 1, x1, x2, x3, x4, x5, x6, x7, x8, x9, x10, x11, k0, k1 => Udb n (fun x1 x2 x3 x4 x5 x6 x7 x8 x9 x10 x11 => Ua8 n m x1 x2 x3 x4 x5 x6 x7 x8 x9 x10 x11 k0 k1) x1 x2 x3 x4 x5 x6 x7 x8 x9 x10 x11 k0 k1
def UhA (n : Nat) (l0 : LP → Int → LP → Bool → Bool → LP → Bool → LP → Bool → LP → Int → O R) (l1 : LP → Int → LP → Bool → Bool → LP → Bool → LP → Bool → LP → Int → O R) (x1 : LP) (x2 : Int) (x3 : LP) (x4 x5 : Bool) (x6 : LP) (x7 : Bool) (x8 : LP) (x9 : Bool) (x10 : LP) (x11 : Int) (k0 : LP → Bool → LP → Bool → LP → Int → LP → Bool → LP → Bool → LP → O R) (k1 : LP → Bool → LP → Bool → LP → Int → LP → Bool → LP → Bool → LP → O R) (k2 : Bool → Bool → LP → Bool → LP → Bool → LP → O R) (k3 : Bool → Bool → LP → Bool → LP → Bool → LP → O R) : O R :=
  bif (decide (x11 < ((x1).length : Int))) then (bif (inR x11 ((x1).length)) then (Jj3 ((x1).getD ((x11 : Int).toNat) (.v (.bool false))) fun e12 => bif (eqS e12 (⟨#[48]⟩ : ByteArray)) then (Ush n x1 x2 x3 x4 x5 x6 x7 x8 x9 x10 x11 (fun y13 y14 y15 y16 y17 y18 y19 y20 y21 y22 y23 => l0 y13 y14 y15 y16 y17 y18 y19 y20 y21 y22 y23)) else (bif (inR x11 ((x3).length)) then (Jh2 ((x3).getD ((x11 : Int).toNat) (.v (.bool false))) fun a24 => JdT a24 fun h25 t26 => Jkr h25 fun e27 => JdT t26 fun h28 t29 => Jj3 h28 fun e30 => JdT t29 fun h31 t32 => Jj2 h31 fun e33 => JdT t32 fun h34 t35 => Jj .i64 h34 fun e36 => Ji2 t35 (bif (inR x11 ((x3).length)) then (Jh2 ((x3).getD ((x11 : Int).toNat) (.v (.bool false))) fun a37 => JdT a37 fun h38 t39 => Jkr h38 fun e40 => JdT t39 fun h41 t42 => Jj3 h41 fun e43 => JdT t42 fun h44 t45 => Jj2 h44 fun e46 => JdT t45 fun h47 t48 => Jj .i64 h47 fun e49 => Ji2 t48 (p46 n e30 e40 (fun y50 y51 y52 y53 y54 y55 => bif (inR x11 ((x1).length)) then (Jj3 ((x1).getD ((x11 : Int).toNat) (.v (.bool false))) fun e56 => p69 n e56 (fun y57 y58 y59 y60 => p68 n y50 y51 y52 y53 y54 y57 y58 y59 y60 (fun y61 y62 y63 y64 y65 => p25 n y61 y62 y63 y64 y65 (fun y66 y67 y68 => bif (y68 != 0) then (k0 [] false [] false [] 5 x6 x7 x8 x9 x10) else (p70 n x6 x7 x8 x9 x10 y61 y62 y63 y64 y65 (fun y69 y70 y71 y72 y73 => p25 n y69 y70 y71 y72 y73 (fun y74 y75 y76 => bif (y76 != 0) then (k1 [] false [] false [] 5 y69 y70 y71 y72 y73) else (Ucb n x1 x2 x3 x4 x5 y69 y70 y71 y72 y73 x11 (fun y77 y78 y79 y80 y81 y82 y83 y84 y85 y86 y87 => l1 y77 y78 y79 y80 y81 y82 y83 y84 y85 y86 y87))))))))) else none))) else none)) else none)) else none) else (k3 x4 x5 x6 x7 x8 x9 x10)
def Udy (n : Nat) : Nat → LP → Int → LP → Bool → Bool → LP → Bool → LP → Bool → LP → Int → (LP → Bool → LP → Bool → LP → Int → LP → Bool → LP → Bool → LP → O R) → (LP → Bool → LP → Bool → LP → Int → LP → Bool → LP → Bool → LP → O R) → (Bool → Bool → LP → Bool → LP → Bool → LP → O R) → (Bool → Bool → LP → Bool → LP → Bool → LP → O R) → O R
  | 0, _, _, _, _, _, _, _, _, _, _, _, _, _, _, _ => none
  | m + 1, x1, x2, x3, x4, x5, x6, x7, x8, x9, x10, x11, k0, k1, k2, k3 => UhA n (fun x1 x2 x3 x4 x5 x6 x7 x8 x9 x10 x11 => Udy n m x1 x2 x3 x4 x5 x6 x7 x8 x9 x10 x11 k0 k1 k2 k3) (fun x1 x2 x3 x4 x5 x6 x7 x8 x9 x10 x11 => Ua8 n m x1 x2 x3 x4 x5 x6 x7 x8 x9 x10 x11 k1 k2) x1 x2 x3 x4 x5 x6 x7 x8 x9 x10 x11 k0 k1 k2 k3
def Uwa (n : Nat) (x1 : LP) (x2 : Int) (x3 : LP) (x4 x5 : Bool) (x6 : LP) (x7 : Bool) (x8 : LP) (x9 : Bool) (x10 : LP) (x11 : Int) (k0 : LP → Bool → LP → Bool → LP → Int → LP → Bool → LP → Bool → LP → O R) (k1 : LP → Bool → LP → Bool → LP → Int → LP → Bool → LP → Bool → LP → O R) (k2 : Bool → Bool → LP → Bool → LP → Bool → LP → O R) (k3 : Bool → Bool → LP → Bool → LP → Bool → LP → O R) : O R := Udy n n x1 x2 x3 x4 x5 x6 x7 x8 x9 x10 x11 k0 k1 k2 k3
def UiX (n : Nat) (x1 : LP) (x2 : Int) (x3 : LP) (x4 x5 : Bool) (k0 : LP → Bool → LP → Bool → LP → Int → O R) : O R :=
  bif (((x1).length : Int) != ((x3).length : Int)) then (k0 [] false [] false [] 6) else (p67 n 0 (fun y6 y7 y8 y9 y10 => Uwa n x1 x2 x3 x4 x5 y6 y7 y8 y9 y10 0 (fun y11 y12 y13 y14 y15 y16 y17 y18 y19 y20 y21 => k0 y11 y12 y13 y14 y15 y16) (fun y22 y23 y24 y25 y26 y27 y28 y29 y30 y31 y32 => k0 y22 y23 y24 y25 y26 y27) (fun y33 y34 y35 y36 y37 y38 y39 => k0 y35 y36 y37 y38 y39 0) (fun y40 y41 y42 y43 y44 y45 y46 => k0 y42 y43 y44 y45 y46 0)))
def p24 (n : Nat) (x1 : Int) (x2 x3 : LP) (k0 : LP → Bool → LP → Bool → LP → Int → O R) : O R :=
  p39 n x1 x2 (fun y4 => bif (y4 != 0) then (k0 [] false [] false [] 3) else (p41 n x3 (fun y5 => bif (bif false then true else (!y5)) then (k0 [] false [] false [] 3) else (UiX n x3 x1 x2 false false (fun y6 y7 y8 y9 y10 y11 => k0 y6 y7 y8 y9 y10 y11)))))
abbrev E24 (n : Nat) : Code → Fr → Kc R → O R := evC Tryz.prog (Upo n) UaF n (89, [])
noncomputable def UuF : Code := Jj4 (Jll Tryz.f24) [1, 1]
abbrev UsQ : Sl (List SV) := (cH (.c (sBx 24 (cI (cH .n))) (.c (sBx 59 (.c sNl (cB (.c sNl (cB (.c sNl .n)))))) .n)))
abbrev UvE (n : Nat) (K : Kc R) : UsQ.T (O R) := fun x1 x2 x3 x4 x5 => UiX n x1 x2 x3 x4 x5 (fun y1 y2 y3 y4 y5 y6 => xC UaF 3 K .ret [.bx 59 [vH y1, vB y2, vH y3, vB y4, vH y5], vI y6])
noncomputable def UoC : Code := Jj4 (Jll Tryz.f24) [1, 1, 1, 1, 0, 1, 0, 0, 1, 1]
abbrev UkM : Sl (List SV) := (cH (.c (sBx 24 (cI (cH .n))) (.c (sBx 59 (.c sNl (cB (.c sNl (cB (.c sNl .n)))))) (.c (sBx 59 (cO 57 (cB (cH (cB (cH .n)))))) (cI .n)))))
abbrev UkN : Sl (List SV) := (cH (.c (sBx 24 (cI (cH .n))) (.c (sBx 59 (.c sNl (cB (.c sNl (cB (.c sNl .n)))))) (.c (sBx 59 (cH (cB (cH (cB (cH .n)))))) (cI .n)))))
abbrev UqX (n : Nat) (K : Kc R) : UkM.T (O R) := fun x1 x2 x3 x4 x5 x6 x7 x8 x9 x10 x11 => Ush n x1 x2 x3 x4 x5 x6 x7 x8 x9 x10 x11 (fun y1 y2 y3 y4 y5 y6 y7 y8 y9 y10 y11 => xC UaF 8 K .normal [vH y1, .bx 24 [vI y2, vH y3], .bx 59 [.nl, vB y4, .nl, vB y5, .nl], dD, .bx 59 [.own 57 y6, vB y7, vH y8, vB y9, vH y10], vI y11])
abbrev UqY (n : Nat) (K : Kc R) : UkN.T (O R) := fun x1 x2 x3 x4 x5 x6 x7 x8 x9 x10 x11 => Ucb n x1 x2 x3 x4 x5 x6 x7 x8 x9 x10 x11 (fun y1 y2 y3 y4 y5 y6 y7 y8 y9 y10 y11 => xC UaF 8 K .normal [vH y1, .bx 24 [vI y2, vH y3], .bx 59 [.nl, vB y4, .nl, vB y5, .nl], dD, .bx 59 [vH y6, vB y7, vH y8, vB y9, vH y10], vI y11])
noncomputable def UiM : Code := Jj4 (Jll Tryz.f24) [1, 1, 1, 1, 0, 1, 0, 0]
abbrev Uby : Sl (List SV) := (cH (.c (sBx 24 (cI (cH .n))) (.c (sBx 59 (.c sNl (cB (.c sNl (cB (.c sNl .n)))))) (.c (sBx 59 (cH (cB (cH (cB (cH .n)))))) (cI .n)))))
abbrev UcE : Sl (List SV) := (cH (.c (sBx 24 (cI (cH .n))) (.c (sBx 59 (.c sNl (cB (.c sNl (cB (.c sNl .n)))))) (.c (sBx 59 (cO 57 (cB (cH (cB (cH .n)))))) (cI .n)))))
abbrev Ufp (n m : Nat) (K : Kc R) : Uby.T (O R) := fun x1 x2 x3 x4 x5 x6 x7 x8 x9 x10 x11 => Ua8 n m x1 x2 x3 x4 x5 x6 x7 x8 x9 x10 x11 (fun y1 y2 y3 y4 y5 y6 y7 y8 y9 y10 y11 => xL UaF 7 K .ret [.bx 59 [vH y1, vB y2, vH y3, vB y4, vH y5], vI y6, .bx 59 [vH y7, vB y8, vH y9, vB y10, vH y11]]) (fun y1 y2 y3 y4 y5 y6 y7 => xL UaF 7 K (.exit 0) [.bx 59 [.nl, vB y1, .nl, vB y2, .nl], dD, .bx 59 [vH y3, vB y4, vH y5, vB y6, vH y7]])
abbrev UxL (n : Nat) (K : Kc R) (l0 : Uby.T (O R)) : Uby.T (O R) := fun x1 x2 x3 x4 x5 x6 x7 x8 x9 x10 x11 => Udb n l0 x1 x2 x3 x4 x5 x6 x7 x8 x9 x10 x11 (fun y1 y2 y3 y4 y5 y6 y7 y8 y9 y10 y11 => xL UaF 7 K .ret [.bx 59 [vH y1, vB y2, vH y3, vB y4, vH y5], vI y6, .bx 59 [vH y7, vB y8, vH y9, vB y10, vH y11]]) (fun y1 y2 y3 y4 y5 y6 y7 => xL UaF 7 K (.exit 0) [.bx 59 [.nl, vB y1, .nl, vB y2, .nl], dD, .bx 59 [vH y3, vB y4, vH y5, vB y6, vH y7]])
abbrev Uha (n m : Nat) (K : Kc R) : UcE.T (O R) := fun x1 x2 x3 x4 x5 x6 x7 x8 x9 x10 x11 => Udy n m x1 x2 x3 x4 x5 x6 x7 x8 x9 x10 x11 (fun y1 y2 y3 y4 y5 y6 y7 y8 y9 y10 y11 => xL UaF 7 K .ret [.bx 59 [vH y1, vB y2, vH y3, vB y4, vH y5], vI y6, .bx 59 [.own 57 y7, vB y8, vH y9, vB y10, vH y11]]) (fun y1 y2 y3 y4 y5 y6 y7 y8 y9 y10 y11 => xL UaF 7 K .ret [.bx 59 [vH y1, vB y2, vH y3, vB y4, vH y5], vI y6, .bx 59 [vH y7, vB y8, vH y9, vB y10, vH y11]]) (fun y1 y2 y3 y4 y5 y6 y7 => xL UaF 7 K (.exit 0) [.bx 59 [.nl, vB y1, .nl, vB y2, .nl], dD, .bx 59 [vH y3, vB y4, vH y5, vB y6, vH y7]]) (fun y1 y2 y3 y4 y5 y6 y7 => xL UaF 7 K (.exit 0) [.bx 59 [.nl, vB y1, .nl, vB y2, .nl], dD, .bx 59 [.own 57 y3, vB y4, vH y5, vB y6, vH y7]])
abbrev UxM (n : Nat) (K : Kc R) (l0 : UcE.T (O R)) (l1 : Uby.T (O R)) : UcE.T (O R) := fun x1 x2 x3 x4 x5 x6 x7 x8 x9 x10 x11 => UhA n l0 l1 x1 x2 x3 x4 x5 x6 x7 x8 x9 x10 x11 (fun y1 y2 y3 y4 y5 y6 y7 y8 y9 y10 y11 => xL UaF 7 K .ret [.bx 59 [vH y1, vB y2, vH y3, vB y4, vH y5], vI y6, .bx 59 [.own 57 y7, vB y8, vH y9, vB y10, vH y11]]) (fun y1 y2 y3 y4 y5 y6 y7 y8 y9 y10 y11 => xL UaF 7 K .ret [.bx 59 [vH y1, vB y2, vH y3, vB y4, vH y5], vI y6, .bx 59 [vH y7, vB y8, vH y9, vB y10, vH y11]]) (fun y1 y2 y3 y4 y5 y6 y7 => xL UaF 7 K (.exit 0) [.bx 59 [.nl, vB y1, .nl, vB y2, .nl], dD, .bx 59 [vH y3, vB y4, vH y5, vB y6, vH y7]]) (fun y1 y2 y3 y4 y5 y6 y7 => xL UaF 7 K (.exit 0) [.bx 59 [.nl, vB y1, .nl, vB y2, .nl], dD, .bx 59 [.own 57 y3, vB y4, vH y5, vB y6, vH y7]])
abbrev Uv0 (n : Nat) : Orc R := fun i vs K => JfK (Nat.beq i 7) (Jjg (Uby.ap vs (Ufp n n K)) (Jjg (UcE.ap vs (Uha n n K)) (JcB UaF 7 (E24 n UiM) n vs K))) (oN i vs K)
abbrev Uvh (n : Nat) : Orc R := fun i vs K => JfK (Nat.beq i 8) (Jjg (UkM.ap vs (UqX n K)) (Jjg (UkN.ap vs (UqY n K)) (Jki UaF 8 (E24 n UoC) vs K))) ((oC UaF (E24 n) 3 UuF UsQ (UvE n) oN) i vs K)
abbrev K24 (R : Type) (n : Nat) := JcH (R := R) Tryz.prog (Upo n) UaF n (89, []) (Uv0 n) (Uvh n)
theorem Usv (n : Nat) : Je6 (K24 R n) (JaJ UaF UoC) := pO pN (by kernel_rfl)
theorem UDK (n : Nat) : K24 R n (true, 8, UoC) := JkW (lo := Uv0 n) (cu := Uvh n) (Usv n) UkM (UqX n) (fun K _ _ _ _ _ _ _ _ _ _ _ => by show _ = _; kernel_rfl) (JkW (lo := Uv0 n) (cu := Uvh n) (Usv n) UkN (UqY n) (fun K _ _ _ _ _ _ _ _ _ _ _ => by show _ = _; kernel_rfl) fun _ _ => rfl)
theorem Usw (n : Nat) : Je6 (K24 R n) (JaJ UaF UiM) := pO (pC (UDK n) pN) (by kernel_rfl)
theorem Uo2 (n : Nat) : ∀ m (K : Kc R), Uby.all (fun vs r => JcB UaF 7 (JcU Tryz.prog (Upo n) UaF (89, []) (Uv0 n) (Uvh n) UiM) m vs K = r) (Ufp n m K) := JiE (F := Ufp n) Uby (UxL n) (fun K _ _ _ _ _ _ _ _ _ _ _ => rfl) (fun _ _ => rfl) (fun L K _ _ _ _ _ _ _ _ _ _ _ => by show _ = _; kernel_rfl)
theorem Ux8 (n : Nat) : ∀ m (K : Kc R), UcE.all (fun vs r => JcB UaF 7 (JcU Tryz.prog (Upo n) UaF (89, []) (Uv0 n) (Uvh n) UiM) m vs K = r) (Uha n m K) := Jhw (F1 := Ufp n) (F := Uha n) UcE Uby (UxM n) (fun K _ _ _ _ _ _ _ _ _ _ _ => rfl) (fun _ _ => rfl) (Uo2 n) (fun L K _ _ _ _ _ _ _ _ _ _ _ => by show _ = _; kernel_rfl)
theorem UDL (n : Nat) : K24 R n (false, 7, UiM) := JkF (lo := Uv0 n) (cu := Uvh n) (Usw n) Uby (Ufp n n) (Uo2 n n) (JkF (lo := Uv0 n) (cu := Uvh n) (Usw n) UcE (Uha n n) (Ux8 n n) fun _ _ => rfl)
theorem UDJ (n : Nat) : K24 R n (true, 3, UuF) := JkW (lo := Uv0 n) (cu := Uvh n) (pO (pC (UDL n) pN) (by kernel_rfl)) UsQ (UvE n) (fun K _ _ _ _ _ => by show _ = _; kernel_rfl) fun _ _ => rfl
theorem UNw (n : Nat) : Je6 (K24 R n) (JaJ UaF (Jll Tryz.f24)) := pO (pC (UDJ n) pN) (by kernel_rfl)
abbrev t24 : Sl (List SV) := (.c (sP (JlI (.c (Jlv .i64) (.c sSh .n)))) (cH .n))
abbrev f24 (n : Nat) (K : List SV → O R) : t24.T (O R) := fun x1 x2 x3 => p24 n x1 x2 x3 (fun y1 y2 y3 y4 y5 y6 => K [.p (.agg [.sh y1, .v (.bool y2), .sh y3, .v (.bool y4), .sh y5]), vI y6])
abbrev UJD (n : Nat) : FS := fT [false, false] t24 (f24 n)
theorem UML (n : Nat) : FSound Tryz.prog GI 24 (UJD n) := gd UaF n (UpC n) Tryz.func24 (.cons (UpC n) t24 (f24 n) (fun K _ _ _ => (Jkq (c := Jll Tryz.f24) (by kernel_rfl) (UNw n) K).trans (by kernel_rfl)) .nil) (by kernel_rfl)
def UwT : Ann := { loops := [], cuts := [], frz := [], rm := [.id] }
abbrev UBJ (n : Nat) : Env := eC 77 (UCW n) eN
theorem UpK (n : Nat) : EnvOK Tryz.prog GI (UBJ n) := .cons (.nil) (UFg n)
def p34 (n : Nat) (x1 : Bool) (x2 : LP) (x3 : Bool) (x4 : LP) (k0 : Int → O R) : O R :=
  p77 n x1 x2 (fun y5 => bif y5 then (k0 0) else (bif x1 then (k0 (-1)) else (k0 1)))
abbrev UL8 (n : Nat) : Orc R := oN
abbrev ULr (n : Nat) : Orc R := oN
abbrev K34 (R : Type) (n : Nat) := JcH (R := R) Tryz.prog (UBJ n) UwT n (9, []) (UL8 n) (ULr n)
theorem UNE (n : Nat) : Je6 (K34 R n) (JaJ UwT (Jll Tryz.f34)) := pO pN (by kernel_rfl)
abbrev t34 : Sl (List SV) := (.c (sP (JlI (.c Jlf (.c sSh (.c Jlf (.c sSh .n)))))) .n)
abbrev f34 (n : Nat) (K : List SV → O R) : t34.T (O R) := fun x1 x2 x3 x4 => p34 n x1 x2 x3 x4 (fun y1 => K [vI y1])
abbrev UF5 (n : Nat) : FS := fT [false] t34 (f34 n)
theorem UKA (n : Nat) : FSound Tryz.prog GI 34 (UF5 n) := gd UwT n (UpK n) Tryz.func34 (.cons (UpK n) t34 (f34 n) (fun K _ _ _ _ => (Jkq (c := Jll Tryz.f34) (by kernel_rfl) (UNE n) K).trans (by kernel_rfl)) .nil) (by kernel_rfl)
end
end Go.Proofs.YtmgfmlhdnadglaaGreatDoor
set_option linter.unusedVariables false
set_option linter.unusedSimpArgs false
namespace Go.Proofs.YtmgfmlhdnadglaaGreatDoor
open Go Th Go.Proofs
variable {R : Type}
theorem Udf {N : Nat} {σ : Type} {Inv : Nat → σ → Prop} (L : Nat → σ → Nat → Option R) {r : Option R} (hend : ∀ m s, Inv N s → L (m + 1) s N = r)
    (hstep : ∀ m s i, i < N → Inv i s → L (m + 1) s i = r ∨ ∃ s', Inv (i + 1) s' ∧ L (m + 1) s i = L m s' (i + 1)) : ∀ (d m i : Nat) (s : σ), d + i = N → d < m → Inv i s → L m s i = r
  | 0, m + 1, i, s, hd, hm, hs => by
    have : i = N := by omega
    subst this
    exact hend m s hs
  | d + 1, m + 1, i, s, hd, hm, hs => by
    rcases hstep m s i (by omega) hs with h | ⟨s', h1, h2⟩
    · exact h
    · rw [h2]; exact Udf L hend hstep d m (i + 1) s' (by omega) (by omega) h1
theorem UrH (n : Nat) (hn : 10 ^ 400 ≤ n) (k0 : Bool → List PV → Bool → List PV → Option R) : p92 n k0 = k0 (sg (0 : Rat).num) (II (0 : Rat).num.natAbs) false (II (0 : Rat).den) := by
  have hN := Uaq hn
  have h1 := fun k => UtL (R := R) n 0 (by decide +kernel) hN k
  have e0 : Lib.itoa 0 = [48] := by decide +kernel
  have e1 : IntKind.i64.wrap (0 + 1) = 1 := by decide
  have e2 : (sg 0, II (0 : Int).natAbs, II 1) = (sg (0 : Rat).num, II (0 : Rat).num.natAbs, II (0 : Rat).den) := rfl
  simp only [Prod.mk.injEq] at e2
  rw [e0] at h1
  unfold p92 UHo
  simp only [Uak, e1]
  rw [show Je5 0 1 (⟨#[48, 49, 50, 51, 52, 53, 54, 55, 56, 57]⟩ : ByteArray).size = true from rfl, UaP]
  have h1' : ∀ k : Bool → List PV → Option R, Uv8 n (ByteArray.extract (⟨#[48, 49, 50, 51, 52, 53, 54, 55, 56, 57]⟩ : ByteArray) (0 : Int).toNat (1 : Int).toNat) k = k (sg 0) (II (0 : Int).natAbs) := h1
  rw [h1']
  unfold UtP Uv7 p77 UtP
  rw [← UnD, Uas, show ll (0 : Int).natAbs = 0 from Ubq]
  rw [e2.1, e2.2.1, e2.2.2]
  rfl
theorem UH7 (l : List Rat) (q : Rat) : qs l ++ [.agg [.v (.bool (sg q.num)), .sh (II q.num.natAbs), .v (.bool false), .sh (II q.den)]] = qs (l ++ [q]) := UEs l q
theorem UiF (n : Nat) (hn : 10 ^ 400 ≤ n) (c : Nat) (hc : c ≤ 2048) (k0 : List PV → Bool → List PV → Bool → List PV → Option R) :
    p67 n (c : Int) k0 = k0 (qs (List.replicate c 0)) (sg (0 : Rat).num) (II (0 : Rat).num.natAbs) false (II (0 : Rat).den) := by
  have hN := Uaq hn
  have h0 := fun k => UrH (R := R) n hn k
  unfold p67 Uws
  rw [h0]
  refine Udf (R := R) (N := c) (Inv := fun i d => d = List.replicate i 0)
    (fun m d i => UdO n m (c : Int) false false (qs d) (sg (0 : Rat).num) (II (0 : Rat).num.natAbs) false (II (0 : Rat).den) (i : Int) (fun y6 y7 y8 y9 y10 y11 y12 => k0 y8 y9 y10 y11 y12))
    (fun m d hd => ?_) (fun m d i hi hd => ?_) c n 0 [] (by omega) (by omega) rfl
  · subst hd
    simp only [UdO, UhW]
    simp (disch := (first | omega | (simp only [JlE]; omega))) only [↓JlH, JlF]
  · subst hd
    refine .inr ⟨List.replicate i 0 ++ [0], by rw [List.replicate_succ'], ?_⟩
    simp only [UdO, UhW]
    simp (disch := (first | omega | (simp only [JlE]; omega))) only [↓JlH, JlF, h0, UaE, List.length_replicate, i1, UH7]
theorem Uja (n : Nat) (hn : 10 ^ 400 ≤ n) {q : Rat} (hq : fits q) (k0 : Bool → List PV → Bool → List PV → Option R) : p69 n (bs (Uag q)) k0 = k0 (sg q.num) (II q.num.natAbs) false (II q.den) := by
  unfold p69
  rw [Um3 n hn q hq]; rfl
theorem UrK (n : Nat) (q : Rat) (k0 : Bool → Option R) : p71 n (sg q.num) (II q.num.natAbs) false (II q.den) k0 = k0 (!decide (ll q.num.natAbs ≤ 400 ∧ ll q.den ≤ 400)) := by
  unfold p71 UFj
  rw [Uas, Uas]
  by_cases h1 : ll q.num.natAbs ≤ 400
  · have e1 : decide (((ll q.num.natAbs : Nat) : Int) > 400) = false := by simp; omega
    by_cases h2 : ll q.den ≤ 400
    · have e2 : decide (((ll q.den : Nat) : Int) > 400) = false := by simp; omega
      rw [e1, e2, decide_eq_true ⟨h1, h2⟩]; rfl
    · have e2 : decide (((ll q.den : Nat) : Int) > 400) = true := by simp; omega
      rw [e1, e2, decide_eq_false (p := ll q.num.natAbs ≤ 400 ∧ ll q.den ≤ 400) (fun h => h2 h.2)]; rfl
  · have e1 : decide (((ll q.num.natAbs : Nat) : Int) > 400) = true := by simp; omega
    rw [e1, decide_eq_false (p := ll q.num.natAbs ≤ 400 ∧ ll q.den ≤ 400) (fun h => h1 h.1)]; rfl
theorem UrM (n : Nat) {q : Rat} (h : fits q) (k0 : Bool → Option R) : p71 n (sg q.num) (II q.num.natAbs) false (II q.den) k0 = k0 false := by
  rw [UrK, decide_eq_true (Ucx.1 h)]; rfl
theorem UrL (n : Nat) {q : Rat} (h : ¬ fits q) (k0 : Bool → Option R) : p71 n (sg q.num) (II q.num.natAbs) false (II q.den) k0 = k0 true := by
  rw [UrK, decide_eq_false (fun q => h (Ucx.2 q))]; rfl
theorem Uup (n : Nat) (q : Rat) (k0 : Bool → Option R) : p72 n (sg q.num) (II q.num.natAbs) false (II q.den) k0 = k0 (decide (q = 0)) := by
  unfold p72 p77
  rw [Uas]
  congr 1
  rw [Bool.eq_iff_iff, beq_iff_eq, decide_eq_true_iff, ← Rat.num_eq_zero]
  have := Ucr (a := q.num.natAbs)
  omega
theorem Uib (n : Nat) (q : Rat) (k0 : Int → Option R) : p34 n (sg q.num) (II q.num.natAbs) false (II q.den) k0 = k0 (if q = 0 then 0 else if q < 0 then -1 else 1) := by
  unfold p34 p77
  rw [Uas]
  by_cases h : q = 0
  · subst h
    rw [if_pos rfl, show ll (0 : Rat).num.natAbs = 0 from Ubq]; rfl
  · have e : (((ll q.num.natAbs : Nat) : Int) == 0) = false := by
      have := Ucr (a := q.num.natAbs)
      have h' := fun h0 => h (Rat.num_eq_zero.1 h0)
      have h3 : q.num.natAbs ≠ 0 := fun h0 => h' (Int.natAbs_eq_zero.1 h0)
      have h4 : ll q.num.natAbs ≠ 0 := fun h0 => h3 (this.1 h0)
      have hh : ((ll q.num.natAbs : Nat) : Int) ≠ 0 := by omega
      exact beq_eq_false_iff_ne.2 hh
    rw [e, if_neg h]
    have h2 : sg q.num = decide (q < 0) := by
      unfold sg
      rw [Bool.eq_iff_iff, decide_eq_true_iff, decide_eq_true_iff, ← Int.not_le, Rat.num_nonneg, Rat.not_le]
    rw [h2]
    by_cases h3 : q < 0
    · rw [decide_eq_true h3, if_pos h3]; rfl
    · rw [decide_eq_false h3, if_neg h3]; rfl
def hiC (s : List SpT) : Nat := s.foldl (fun c t => max c (t.1 + 1)) 0
theorem Ufs : ∀ (s : List SpT) (c : Nat), c ≤ s.foldl (fun c t => max c (t.1 + 1)) c ∧ (∀ t ∈ s, t.1 < s.foldl (fun c t => max c (t.1 + 1)) c) ∧ ∀ b, c ≤ b → (∀ t ∈ s, t.1 < b) → s.foldl (fun c t => max c (t.1 + 1)) c ≤ b
  | [], c => ⟨Nat.le_refl _, (by intro t h; cases h), fun b h _ => h⟩
  | t :: s, c => by
    obtain ⟨h1, h2, h3⟩ := Ufs s (max c (t.1 + 1))
    rw [List.foldl_cons]
    refine ⟨by omega, fun x hx => ?_, fun b hb hx => h3 b ?_ fun y hy => hx y (List.mem_cons_of_mem _ hy)⟩
    · rcases List.mem_cons.1 hx with rfl | hx
      · omega
      · exact h2 x hx
    · have := hx t (List.mem_cons_self ..)
      omega
theorem UvS {s : List SpT} : ∀ t ∈ s, t.1 < hiC s := (Ufs s 0).2.1
theorem UvR {s : List SpT} {b : Nat} (h : ∀ t ∈ s, t.1 < b) : hiC s ≤ b := (Ufs s 0).2.2 b (Nat.zero_le _) h
theorem Uzb (c t : Nat) : JkU (c : Int) ((t + 1 : Nat) : Int) = ((max c (t + 1) : Nat) : Int) := by
  unfold JkU
  split <;> omega
def okC (s : List SpT) : Prop := ∀ t ∈ s, fits t.2 ∧ t.1 < 2048
noncomputable def UAd (c : Rat) (k0 : List PV → Bool → List PV → Bool → List PV → Int → Option R) : Option (List Rat) → Option R
  | none => k0 [] false [] false [] 5
  | some d => k0 (qs d) (sg c.num) (II c.num.natAbs) false (II c.den) 0
noncomputable def rdD (s : List SpT) : Option (List Rat) := UaM rdT (List.replicate (hiC s) 0) s
theorem UEu (n : Nat) (hn : 10 ^ 1000 ≤ n) {s : List SpT} (hs : okC s) (hl : s.length < 2 ^ 17) (c : Rat) (k0 : List PV → Bool → List PV → Bool → List PV → Int → Option R) :
    UcC n (tms (vt s)) false false (qs (List.replicate (hiC s) 0)) (sg c.num) (II c.num.natAbs) false (II c.den) 0 (fun y39 y40 y41 y42 y43 y44 y45 y46 y47 y48 y49 => k0 y39 y40 y41 y42 y43 y44) (fun y50 y51 y52 y53 y54 y55 y56 => k0 y52 y53 y54 y55 y56 0) = UAd c k0 (rdD s) := by
  have hN := Uaq (UaR hn)
  have H := Udg (R := R) (l := s) (step := rdT) (kerr := k0 [] false [] false [] 5) (kend := fun d => k0 (qs d) (sg c.num) (II c.num.natAbs) false (II c.den) 0) (Inv := fun i d => d.length = hiC s ∧ ∀ x ∈ d, fits x)
    (fun m d i => Ucd n m (tms (vt s)) false false (qs d) (sg c.num) (II c.num.natAbs) false (II c.den) (i : Int) (fun y39 y40 y41 y42 y43 y44 y45 y46 y47 y48 y49 => k0 y39 y40 y41 y42 y43 y44) (fun y50 y51 y52 y53 y54 y55 y56 => k0 y52 y53 y54 y55 y56 0))
    (fun m d hd => by
      simp only [Ucd, Ue3]
      simp (disch := (first | omega | (simp only [JlE]; omega))) only [↓JlH, JlF, Ua, Uau])
    (fun d d' i hi hd he => by
      unfold rdT at he
      split at he
      · rename_i hf
        simp only [Option.some.injEq] at he
        subst he
        refine ⟨by rw [List.length_set]; exact hd.1, fun x hx => ?_⟩
        rcases List.mem_or_eq_of_mem_set hx with h | h
        · exact hd.2 x h
        · rw [h]; exact hf
      · cases he)
    (fun m d i hi hd => by
      have ht := hs _ (List.getElem_mem hi)
      have hti := UvS _ (List.getElem_mem hi)
      rw [← hd.1] at hti
      have g1 := fun k => Uja (R := R) n (UaR hn) ht.1 k
      have hfd : fits (d[(s[i]).1]) := hd.2 _ (List.getElem_mem hti)
      have g2 := fun k => UfK (R := R) n hn (d[(s[i]).1]) (s[i]).2 hfd ht.1 k
      have eg : d.getD (s[i]).1 0 = d[(s[i]).1] := by rw [List.getD_eq_getElem?_getD, List.getElem?_eq_getElem hti]; rfl
      have hti' : (s[i]).1 < (d.set (s[i]).1 (d[(s[i]).1] + (s[i]).2)).length := by rw [List.length_set]; exact hti
      have hin1 : inR ((s[i]).1 : Int) d.length = true := Jku (by omega) (by omega)
      simp only [Ucd, Ue3, rdT, eg]
      by_cases hf : fits (d[(s[i]).1] + (s[i]).2)
      · have g3 := fun k => UrM (R := R) n hf k
        rw [if_pos hf]
        simp (disch := (first | omega | (simp only [JlE]; omega))) only [↓JlH, JlF, Ua, Uau, Jji, UaI hi, i1, UaE, hin1, UdY hti, g1, g2, UmZ, List.length_set, UdY hti', List.getElem_set_self, g3]
        rfl
      · have g3 := fun k => UrL (R := R) n hf k
        rw [if_neg hf]
        simp (disch := (first | omega | (simp only [JlE]; omega))) only [↓JlH, JlF, Ua, Uau, Jji, UaI hi, i1, UaE, hin1, UdY hti, g1, g2, UmZ, List.length_set, UdY hti', List.getElem_set_self, g3]
        rfl) s.length n 0 (List.replicate (hiC s) 0) (by omega) (by omega) ⟨List.length_replicate .., fun x hx => by rw [(List.mem_replicate.1 hx).2]; exact Uey⟩
  rw [List.drop_zero] at H
  unfold UcC
  refine Eq.trans H ?_
  unfold rdD
  cases UaM rdT (List.replicate (hiC s) 0) s <;> rfl
theorem UEC {l : List TermT} (h1 : aQ l = true) (h2 : aC l = true) : okC (spL l) ∧ l = vt (spL l) := by
  unfold aQ at h1
  unfold aC at h2
  rw [List.all_eq_true] at h1 h2
  refine ⟨fun t ht => ?_, ?_⟩
  · obtain ⟨x, hx, rfl⟩ := List.mem_map.1 ht
    have a := UsF (h1 x hx)
    have b := h2 x hx
    unfold inC at b
    simp only [Bool.and_eq_true, decide_eq_true_iff] at b
    exact ⟨a.1, by show x.1.toNat < 2048; omega⟩
  · unfold vt spL
    rw [List.map_map]
    conv => lhs; rw [← List.map_id l]
    refine List.map_congr_left fun x hx => ?_
    have a := UsF (h1 x hx)
    have b := h2 x hx
    unfold inC at b
    simp only [Bool.and_eq_true, decide_eq_true_iff] at b
    simp only [Function.comp, id_eq]
    refine Prod.ext ?_ a.2
    show x.1 = ((x.1.toNat : Nat) : Int)
    omega
theorem UAn (l : List TermT) : (spL l).length = l.length := by unfold spL; rw [List.length_map]
noncomputable def Uuk (l : List TermT) (c : List UInt8) (k0 : List PV → Bool → List PV → Bool → List PV → Int → Option R) : Option R :=
  if qb c = true then (if aQ l = true then (if aC l = true then UAd (rq c) k0 (rdD (spL l)) else k0 [] false [] false [] 2) else k0 [] false [] false [] 3) else k0 [] false [] false [] 3
theorem UAi (n : Nat) (hn : 10 ^ 1000 ≤ n) (l : List TermT) (c : List UInt8) (hl : smT l) (hc : c.length < 2 ^ 17) (k0 : List PV → Bool → List PV → Bool → List PV → Int → Option R) :
    p46 n (bs c) (tms l) k0 = Uuk l c k0 := by
  have hN := Uaq (UaR hn)
  have hL := hl.1
  unfold p46 Uuk
  rw [Ude n (UaR hn) c hc]
  cases hqc : qb c with
  | false => rfl
  | true =>
    rw [if_pos rfl, Bool.not_true, Uak]
    have H4 := Uan (R := R) (l := l) (ok := fun t => qb t.2) (kbad := k0 [] false [] false [] 3) (kend := UhN n (bs c) (tms l) false false 0 0 (fun y16 y17 y18 y19 y20 y21 y22 y23 y24 => k0 y18 y19 y20 y21 y22 y23) (fun y25 y26 y27 y28 y29 => p67 n y29 (fun y30 y31 y32 y33 y34 => p69 n y25 (fun y35 y36 y37 y38 => UcC n y26 y27 y28 y30 y35 y36 y37 y38 0 (fun y39 y40 y41 y42 y43 y44 y45 y46 y47 y48 y49 => k0 y39 y40 y41 y42 y43 y44) (fun y50 y51 y52 y53 y54 y55 y56 => k0 y52 y53 y54 y55 y56 0)))))
      (fun m i => UdI n m (bs c) (tms l) false false (i : Int) (fun y4 y5 y6 y7 y8 y9 y10 y11 => k0 y6 y7 y8 y9 y10 y11) (fun y12 y13 y14 y15 => UhN n y12 y13 y14 y15 0 0 (fun y16 y17 y18 y19 y20 y21 y22 y23 y24 => k0 y18 y19 y20 y21 y22 y23) (fun y25 y26 y27 y28 y29 => p67 n y29 (fun y30 y31 y32 y33 y34 => p69 n y25 (fun y35 y36 y37 y38 => UcC n y26 y27 y28 y30 y35 y36 y37 y38 0 (fun y39 y40 y41 y42 y43 y44 y45 y46 y47 y48 y49 => k0 y39 y40 y41 y42 y43 y44) (fun y50 y51 y52 y53 y54 y55 y56 => k0 y52 y53 y54 y55 y56 0))))))
      (fun m => by simp only [UdI, UhO]; simp (disch := (first | omega | (simp only [JlE]; omega))) only [↓JlH, JlF, Ua])
      (fun m i hi => by
        have hv := fun k => Ude (R := R) n (UaR hn) (l[i]).2 (hl.2 _ (List.getElem_mem hi)) k
        simp only [UdI, UhO]
        simp (disch := (first | omega | (simp only [JlE]; omega))) only [↓JlH, JlF, Ua, Jji, Uat hi, i1, hv]
        cases qb (l[i]).2 <;> rfl) l.length n 0 (by omega) (by omega)
    rw [List.drop_zero] at H4
    unfold Uwm
    refine Eq.trans H4 ?_
    cases haq : aQ l with
    | false =>
      have e : (l.all fun t => qb t.2) = false := haq
      rw [e]; rfl
    | true =>
      have e : (l.all fun t => qb t.2) = true := haq
      rw [e, if_pos rfl, if_pos rfl]
      have H10 := UfM (R := R) (l := l) (step := fun (cc : Nat) (t : TermT) K => if inC t.1 = true then K (max cc (t.1.toNat + 1)) else k0 [] false [] false [] 2)
        (kend := fun cc => p67 n (cc : Int) (fun y30 y31 y32 y33 y34 => p69 n (bs c) (fun y35 y36 y37 y38 => UcC n (tms l) false false y30 y35 y36 y37 y38 0 (fun y39 y40 y41 y42 y43 y44 y45 y46 y47 y48 y49 => k0 y39 y40 y41 y42 y43 y44) (fun y50 y51 y52 y53 y54 y55 y56 => k0 y52 y53 y54 y55 y56 0))))
        (fun m cc i => Ucc n m (bs c) (tms l) false false (cc : Int) (i : Int) (fun y16 y17 y18 y19 y20 y21 y22 y23 y24 => k0 y18 y19 y20 y21 y22 y23) (fun y25 y26 y27 y28 y29 => p67 n y29 (fun y30 y31 y32 y33 y34 => p69 n y25 (fun y35 y36 y37 y38 => UcC n y26 y27 y28 y30 y35 y36 y37 y38 0 (fun y39 y40 y41 y42 y43 y44 y45 y46 y47 y48 y49 => k0 y39 y40 y41 y42 y43 y44) (fun y50 y51 y52 y53 y54 y55 y56 => k0 y52 y53 y54 y55 y56 0)))))
        (fun m cc => by simp only [Ucc, Ue2]; simp (disch := (first | omega | (simp only [JlE]; omega))) only [↓JlH, JlF, Ua])
        (fun m cc i hi => by
          simp only [Ucc, Ue2, inC]
          by_cases h1 : (l[i]).1 < 0
          · have e1 : ¬ 0 ≤ (l[i]).1 := by omega
            simp (disch := (first | omega | (simp only [JlE]; omega))) only [↓JlH, JlF, Ua, Jji, Uat hi, i1]
            simp [e1]
          · by_cases h2 : (l[i]).1 ≥ 2048
            · have e1 : ¬ (l[i]).1 < 2048 := by omega
              simp (disch := (first | omega | (simp only [JlE]; omega))) only [↓JlH, JlF, Ua, Jji, Uat hi, i1] <;> simp [e1]
            · have e1 : (l[i]).1 < 2048 := by omega
              have e2 : 0 ≤ (l[i]).1 := by omega
              obtain ⟨a, ha⟩ : ∃ a : Nat, (l[i]).1 = (a : Int) := ⟨(l[i]).1.toNat, by omega⟩
              rw [ha] at h1 h2 e1 e2
              simp (disch := (first | omega | (simp only [JlE]; omega))) only [↓JlH, JlF, Ua, Jji, Uat hi, i1, ha, Uzb] <;> simp [e1, e2]) l.length n 0 0 (by omega) (by omega)
      rw [List.drop_zero] at H10
      unfold UhN
      refine Eq.trans H10 ?_
      have key : ∀ (kend : Nat → Option R) (r : List TermT) (cc : Nat), UwB (fun (cc : Nat) (t : TermT) K => if inC t.1 = true then K (max cc (t.1.toNat + 1)) else k0 [] false [] false [] 2) kend cc r =
          if aC r = true then kend ((spL r).foldl (fun c t => max c (t.1 + 1)) cc) else k0 [] false [] false [] 2 := by
        intro kend r
        induction r with
        | nil => intro cc; rfl
        | cons t r ih =>
          intro cc
          simp only [UwB, aC, List.all_cons] at ih ⊢
          rcases Bool.eq_false_or_eq_true (inC t.1) with h | h
          · have e9 : (inC t.1 && r.all fun t => inC t.1) = (r.all fun t => inC t.1) := by rw [h, Bool.true_and]
            simp only [if_pos h, ih, e9]
            rfl
          · simp [h]
      rw [key]
      cases hac : aC l with
      | false => rfl
      | true =>
        rw [if_pos rfl, if_pos rfl]
        obtain ⟨o1, o2⟩ := UEC haq hac
        have o3 := UsF hqc
        have ez := UiF (R := R) n (UaR hn) (hiC (spL l)) (UvR fun t ht => (o1 t ht).2)
        have eo := fun k => Uja (R := R) n (UaR hn) o3.1 k
        rw [← o3.2] at eo
        show p67 n ((hiC (spL l) : Nat) : Int) _ = _
        rw [ez]
        simp only [eo]
        have e18 := UEu (R := R) n hn o1 (by rw [UAn]; exact hL) (rq c) k0
        rw [← o2] at e18
        exact e18
end Go.Proofs.YtmgfmlhdnadglaaGreatDoor
set_option linter.unusedVariables false
set_option maxRecDepth 100000
namespace Go.Proofs.YtmgfmlhdnadglaaGreatDoor
open Go Th Go.Proofs
noncomputable section
variable {R : Type}
def UgS : Ann := { loops := [(2, ids [1, 2, 5], ids [4])], cuts := [], frz := [], rm := [.id] }
abbrev Uyn (n : Nat) : Env := eC 69 (UE3 n) (eC 34 (UF5 n) eN)
theorem UpJ (n : Nat) : EnvOK Tryz.prog GI (Uyn n) := .cons (.cons (.nil) (UKA n)) (UHi n)
def UhK (n : Nat) (l0 : LP → Int → LP → Int → O R) (x1 : LP) (x2 : Int) (x3 : LP) (x4 : Int) (k0 : Bool → O R) (k1 : O R) : O R :=
  bif (decide (x4 < ((x1).length : Int))) then (bif (inR x4 ((x3).length)) then (Jh2 ((x3).getD ((x4 : Int).toNat) (.v (.bool false))) fun a5 => JdT a5 fun h6 t7 => Jkr h6 fun e8 => JdT t7 fun h9 t10 => Jj3 h9 fun e11 => JdT t10 fun h12 t13 => Jj2 h12 fun e14 => JdT t13 fun h15 t16 => Jj .i64 h15 fun e17 => Ji2 t16 (bif (!e14) then (bif (inR x4 ((x1).length)) then (Jj3 ((x1).getD ((x4 : Int).toNat) (.v (.bool false))) fun e18 => p69 n e18 (fun y19 y20 y21 y22 => p34 n y19 y20 y21 y22 (fun y23 => bif (bif true then (decide (y23 < 0)) else false) then (k0 false) else (l0 x1 x2 x3 (IntKind.i64.wrap (x4 + 1)))))) else none) else (l0 x1 x2 x3 (IntKind.i64.wrap (x4 + 1))))) else none) else (k1)
def UdG (n : Nat) : Nat → LP → Int → LP → Int → (Bool → O R) → (O R) → O R
  | 0, _, _, _, _, _, _ => none
  | m + 1, x1, x2, x3, x4, k0, k1 => UhK n (fun x1 x2 x3 x4 => UdG n m x1 x2 x3 x4 k0 k1) x1 x2 x3 x4 k0 k1
def Uwi (n : Nat) (x1 : LP) (x2 : Int) (x3 : LP) (x4 : Int) (k0 : Bool → O R) (k1 : O R) : O R := UdG n n x1 x2 x3 x4 k0 k1
def p33 (n : Nat) (x1 : Int) (x2 x3 : LP) (k0 : Bool → O R) : O R :=
  Uwi n x3 x1 x2 0 (fun y4 => k0 y4) (k0 true)
abbrev E33 (n : Nat) : Code → Fr → Kc R → O R := evC Tryz.prog (Uyn n) UgS n (28, [])
noncomputable def UuO : Code := Jj4 (Jll Tryz.f33) [1, 0, 1, 0, 0]
abbrev Ugo : Sl (List SV) := (cH (.c (sBx 24 (cI (cH .n))) (cI .n)))
abbrev Uq8 (n m : Nat) (K : Kc R) : Ugo.T (O R) := fun x1 x2 x3 x4 => UdG n m x1 x2 x3 x4 (fun y1 => xL UgS 2 K .ret [vB y1]) (xL UgS 2 K (.exit 0) [dD])
abbrev UA0 (n : Nat) (K : Kc R) (l0 : Ugo.T (O R)) : Ugo.T (O R) := fun x1 x2 x3 x4 => UhK n l0 x1 x2 x3 x4 (fun y1 => xL UgS 2 K .ret [vB y1]) (xL UgS 2 K (.exit 0) [dD])
abbrev UKh (n : Nat) : Orc R := oL UgS (E33 n) n 2 UuO Ugo (Uq8 n n) oN
abbrev UI7 (n : Nat) : Orc R := oN
abbrev K33 (R : Type) (n : Nat) := JcH (R := R) Tryz.prog (Uyn n) UgS n (28, []) (UKh n) (UI7 n)
theorem UDW (n : Nat) : K33 R n (false, 2, UuO) := JkF (lo := UKh n) (cu := UI7 n) (pO pN (by kernel_rfl)) Ugo (Uq8 n n) (JiE (F := Uq8 n) Ugo (UA0 n) (fun K _ _ _ _ => rfl) (fun _ _ => rfl) (fun L K _ _ _ _ => by show _ = _; kernel_rfl) n) fun _ _ => rfl
theorem UND (n : Nat) : Je6 (K33 R n) (JaJ UgS (Jll Tryz.f33)) := pO (pC (UDW n) pN) (by kernel_rfl)
abbrev t33 : Sl (List SV) := (.c (sP (JlI (.c (Jlv .i64) (.c sSh .n)))) (cH .n))
abbrev f33 (n : Nat) (K : List SV → O R) : t33.T (O R) := fun x1 x2 x3 => p33 n x1 x2 x3 (fun y1 => K [vB y1])
abbrev UJI (n : Nat) : FS := fT [false, false] t33 (f33 n)
theorem UMQ (n : Nat) : FSound Tryz.prog GI 33 (UJI n) := gd UgS n (UpJ n) Tryz.func33 (.cons (UpJ n) t33 (f33 n) (fun K _ _ _ => (Jkq (c := Jll Tryz.f33) (by kernel_rfl) (UND n) K).trans (by kernel_rfl)) .nil) (by kernel_rfl)
def Ufg : Ann := { loops := [(7, ids [5, 7], ids [4])], cuts := [(6, ids [5], ids [4])], frz := [], rm := [.id] }
abbrev Uye (n : Nat) : Env := eC 34 (UF5 n) (eC 33 (UJI n) (eC 24 (UJD n) eN))
theorem Upt (n : Nat) : EnvOK Tryz.prog GI (Uye n) := .cons (.cons (.cons (.nil) (UML n)) (UMQ n)) (UKA n)
def Uhv (n : Nat) (l0 : LP → Bool → LP → Bool → LP → Int → O R) (x1 : LP) (x2 : Bool) (x3 : LP) (x4 : Bool) (x5 : LP) (x6 : Int) (k0 : Int → O R) (k1 : O R) : O R :=
  bif (decide (x6 < ((x1).length : Int))) then (bif (inR x6 ((x1).length)) then (Jh2 ((x1).getD ((x6 : Int).toNat) (.v (.bool false))) fun a7 => JdT a7 fun h8 t9 => Jj2 h8 fun e10 => JdT t9 fun h11 t12 => Jkr h11 fun e13 => JdT t12 fun h14 t15 => Jj2 h14 fun e16 => JdT t15 fun h17 t18 => Jkr h17 fun e19 => Ji2 t18 (p34 n e10 e13 e16 e19 (fun y20 => bif (decide (y20 > 0)) then (k0 16) else (l0 x1 x2 x3 x4 x5 (IntKind.i64.wrap (x6 + 1)))))) else none) else (k1)
def Udw (n : Nat) : Nat → LP → Bool → LP → Bool → LP → Int → (Int → O R) → (O R) → O R
  | 0, _, _, _, _, _, _, _, _ => none
  | m + 1, x1, x2, x3, x4, x5, x6, k0, k1 => Uhv n (fun x1 x2 x3 x4 x5 x6 => Udw n m x1 x2 x3 x4 x5 x6 k0 k1) x1 x2 x3 x4 x5 x6 k0 k1
def Uv9 (n : Nat) (x1 : LP) (x2 : Bool) (x3 : LP) (x4 : Bool) (x5 : LP) (x6 : Int) (k0 : Int → O R) (k1 : O R) : O R := Udw n n x1 x2 x3 x4 x5 x6 k0 k1
def Usa (n : Nat) (x1 : LP) (x2 : Bool) (x3 : LP) (x4 : Bool) (x5 : LP) (k0 : Int → O R) : O R :=
  Uv9 n x1 x2 x3 x4 x5 0 (fun y6 => k0 y6) (k0 0)
def p13 (n : Nat) (x1 : Int) (x2 x3 : LP) (k0 : Int → O R) : O R :=
  p24 n x1 x2 x3 (fun y4 y5 y6 y7 y8 y9 => bif (y9 != 0) then (k0 y9) else (p33 n x1 x2 x3 (fun y10 => bif (!y10) then (k0 16) else (p34 n y5 y6 y7 y8 (fun y11 => bif (bif false then true else (decide (y11 ≥ 0))) then (k0 16) else (Usa n y4 y5 y6 y7 y8 (fun y12 => k0 y12)))))))
abbrev E13 (n : Nat) : Code → Fr → Kc R → O R := evC Tryz.prog (Uye n) Ufg n (41, [])
noncomputable def UuA : Code := Jj4 (Jll Tryz.f13) [1, 1, 1, 1]
abbrev UsN : Sl (List SV) := (.c (sBx 59 (cH (cB (cH (cB (cH .n)))))) .n)
abbrev UvB (n : Nat) (K : Kc R) : UsN.T (O R) := fun x1 x2 x3 x4 x5 => Usa n x1 x2 x3 x4 x5 (fun y1 => xC Ufg 6 K .ret [vI y1])
noncomputable def UuB : Code := Jj4 (Jll Tryz.f13) [1, 1, 1, 1, 0, 1, 0, 0]
abbrev Ugg : Sl (List SV) := (.c (sBx 59 (cH (cB (cH (cB (cH .n)))))) (cI .n))
abbrev UqQ (n m : Nat) (K : Kc R) : Ugg.T (O R) := fun x1 x2 x3 x4 x5 x6 => Udw n m x1 x2 x3 x4 x5 x6 (fun y1 => xL Ufg 7 K .ret [vI y1]) (xL Ufg 7 K (.exit 0) [dD])
abbrev UAS (n : Nat) (K : Kc R) (l0 : Ugg.T (O R)) : Ugg.T (O R) := fun x1 x2 x3 x4 x5 x6 => Uhv n l0 x1 x2 x3 x4 x5 x6 (fun y1 => xL Ufg 7 K .ret [vI y1]) (xL Ufg 7 K (.exit 0) [dD])
abbrev UGw (n : Nat) : Orc R := oL Ufg (E13 n) n 7 UuB Ugg (UqQ n n) oN
abbrev UFM (n : Nat) : Orc R := oC Ufg (E13 n) 6 UuA UsN (UvB n) oN
abbrev K13 (R : Type) (n : Nat) := JcH (R := R) Tryz.prog (Uye n) Ufg n (41, []) (UGw n) (UFM n)
theorem UDF (n : Nat) : K13 R n (false, 7, UuB) := JkF (lo := UGw n) (cu := UFM n) (pO pN (by kernel_rfl)) Ugg (UqQ n n) (JiE (F := UqQ n) Ugg (UAS n) (fun K _ _ _ _ _ _ => rfl) (fun _ _ => rfl) (fun L K _ _ _ _ _ _ => by show _ = _; kernel_rfl) n) fun _ _ => rfl
theorem UDE (n : Nat) : K13 R n (true, 6, UuA) := JkW (lo := UGw n) (cu := UFM n) (pO (pC (UDF n) pN) (by kernel_rfl)) UsN (UvB n) (fun K _ _ _ _ _ => by show _ = _; kernel_rfl) fun _ _ => rfl
theorem UNn (n : Nat) : Je6 (K13 R n) (JaJ Ufg (Jll Tryz.f13)) := pO (pC (UDE n) pN) (by kernel_rfl)
abbrev t13 : Sl (List SV) := (.c (sP (JlI (.c (Jlv .i64) (.c sSh .n)))) (cH .n))
abbrev f13 (n : Nat) (K : List SV → O R) : t13.T (O R) := fun x1 x2 x3 => p13 n x1 x2 x3 (fun y1 => K [vI y1])
abbrev UJy (n : Nat) : FS := fT [false, false] t13 (f13 n)
theorem UMG (n : Nat) : FSound Tryz.prog GI 13 (UJy n) := gd Ufg n (Upt n) Tryz.func13 (.cons (Upt n) t13 (f13 n) (fun K _ _ _ => (Jkq (c := Jll Tryz.f13) (by kernel_rfl) (UNn n) K).trans (by kernel_rfl)) .nil) (by kernel_rfl)
end
end Go.Proofs.YtmgfmlhdnadglaaGreatDoor
set_option linter.unusedVariables false
set_option linter.unusedSimpArgs false
namespace Go.Proofs.YtmgfmlhdnadglaaGreatDoor
open Go Th Go.Proofs
variable {R : Type}
theorem Udq {d : List Rat} {i : Nat} (h : i < d.length) : d.getD i 0 = d[i] := by rw [List.getD_eq_getElem?_getD, List.getElem?_eq_getElem h]; rfl
theorem UmC {d : List Rat} {i : Nat} (h : d.length ≤ i) : d.getD i 0 = 0 := by rw [List.getD_eq_getElem?_getD, List.getElem?_eq_none h]; rfl
theorem Umc {a b : List Rat} (h : a.length = b.length) (hi : ∀ i, i < a.length → a.getD i 0 = b.getD i 0) : a = b := by
  refine List.ext_getElem h fun i h1 h2 => ?_
  have := hi i h1
  rwa [Udq h1, Udq h2] at this
theorem UoV (n : Nat) (hn : 10 ^ 400 ≤ n) (d : List Rat) (i : Nat) (x2 : Bool) (x3 : List PV) (x4 : Bool) (x5 : List PV) (k0 : Bool → List PV → Bool → List PV → Option R) :
    p47 n (qs d) x2 x3 x4 x5 (i : Int) k0 = k0 (sg (d.getD i 0).num) (II (d.getD i 0).num.natAbs) false (II (d.getD i 0).den) := by
  have h0 := fun k => UrH (R := R) n hn k
  unfold p47
  by_cases hi : i < d.length
  · rw [Udq hi]
    simp (disch := (first | omega | (simp only [JlE]; omega))) only [↓JlH, JlF, UaE, Jji, UdY hi]
  · rw [UmC (by omega)]
    simp (disch := (first | omega | (simp only [JlE]; omega))) only [↓JlH, JlF, UaE, h0]
theorem UsJ (n : Nat) (hn : 10 ^ 1000 ≤ n) {d : DnR} (hd : UaS d) (hl : d.1.length ≤ 2048) {q : Rat} (hq : fits q) (k0 : List PV → Bool → List PV → Bool → List PV → Option R) :
    p68 n (qs d.1) (sg d.2.num) (II d.2.num.natAbs) false (II d.2.den) (sg q.num) (II q.num.natAbs) false (II q.den) k0 =
      k0 (qs (scD q d).1) (sg (scD q d).2.num) (II (scD q d).2.num.natAbs) false (II (scD q d).2.den) := by
  have hN := Uaq (UaR hn)
  have ez := UiF (R := R) n (UaR hn) d.1.length hl
  unfold p68
  rw [UaE, ez]
  unfold Uwt
  refine Udf (R := R) (N := d.1.length) (Inv := fun i e => e.length = d.1.length ∧ ∀ j, j < i → e.getD j 0 = d.1.getD j 0 * q)
    (fun m e i => UdP n m (qs d.1) (sg d.2.num) (II d.2.num.natAbs) false (II d.2.den) (sg q.num) (II q.num.natAbs) false (II q.den) false false (qs e) (sg (0 : Rat).num) (II (0 : Rat).num.natAbs) false (II (0 : Rat).den) (i : Int)
      (fun y15 y16 y17 y18 y19 y20 y21 y22 y23 y24 y25 y26 y27 y28 y29 y30 => UAE n y16 y17 y18 y19 y20 y21 y22 y23 (fun y31 y32 y33 y34 => k0 y26 y31 y32 y33 y34)))
    (fun m e he => ?_) (fun m e i hi he => ?_) d.1.length n 0 (List.replicate d.1.length 0) (by omega) (by omega) ⟨List.length_replicate .., fun j hj => by omega⟩
  · have ee : e = (scD q d).1 := Umc (by show _ = (d.1.map _).length; rw [List.length_map]; exact he.1) fun j hj => by rw [Uf]; exact he.2 j (by rw [← he.1]; exact hj)
    have g1 := fun k => Uj (R := R) n hn d.2 q hd.2 hq k
    have hel := he.1
    simp only [UdP, UhX]
    simp (disch := (first | omega | (simp only [JlE]; omega))) only [↓JlH, JlF, UaE, g1]
    rw [ee]; rfl
  · have hfd : fits (d.1[i]) := hd.1 _ (List.getElem_mem hi)
    have g1 := fun k => Uj (R := R) n hn (d.1[i]) q hfd hq k
    have hel := he.1
    have hie : i < e.length := by omega
    refine .inr ⟨e.set i (d.1[i] * q), ⟨by rw [List.length_set]; exact hel, fun j hj => ?_⟩, ?_⟩
    · rw [Uhh _ _ _ _ hie]
      by_cases h : i = j
      · subst h; rw [if_pos rfl, Udq hi]
      · rw [if_neg h]; exact he.2 j (by omega)
    · simp only [UdP, UhX]
      simp (disch := (first | omega | (simp only [JlE]; omega))) only [↓JlH, JlF, UaE, Jji, UdY hi, UdY hie, i1, g1, UmZ]
theorem UwJ (n : Nat) (hn : 10 ^ 1000 ≤ n) {a b : DnR} (ha : UaS a) (hb : UaS b) (hl : a.1.length ≤ 2048) (hl' : b.1.length ≤ 2048) (k0 : List PV → Bool → List PV → Bool → List PV → Option R) :
    p70 n (qs a.1) (sg a.2.num) (II a.2.num.natAbs) false (II a.2.den) (qs b.1) (sg b.2.num) (II b.2.num.natAbs) false (II b.2.den) k0 =
      k0 (qs (adD a b).1) (sg (adD a b).2.num) (II (adD a b).2.num.natAbs) false (II (adD a b).2.den) := by
  have hN := Uaq (UaR hn)
  have ez := UiF (R := R) n (UaR hn) (max a.1.length b.1.length) (by omega)
  have em : JkU (a.1.length : Int) (b.1.length : Int) = ((max a.1.length b.1.length : Nat) : Int) := by unfold JkU; split <;> omega
  have hal : (adD a b).1.length = max a.1.length b.1.length := by show ((List.range _).map _).length = _; rw [List.length_map, List.length_range]
  unfold p70
  simp only [UaE, em, ez]
  unfold Uwu
  refine Udf (R := R) (N := max a.1.length b.1.length) (Inv := fun i e => e.length = max a.1.length b.1.length ∧ ∀ j, j < i → e.getD j 0 = a.1.getD j 0 + b.1.getD j 0)
    (fun m e i => UdQ n m (qs a.1) (sg a.2.num) (II a.2.num.natAbs) false (II a.2.den) (qs b.1) (sg b.2.num) (II b.2.num.natAbs) false (II b.2.den) false false (qs e) (sg (0 : Rat).num) (II (0 : Rat).num.natAbs) false (II (0 : Rat).den) (i : Int) _)
    (fun m e he => ?_) (fun m e i hi he => ?_) (max a.1.length b.1.length) n 0 (List.replicate (max a.1.length b.1.length) 0) (by omega) (by omega) ⟨List.length_replicate .., fun j hj => by omega⟩
  · have ee : e = (adD a b).1 := Umc (by rw [hal]; exact he.1) fun j hj => by rw [UgM]; exact he.2 j (by rw [← he.1]; exact hj)
    have g1 := fun k => UfK (R := R) n hn a.2 b.2 ha.2 hb.2 k
    have hel := he.1
    simp only [UdQ, UhY]
    simp (disch := (first | omega | (simp only [JlE]; omega))) only [↓JlH, JlF, UaE, g1]
    rw [ee]; rfl
  · have hfa : fits (a.1.getD i 0) := (UbL.1 ha).1 i
    have hfb : fits (b.1.getD i 0) := (UbL.1 hb).1 i
    have g1 := fun k => UfK (R := R) n hn (a.1.getD i 0) (b.1.getD i 0) hfa hfb k
    have g2 := fun x2 x3 x4 x5 k => UoV (R := R) n (UaR hn) a.1 i x2 x3 x4 x5 k
    have g3 := fun x2 x3 x4 x5 k => UoV (R := R) n (UaR hn) b.1 i x2 x3 x4 x5 k
    have hel := he.1
    have hie : i < e.length := by omega
    refine .inr ⟨e.set i (a.1.getD i 0 + b.1.getD i 0), ⟨by rw [List.length_set]; exact hel, fun j hj => ?_⟩, ?_⟩
    · rw [Uhh _ _ _ _ hie]
      by_cases h : i = j
      · subst h; rw [if_pos rfl]
      · rw [if_neg h]; exact he.2 j (by omega)
    · simp only [UdQ, UhY]
      simp (disch := (first | omega | (simp only [JlE]; omega))) only [↓JlH, JlF, UaE, Jji, g2, g3, UdY hie, i1, g1, UmZ]
theorem Uk0 : ∀ (a b : List Rat) (k : Nat), wrD k (a ++ b) = wrD k a ++ wrD (k + a.length) b
  | [], b, k => rfl
  | x :: a, b, k => by
    rw [List.cons_append, wrD, wrD, Uk0 a b (k + 1), List.length_cons, show k + 1 + a.length = k + (a.length + 1) from by omega]
    split <;> rfl
theorem Us8 : ∀ (a : List Rat) (k : Nat), (wrD k a).length ≤ a.length
  | [], k => Nat.le_refl _
  | x :: a, k => by
    have := Us8 a (k + 1)
    rw [wrD]
    split <;> simp <;> omega
theorem UfN {d : List Rat} {i : Nat} (h : i < d.length) : d.take (i + 1) = d.take i ++ [d[i]] := by rw [List.take_succ_eq_append_getElem h]
open Classical in
noncomputable def Us7 (k0 : List PV → ByteArray → Int → Option R) (d : DnR) : Option R := if UaS d then k0 (tms (vt (wrD 0 d.1))) (bs (Uag d.2)) 0 else k0 [] (bs []) 5
theorem Una (n : Nat) (hn : 10 ^ 400 ≤ n) (d : DnR) (hl : d.1.length ≤ 2048) (k0 : List PV → ByteArray → Int → Option R) :
    p25 n (qs d.1) (sg d.2.num) (II d.2.num.natAbs) false (II d.2.den) k0 = Us7 k0 d := by
  have hN := Uaq hn
  have txt : ∀ {q : Rat}, fits q → ∀ k : ByteArray → Option R, p73 n (sg q.num) (II q.num.natAbs) false (II q.den) k = k (bs (Uag q)) := fun {q} hq k => by
    obtain ⟨h1, h2⟩ := Ucx.1 hq
    exact Ui6 n q (by omega) (by omega) hN k
  unfold p25 Uwb
  refine Udf (R := R) (N := d.1.length) (Inv := fun i (acc : List SpT) => acc = wrD 0 (d.1.take i) ∧ ∀ x ∈ d.1.take i, fits x)
    (fun m acc i => UbR n m (qs d.1) (sg d.2.num) (II d.2.num.natAbs) false (II d.2.den) (tms (vt acc)) (i : Int) (fun y6 y7 y8 y9 y10 y11 y12 y13 => k0 [] y11 y12) (fun y14 y15 y16 y17 y18 y19 => p71 n y15 y16 y17 y18 (fun y20 => bif y20 then (k0 [] ⟨#[]⟩ 5) else (p73 n y15 y16 y17 y18 (fun y21 => k0 y19 y21 0)))))
    (fun m acc ha => ?_) (fun m acc i hi ha => ?_) d.1.length n 0 [] (by omega) (by omega) ⟨rfl, fun x hx => by cases hx⟩
  · obtain ⟨h1, h2⟩ := ha
    rw [List.take_length] at h1 h2
    subst h1
    simp only [UbR, Udz]
    unfold Us7
    by_cases hf : fits d.2
    · have g1 := fun k => UrM (R := R) n hf k
      have g2 := fun k => txt hf k
      rw [if_pos ⟨h2, hf⟩]
      simp (disch := (first | omega | (simp only [JlE]; omega))) only [↓JlH, JlF, UaE, g1, g2]
    · have g1 := fun k => UrL (R := R) n hf k
      rw [if_neg (fun h => hf h.2)]
      simp (disch := (first | omega | (simp only [JlE]; omega))) only [↓JlH, JlF, UaE, g1]
  · obtain ⟨h1, h2⟩ := ha
    have hal : acc.length ≤ i := by
      rw [h1]
      refine Nat.le_trans (Us8 _ _) ?_
      rw [List.length_take]; omega
    by_cases hf : fits (d.1[i])
    · have g1 := fun k => UrM (R := R) n hf k
      have g2 := fun k => txt hf k
      have g3 := fun k => Uup (R := R) n (d.1[i]) k
      have h3 : ∀ x ∈ d.1.take (i + 1), fits x := fun x hx => by
        rw [UfN hi] at hx
        rcases List.mem_append.1 hx with hx | hx
        · exact h2 x hx
        · rw [List.mem_singleton.1 hx]; exact hf
      have htl : (d.1.take i).length = i := by rw [List.length_take]; omega
      by_cases hz : d.1[i] = 0
      · have e3 : decide (d.1[i] = 0) = true := decide_eq_true hz
        refine .inr ⟨acc, ⟨?_, h3⟩, ?_⟩
        · rw [UfN hi, Uk0, htl, ← h1, Nat.zero_add]
          show acc = acc ++ wrD i [d.1[i]]
          rw [wrD, if_pos hz]
          show acc = acc ++ []
          rw [List.append_nil]
        · simp only [UbR, Udz, Uf3]
          simp (disch := (first | omega | (simp only [JlE]; omega))) only [↓JlH, JlF, UaE, Jji, UdY hi, g1, g3, e3, i1]
      · have e3 : decide (d.1[i] = 0) = false := decide_eq_false hz
        refine .inr ⟨acc ++ [(i, d.1[i])], ⟨?_, h3⟩, ?_⟩
        · rw [UfN hi, Uk0, htl, ← h1, Nat.zero_add]
          show _ = acc ++ wrD i [d.1[i]]
          rw [wrD, if_neg hz]; rfl
        · simp only [UbR, Udz, Uf3]
          simp (disch := (first | omega | (simp only [JlE]; omega))) only [↓JlH, JlF, UaE, Jji, UdY hi, g1, g3, e3, g2, Ua, Uau, Udh, i1]
    · have g1 := fun k => UrL (R := R) n hf k
      refine .inl ?_
      unfold Us7
      rw [if_neg (fun h => hf (h.1 _ (List.getElem_mem hi)))]
      simp only [UbR, Udz, Uf3]
      simp (disch := (first | omega | (simp only [JlE]; omega))) only [↓JlH, JlF, UaE, Jji, UdY hi, g1]
noncomputable def dnR (r : RowT) : DnR := ((rdD (spL r.tm)).getD [], rq r.c)
theorem UEt {cols : Int} {s : List SpT} (h : okS cols s) : ∃ d, rdD s = some d ∧ d.length = hiC s ∧ ∀ i, d.getD i 0 = cf s i := by
  have hz : ∀ i, (List.replicate (hiC s) (0 : Rat)).getD i 0 = 0 := fun i => by
    rw [List.getD_eq_getElem?_getD]
    by_cases hi : i < (List.replicate (hiC s) (0 : Rat)).length
    · rw [List.getElem?_eq_getElem hi, List.getElem_replicate]; rfl
    · rw [List.getElem?_eq_none (by omega)]; rfl
  obtain ⟨d, e1, e2⟩ := UEw (d := List.replicate (hiC s) 0) h.1 h.2 (fun i _ => hz i) (fun t ht => by rw [List.length_replicate]; exact UvS t ht)
  refine ⟨d, e1, (UEv e1).trans (List.length_replicate ..), fun i => ?_⟩
  rw [e2 i, hz i, Rat.zero_add]
theorem UfZ {cols : Int} (hc : cols ≤ 2048) {r : RowT} (h : okR cols r = true) : rdD (spL r.tm) = some (dnR r).1 ∧ (dnR r).1.length ≤ 2048 ∧ same (spR r) (dnR r) ∧ UaS (dnR r) := by
  obtain ⟨o1, o2, o3⟩ := Uf2 h
  obtain ⟨d, e1, e2, e3⟩ := UEt (s := spL r.tm) o1.1
  have ed : (dnR r).1 = d := by show (rdD (spL r.tm)).getD [] = d; rw [e1]; rfl
  have hs : same (spR r) (dnR r) := ⟨rfl, fun i => by rw [ed]; exact e3 i⟩
  refine ⟨by rw [ed]; exact e1, ?_, hs, UbL.2 ⟨fun i => ?_, o1.2⟩⟩
  · rw [ed, e2]
    refine UvR fun t ht => ?_
    have := (o1.1.2 t ht).2.2
    omega
  · rw [hs.2 i]; exact Ujx o1.1.2 i
theorem Um0 (n : Nat) (hn : 10 ^ 1000 ≤ n) {cols : Int} (hc : cols ≤ 2048) {r : RowT} (h : okR cols r = true) (k0 : List PV → Bool → List PV → Bool → List PV → Int → Option R) :
    p46 n (bs r.c) (tms r.tm) k0 = k0 (qs (dnR r).1) (sg (dnR r).2.num) (II (dnR r).2.num.natAbs) false (II (dnR r).2.den) 0 := by
  obtain ⟨o1, o2, o3⟩ := Uf2 h
  obtain ⟨e1, _⟩ := UfZ hc h
  have h' := h
  unfold okR at h'
  rw [Bool.and_eq_true] at h'
  have o1' := UeK hc o1
  have hl := UbN o1'.1
  have a2 : okT 2048 (-1) r.tm = true := by rw [o2]; exact UrU o1'.1.1 o1'.1.2
  obtain ⟨b1, b2, b3⟩ := (Ufu (by omega)).1 a2
  have e : (Uuk r.tm r.c k0 : Option R) = UAd (rq r.c) k0 (rdD (spL r.tm)) := by
    unfold Uuk
    rw [if_pos h'.2, if_pos b1, if_pos b2]
  rw [UAi n hn r.tm r.c (by rw [o2]; exact UEK o1'.1.2 (Nat.lt_of_le_of_lt hl (by decide))) (by rw [o3]; exact Uid o1.2), e, e1]; rfl
noncomputable def zsD (rows : List RowT) (mult : List (List UInt8)) : List (DnR × Rat) := (rows.zip mult).map fun x => (dnR x.1, rq x.2)
noncomputable def UAQ (k0 : List PV → Bool → List PV → Bool → List PV → Int → Option R) : Option DnR → Option R
  | none => k0 [] false [] false [] 5
  | some d => k0 (qs d.1) (sg d.2.num) (II d.2.num.natAbs) false (II d.2.den) 0
theorem UnG {a b : DnR} : (adD a b).1.length = max a.1.length b.1.length := by show ((List.range _).map _).length = _; rw [List.length_map, List.length_range]
theorem Uie {q : Rat} {d : DnR} : (scD q d).1.length = d.1.length := by show (d.1.map _).length = _; rw [List.length_map]
theorem Uif {q : Rat} {r s x : DnR} (hr : r.1.length ≤ 2048) (hs : s.1.length ≤ 2048 ∧ UaS s) (he : Ua9 q r s = some x) : x.1.length ≤ 2048 ∧ UaS x := by
  unfold Ua9 at he
  split at he
  · simp only [Option.some.injEq] at he; rwa [← he]
  · split at he
    · split at he
      · rename_i h3
        simp only [Option.some.injEq] at he
        subst he
        refine ⟨?_, h3⟩
        rw [UnG, Uie]; omega
      · cases he
    · cases he
theorem Udn : ∀ (l : List (DnR × Rat)) (s : DnR), Ug2 l s = UaM (fun s x => Ua9 x.2 x.1 s) s l
  | [], s => rfl
  | x :: l, s => by
    rw [Ug2, UaM]
    congr 1
    funext s'
    exact Udn l s'
theorem Um2 (n : Nat) (hn : 10 ^ 1000 ≤ n) {cols : Int} (hc : cols ≤ 2048) {r : RowT} (hr : okR cols r = true) {m : List UInt8} (hm : qb m = true) (h0 : rq m ≠ 0) {s : DnR} (hs : s.1.length ≤ 2048 ∧ UaS s)
    (kb : Option R) (K : List PV → Bool → List PV → Bool → List PV → Option R) :
    (p68 n (qs (dnR r).1) (sg (dnR r).2.num) (II (dnR r).2.num.natAbs) false (II (dnR r).2.den) (sg (rq m).num) (II (rq m).num.natAbs) false (II (rq m).den) fun y61 y62 y63 y64 y65 => p25 n y61 y62 y63 y64 y65 fun y66 y67 y68 => bif (y68 != 0) then kb else
      p70 n (qs s.1) (sg s.2.num) (II s.2.num.natAbs) false (II s.2.den) y61 y62 y63 y64 y65 fun y69 y70 y71 y72 y73 => p25 n y69 y70 y71 y72 y73 fun y74 y75 y76 => bif (y76 != 0) then kb else
        K y69 y70 y71 y72 y73) = UAy kb (fun d => K (qs d.1) (sg d.2.num) (II d.2.num.natAbs) false (II d.2.den)) (Ua9 (rq m) (dnR r) s) := by
  obtain ⟨m1, m2⟩ := UsF hm
  obtain ⟨d1, d2, d3, d4⟩ := UfZ hc hr
  rw [UsJ n hn d4 d2 m1, Una n (UaR hn) _ (by rw [Uie]; exact d2)]
  unfold Us7
  by_cases h1 : UaS (scD (rq m) (dnR r))
  · rw [if_pos h1]
    dsimp only
    rw [UnC, Uak, UwJ n hn hs.2 h1 hs.1 (by rw [Uie]; exact d2), Una n (UaR hn) _ (by rw [UnG, Uie]; omega)]
    unfold Us7
    by_cases h2 : UaS (adD s (scD (rq m) (dnR r)))
    · rw [if_pos h2]
      dsimp only
      rw [UnC, Uak]
      have e : Ua9 (rq m) (dnR r) s = some (adD s (scD (rq m) (dnR r))) := by unfold Ua9; rw [if_neg h0, if_pos h1, if_pos h2]
      rw [e]; rfl
    · have e : Ua9 (rq m) (dnR r) s = none := by unfold Ua9; rw [if_neg h0, if_pos h1, if_neg h2]
      rw [if_neg h2, e]; rfl
  · have e : Ua9 (rq m) (dnR r) s = none := by unfold Ua9; rw [if_neg h0, if_neg h1]
    rw [if_neg h1, e]; rfl
section
variable (n : Nat) (hn : 10 ^ 1000 ≤ n) (cols : Int) (rows : List RowT) (mult : List (List UInt8)) (h : okRM cols rows mult) (k0 : List PV → Bool → List PV → Bool → List PV → Int → Option R)
noncomputable def stX (s : DnR) (x : RowT × List UInt8) : Option DnR := Ua9 (rq x.2) (dnR x.1) s
include hn h
theorem Uy0 : ∀ (d m i : Nat) (s : DnR), d + i = (rows.zip mult).length → d < m → (s.1.length ≤ 2048 ∧ UaS s) →
    Ua8 n m (sl mult) cols (rws rows) false false (qs s.1) (sg s.2.num) (II s.2.num.natAbs) false (II s.2.den) (i : Int) (fun y22 y23 y24 y25 y26 y27 y28 y29 y30 y31 y32 => k0 y22 y23 y24 y25 y26 y27) (fun y33 y34 y35 y36 y37 y38 y39 => k0 y35 y36 y37 y38 y39 0) =
      UAQ k0 (UaM stX s ((rows.zip mult).drop i)) := by
  have hN := Uaq (UaR hn)
  have hlen : (rows.zip mult).length = rows.length := by rw [List.length_zip, h.len]; omega
  have hf := h.few
  have hl := h.len
  intro d m i s e1 e2 e3
  have H := Udg (R := R) (l := rows.zip mult) (step := stX) (kerr := k0 [] false [] false [] 5) (kend := fun d => k0 (qs d.1) (sg d.2.num) (II d.2.num.natAbs) false (II d.2.den) 0) (Inv := fun i s => s.1.length ≤ 2048 ∧ UaS s)
    (fun m s i => Ua8 n m (sl mult) cols (rws rows) false false (qs s.1) (sg s.2.num) (II s.2.num.natAbs) false (II s.2.den) (i : Int) (fun y22 y23 y24 y25 y26 y27 y28 y29 y30 y31 y32 => k0 y22 y23 y24 y25 y26 y27) (fun y33 y34 y35 y36 y37 y38 y39 => k0 y35 y36 y37 y38 y39 0))
    (fun m s hs => by
      simp only [Ua8, Udb]
      rw [hlen]
      simp (disch := (first | omega | (simp only [JlE]; omega))) only [↓JlH, JlF, Uaj])
    (fun s s' i hi hs he => by
      have hr := h.hr _ (List.of_mem_zip (List.getElem_mem hi)).1
      exact Uif (UfZ h.hc hr).2.1 hs he)
    (fun m s i hi hs => by
      have hi1 : i < rows.length := by omega
      have hi2 : i < mult.length := by omega
      have e0 : (rows.zip mult)[i] = (rows[i], mult[i]) := List.getElem_zip
      rw [e0]
      have hr := h.hr rows[i] (List.getElem_mem hi1)
      have hq := h.hm mult[i] (List.getElem_mem hi2)
      obtain ⟨m1, m2⟩ := UsF hq
      simp only [Ua8, Udb, Ucb]
      show _ = UAy _ _ (Ua9 (rq mult[i]) (dnR rows[i]) s)
      by_cases h0 : rq mult[i] = 0
      · have e3 : (mult[i] == [48]) = true := Ujt (by rw [m2, h0, Ujb])
        have e4 : Ua9 (rq mult[i]) (dnR rows[i]) s = some s := by unfold Ua9; rw [if_pos h0]
        rw [e4]
        simp (disch := (first | omega | (simp only [JlE]; omega))) only [↓JlH, JlF, Uab, Uaj, Jji, UbS hi2, i1, e3]
        rfl
      · have e3 : (mult[i] == [48]) = false := UiL (by rw [m2]; exact fun q => h0 (Ueu.1 q))
        have g1 : ∀ k : List PV → Bool → List PV → Bool → List PV → Int → Option R, p46 n (bs (rows[i]).c) (tms (rows[i]).tm) k = _ := fun k => Um0 n hn h.hc hr k
        have g2 : ∀ k : Bool → List PV → Bool → List PV → Option R, p69 n (bs mult[i]) k = k (sg (rq mult[i]).num) (II (rq mult[i]).num.natAbs) false (II (rq mult[i]).den) := fun k => by
          have := Uja (R := R) n (UaR hn) m1 k
          rwa [← m2] at this
        simp (disch := (first | omega | (simp only [JlE]; omega))) only [↓JlH, JlF, Uab, Uaj, Jji, UbS hi2, UaH hi1, i1, e3, g1, g2]
        exact Um2 n hn h.hc hr hq h0 hs _ _) d m i s e1 e2 e3
  refine Eq.trans H ?_
  cases UaM stX s ((rows.zip mult).drop i) <;> rfl
theorem UGk : ∀ (d m i : Nat), d + i = (rows.zip mult).length → d < m →
    Udy n m (sl mult) cols (rws rows) false false (qs []) (sg (0 : Rat).num) (II (0 : Rat).num.natAbs) false (II (0 : Rat).den) (i : Int) (fun y11 y12 y13 y14 y15 y16 y17 y18 y19 y20 y21 => k0 y11 y12 y13 y14 y15 y16) (fun y22 y23 y24 y25 y26 y27 y28 y29 y30 y31 y32 => k0 y22 y23 y24 y25 y26 y27)
      (fun y33 y34 y35 y36 y37 y38 y39 => k0 y35 y36 y37 y38 y39 0) (fun y40 y41 y42 y43 y44 y45 y46 => k0 y42 y43 y44 y45 y46 0) =
      UAQ k0 (UaM stX ([], 0) ((rows.zip mult).drop i)) := by
  have hN := Uaq (UaR hn)
  have hlen : (rows.zip mult).length = rows.length := by rw [List.length_zip, h.len]; omega
  have hf := h.few
  have hl := h.len
  have hz : (([], 0) : DnR).1.length ≤ 2048 ∧ UaS ([], 0) := ⟨by simp, ⟨by simp, Uey⟩⟩
  intro d
  induction d with
  | zero =>
    intro m i e1 e2
    obtain ⟨m, rfl⟩ : ∃ m', m = m' + 1 := ⟨m - 1, by omega⟩
    simp only [Udy, UhA]
    rw [List.drop_eq_nil_of_le (by omega)]
    simp (disch := (first | omega | (simp only [JlE]; omega))) only [↓JlH, JlF, Uaj]
    rfl
  | succ d ih =>
    intro m i e1 e2
    obtain ⟨m, rfl⟩ : ∃ m', m = m' + 1 := ⟨m - 1, by omega⟩
    have hi : i < (rows.zip mult).length := by omega
    have hi1 : i < rows.length := by omega
    have hi2 : i < mult.length := by omega
    have e0 : (rows.zip mult)[i] = (rows[i], mult[i]) := List.getElem_zip
    have hr := h.hr rows[i] (List.getElem_mem hi1)
    have hq := h.hm mult[i] (List.getElem_mem hi2)
    obtain ⟨m1, m2⟩ := UsF hq
    rw [Ua4 hi, e0]
    simp only [Udy, UhA, Ush, Ucb]
    show _ = UAQ k0 ((Ua9 (rq mult[i]) (dnR rows[i]) ([], 0)).bind fun s' => UaM stX s' ((rows.zip mult).drop (i + 1)))
    by_cases h0 : rq mult[i] = 0
    · have e3 : (mult[i] == [48]) = true := Ujt (by rw [m2, h0, Ujb])
      have e4 : Ua9 (rq mult[i]) (dnR rows[i]) ([], 0) = some ([], 0) := by unfold Ua9; rw [if_pos h0]
      rw [e4, Option.bind_some, ← ih m (i + 1) (by omega) (by omega)]
      simp (disch := (first | omega | (simp only [JlE]; omega))) only [↓JlH, JlF, Uab, Uaj, Jji, UbS hi2, i1, e3]
    · have e3 : (mult[i] == [48]) = false := UiL (by rw [m2]; exact fun q => h0 (Ueu.1 q))
      have g1 : ∀ k : List PV → Bool → List PV → Bool → List PV → Int → Option R, p46 n (bs (rows[i]).c) (tms (rows[i]).tm) k = _ := fun k => Um0 n hn h.hc hr k
      have g2 : ∀ k : Bool → List PV → Bool → List PV → Option R, p69 n (bs mult[i]) k = k (sg (rq mult[i]).num) (II (rq mult[i]).num.natAbs) false (II (rq mult[i]).den) := fun k => by
        have := Uja (R := R) n (UaR hn) m1 k
        rwa [← m2] at this
      simp (disch := (first | omega | (simp only [JlE]; omega))) only [↓JlH, JlF, Uab, Uaj, Jji, UbS hi2, UaH hi1, i1, e3, g1, g2]
      refine Eq.trans (Um2 n hn h.hc hr hq h0 hz _ _) ?_
      cases hst : Ua9 (rq mult[i]) (dnR rows[i]) ([], 0) with
      | none => rfl
      | some s =>
        have hs := Uif (UfZ h.hc hr).2.1 hz hst
        exact Uy0 n hn cols rows mult h k0 d m (i + 1) s (by omega) (by omega) hs
end
theorem Ukp (n : Nat) (hn : 10 ^ 1000 ≤ n) (cols : Int) (rows : List RowT) (mult : List (List UInt8)) (h : okRM cols rows mult) (k0 : List PV → Bool → List PV → Bool → List PV → Int → Option R) :
    UiX n (sl mult) cols (rws rows) false false k0 = UAQ k0 (Ug2 (zsD rows mult) ([], 0)) := by
  have hN := Uaq (UaR hn)
  have hlen : (rows.zip mult).length = rows.length := by rw [List.length_zip, h.len]; omega
  have hf := h.few
  have hl := h.len
  have ez := UiF (R := R) n (UaR hn) 0 (by omega)
  have e3 : ((mult.length : Int) != (rows.length : Int)) = false := by simp [h.len]
  have ez' : ∀ k : List PV → Bool → List PV → Bool → List PV → Option R, p67 n 0 k = k (qs []) (sg (0 : Rat).num) (II (0 : Rat).num.natAbs) false (II (0 : Rat).den) := ez
  unfold UiX Uwa
  rw [Uaj, Uab, e3, Uak, ez']
  have H := UGk (R := R) n hn cols rows mult h k0 rows.length n 0 (by omega) (by omega)
  rw [List.drop_zero] at H
  have hc : UaM stX ([], 0) (rows.zip mult) = Ug2 (zsD rows mult) ([], 0) := by
    rw [Udn, zsD, ← Ufr]; rfl
  rw [hc] at H
  exact H
theorem UAc (n : Nat) (hn : 10 ^ 1000 ≤ n) (cols : Int) (rows : List RowT) (mult : List (List UInt8)) (h : okRM cols rows mult) (k0 : Bool → Option R) :
    p33 n cols (rws rows) (sl mult) k0 = k0 (adm rows mult) := by
  have hN := Uaq (UaR hn)
  have hlen : (rows.zip mult).length = rows.length := by rw [List.length_zip, h.len]; omega
  have hf := h.few
  have hl := h.len
  unfold p33 Uwi
  have H := Uan (R := R) (l := rows.zip mult) (ok := UwK) (kbad := k0 false) (kend := k0 true)
    (fun m i => UdG n m (sl mult) cols (rws rows) (i : Int) (fun y4 => k0 y4) (k0 true))
    (fun m => by
      simp only [UdG, UhK]
      rw [hlen]
      simp (disch := (first | omega | (simp only [JlE]; omega))) only [↓JlH, JlF, Uaj])
    (fun m i hi => by
      have hi1 : i < rows.length := by omega
      have hi2 : i < mult.length := by omega
      have e0 : (rows.zip mult)[i] = (rows[i], mult[i]) := List.getElem_zip
      rw [e0]
      obtain ⟨m1, m2⟩ := UsF (h.hm mult[i] (List.getElem_mem hi2))
      have g2 : ∀ k : Bool → List PV → Bool → List PV → Option R, p69 n (bs mult[i]) k = k (sg (rq mult[i]).num) (II (rq mult[i]).num.natAbs) false (II (rq mult[i]).den) := fun k => by
        have := Uja (R := R) n (UaR hn) m1 k
        rwa [← m2] at this
      have g3 := fun k => Uib (R := R) n (rq mult[i]) k
      simp only [UdG, UhK, UwK]
      rcases Bool.eq_false_or_eq_true (rows[i]).eq with he | he
      · simp (disch := (first | omega | (simp only [JlE]; omega))) only [↓JlH, JlF, Uab, Uaj, Jji, UbS hi2, UaH hi1, i1, he]
        simp [he]
      · rcases tri (rq mult[i]) 0 with h0 | h0 | h0
        · have hz : rq mult[i] ≠ 0 := fun q => by rw [q] at h0; exact absurd h0 (by decide)
          rw [if_neg hz, if_pos h0] at g3
          simp (disch := (first | omega | (simp only [JlE]; omega))) only [↓JlH, JlF, Uab, Uaj, Jji, UbS hi2, UaH hi1, i1, he, g2, g3]
          simp [h0]
        · rw [if_pos h0] at g3
          simp (disch := (first | omega | (simp only [JlE]; omega))) only [↓JlH, JlF, Uab, Uaj, Jji, UbS hi2, UaH hi1, i1, he, g2, g3]
          simp [h0]
        · have hz : rq mult[i] ≠ 0 := fun q => by rw [q] at h0; exact absurd h0 (by decide)
          have hz2 : ¬ rq mult[i] < 0 := Rat.not_lt.2 (Rat.le_of_lt h0)
          rw [if_neg hz, if_neg hz2] at g3
          simp (disch := (first | omega | (simp only [JlE]; omega))) only [↓JlH, JlF, Uab, Uaj, Jji, UbS hi2, UaH hi1, i1, he, g2, g3]
          simp [hz2]) rows.length n 0 (by omega) (by omega)
  rw [List.drop_zero] at H
  refine Eq.trans H ?_
  unfold adm
  cases (rows.zip mult).all UwK <;> rfl
theorem UEA {q : Rat} : ((if q = 0 then 0 else if q < 0 then -1 else 1 : Int) ≥ 0) ↔ ¬ q < 0 := by
  rcases tri q 0 with h0 | h0 | h0
  · have hz : q ≠ 0 := fun e => by rw [e] at h0; exact absurd h0 (by decide)
    rw [if_neg hz, if_pos h0]; simp [h0]
  · rw [if_pos h0, h0]; decide
  · have hz : q ≠ 0 := fun e => by rw [e] at h0; exact absurd h0 (by decide)
    have hz2 : ¬ q < 0 := Rat.not_lt.2 (Rat.le_of_lt h0)
    rw [if_neg hz, if_neg hz2]; simp [hz2]
theorem UEB {q : Rat} : ((if q = 0 then 0 else if q < 0 then -1 else 1 : Int) > 0) ↔ ¬ q ≤ 0 := by
  rcases tri q 0 with h0 | h0 | h0
  · have hz : q ≠ 0 := fun e => by rw [e] at h0; exact absurd h0 (by decide)
    rw [if_neg hz, if_pos h0]; simp [Rat.le_of_lt h0]
  · rw [if_pos h0, h0]; decide
  · have hz : q ≠ 0 := fun e => by rw [e] at h0; exact absurd h0 (by decide)
    have hz2 : ¬ q < 0 := Rat.not_lt.2 (Rat.le_of_lt h0)
    rw [if_neg hz, if_neg hz2]; simp [Rat.not_le.2 h0]
theorem UFZ {cols : Int} {rows : List RowT} {mult : List (List UInt8)} {x : SpR} {d : DnR} (hx : okF cols x) (h : same x d) :
    Unm rows mult x = (adm rows mult && (decide (d.2 < 0) && d.1.all fun q => decide (q ≤ 0))) := by
  have e : (x.1.all fun t => decide (t.2 ≤ 0)) = (d.1.all fun q => decide (q ≤ 0)) := by
    rw [Bool.eq_iff_iff, List.all_eq_true, List.all_eq_true]
    refine ⟨fun h1 q hq => ?_, fun h1 t ht => ?_⟩
    · obtain ⟨i, hi, rfl⟩ := List.getElem_of_mem hq
      have := h.2 i
      rw [Udq hi] at this
      rw [this]
      by_cases h0 : cf x.1 i = 0
      · rw [h0]; decide
      · obtain ⟨t, ht, _, e⟩ := Ux0 h0
        rw [← e]; exact h1 t ht
    · have := h.2 t.1
      rw [UoP hx.1.1 t ht] at this
      by_cases hi : t.1 < d.1.length
      · rw [Udq hi] at this
        rw [← this]; exact h1 _ (List.getElem_mem hi)
      · rw [UmC (by omega)] at this
        rw [← this]; decide
  unfold Unm
  rw [e, h.1]
  cases adm rows mult <;> cases decide (d.2 < 0) <;> simp
theorem Uny (n : Nat) (hn : 10 ^ 1000 ≤ n) (cols : Int) (rows : List RowT) (mult : List (List UInt8)) (hr : smA rows) (hm : smS mult) (k0 : Int → Option R) :
    p13 n cols (rws rows) (sl mult) k0 = k0 (Unn cols rows mult) := by
  have hN := Uaq (UaR hn)
  unfold p13 p24 Unn
  rw [UAp n (UaR hn) cols rows hr]
  by_cases h1 : Um7 cols rows = 0
  · have e1 : (Um7 cols rows != 0) = false := by rw [h1]; rfl
    rw [e1, if_neg (by simp [h1]), Uak, Ukr n (UaR hn) mult hm]
    cases h2 : Uuy mult with
    | false => rfl
    | true =>
      rw [if_neg (by decide)]
      by_cases h3 : mult.length = rows.length
      · have h := UrS h1 h2 h3
        simp only [Bool.not_true, Uak]
        rw [Ukp n hn cols rows mult h]
        rw [if_neg (by simp [h3])]
        have hcs := UiP (cols := cols) (l := zsR rows mult) (ld := zsD rows mult) (s := ([], 0)) (sd := ([], 0)) (by simp [zsR, zsD]) (fun i a b => by
            have hr' := h.hr _ (List.of_mem_zip (List.getElem_mem (by simpa [zsR] using a))).1
            simp only [zsR, zsD, List.getElem_map]
            exact ⟨(Uf2 hr').1, (UfZ h.hc hr').2.2.1, trivial⟩) Uk1 ⟨rfl, fun i => by simp [cf]⟩
        rcases hcs with ⟨q1, q2⟩ | ⟨x, d, q1, q2, q3, q4⟩
        · rw [q1, q2]; rfl
        · rw [q1, q2]
          have g0 := fun k => UAc (R := R) n hn cols rows mult h k
          have hdl : d.1.length ≤ 2048 := by
            have : ∀ (l : List (DnR × Rat)) (s : DnR), (∀ y ∈ l, y.1.1.length ≤ 2048) → (s.1.length ≤ 2048 ∧ UaS s) → ∀ x, Ug2 l s = some x → x.1.length ≤ 2048 ∧ UaS x := fun l s hl hs x hx => by
              rw [Udn] at hx
              exact Ufq (step := fun s (x : DnR × Rat) => Ua9 x.2 x.1 s) (P := fun y => y.1.1.length ≤ 2048) (Inv := fun s => s.1.length ≤ 2048 ∧ UaS s) (fun s s' a ha hs he => Uif ha hs he) hl hs hx
            refine (this (zsD rows mult) ([], 0) (fun y hy => ?_) ⟨by simp, ⟨by simp, Uey⟩⟩ d q2).1
            obtain ⟨z, hz, rfl⟩ := List.mem_map.1 hy
            exact (UfZ h.hc (h.hr _ (List.of_mem_zip hz).1)).2.1
          have hB := UFZ (rows := rows) (mult := mult) q3 q4
          have H := Uan (R := R) (l := d.1) (ok := fun q => decide (q ≤ 0)) (kbad := k0 16) (kend := k0 0)
            (fun m i => Udw n m (qs d.1) (sg d.2.num) (II d.2.num.natAbs) false (II d.2.den) (i : Int) (fun y6 => k0 y6) (k0 0))
            (fun m => by simp only [Udw, Uhv]; simp (disch := (first | omega | (simp only [JlE]; omega))) only [↓JlH, JlF, UaE])
            (fun m i hi => by
              have g3 := fun k => Uib (R := R) n (d.1[i]) k
              have hs := UEB (q := d.1[i])
              simp only [Udw, Uhv]
              by_cases h0 : d.1[i] ≤ 0
              · have h0' := fun q => hs.1 q h0
                simp (disch := (first | omega | (simp only [JlE]; omega))) only [↓JlH, JlF, UaE, Jji, UdY hi, i1, g3] <;> simp [h0]
              · have h0' := hs.2 h0
                simp (disch := (first | omega | (simp only [JlE]; omega))) only [↓JlH, JlF, UaE, Jji, UdY hi, i1, g3] <;> simp [h0]) d.1.length n 0 (by omega) (by omega)
          rw [List.drop_zero] at H
          have g5 := fun k => Uib (R := R) n d.2 k
          have hs := UEA (q := d.2)
          simp only [UAQ, UyN, UnC, Uak, g0]
          rw [hB]
          cases adm rows mult with
          | false => rfl
          | true =>
            simp only [Bool.not_true, Uak, g5]
            by_cases h0 : d.2 < 0
            · have h0' : ¬ _ := fun q => hs.1 q h0
              rw [decide_eq_false h0', decide_eq_true h0]
              unfold Usa Uv9
              refine Eq.trans H ?_
              cases d.1.all fun q => decide (q ≤ 0) <;> rfl
            · rw [decide_eq_true (hs.2 h0), decide_eq_false h0]; rfl
      · have e3 : ((mult.length : Int) != (rows.length : Int)) = true := by simp; omega
        rw [if_pos h3]
        simp only [Bool.not_true, Uak]
        unfold UiX
        rw [Uaj, Uab, e3]; rfl
  · have e1 : (Um7 cols rows != 0) = true := by simp [h1]
    rw [e1, if_pos h1]; rfl
end Go.Proofs.YtmgfmlhdnadglaaGreatDoor
set_option linter.unusedVariables false
set_option maxRecDepth 100000
namespace Go.Proofs.YtmgfmlhdnadglaaGreatDoor
open Go Th Go.Proofs
noncomputable section
variable {R : Type}
def UbH : Ann := { loops := [(4, ids [1, 2, 5], ids [4]), (9, ids [1, 2, 5, 6], ids [1, 2, 4, 5])], cuts := [(8, ids [1, 2, 5], ids [1, 2, 4, 5])], frz := [], rm := [.id] }
abbrev Uyj (n : Nat) : Env := eN
theorem UpE (n : Nat) : EnvOK Tryz.prog GI (Uyj n) := .nil
def UhC (n : Nat) (l0 : Int → Int → LP → Int → Int → O R) (x1 x2 : Int) (x3 : LP) (x4 x5 : Int) (k0 : Int → Int → LP → Bool → Int → O R) (k1 : Int → Int → LP → Int → O R) : O R :=
  bif (inR x4 ((x3).length)) then (Jh2 ((x3).getD ((x4 : Int).toNat) (.v (.bool false))) fun a6 => JdT a6 fun h7 t8 => Jkr h7 fun e9 => JdT t8 fun h10 t11 => Jj3 h10 fun e12 => JdT t11 fun h13 t14 => Jj2 h13 fun e15 => JdT t14 fun h16 t17 => Jj .i64 h16 fun e18 => Ji2 t17 (bif (decide (x5 < ((e9).length : Int))) then (bif (inR x4 ((x3).length)) then (Jh2 ((x3).getD ((x4 : Int).toNat) (.v (.bool false))) fun a19 => JdT a19 fun h20 t21 => Jkr h20 fun e22 => JdT t21 fun h23 t24 => Jj3 h23 fun e25 => JdT t24 fun h26 t27 => Jj2 h26 fun e28 => JdT t27 fun h29 t30 => Jj .i64 h29 fun e31 => Ji2 t30 (bif (inR x5 ((e22).length)) then (Jh2 ((e22).getD ((x5 : Int).toNat) (.v (.bool false))) fun a32 => JdT a32 fun h33 t34 => Jj .i64 h33 fun e35 => JdT t34 fun h36 t37 => Jj3 h36 fun e38 => Ji2 t37 (bif (decide (((e38).size : Int) > x1)) then (k0 x1 x2 x3 false x4) else (l0 x1 x2 x3 x4 (IntKind.i64.wrap (x5 + 1))))) else none)) else none) else (k1 x1 x2 x3 x4))) else none
def UdA (n : Nat) : Nat → Int → Int → LP → Int → Int → (Int → Int → LP → Bool → Int → O R) → (Int → Int → LP → Int → O R) → O R
  | 0, _, _, _, _, _, _, _ => none
  | m + 1, x1, x2, x3, x4, x5, k0, k1 => UhC n (fun x1 x2 x3 x4 x5 => UdA n m x1 x2 x3 x4 x5 k0 k1) x1 x2 x3 x4 x5 k0 k1
def Uwd (n : Nat) (x1 x2 : Int) (x3 : LP) (x4 x5 : Int) (k0 : Int → Int → LP → Bool → Int → O R) (k1 : Int → Int → LP → Int → O R) : O R := UdA n n x1 x2 x3 x4 x5 k0 k1
def UmU (n : Nat) (x1 x2 : Int) (x3 : LP) (x4 : Int) (k0 : Int → Int → LP → Bool → Int → O R) (k1 : Int → Int → LP → Int → O R) : O R :=
  Uwd n x1 x2 x3 x4 0 (fun y5 y6 y7 y8 y9 => k0 y5 y6 y7 y8 y9) (fun y10 y11 y12 y13 => k1 y10 y11 y12 y13)
def UhB (n : Nat) (l0 : Int → Int → LP → Int → O R) (x1 x2 : Int) (x3 : LP) (x4 : Int) (k0 : Bool → O R) (k1 : O R) : O R :=
  bif (decide (x4 < ((x3).length : Int))) then (bif (inR x4 ((x3).length)) then (Jh2 ((x3).getD ((x4 : Int).toNat) (.v (.bool false))) fun a5 => JdT a5 fun h6 t7 => Jkr h6 fun e8 => JdT t7 fun h9 t10 => Jj3 h9 fun e11 => JdT t10 fun h12 t13 => Jj2 h12 fun e14 => JdT t13 fun h15 t16 => Jj .i64 h15 fun e17 => Ji2 t16 (bif (decide (((e8).length : Int) > 12)) then (k0 false) else (bif (inR x4 ((x3).length)) then (Jh2 ((x3).getD ((x4 : Int).toNat) (.v (.bool false))) fun a18 => JdT a18 fun h19 t20 => Jkr h19 fun e21 => JdT t20 fun h22 t23 => Jj3 h22 fun e24 => JdT t23 fun h25 t26 => Jj2 h25 fun e27 => JdT t26 fun h28 t29 => Jj .i64 h28 fun e30 => Ji2 t29 (bif (bif false then true else (decide (((e24).size : Int) > x1))) then (k0 false) else (UmU n x1 x2 x3 x4 (fun y31 y32 y33 y34 y35 => k0 y34) (fun y36 y37 y38 y39 => l0 y36 y37 y38 (IntKind.i64.wrap (y39 + 1)))))) else none))) else none) else (k1)
def UcA (n : Nat) : Nat → Int → Int → LP → Int → (Bool → O R) → (O R) → O R
  | 0, _, _, _, _, _, _ => none
  | m + 1, x1, x2, x3, x4, k0, k1 => UhB n (fun x1 x2 x3 x4 => UcA n m x1 x2 x3 x4 k0 k1) x1 x2 x3 x4 k0 k1
def Uwc (n : Nat) (x1 x2 : Int) (x3 : LP) (x4 : Int) (k0 : Bool → O R) (k1 : O R) : O R := UcA n n x1 x2 x3 x4 k0 k1
def p27 (n : Nat) (x1 : Int) (x2 : LP) (x3 : Int) (k0 : Bool → O R) : O R :=
  bif (decide (((x2).length : Int) > 16)) then (k0 false) else (Uwc n x3 x1 x2 0 (fun y4 => k0 y4) (k0 true))
abbrev E27 (n : Nat) : Code → Fr → Kc R → O R := evC Tryz.prog (Uyj n) UbH n (61, [])
noncomputable def UuI : Code := Jj4 (Jll Tryz.f27) [1, 1, 0, 1, 0, 0, 1, 0, 0, 1]
abbrev UsS : Sl (List SV) := (cI (.c (sBx 24 (cI (cH .n))) (cI .n)))
abbrev UvG (n : Nat) (K : Kc R) : UsS.T (O R) := fun x1 x2 x3 x4 => UmU n x1 x2 x3 x4 (fun y1 y2 y3 y4 y5 => xC UbH 8 K .ret [vI y1, .bx 24 [vI y2, vH y3], vB y4, vI y5]) (fun y1 y2 y3 y4 => xC UbH 8 K .normal [vI y1, .bx 24 [vI y2, vH y3], dD, vI y4])
noncomputable def UuJ : Code := Jj4 (Jll Tryz.f27) [1, 1, 0, 1, 0, 0]
abbrev Ugj : Sl (List SV) := (cI (.c (sBx 24 (cI (cH .n))) (cI .n)))
abbrev Uq0 (n m : Nat) (K : Kc R) : Ugj.T (O R) := fun x1 x2 x3 x4 => UcA n m x1 x2 x3 x4 (fun y1 => xL UbH 4 K .ret [vB y1]) (xL UbH 4 K (.exit 0) [dD])
abbrev UAV (n : Nat) (K : Kc R) (l0 : Ugj.T (O R)) : Ugj.T (O R) := fun x1 x2 x3 x4 => UhB n l0 x1 x2 x3 x4 (fun y1 => xL UbH 4 K .ret [vB y1]) (xL UbH 4 K (.exit 0) [dD])
noncomputable def UuK : Code := Jj4 (Jll Tryz.f27) [1, 1, 0, 1, 0, 0, 1, 0, 0, 1, 1, 0, 0]
abbrev Ugk : Sl (List SV) := (cI (.c (sBx 24 (cI (cH .n))) (cI (cI .n))))
abbrev Uq1 (n m : Nat) (K : Kc R) : Ugk.T (O R) := fun x1 x2 x3 x4 x5 => UdA n m x1 x2 x3 x4 x5 (fun y1 y2 y3 y4 y5 => xL UbH 9 K .ret [vI y1, .bx 24 [vI y2, vH y3], vB y4, vI y5]) (fun y1 y2 y3 y4 => xL UbH 9 K (.exit 2) [vI y1, .bx 24 [vI y2, vH y3], dD, vI y4])
abbrev UAW (n : Nat) (K : Kc R) (l0 : Ugk.T (O R)) : Ugk.T (O R) := fun x1 x2 x3 x4 x5 => UhC n l0 x1 x2 x3 x4 x5 (fun y1 y2 y3 y4 y5 => xL UbH 9 K .ret [vI y1, .bx 24 [vI y2, vH y3], vB y4, vI y5]) (fun y1 y2 y3 y4 => xL UbH 9 K (.exit 2) [vI y1, .bx 24 [vI y2, vH y3], dD, vI y4])
abbrev UE7 (n : Nat) : Orc R := oL UbH (E27 n) n 9 UuK Ugk (Uq1 n n) (oL UbH (E27 n) n 4 UuJ Ugj (Uq0 n n) oN)
abbrev UEU (n : Nat) : Orc R := oC UbH (E27 n) 8 UuI UsS (UvG n) oN
abbrev K27 (R : Type) (n : Nat) := JcH (R := R) Tryz.prog (Uyj n) UbH n (61, []) (UE7 n) (UEU n)
theorem UDQ (n : Nat) : K27 R n (false, 9, UuK) := JkF (lo := UE7 n) (cu := UEU n) (pO pN (by kernel_rfl)) Ugk (Uq1 n n) (JiE (F := Uq1 n) Ugk (UAW n) (fun K _ _ _ _ _ => rfl) (fun _ _ => rfl) (fun L K _ _ _ _ _ => by show _ = _; kernel_rfl) n) fun _ _ => rfl
theorem UDO (n : Nat) : K27 R n (true, 8, UuI) := JkW (lo := UE7 n) (cu := UEU n) (pO (pC (UDQ n) pN) (by kernel_rfl)) UsS (UvG n) (fun K _ _ _ _ => by show _ = _; kernel_rfl) fun _ _ => rfl
theorem UDP (n : Nat) : K27 R n (false, 4, UuJ) := JkF (lo := UE7 n) (cu := UEU n) (pO (pC (UDO n) pN) (by kernel_rfl)) Ugj (Uq0 n n) (JiE (F := Uq0 n) Ugj (UAV n) (fun K _ _ _ _ => rfl) (fun _ _ => rfl) (fun L K _ _ _ _ => by show _ = _; kernel_rfl) n) fun _ _ => rfl
theorem UNy (n : Nat) : Je6 (K27 R n) (JaJ UbH (Jll Tryz.f27)) := pO (pC (UDP n) pN) (by kernel_rfl)
abbrev t27 : Sl (List SV) := (.c (sP (JlI (.c (Jlv .i64) (.c sSh .n)))) (cI .n))
abbrev f27 (n : Nat) (K : List SV → O R) : t27.T (O R) := fun x1 x2 x3 => p27 n x1 x2 x3 (fun y1 => K [vB y1])
abbrev UJF (n : Nat) : FS := fT [false, false] t27 (f27 n)
theorem UMN (n : Nat) : FSound Tryz.prog GI 27 (UJF n) := gd UbH n (UpE n) Tryz.func27 (.cons (UpE n) t27 (f27 n) (fun K _ _ _ => (Jkq (c := Jll Tryz.f27) (by kernel_rfl) (UNy n) K).trans (by kernel_rfl)) .nil) (by kernel_rfl)
def UFy : Ann := { loops := [], cuts := [], frz := [], rm := [.id] }
abbrev UJl (n : Nat) : Env := eC 27 (UJF n) eN
theorem UvA (n : Nat) : EnvOK Tryz.prog GI (UJl n) := .cons (.nil) (UMN n)
def p9 (n : Nat) (x1 : Int) (x2 : LP) (k0 : Bool → O R) : O R :=
  p27 n x1 x2 14 (fun y3 => k0 y3)
abbrev lo9 (n : Nat) : Orc R := oN
abbrev cu9 (n : Nat) : Orc R := oN
abbrev K9 (R : Type) (n : Nat) := JcH (R := R) Tryz.prog (UJl n) UFy n (5, []) (lo9 n) (cu9 n)
theorem pa9 (n : Nat) : Je6 (K9 R n) (JaJ UFy (Jll Tryz.f9)) := pO pN (by kernel_rfl)
abbrev t9 : Sl (List SV) := (.c (sP (JlI (.c (Jlv .i64) (.c sSh .n)))) .n)
abbrev f9 (n : Nat) (K : List SV → O R) : t9.T (O R) := fun x1 x2 => p9 n x1 x2 (fun y1 => K [vB y1])
abbrev fs9 (n : Nat) : FS := fT [false] t9 (f9 n)
theorem ok9 (n : Nat) : FSound Tryz.prog GI 9 (fs9 n) := gd UFy n (UvA n) Tryz.func9 (.cons (UvA n) t9 (f9 n) (fun K _ _ => (Jkq (c := Jll Tryz.f9) (by kernel_rfl) (pa9 n) K).trans (by kernel_rfl)) .nil) (by kernel_rfl)
def UgO : Ann := { loops := [(2, ids [0, 3], ids [0, 2])], cuts := [], frz := [], rm := [.id] }
abbrev Uyd (n : Nat) : Env := eN
theorem Upq (n : Nat) : EnvOK Tryz.prog GI (Uyd n) := .nil
def Uhl (n : Nat) (l0 : LP → Int → O R) (x1 : LP) (x2 : Int) (k0 : LP → Bool → O R) (k1 : LP → O R) : O R :=
  bif (decide (x2 < ((x1).length : Int))) then (bif (bif true then (decide (x2 < 20)) else false) then (bif (inR x2 ((x1).length)) then (Jj3 ((x1).getD ((x2 : Int).toNat) (.v (.bool false))) fun e3 => bif (decide (((e3).size : Int) > 14)) then (k0 x1 false) else (l0 x1 (IntKind.i64.wrap (x2 + 1)))) else none) else (k1 x1)) else (k1 x1)
def Udu (n : Nat) : Nat → LP → Int → (LP → Bool → O R) → (LP → O R) → O R
  | 0, _, _, _, _ => none
  | m + 1, x1, x2, k0, k1 => Uhl n (fun x1 x2 => Udu n m x1 x2 k0 k1) x1 x2 k0 k1
def Uv6 (n : Nat) (x1 : LP) (x2 : Int) (k0 : LP → Bool → O R) (k1 : LP → O R) : O R := Udu n n x1 x2 k0 k1
def p10 (n : Nat) (x1 : LP) (k0 : Bool → O R) : O R :=
  Uv6 n x1 0 (fun y2 y3 => k0 y3) (fun y4 => k0 (decide (((y4).length : Int) ≤ 16)))
abbrev E10 (n : Nat) : Code → Fr → Kc R → O R := evC Tryz.prog (Uyd n) UgO n (23, [])
noncomputable def Uuz : Code := Jj4 (Jll Tryz.f10) [1, 0, 1, 0, 0]
abbrev Ugf : Sl (List SV) := (cH (cI .n))
abbrev UqE (n m : Nat) (K : Kc R) : Ugf.T (O R) := fun x1 x2 => Udu n m x1 x2 (fun y1 y2 => xL UgO 2 K .ret [vH y1, vB y2]) (fun y1 => xL UgO 2 K (.exit 0) [vH y1, dD])
abbrev UAR (n : Nat) (K : Kc R) (l0 : Ugf.T (O R)) : Ugf.T (O R) := fun x1 x2 => Uhl n l0 x1 x2 (fun y1 y2 => xL UgO 2 K .ret [vH y1, vB y2]) (fun y1 => xL UgO 2 K (.exit 0) [vH y1, dD])
abbrev UKc (n : Nat) : Orc R := oL UgO (E10 n) n 2 Uuz Ugf (UqE n n) oN
abbrev UI2 (n : Nat) : Orc R := oN
abbrev K10 (R : Type) (n : Nat) := JcH (R := R) Tryz.prog (Uyd n) UgO n (23, []) (UKc n) (UI2 n)
theorem UDD (n : Nat) : K10 R n (false, 2, Uuz) := JkF (lo := UKc n) (cu := UI2 n) (pO pN (by kernel_rfl)) Ugf (UqE n n) (JiE (F := UqE n) Ugf (UAR n) (fun K _ _ => rfl) (fun _ _ => rfl) (fun L K _ _ => by show _ = _; kernel_rfl) n) fun _ _ => rfl
theorem UNk (n : Nat) : Je6 (K10 R n) (JaJ UgO (Jll Tryz.f10)) := pO (pC (UDD n) pN) (by kernel_rfl)
abbrev t10 : Sl (List SV) := (cH .n)
abbrev f10 (n : Nat) (K : List SV → O R) : t10.T (O R) := fun x1 => p10 n x1 (fun y1 => K [vB y1])
abbrev UJw (n : Nat) : FS := fT [false] t10 (f10 n)
theorem UME (n : Nat) : FSound Tryz.prog GI 10 (UJw n) := gd UgO n (Upq n) Tryz.func10 (.cons (Upq n) t10 (f10 n) (fun K _ => (Jkq (c := Jll Tryz.f10) (by kernel_rfl) (UNk n) K).trans (by kernel_rfl)) .nil) (by kernel_rfl)
end
end Go.Proofs.YtmgfmlhdnadglaaGreatDoor
set_option linter.unusedVariables false
set_option linter.unusedSimpArgs false
namespace Go.Proofs.YtmgfmlhdnadglaaGreatDoor
open Go Th Go.Proofs
variable {R : Type}
def UCj (r : RowT) : Bool := decide (r.tm.length ≤ 12) && (decide (r.c.length ≤ 14) && r.tm.all fun t => decide (t.2.length ≤ 14))
def UCi (rows : List RowT) : Bool := decide (rows.length ≤ 16) && rows.all UCj
def Ujc (l : List (List UInt8)) : Bool := ((l.take 20).all fun s => decide (s.length ≤ 14)) && decide (l.length ≤ 16)
theorem UvP {rows : List RowT} (h : UCi rows = true) : smA rows := by
  unfold UCi at h
  simp only [Bool.and_eq_true, decide_eq_true_iff, List.all_eq_true] at h
  refine ⟨by omega, fun r hr => ?_⟩
  have := h.2 r hr
  unfold UCj at this
  simp only [Bool.and_eq_true, decide_eq_true_iff, List.all_eq_true] at this
  refine ⟨⟨by omega, fun t ht => ?_⟩, by omega⟩
  have := this.2.2 t ht
  omega
theorem Um6 {l : List (List UInt8)} (h : Ujc l = true) : smS l := by
  unfold Ujc at h
  simp only [Bool.and_eq_true, decide_eq_true_iff, List.all_eq_true] at h
  rw [List.take_of_length_le (by omega)] at h
  refine ⟨by omega, fun s hs => ?_⟩
  have := h.1 s hs
  omega
theorem UCl (n : Nat) (hn : 200000 ≤ n) (cols : Int) (rows : List RowT) (i : Nat) (hi : i < rows.length) (hl : (rows[i]).tm.length ≤ 12) (k0 : Int → Int → List PV → Bool → Int → Option R) (k1 : Int → Int → List PV → Int → Option R) :
    UmU n 14 cols (rws rows) (i : Int) k0 k1 = if ((rows[i]).tm.all fun t => decide (t.2.length ≤ 14)) = true then k1 14 cols (rws rows) (i : Int) else k0 14 cols (rws rows) false (i : Int) := by
  unfold UmU Uwd
  have h := Uan (R := R) (l := (rows[i]).tm) (ok := fun t => decide (t.2.length ≤ 14)) (kbad := k0 14 cols (rws rows) false (i : Int)) (kend := k1 14 cols (rws rows) (i : Int))
    (fun m j => UdA n m 14 cols (rws rows) (i : Int) (j : Int) (fun y5 y6 y7 y8 y9 => k0 y5 y6 y7 y8 y9) (fun y10 y11 y12 y13 => k1 y10 y11 y12 y13))
    (fun m => by
      simp only [UdA, UhC]
      simp (disch := (first | omega | (simp only [JlE]; omega))) only [↓JlH, JlF, Uab, Jji, UaH hi, Ua])
    (fun m j hj => by
      simp only [UdA, UhC]
      by_cases h1 : ((rows[i]).tm[j]).2.length ≤ 14
      · simp (disch := (first | omega | (simp only [JlE]; omega))) only [↓JlH, JlF, Uab, Jji, UaH hi, Ua, Uat hj, i1]
      · simp (disch := (first | omega | (simp only [JlE]; omega))) only [↓JlH, JlF, Uab, Jji, UaH hi, Ua, Uat hj, i1]
        simp [h1]) (rows[i]).tm.length n 0 (by omega) (by omega)
  rw [List.drop_zero] at h
  exact h
theorem UCk (n : Nat) (hn : 200000 ≤ n) (cols : Int) (rows : List RowT) (k0 : Bool → Option R) : p9 n cols (rws rows) k0 = k0 (UCi rows) := by
  unfold p9 p27 UCi
  by_cases h0 : rows.length ≤ 16
  · have h := Uan (R := R) (l := rows) (ok := UCj) (kbad := k0 false) (kend := k0 true) (fun m i => UcA n m 14 cols (rws rows) (i : Int) (fun y4 => k0 y4) (k0 true))
      (fun m => by simp only [UcA, UhB]; simp (disch := (first | omega | (simp only [JlE]; omega))) only [↓JlH, JlF, Uab])
      (fun m i hi => by
        simp only [UcA, UhB, UCj]
        by_cases h1 : (rows[i]).tm.length ≤ 12
        · by_cases h2 : (rows[i]).c.length ≤ 14
          · simp (disch := (first | omega | (simp only [JlE]; omega))) only [↓JlH, JlF, Uab, Jji, UaH hi, Ua, i1, UCl n hn cols rows i hi h1]
          · simp (disch := (first | omega | (simp only [JlE]; omega))) only [↓JlH, JlF, Uab, Jji, UaH hi, Ua, i1]
            simp [h2]
        · simp (disch := (first | omega | (simp only [JlE]; omega))) only [↓JlH, JlF, Uab, Jji, UaH hi, Ua, i1]
          simp [h1]) rows.length n 0 (by omega) (by omega)
    rw [List.drop_zero] at h
    have h' : UcA n n 14 cols (rws rows) 0 (fun y4 => k0 y4) (k0 true) = _ := h
    unfold Uwc
    simp (disch := (first | omega | (simp only [JlE]; omega))) only [↓JlH, JlF, Uab, h']
    cases rows.all UCj <;> rfl
  · simp (disch := (first | omega | (simp only [JlE]; omega))) only [↓JlH, JlF, Uab]
theorem UsK (n : Nat) (hn : 200000 ≤ n) (l : List (List UInt8)) (k0 : Bool → Option R) : p10 n (sl l) k0 = k0 (Ujc l) := by
  unfold p10 Uv6
  have hg : ∀ (i : Nat) (h : i < (l.take 20).length), (l.take 20)[i] = l[i]'(by rw [List.length_take] at h; omega) := fun i h => List.getElem_take
  have hlen : (l.take 20).length = min 20 l.length := List.length_take
  have h := Uan (R := R) (l := l.take 20) (ok := fun s => decide (s.length ≤ 14)) (kbad := k0 false) (kend := k0 (decide (l.length ≤ 16)))
    (fun m i => Udu n m (sl l) (i : Int) (fun y2 y3 => k0 y3) (fun y4 => k0 (decide (((y4).length : Int) ≤ 16))))
    (fun m => by
      have e : decide (((l.length : Nat) : Int) ≤ 16) = decide (l.length ≤ 16) := by rw [Bool.eq_iff_iff]; simp; omega
      simp only [Udu, Uhl]
      rw [hlen]
      by_cases h1 : l.length < 20
      · rw [show min 20 l.length = l.length from by omega]
        simp (disch := (first | omega | (simp only [JlE]; omega))) only [↓JlH, JlF, Uaj, e]
      · by_cases h2 : l.length = 20
        · rw [show min 20 l.length = 20 from by omega]
          simp (disch := (first | omega | (simp only [JlE]; omega))) only [↓JlH, JlF, Uaj, e]
        · rw [show min 20 l.length = 20 from by omega]
          simp (disch := (first | omega | (simp only [JlE]; omega))) only [↓JlH, JlF, Uaj, e])
    (fun m i hi => by
      have hi' : i < l.length := by omega
      have hi2 : i < 20 := by omega
      rw [hg i hi]
      simp only [Udu, Uhl]
      by_cases h1 : (l[i]).length ≤ 14
      · simp (disch := (first | omega | (simp only [JlE]; omega))) only [↓JlH, JlF, Uaj, Jji, UbS hi', i1]
      · simp (disch := (first | omega | (simp only [JlE]; omega))) only [↓JlH, JlF, Uaj, Jji, UbS hi', i1]
        simp [h1]) (l.take 20).length n 0 (by omega) (by omega)
  rw [List.drop_zero] at h
  refine Eq.trans h ?_
  unfold Ujc
  cases ((l.take 20).all fun s => decide (s.length ≤ 14)) <;> rfl
end Go.Proofs.YtmgfmlhdnadglaaGreatDoor
set_option linter.unusedVariables false
set_option maxRecDepth 100000
namespace Go.Proofs.YtmgfmlhdnadglaaGreatDoor
open Go Th Go.Proofs
noncomputable section
variable {R : Type}
def UwN : Ann := { loops := [], cuts := [], frz := [], rm := [.id] }
abbrev UBD (n : Nat) : Env := eC 32 (UEZ n) eN
theorem Upu (n : Nat) : EnvOK Tryz.prog GI (UBD n) := .cons (.nil) (UHe n)
def p15 (n : Nat) (x1 : Int) (x2 x3 x4 x5 : LP) (k0 : Int → O R) : O R :=
  UDt n x1 x2 x3 ([.sh x4] : LP) x5 true x1 x2 x5 x3 x4 (fun y6 => k0 y6)
abbrev UL2 (n : Nat) : Orc R := oN
abbrev ULl (n : Nat) : Orc R := oN
abbrev K15 (R : Type) (n : Nat) := JcH (R := R) Tryz.prog (UBD n) UwN n (17, []) (UL2 n) (ULl n)
theorem UNo (n : Nat) : Je6 (K15 R n) (JaJ UwN (Jll Tryz.f15)) := pO pN (by kernel_rfl)
abbrev t15 : Sl (List SV) := (.c (sP (JlI (.c (Jlv .i64) (.c sSh .n)))) (cH (cH (cH .n))))
abbrev f15 (n : Nat) (K : List SV → O R) : t15.T (O R) := fun x1 x2 x3 x4 x5 => p15 n x1 x2 x3 x4 x5 (fun y1 => K [vI y1])
abbrev UJz (n : Nat) : FS := fT [false, false, false, false] t15 (f15 n)
theorem UMH (n : Nat) : FSound Tryz.prog GI 15 (UJz n) := gd UwN n (Upu n) Tryz.func15 (.cons (Upu n) t15 (f15 n) (fun K _ _ _ _ _ => (Jkq (c := Jll Tryz.f15) (by kernel_rfl) (UNo n) K).trans (by kernel_rfl)) .nil) (by kernel_rfl)
def UwP : Ann := { loops := [], cuts := [], frz := [], rm := [.id] }
abbrev UBF (n : Nat) : Env := eC 32 (UEZ n) eN
theorem Upy (n : Nat) : EnvOK Tryz.prog GI (UBF n) := .cons (.nil) (UHe n)
def p20 (n : Nat) (x1 : Int) (x2 x3 x4 x5 : LP) (k0 : Int → O R) : O R :=
  UDu n x1 x2 x3 ([.sh x4, .sh x5] : LP) [] false x5 x1 x2 x3 (fun y6 => k0 y6)
abbrev UL4 (n : Nat) : Orc R := oN
abbrev ULn (n : Nat) : Orc R := oN
abbrev K20 (R : Type) (n : Nat) := JcH (R := R) Tryz.prog (UBF n) UwP n (17, []) (UL4 n) (ULn n)
theorem UNs (n : Nat) : Je6 (K20 R n) (JaJ UwP (Jll Tryz.f20)) := pO pN (by kernel_rfl)
abbrev t20 : Sl (List SV) := (.c (sP (JlI (.c (Jlv .i64) (.c sSh .n)))) (cH (cH (cH .n))))
abbrev f20 (n : Nat) (K : List SV → O R) : t20.T (O R) := fun x1 x2 x3 x4 x5 => p20 n x1 x2 x3 x4 x5 (fun y1 => K [vI y1])
abbrev UJB (n : Nat) : FS := fT [false, false, false, false] t20 (f20 n)
theorem UMJ (n : Nat) : FSound Tryz.prog GI 20 (UJB n) := gd UwP n (Upy n) Tryz.func20 (.cons (Upy n) t20 (f20 n) (fun K _ _ _ _ _ => (Jkq (c := Jll Tryz.f20) (by kernel_rfl) (UNs n) K).trans (by kernel_rfl)) .nil) (by kernel_rfl)
def UwS : Ann := { loops := [], cuts := [], frz := [], rm := [.id] }
abbrev UBI (n : Nat) : Env := eN
theorem UpF (n : Nat) : EnvOK Tryz.prog GI (UBI n) := .nil
def p28 (n : Nat) (x1 : Int) (x2 : ByteArray) (k0 : Int → ByteArray → O R) : O R :=
  k0 x1 x2
abbrev UL7 (n : Nat) : Orc R := oN
abbrev ULq (n : Nat) : Orc R := oN
abbrev K28 (R : Type) (n : Nat) := JcH (R := R) Tryz.prog (UBI n) UwS n (8, []) (UL7 n) (ULq n)
theorem UNz (n : Nat) : Je6 (K28 R n) (JaJ UwS (Jll Tryz.f28)) := pO pN (by kernel_rfl)
abbrev t28 : Sl (List SV) := (cI (cS .n))
abbrev f28 (n : Nat) (K : List SV → O R) : t28.T (O R) := fun x1 x2 => p28 n x1 x2 (fun y1 y2 => K [.p (.agg [.v (.int .i64 y1), .v (.string y2)])])
abbrev UJG (n : Nat) : FS := fT [false, false] t28 (f28 n)
theorem UMO (n : Nat) : FSound Tryz.prog GI 28 (UJG n) := gd UwS n (UpF n) Tryz.func28 (.cons (UpF n) t28 (f28 n) (fun K _ _ => (Jkq (c := Jll Tryz.f28) (by kernel_rfl) (UNz n) K).trans (by kernel_rfl)) .nil) (by kernel_rfl)
def UwL : Ann := { loops := [], cuts := [], frz := [], rm := [.id] }
abbrev UBB (n : Nat) : Env := eC 28 (UJG n) (eC 23 (UJC n) (eC 20 (UJB n) (eC 15 (UJz n) (eC 12 (UF0 n) eN))))
theorem Upr (n : Nat) : EnvOK Tryz.prog GI (UBB n) := .cons (.cons (.cons (.cons (.cons (.nil) (UKv n)) (UMH n)) (UMJ n)) (UMK n)) (UMO n)
def p11 (n : Nat)  (k0 : Bool → O R) : O R :=
  p28 n 0 ⟨#[49]⟩ (fun y1 y2 => p28 n 0 ⟨#[45, 49]⟩ (fun y3 y4 => p23 n 1 ([.agg [.sh ([.agg [.v (.int .i64 y1), .v (.string y2)]] : LP), .v (.string ⟨#[45, 51]⟩), .v (.bool false), .v (.int .i64 0)], .agg [.sh ([.agg [.v (.int .i64 y3), .v (.string y4)]] : LP), .v (.string ⟨#[50]⟩), .v (.bool false), .v (.int .i64 0)]] : LP) ([.v (.string ⟨#[49]⟩), .v (.string ⟨#[49]⟩)] : LP) (fun y5 y6 y7 => p28 n 0 ⟨#[49]⟩ (fun y8 y9 => p28 n 1 ⟨#[49]⟩ (fun y10 y11 => bif (y7 == 0) then (bif true then (bif true then (bif true then (bif (bif true then (((y5).length : Int) == 0) else false) then (bif true then (bif true then (bif (bif true then eqS y6 (⟨#[45, 49]⟩ : ByteArray) else false) then (bif true then (bif true then (p12 n 1 ([.agg [.sh ([.agg [.v (.int .i64 y1), .v (.string y2)]] : LP), .v (.string ⟨#[45, 51]⟩), .v (.bool false), .v (.int .i64 0)], .agg [.sh ([.agg [.v (.int .i64 y3), .v (.string y4)]] : LP), .v (.string ⟨#[50]⟩), .v (.bool false), .v (.int .i64 0)]] : LP) ([.v (.string ⟨#[49]⟩), .v (.string ⟨#[49]⟩)] : LP) (fun y12 => bif true then (bif (bif true then (y12 == 0) else false) then (bif true then (bif true then (p12 n 1 ([.agg [.sh ([.agg [.v (.int .i64 y1), .v (.string y2)]] : LP), .v (.string ⟨#[45, 51]⟩), .v (.bool false), .v (.int .i64 0)], .agg [.sh ([.agg [.v (.int .i64 y3), .v (.string y4)]] : LP), .v (.string ⟨#[50]⟩), .v (.bool false), .v (.int .i64 0)]] : LP) ([.v (.string ⟨#[49]⟩), .v (.string ⟨#[48]⟩)] : LP) (fun y13 => bif true then (bif (bif true then (y13 == 16) else false) then (bif true then (p28 n 0 ⟨#[50]⟩ (fun y14 y15 => bif true then (p28 n 1 ⟨#[51]⟩ (fun y16 y17 => bif true then (bif true then (bif true then (bif true then (p15 n 2 ([.agg [.sh ([.agg [.v (.int .i64 y8), .v (.string y9)], .agg [.v (.int .i64 y10), .v (.string y11)]] : LP), .v (.string ⟨#[45, 50]⟩), .v (.bool false), .v (.int .i64 0)]] : LP) ([.agg [.v (.int .i64 y14), .v (.string y15)], .agg [.v (.int .i64 y16), .v (.string y17)]] : LP) ([.v (.string ⟨#[50]⟩), .v (.string ⟨#[48]⟩)] : LP) ([.v (.string ⟨#[50]⟩)] : LP) (fun y18 => bif true then (bif (bif true then (y18 == 0) else false) then (bif true then (p28 n 1 ⟨#[45, 49]⟩ (fun y19 y20 => bif true then (bif true then (bif true then (bif true then (p20 n 2 ([.agg [.sh ([.agg [.v (.int .i64 y8), .v (.string y9)], .agg [.v (.int .i64 y10), .v (.string y11)]] : LP), .v (.string ⟨#[45, 50]⟩), .v (.bool false), .v (.int .i64 0)]] : LP) ([.agg [.v (.int .i64 y19), .v (.string y20)]] : LP) ([.v (.string ⟨#[50]⟩), .v (.string ⟨#[48]⟩)] : LP) ([.v (.string ⟨#[48]⟩), .v (.string ⟨#[49]⟩)] : LP) (fun y21 => bif true then (k0 (bif true then (y21 == 0) else false)) else none)) else none) else none) else none) else none)) else none) else (bif false then none else (bif false then none else (bif false then none else (bif false then none else (bif false then none else (bif false then none else (bif false then none else (k0 false))))))))) else none)) else none) else none) else none) else none)) else none)) else none) else (bif false then none else (bif false then none else (bif false then none else (bif false then none else (bif false then none else (bif false then none else (bif false then none else (bif false then none else (bif false then none else (bif false then none else (bif false then none else (bif false then none else (bif false then none else (bif false then none else (bif false then none else (bif false then none else (k0 false)))))))))))))))))) else none)) else none) else none) else (bif false then none else (bif false then none else (bif false then none else (bif false then none else (bif false then none else (bif false then none else (bif false then none else (bif false then none else (bif false then none else (bif false then none else (bif false then none else (bif false then none else (bif false then none else (bif false then none else (bif false then none else (bif false then none else (bif false then none else (bif false then none else (bif false then none else (bif false then none else (bif false then none else (k0 false))))))))))))))))))))))) else none)) else none) else none) else (bif false then none else (bif false then none else (bif false then none else (bif false then none else (bif false then none else (bif false then none else (bif false then none else (bif false then none else (bif false then none else (bif false then none else (bif false then none else (bif false then none else (bif false then none else (bif false then none else (bif false then none else (bif false then none else (bif false then none else (bif false then none else (bif false then none else (bif false then none else (bif false then none else (bif false then none else (bif false then none else (bif false then none else (bif false then none else (bif false then none else (k0 false)))))))))))))))))))))))))))) else none) else none) else (bif false then none else (bif false then none else (bif false then none else (bif false then none else (bif false then none else (bif false then none else (bif false then none else (bif false then none else (bif false then none else (bif false then none else (bif false then none else (bif false then none else (bif false then none else (bif false then none else (bif false then none else (bif false then none else (bif false then none else (bif false then none else (bif false then none else (bif false then none else (bif false then none else (bif false then none else (bif false then none else (bif false then none else (bif false then none else (bif false then none else (bif false then none else (bif false then none else (bif false then none else (bif false then none else (k0 false)))))))))))))))))))))))))))))))) else none) else none) else none) else (bif false then none else (bif false then none else (bif false then none else (bif false then none else (bif false then none else (bif false then none else (bif false then none else (bif false then none else (bif false then none else (bif false then none else (bif false then none else (bif false then none else (bif false then none else (bif false then none else (bif false then none else (bif false then none else (bif false then none else (bif false then none else (bif false then none else (bif false then none else (bif false then none else (bif false then none else (bif false then none else (bif false then none else (bif false then none else (bif false then none else (bif false then none else (bif false then none else (bif false then none else (bif false then none else (bif false then none else (bif false then none else (bif false then none else (bif false then none else (bif false then none else (k0 false)))))))))))))))))))))))))))))))))))))))))
abbrev UL0 (n : Nat) : Orc R := oN
abbrev ULj (n : Nat) : Orc R := oN
abbrev K11 (R : Type) (n : Nat) := JcH (R := R) Tryz.prog (UBB n) UwL n (69, []) (UL0 n) (ULj n)
theorem UNl (n : Nat) : Je6 (K11 R n) (JaJ UwL (Jll Tryz.f11)) := pO pN (by kernel_rfl)
abbrev t11 : Sl (List SV) := .n
abbrev f11 (n : Nat) (K : List SV → O R) : t11.T (O R) := p11 n  (fun y1 => K [vB y1])
abbrev UJx (n : Nat) : FS := fT [] t11 (f11 n)
theorem UMF (n : Nat) : FSound Tryz.prog GI 11 (UJx n) := gd UwL n (Upr n) Tryz.func11 (.cons (Upr n) t11 (f11 n) (fun K => (Jkq (c := Jll Tryz.f11) (by kernel_rfl) (UNl n) K).trans (by kernel_rfl)) .nil) (by kernel_rfl)
end
end Go.Proofs.YtmgfmlhdnadglaaGreatDoor
namespace Go.Proofs.YtmgfmlhdnadglaaGreatDoor
open Go Th Go.Proofs
theorem UDm {R : Type} (m : Nat) (k0 : Bool → Option R) : p11 (m + 40) k0 = k0 true := by kernel_rfl
theorem Uzd {R : Type} (n : Nat) (h : 40 ≤ n) (k0 : Bool → Option R) : p11 n k0 = k0 true := by
  rw [show n = (n - 40) + 40 from by omega]; exact UDm _ k0
end Go.Proofs.YtmgfmlhdnadglaaGreatDoor
set_option linter.unusedVariables false
namespace Go.Proofs.YtmgfmlhdnadglaaGreatDoor
open Go Th Go.Proofs
abbrev UcY : List (String × DataW Unit) := [("math/bits.deBruijn32tab", Rows.laid_math_bits_deBruijn32tab), ("math/bits.deBruijn64tab", Rows.laid_math_bits_deBruijn64tab), ("internal/strconv.uint64pow10", Rows.laid_internal_strconv_uint64pow10), ("unicode/utf8.acceptRanges", Rows.laid_unicode_utf8_acceptRanges), ("strconv.ErrRange", Rows.laid_strconv_ErrRange), ("strconv.ErrSyntax", Rows.laid_strconv_ErrSyntax), ("unicode/utf8.first", Rows.laid_unicode_utf8_first)]
theorem Uuq {W : World} (h : laidMetH Tryz.prog UcY W) : Lib.TabIs Tryz.prog W "internal/strconv.uint64pow10" .u64 Lib.pow10Tab := by
  rw [MakeChecks.laidMetH_plain _ _ _ (by kernel_rfl)] at h
  obtain ⟨ps, ⟨_, _, _, _, _, _, _, _, _, _, ⟨_, _, _, _, _, _, _, _, _, _, ⟨g, t, cs, f, p, q, hg, ht, hv, hd, _, _⟩, _⟩, _⟩, _⟩ := h
  obtain rfl := Option.some.inj ((show Tryz.prog.globalNamed "internal/strconv.uint64pow10" = some 0 by kernel_rfl).symm.trans hg)
  have e : (Rows.laid_internal_strconv_uint64pow10 : DataW Unit) = Lib.tabData .u64 Lib.pow10Tab := by kernel_rfl
  rw [e] at hd
  obtain rfl := Option.some.inj ((show (Tryz.prog.globals[0]?).map (·.type) = some 199 by kernel_rfl).symm.trans ht)
  have hc := Lib.cells_of_tab Tryz.underlying199 Tryz.underlying144 (by kernel_rfl) (by kernel_rfl) hd
  unfold Lib.TabIs
  rw [hv, ← hc]
theorem Uur {P : Program} {W : World} {name : String} {k : IntKind} {zs : List Int} {g : Nat} (hg : P.globalNamed name = some g) (h : Lib.TabIs P W name k zs) : g < W.heap.size := by
  unfold Lib.TabIs World.var? at h
  rw [hg] at h
  simp only [Option.bind_some] at h
  split at h
  · rename_i hh
    exact (Array.getElem?_eq_some_iff.1 hh).1
  · cases h
abbrev Tab (W : World) : Prop := Lib.TabIs Tryz.prog W "internal/strconv.uint64pow10" .u64 Lib.pow10Tab
def Fp (ps : List MemPlace) (b : Nat) : Prop := b = 0 ∨ ∃ x ∈ ps, x.block = b
theorem UCm {ps qs : List MemPlace} (h : ∀ x ∈ qs, x ∈ ps) : ∀ x ∈ qs, Fp ps x.block := fun x hx => .inr ⟨x, h x hx, rfl⟩
theorem UtD {g : Nat} {fs : FS} (hf : FSound Tryz.prog GI g fs) {cargs : Array Value} {args : List PV} {W : World} (h : Tab W) (ps : List MemPlace) (hlt : ∀ x ∈ ps, x.block < W.heap.size)
    (ha : RSs Tryz.prog (Fp ps) W (args.map SV.p) cargs.toList []) (hk : fs.run (args.map SV.p) JgZ = some true) :
    Calls Tryz.prog g cargs W fun e w' => e = .returned (.bool true) ∧ RowKit.Below W.heap.size W w' :=
  Jjb hf W (Fp ps) (fun b hb => by
    rcases hb with rfl | ⟨x, hx, rfl⟩
    · exact Uur (by kernel_rfl) h
    · exact hlt x hx) ⟨.inl rfl, h⟩ ha hk
theorem c3 : Tryz.prog.cellsOf 3 = 1 := by kernel_rfl
theorem c4 : Tryz.prog.cellsOf 4 = 1 := by kernel_rfl
theorem c9 : Tryz.prog.cellsOf 9 = 1 := by kernel_rfl
theorem c22 : Tryz.prog.cellsOf 22 = 1 := by kernel_rfl
theorem c24 : Tryz.prog.cellsOf 24 = 2 := by kernel_rfl
theorem c25 : Tryz.prog.cellsOf 25 = 1 := by kernel_rfl
theorem c33 : Tryz.prog.cellsOf 33 = 1 := by kernel_rfl
theorem c66 : Tryz.prog.cellsOf 66 = 2 := by kernel_rfl
theorem c70 : Tryz.prog.cellsOf 70 = 4 := by kernel_rfl
section
variable {H : Type} {enc : TypeId × Value → H} {W : World} {spare : Nat → Bool} {held : Bool} {F : Nat → Prop}
abbrev Unb := Int × ByteArray × Unit
abbrev UAv := List Unb × ByteArray × Bool × Int × Unit
abbrev UI1 := Int × List UAv × Unit
def termC (y : Unb) : List PV := [.v (.int .i64 y.1)] ++ ([.v (.string y.2.1)] ++ [])
def rowC (y : UAv) : List PV := [.sh (y.1.map fun t => .agg (termC t))] ++ ([.v (.string y.2.1)] ++ ([.v (.bool y.2.2.1)] ++ ([.v (.int .i64 y.2.2.2.1)] ++ [])))
def sysC (y : UI1) : List PV := [.v (.int .i64 y.1)] ++ ([.sh (y.2.1.map fun r => .agg (rowC r))] ++ [])
theorem UyL {f : Field} {fs : List Field} {off : Nat} {B : Type} {ok2 : B → Prop} {cells2 : B → List PV} {size : Nat} (ho : f.offset = off) (ht : f.type = 3) (s : Fld enc Tryz.prog W spare held F fs (off + 1) B ok2 cells2 size) :
    Fld enc Tryz.prog W spare held F (f :: fs) off (Int × B) (fun y => (Lit.int .i64 y.1).wf = true ∧ ok2 y.2) (fun y => [.v (.int .i64 y.1)] ++ cells2 y.2) (1 + size) :=
  JkR ho (by rw [ht]; exact c3) (by rw [ht]; exact Jlo Tryz.underlying3 c3) s
theorem UCh {f : Field} {fs : List Field} {off : Nat} {B : Type} {ok2 : B → Prop} {cells2 : B → List PV} {size : Nat} (ho : f.offset = off) (ht : f.type = 9) (s : Fld enc Tryz.prog W spare held F fs (off + 1) B ok2 cells2 size) :
    Fld enc Tryz.prog W spare held F (f :: fs) off (ByteArray × B) (fun y => y.1.size ≤ maxLen ∧ ok2 y.2) (fun y => [.v (.string y.1)] ++ cells2 y.2) (1 + size) :=
  JkR ho (by rw [ht]; exact c9) (by rw [ht]; exact Jlp Tryz.underlying9 c9) s
theorem UCg {f : Field} {fs : List Field} {off : Nat} {B : Type} {ok2 : B → Prop} {cells2 : B → List PV} {size : Nat} (ho : f.offset = off) (ht : f.type = 4) (s : Fld enc Tryz.prog W spare held F fs (off + 1) B ok2 cells2 size) :
    Fld enc Tryz.prog W spare held F (f :: fs) off (Bool × B) (fun y => True ∧ ok2 y.2) (fun y => [.v (.bool y.1)] ++ cells2 y.2) (1 + size) :=
  JkR ho (by rw [ht]; exact c4) (by rw [ht]; exact Jlc Tryz.underlying4 c4) s
theorem UJv {t k : Nat} {f : Field} {fs : List Field} {off : Nat} {A B : Type} {ok : A → Prop} {cells : A → List PV} {ok2 : B → Prop} {cells2 : B → List PV} {size : Nat} (ht : f.type = t) (hc : Tryz.prog.cellsOf t = k) (r : Rd enc Tryz.prog W spare held F t A ok cells) (ho : f.offset = off) (s : Fld enc Tryz.prog W spare held F fs (off + k) B ok2 cells2 size) :
    Fld enc Tryz.prog W spare held F (f :: fs) off (A × B) (fun y => ok y.1 ∧ ok2 y.2) (fun y => cells y.1 ++ cells2 y.2) (k + size) :=
  JkR ho (by rw [ht]; exact hc) (by rw [ht]; exact r) s
theorem UAg : ∃ ok, Rd enc Tryz.prog W spare held F 66 Unb ok termC :=
  ⟨_, JkG Tryz.underlying66 c66 (UyL rfl rfl (UCh rfl rfl (Jk4 _)))⟩
theorem Uuj : ∃ ok, Rd enc Tryz.prog W spare held F 33 (List Unb) ok (fun l => [.sh (l.map fun t => .agg (termC t))]) :=
  let ⟨ok, h⟩ := UAg
  ⟨_, JkY Tryz.underlying33 c33 (by rw [c66]; omega) (fun a => rfl) h⟩
theorem UEx : ∃ ok, Rd enc Tryz.prog W spare held F 70 UAv ok rowC :=
  let ⟨ok, h⟩ := Uuj
  ⟨_, JkG Tryz.underlying70 c70 (UJv (t := 33) rfl c33 h rfl (UCh rfl rfl (UCg rfl rfl (UyL rfl rfl (Jk4 _)))))⟩
theorem UAe : ∃ ok, Rd enc Tryz.prog W spare held F 22 (List UAv) ok (fun l => [.sh (l.map fun t => .agg (rowC t))]) :=
  let ⟨ok, h⟩ := UEx
  ⟨_, JkY Tryz.underlying22 c22 (by rw [c70]; omega) (fun a => rfl) h⟩
theorem UEy : ∃ ok, Rd enc Tryz.prog W spare held F 24 UI1 ok sysC :=
  let ⟨ok, h⟩ := UAe
  ⟨_, JkG Tryz.underlying24 c24 (UyL rfl rfl (UJv (t := 22) rfl c22 h rfl (Jk4 _)))⟩
theorem UAf : ∃ ok, Rd enc Tryz.prog W spare held F 25 (List ByteArray) ok (fun l => [.sh (l.map fun s => .v (.string s))]) :=
  ⟨_, JkY Tryz.underlying25 c25 (by rw [c9]; omega) (fun a => rfl) (Jlp Tryz.underlying9 c9)⟩
def UEH (y : Unb) : TermT := (y.1, y.2.1.data.toList)
def UH8 (y : UAv) : RowT := ⟨y.1.map UEH, y.2.1.data.toList, y.2.2.1, y.2.2.2.1⟩
theorem UAq (l : List Unb) : (l.map fun t => PV.agg (termC t)) = tms (l.map UEH) := by
  unfold tms; rw [List.map_map]; rfl
theorem UEz (l : List UAv) : (l.map fun t => PV.agg (rowC t)) = rws (l.map UH8) := by
  unfold rws
  rw [List.map_map]
  refine List.map_congr_left fun r _ => ?_
  show PV.agg ([.sh (r.1.map fun t => .agg (termC t))] ++ _) = rPV (UH8 r)
  rw [UAq]; rfl
theorem UEE (l : List ByteArray) : (l.map fun s => PV.v (.string s)) = sl (l.map fun s => s.data.toList) := by
  unfold sl; rw [List.map_map]; rfl
theorem Uxp {cs : Array Value} {d : DataW H} {p : List MemPlace} (h : DataW.Trod enc Tryz.prog W 0 spare held 24 (.agg cs) d p) (hF : ∀ x ∈ p, F x.block) : ∃ cols rows, RP F W (.agg [.v (.int .i64 cols), .sh (rws rows)]) (.agg cs) := by
  obtain ⟨ok, r⟩ := UEy (enc := enc) (W := W) (spare := spare) (held := held) (F := F)
  obtain ⟨a, _, h2⟩ := Jlq r h hF
  refine ⟨a.1, a.2.1.map UH8, ?_⟩
  rw [← UEz]
  exact h2
theorem Uta {x : Option Addr} {len cap : Nat} {d : DataW H} {p : List MemPlace} (h : DataW.Trod enc Tryz.prog W 0 spare held 25 (.slice x len cap) d p) (hF : ∀ x ∈ p, F x.block) : ∃ l, RP F W (.sh (sl l)) (.slice x len cap) := by
  obtain ⟨ok, r⟩ := UAf (enc := enc) (W := W) (spare := spare) (held := held) (F := F)
  obtain ⟨a, _, h2⟩ := Jlr r h hF
  refine ⟨a.map fun s => s.data.toList, ?_⟩
  rw [← UEE]
  exact h2
end
end Go.Proofs.YtmgfmlhdnadglaaGreatDoor
set_option linter.unusedVariables false
set_option maxRecDepth 100000
namespace Go.Proofs.YtmgfmlhdnadglaaGreatDoor
open Go Th Go.Proofs
noncomputable section
variable {R : Type}
def UFx : Ann := { loops := [], cuts := [], frz := [], rm := [.id] }
abbrev UJk (n : Nat) : Env := eC 13 (UJy n) (eC 12 (UF0 n) (eC 11 (UJx n) (eC 10 (UJw n) (eC 9 (fs9 n) eN))))
theorem Uvz (n : Nat) : EnvOK Tryz.prog GI (UJk n) := .cons (.cons (.cons (.cons (.cons (.nil) (ok9 n)) (UME n)) (UMF n)) (UKv n)) (UMG n)
def p3 (n : Nat) (x1 : Int) (x2 x3 : LP) (k0 : Bool → O R) : O R :=
  p9 n x1 x2 (fun y4 => bif (!y4) then (p11 n (fun y5 => k0 y5)) else (p10 n x3 (fun y6 => bif (bif false then true else (!y6)) then (p11 n (fun y7 => k0 y7)) else (p12 n x1 x2 x3 (fun y8 => p13 n x1 x2 x3 (fun y9 => bif (y8 == y9) then (p11 n (fun y10 => k0 (bif true then y10 else false))) else (k0 false)))))))
abbrev lo3 (n : Nat) : Orc R := oN
abbrev cu3 (n : Nat) : Orc R := oN
abbrev K3 (R : Type) (n : Nat) := JcH (R := R) Tryz.prog (UJk n) UFx n (24, []) (lo3 n) (cu3 n)
theorem pa3 (n : Nat) : Je6 (K3 R n) (JaJ UFx (Jll Tryz.f3)) := pO pN (by kernel_rfl)
abbrev t3 : Sl (List SV) := (.c (sP (JlI (.c (Jlv .i64) (.c sSh .n)))) (cH .n))
abbrev f3 (n : Nat) (K : List SV → O R) : t3.T (O R) := fun x1 x2 x3 => p3 n x1 x2 x3 (fun y1 => K [vB y1])
abbrev fs3 (n : Nat) : FS := fT [false, false] t3 (f3 n)
theorem ok3 (n : Nat) : FSound Tryz.prog GI 3 (fs3 n) := gd UFx n (Uvz n) Tryz.func3 (.cons (Uvz n) t3 (f3 n) (fun K _ _ _ => (Jkq (c := Jll Tryz.f3) (by kernel_rfl) (pa3 n) K).trans (by kernel_rfl)) .nil) (by kernel_rfl)
end
end Go.Proofs.YtmgfmlhdnadglaaGreatDoor
set_option linter.unusedVariables false
set_option linter.unusedSimpArgs false
namespace Go.Proofs.YtmgfmlhdnadglaaGreatDoor
open Go Th Go.Proofs
variable {R : Type}
theorem Ud0 (n : Nat) (hn : 10 ^ 1000 ≤ n) (cols : Int) (rows : List RowT) (mult : List (List UInt8)) (k : Bool → Option R) : p3 n cols (rws rows) (sl mult) k = k true := by
  have hN := Uaq (UaR hn)
  have hA := fun k => Uzd (R := R) n (Nat.le_trans (by decide) hN) k
  have h1 := fun k => UCk (R := R) n hN cols rows k
  have h2 := fun k => UsK (R := R) n hN mult k
  unfold p3
  rw [h1]
  cases h3 : UCi rows with
  | false => simp only [UFb, UaP, hA]
  | true =>
    simp only [UFc, Uak, h2]
    cases h4 : Ujc mult with
    | false => simp only [UFb, UaP, hA]
    | true =>
      have g1 := fun k => UrA (R := R) n hn cols rows mult (UvP h3) (Um6 h4) k
      have g2 := fun k => Uny (R := R) n hn cols rows mult (UvP h3) (Um6 h4) k
      have e : (Unn cols rows mult == Unn cols rows mult) = true := beq_self_eq_true _
      simp only [UFc, Uak, g1, g2, e, UaP, hA]
theorem Uds {H : Type} {enc : TypeId × Value → H} {spare : Nat → Bool} {held : Bool} (W : World) (h : Tab W) {c0 : Array Value} {x1 : Option Addr} {l1 p1 : Nat} {d0 d1 : DataW H} {q0 q1 : List MemPlace}
    (h0 : DataW.Trod enc Tryz.prog W 0 spare held 24 (.agg c0) d0 q0) (h1 : DataW.Trod enc Tryz.prog W 0 spare held 25 (.slice x1 l1 p1) d1 q1) (hlt : ∀ x ∈ q0 ++ q1, x.block < W.heap.size) :
    Calls Tryz.prog 3 #[.agg c0, .slice x1 l1 p1] W fun e w' => e = .returned (.bool true) ∧ RowKit.Below W.heap.size W w' := by
  obtain ⟨cols, rows, r0⟩ := Uxp (F := Fp (q0 ++ q1)) h0 (UCm fun x hx => List.mem_append_left _ hx)
  obtain ⟨mult, r1⟩ := Uta (F := Fp (q0 ++ q1)) h1 (UCm fun x hx => List.mem_append_right _ hx)
  refine UtD (ok3 (10 ^ 1000)) (args := [.agg [.v (.int .i64 cols), .sh (rws rows)], .sh (sl mult)]) h (q0 ++ q1) hlt (.cons (B := []) (.p r0) (.cons (B := []) (.p r1) .nil)) ?_
  show p3 (10 ^ 1000) cols (rws rows) (sl mult) _ = _
  rw [Ud0 (10 ^ 1000) (Nat.le_refl _) cols rows mult]; rfl
end Go.Proofs.YtmgfmlhdnadglaaGreatDoor
namespace Go.Proofs.YtmgfmlhdnadglaaGreatDoor.certifyFarkas
open Go.ChangeShapes Go.WideShapes Go.ChangeAt Go.RowKit
open Go.ChangeMaps (open_string shut_string)
theorem own : ownKnob Tryz.prog.godebug = none := by kernel_rfl
theorem laidOut : laidOutB Tryz.prog = true := by kernel_rfl
set_option maxRecDepth 100000 in
theorem lifted (os : Os) (started : os.Started) (H : Type) (enc : TypeId × Value → H) :
    ReturnsInHanded {} Tryz.checked os 3 .any (fun w args => (Rows.certifyFarkasSpec.pre enc Tryz.prog Tryz.f3 Rows.certifyFarkasRow.domain false w args ∧ laidMetH Tryz.prog UcY w) ∧ sizedMet enc Tryz.prog Tryz.f3 (OpenSpec.ofChange Rows.certifyFarkasSpec) false w args)
      (Rows.certifyFarkasSpec.post enc Tryz.prog Tryz.f3 false true false false) := by
  refine returnsInHanded_of_change_and (C := Tryz.checked) (X := fun w _ => laidMetH Tryz.prog UcY w) (fun _ _ _ hh h => h.of_heap hh) own started (by kernel_rfl) Tryz.func3
    (ChangeSpec.witness_shaped (enc := enc) (C := Tryz.checked) (os := os) (X := fun w _ => laidMetH Tryz.prog UcY w) false (World.laidAll Tryz.prog os UcY) #[.agg #[.int .i64 0, .slice none 0 0], .slice none 0 0] 8 (World.laidAll_os _ _ _)
      (World.shaped_of_ZipB (by kernel_rfl) (by kernel_rfl)) (by kernel_rfl) (by kernel_rfl) (by kernel_rfl)
      (by rw [MakeChecks.laidMetH_plain _ _ _ (by kernel_rfl)]; exact laidMet_laidAll _ (by kernel_rfl) (by kernel_rfl))) ?_
  intro W base args ds gs before hval0 hW hcnd hsz0 hL _
  have hval : ∀ (j : Nat) t v, Tryz.f3.params[j]? = some t → args[j]? = some v → Value.okWide Tryz.prog W .any base t v := hval0
  have hW' := hW
  obtain ⟨p, q, hA0, hV, rfl, hfz, hnd⟩ := hW
  have hA : DataW.TrodAll enc Tryz.prog W 0 (fun _ => true) true Tryz.f3.params.toList args.toList ds p := hA0
  rw [Tryz.params3] at hA hval
  obtain ⟨v0, vs0, d0, ds0, p0, q0, hargs, rfl, rfl, h0, r0⟩ := trodAll_cons hA
  obtain ⟨v1, vs1, d1, ds1, p1, q1, rfl, rfl, rfl, h1, r1⟩ := trodAll_cons r0
  obtain ⟨rfl, rfl, rfl⟩ := trodAll_nil r1
  obtain rfl : args = #[v0, v1] := by cases args; simp_all
  obtain ⟨rfl, rfl⟩ := trodVars_none hV
  obtain ⟨cs0, rfl, _⟩ := okWide_struct Tryz.underlying24 (hval 0 24 v0 rfl rfl)
  have h0k := h0
  obtain ⟨sa1, sl1, sc1, rfl⟩ := okWide_slice Tryz.underlying25 (hval 1 25 v1 rfl rfl)
  have h1k := h1
  have hlt : ∀ x ∈ p0 ++ p1, x.block < W.heap.size := fun x hx => by simpa using hW'.lt x (by simpa using hx)
  have hcall := Uds W (Uuq hL) h0 h1 hlt
  clear hA0 hval0 hsz0
  refine hcall.mono fun e W' ⟨he, bel⟩ => ?_
  subst he
  exact ⟨_, rfl, _, _, _, [], _, [], hW', trodAll_mk1 (shut_bool Tryz.underlying4 _), (trodAll_cons_mk (Below.trod laidOut (by kernel_rfl) (of_decide_eq_true (by kernel_rfl)) h0k bel (fun x hx => hlt x (by simp [hx]))) (trodAll_cons_mk (Below.trod laidOut (by kernel_rfl) (of_decide_eq_true (by kernel_rfl)) h1k bel (fun x hx => hlt x (by simp [hx]))) trodAll_mk0)), rfl, bel.frame _, fun h => by cases h⟩
theorem over : Rows.CertifyFarkasSaid :=
  OpenClaim.holds_of_wide 3 Tryz.f3 rfl rfl rfl rfl rfl rfl rfl ⟨rfl, rfl, rfl, rfl, rfl⟩ rfl rfl rfl rfl rfl (by kernel_rfl) Tryz.func3 (by kernel_rfl)
    (of_decide_eq_true (by kernel_rfl)) (by unfold Func.isWrapper; first | (rw [if_pos (by decide +kernel)]; kernel_rfl) | (rw [if_neg (by decide +kernel)]; exact ⟨rfl, rfl⟩))
    (fun os started H enc _ => lifted os started H enc)
theorem proved : Rows.CertifyFarkasCardSaid :=
  Claim7.holds_tied_plain_at .later [] [.data, .data, .data, .data, .sentinel, .sentinel, .pinned] true (true, "f7700371c8b5fddb2e0cf9d5ff2e169200c13f28753ab1d3c19509a013739147") true over (fun _ h => by cases h) (by kernel_rfl) (fun _ h => by cases h) certifyFarkas_row_tie rfl ⟨rfl, rfl⟩ (by kernel_rfl) rfl
    (fun f fn hf hfn => by
      obtain rfl : f = 3 := Option.some.inj ((show Tryz.prog.funcNamed "cellarer/cellarerlaw08.CertifyFarkas" = some 3 by kernel_rfl).symm.trans hf) |>.symm
      obtain rfl : fn = Tryz.f3 := (Option.some.inj (Tryz.func3.symm.trans hfn)).symm
      exact ⟨by kernel_rfl, fun j t ht => by
        rw [Tryz.params3] at ht
        have hm : t ∈ [24, 25] := by simpa using Array.mem_of_getElem? ht
        have hall : ([24, 25].all fun u => !Tryz.prog.wantsStandIn u) = true := by kernel_rfl
        exact (show Tryz.prog.wantsStandIn t = false by simpa using List.all_eq_true.1 hall t hm)⟩)
    (by kernel_rfl)
end Go.Proofs.YtmgfmlhdnadglaaGreatDoor.certifyFarkas
namespace Go.Proofs.YtmgfmlhdnadglaaGreatDoor
theorem certifyFarkas_holds : Rows.CertifyFarkasCardSaid := certifyFarkas.proved
end Go.Proofs.YtmgfmlhdnadglaaGreatDoor
