/- Proved: the law CertifyFarkas returns true at all its arguments (no further conditions): the row and what it stands on. -/
import Derived.Test.YtmgfmlhdnadglaaGreatDoorMCertifyFarkas0
import Derived.Test.YtmgfmlhdnadglaaGreatDoorMCertifyFarkas2
import Derived.Test.YtmgfmlhdnadglaaGreatDoorMCertifyFarkas1
import Derived.Test.YtmgfmlhdnadglaaGreatDoorT2
import Derived.Test.YtmgfmlhdnadglaaGreatDoorT1
import Derived.Test.YtmgfmlhdnadglaaGreatDoorRows
import Derived.WalkKit
import Derived.ProofKit
import Derived.LaidMore
import Derived.Lay
import Derived.Lib.LaidTab
import Derived.Test.YtmgfmlhdnadglaaGreatDoorCards
import Derived.Test.YtmgfmlhdnadglaaGreatDoorTie
import Derived.OpenShut
import Derived.ShutString
import Derived.ChangeOld
import Derived.Below
import Derived.SizedLaws
import Derived.SevenTiedAt
import Derived.Stop.Joined
import Derived.Deep.Strs
import Derived.Carry
set_option linter.unusedVariables false
set_option maxRecDepth 100000
namespace Go.Proofs.YtmgfmlhdnadglaaGreatDoor
open Go Th Go.Proofs
noncomputable section
variable {R : Type}
def Ubn : Ann := { loops := [(4, ids [0, 1, 4, 6], ids [0, 1, 4, 5]), (10, ids [0, 1, 4, 7, 8], ids [0, 1, 4, 5, 7]), (18, ids [1, 4, 9, 10], ids [4, 5, 9])], cuts := [], frz := [], rm := [.id, .id] }
abbrev Uyx (n : Nat) : Env := eC 91 (UGl n) (eC 84 (UE9 n) (eC 71 (UGg n) (eC 69 (UE8 n) (eC 67 (UC0 n) eN))))
theorem UpT (n : Nat) : EnvOK Tryz.prog GI (Uyx n) := .cons (.cons (.cons (.cons (.cons (.nil) (UFk n)) (UHo n)) (UKW n)) (UHp n)) (UK1 n)
def UhQ (n : Nat) (l0 : ByteArray → LP → Bool → Bool → Int → O R) (x1 : ByteArray) (x2 : LP) (x3 x4 : Bool) (x5 : Int) (k0 : ByteArray → LP → LP → Bool → LP → Bool → LP → Int → O R) (k1 : ByteArray → LP → Bool → Bool → O R) : O R :=
  bif (decide (x5 < ((x2).length : Int))) then (bif (inR x5 ((x2).length)) then (Jh8 ((x2).getD ((x5 : Int).toNat) (.v (.bool false))) fun a6 => JdW a6 fun h7 t8 => Jjf .i64 h7 fun e9 => JdW t8 fun h10 t11 => Jj9 h10 fun e12 => Ji8 t11 (p84 n e12 (fun y13 => bif (!y13) then (k0 x1 x2 [] false [] false [] 3) else (l0 x1 x2 x3 x4 (IntKind.i64.wrap (x5 + 1)))))) else none) else (k1 x1 x2 x3 x4)
def UdK (n : Nat) : Nat → ByteArray → LP → Bool → Bool → Int → (ByteArray → LP → LP → Bool → LP → Bool → LP → Int → O R) → (ByteArray → LP → Bool → Bool → O R) → O R
  | 0, _, _, _, _, _, _, _ => none
  | m + 1, x1, x2, x3, x4, x5, k0, k1 => UhQ n (fun x1 x2 x3 x4 x5 => UdK n m x1 x2 x3 x4 x5 k0 k1) x1 x2 x3 x4 x5 k0 k1
def Uwr (n : Nat) (x1 : ByteArray) (x2 : LP) (x3 x4 : Bool) (x5 : Int) (k0 : ByteArray → LP → LP → Bool → LP → Bool → LP → Int → O R) (k1 : ByteArray → LP → Bool → Bool → O R) : O R := UdK n n x1 x2 x3 x4 x5 k0 k1
def Ue4 (n : Nat) (l0 : ByteArray → LP → Bool → Bool → Int → Int → O R) (x1 : ByteArray) (x2 : LP) (x3 x4 : Bool) (x5 x6 : Int) (k0 : ByteArray → LP → LP → Bool → LP → Bool → LP → Int → Int → O R) (k1 : ByteArray → LP → Bool → Bool → Int → O R) : O R :=
  bif (decide (x6 < ((x2).length : Int))) then (bif (inR x6 ((x2).length)) then (Jh8 ((x2).getD ((x6 : Int).toNat) (.v (.bool false))) fun a7 => JdW a7 fun h8 t9 => Jjf .i64 h8 fun e10 => JdW t9 fun h11 t12 => Jj9 h11 fun e13 => Ji8 t12 (bif (decide (e10 < 0)) then (k0 x1 x2 [] false [] false [] 2 x5) else (bif (inR x6 ((x2).length)) then (Jh8 ((x2).getD ((x6 : Int).toNat) (.v (.bool false))) fun a14 => JdW a14 fun h15 t16 => Jjf .i64 h15 fun e17 => JdW t16 fun h18 t19 => Jj9 h18 fun e20 => Ji8 t19 (bif (bif false then true else (decide (e17 ≥ 2048))) then (k0 x1 x2 [] false [] false [] 2 x5) else (bif (inR x6 ((x2).length)) then (Jh8 ((x2).getD ((x6 : Int).toNat) (.v (.bool false))) fun a21 => JdW a21 fun h22 t23 => Jjf .i64 h22 fun e24 => JdW t23 fun h25 t26 => Jj9 h25 fun e27 => Ji8 t26 (let v28 := Jk1 x5 (IntKind.i64.wrap (e24 + 1)); l0 x1 x2 x3 x4 v28 (IntKind.i64.wrap (x6 + 1)))) else none))) else none))) else none) else (k1 x1 x2 x3 x4 x5)
def Uce (n : Nat) : Nat → ByteArray → LP → Bool → Bool → Int → Int → (ByteArray → LP → LP → Bool → LP → Bool → LP → Int → Int → O R) → (ByteArray → LP → Bool → Bool → Int → O R) → O R
  | 0, _, _, _, _, _, _, _, _ => none
  | m + 1, x1, x2, x3, x4, x5, x6, k0, k1 => Ue4 n (fun x1 x2 x3 x4 x5 x6 => Uce n m x1 x2 x3 x4 x5 x6 k0 k1) x1 x2 x3 x4 x5 x6 k0 k1
def UhP (n : Nat) (x1 : ByteArray) (x2 : LP) (x3 x4 : Bool) (x5 x6 : Int) (k0 : ByteArray → LP → LP → Bool → LP → Bool → LP → Int → Int → O R) (k1 : ByteArray → LP → Bool → Bool → Int → O R) : O R := Uce n n x1 x2 x3 x4 x5 x6 k0 k1
def Ue5 (n : Nat) (l0 : LP → Bool → Bool → LP → Bool → LP → Bool → LP → Int → O R) (x1 : LP) (x2 x3 : Bool) (x4 : LP) (x5 : Bool) (x6 : LP) (x7 : Bool) (x8 : LP) (x9 : Int) (k0 : LP → Bool → LP → Bool → LP → Int → LP → Bool → LP → Bool → LP → O R) (k1 : Bool → Bool → LP → Bool → LP → Bool → LP → O R) : O R :=
  bif (decide (x9 < ((x1).length : Int))) then (bif (inR x9 ((x1).length)) then (Jh8 ((x1).getD ((x9 : Int).toNat) (.v (.bool false))) fun a10 => JdW a10 fun h11 t12 => Jjf .i64 h11 fun e13 => JdW t12 fun h14 t15 => Jj9 h14 fun e16 => Ji8 t15 (bif (inR x9 ((x1).length)) then (Jh8 ((x1).getD ((x9 : Int).toNat) (.v (.bool false))) fun a17 => JdW a17 fun h18 t19 => Jjf .i64 h18 fun e20 => JdW t19 fun h21 t22 => Jj9 h21 fun e23 => Ji8 t22 (bif (inR e20 ((x4).length)) then (Jh8 ((x4).getD ((e20 : Int).toNat) (.v (.bool false))) fun a24 => JdW a24 fun h25 t26 => Jj8 h25 fun e27 => JdW t26 fun h28 t29 => Jky h28 fun e30 => JdW t29 fun h31 t32 => Jj8 h31 fun e33 => JdW t32 fun h34 t35 => Jky h34 fun e36 => Ji8 t35 (bif (inR x9 ((x1).length)) then (Jh8 ((x1).getD ((x9 : Int).toNat) (.v (.bool false))) fun a37 => JdW a37 fun h38 t39 => Jjf .i64 h38 fun e40 => JdW t39 fun h41 t42 => Jj9 h41 fun e43 => Ji8 t42 (p69 n e43 (fun y44 y45 y46 y47 => p91 n e27 e30 e33 e36 y44 y45 y46 y47 (fun y48 y49 y50 y51 => bif (inR e13 ((x4).length)) then (Jh8 ((x4).getD ((e13 : Int).toNat) (.v (.bool false))) fun a52 => JdW a52 fun h53 t54 => Jj8 h53 fun e55 => JdW t54 fun h56 t57 => Jky h56 fun e58 => JdW t57 fun h59 t60 => Jj8 h59 fun e61 => JdW t60 fun h62 t63 => Jky h62 fun e64 => Ji8 t63 (bif (inR x9 ((x1).length)) then (Jh8 ((x1).getD ((x9 : Int).toNat) (.v (.bool false))) fun a65 => JdW a65 fun h66 t67 => Jjf .i64 h66 fun e68 => JdW t67 fun h69 t70 => Jj9 h69 fun e71 => Ji8 t70 (bif (inR e68 (((x4).set ((e13 : Int).toNat) (.agg [.v (.bool y48), .sh y49, .v (.bool y50), .sh y51])).length)) then (Jh8 (((x4).set ((e13 : Int).toNat) (.agg [.v (.bool y48), .sh y49, .v (.bool y50), .sh y51])).getD ((e68 : Int).toNat) (.v (.bool false))) fun a72 => JdW a72 fun h73 t74 => Jj8 h73 fun e75 => JdW t74 fun h76 t77 => Jky h76 fun e78 => JdW t77 fun h79 t80 => Jj8 h79 fun e81 => JdW t80 fun h82 t83 => Jky h82 fun e84 => Ji8 t83 (p71 n e75 e78 e81 e84 (fun y85 => bif y85 then (k0 [] false [] false [] 5 ((x4).set ((e13 : Int).toNat) (.agg [.v (.bool y48), .sh y49, .v (.bool y50), .sh y51])) x5 x6 x7 x8) else (l0 x1 x2 x3 ((x4).set ((e13 : Int).toNat) (.agg [.v (.bool y48), .sh y49, .v (.bool y50), .sh y51])) x5 x6 x7 x8 (IntKind.i64.wrap (x9 + 1)))))) else none)) else none)) else none)))) else none)) else none)) else none)) else none) else (k1 x2 x3 x4 x5 x6 x7 x8)
def Ucf (n : Nat) : Nat → LP → Bool → Bool → LP → Bool → LP → Bool → LP → Int → (LP → Bool → LP → Bool → LP → Int → LP → Bool → LP → Bool → LP → O R) → (Bool → Bool → LP → Bool → LP → Bool → LP → O R) → O R
  | 0, _, _, _, _, _, _, _, _, _, _, _ => none
  | m + 1, x1, x2, x3, x4, x5, x6, x7, x8, x9, k0, k1 => Ue5 n (fun x1 x2 x3 x4 x5 x6 x7 x8 x9 => Ucf n m x1 x2 x3 x4 x5 x6 x7 x8 x9 k0 k1) x1 x2 x3 x4 x5 x6 x7 x8 x9 k0 k1
def UcE (n : Nat) (x1 : LP) (x2 x3 : Bool) (x4 : LP) (x5 : Bool) (x6 : LP) (x7 : Bool) (x8 : LP) (x9 : Int) (k0 : LP → Bool → LP → Bool → LP → Int → LP → Bool → LP → Bool → LP → O R) (k1 : Bool → Bool → LP → Bool → LP → Bool → LP → O R) : O R := Ucf n n x1 x2 x3 x4 x5 x6 x7 x8 x9 k0 k1
def p46 (n : Nat) (x1 : ByteArray) (x2 : LP) (k0 : LP → Bool → LP → Bool → LP → Int → O R) : O R :=
  p84 n x1 (fun y3 => bif (!y3) then (k0 [] false [] false [] 3) else (Uwr n x1 x2 false false 0 (fun y4 y5 y6 y7 y8 y9 y10 y11 => k0 y6 y7 y8 y9 y10 y11) (fun y12 y13 y14 y15 => UhP n y12 y13 y14 y15 0 0 (fun y16 y17 y18 y19 y20 y21 y22 y23 y24 => k0 y18 y19 y20 y21 y22 y23) (fun y25 y26 y27 y28 y29 => p67 n y29 (fun y30 y31 y32 y33 y34 => p69 n y25 (fun y35 y36 y37 y38 => UcE n y26 y27 y28 y30 y35 y36 y37 y38 0 (fun y39 y40 y41 y42 y43 y44 y45 y46 y47 y48 y49 => k0 y39 y40 y41 y42 y43 y44) (fun y50 y51 y52 y53 y54 y55 y56 => k0 y52 y53 y54 y55 y56 0)))))))
abbrev E46 (n : Nat) : Code → Fr → Kc R → O R := evC Tryz.prog (Uyx n) Ubn n (105, [])
noncomputable def Uu0 : Code := Jk (Jls Tryz.f46) [1, 1, 0, 1, 0, 0]
abbrev Ugu : Sl (List SV) := (cS (cH (.c (sBx 59 (.c sNl (cB (.c sNl (cB (.c sNl .n)))))) (cI .n))))
abbrev Urd (n m : Nat) (K : Kc R) : Ugu.T (O R) := fun x1 x2 x3 x4 x5 => UdK n m x1 x2 x3 x4 x5 (fun y1 y2 y3 y4 y5 y6 y7 y8 => xL Ubn 4 K .ret [vS y1, vH y2, .bx 59 [vH y3, vB y4, vH y5, vB y6, vH y7], vI y8]) (fun y1 y2 y3 y4 => xL Ubn 4 K (.exit 0) [vS y1, vH y2, .bx 59 [.nl, vB y3, .nl, vB y4, .nl], dD])
abbrev UA9 (n : Nat) (K : Kc R) (l0 : Ugu.T (O R)) : Ugu.T (O R) := fun x1 x2 x3 x4 x5 => UhQ n l0 x1 x2 x3 x4 x5 (fun y1 y2 y3 y4 y5 y6 y7 y8 => xL Ubn 4 K .ret [vS y1, vH y2, .bx 59 [vH y3, vB y4, vH y5, vB y6, vH y7], vI y8]) (fun y1 y2 y3 y4 => xL Ubn 4 K (.exit 0) [vS y1, vH y2, .bx 59 [.nl, vB y3, .nl, vB y4, .nl], dD])
noncomputable def UoG : Code := Jk (Jls Tryz.f46) [1, 1, 1, 1, 0, 1, 0, 0]
abbrev Uen : Sl (List SV) := (cS (cH (.c (sBx 59 (.c sNl (cB (.c sNl (cB (.c sNl .n)))))) (cI (cI .n)))))
abbrev Uj1 (n m : Nat) (K : Kc R) : Uen.T (O R) := fun x1 x2 x3 x4 x5 x6 => Uce n m x1 x2 x3 x4 x5 x6 (fun y1 y2 y3 y4 y5 y6 y7 y8 y9 => xL Ubn 10 K .ret [vS y1, vH y2, .bx 59 [vH y3, vB y4, vH y5, vB y6, vH y7], vI y8, vI y9]) (fun y1 y2 y3 y4 y5 => xL Ubn 10 K (.exit 2) [vS y1, vH y2, .bx 59 [.nl, vB y3, .nl, vB y4, .nl], dD, vI y5])
abbrev UxV (n : Nat) (K : Kc R) (l0 : Uen.T (O R)) : Uen.T (O R) := fun x1 x2 x3 x4 x5 x6 => Ue4 n l0 x1 x2 x3 x4 x5 x6 (fun y1 y2 y3 y4 y5 y6 y7 y8 y9 => xL Ubn 10 K .ret [vS y1, vH y2, .bx 59 [vH y3, vB y4, vH y5, vB y6, vH y7], vI y8, vI y9]) (fun y1 y2 y3 y4 y5 => xL Ubn 10 K (.exit 2) [vS y1, vH y2, .bx 59 [.nl, vB y3, .nl, vB y4, .nl], dD, vI y5])
noncomputable def UoH : Code := Jk (Jls Tryz.f46) [1, 1, 1, 1, 1, 1, 1, 0, 1, 0, 0]
abbrev Ueo : Sl (List SV) := (cH (.c (sBx 59 (.c sNl (cB (.c sNl (cB (.c sNl .n)))))) (.c (sBx 59 (cO 57 (cB (cH (cB (cH .n)))))) (cI .n))))
abbrev Uj2 (n m : Nat) (K : Kc R) : Ueo.T (O R) := fun x1 x2 x3 x4 x5 x6 x7 x8 x9 => Ucf n m x1 x2 x3 x4 x5 x6 x7 x8 x9 (fun y1 y2 y3 y4 y5 y6 y7 y8 y9 y10 y11 => xL Ubn 18 K .ret [.bx 59 [vH y1, vB y2, vH y3, vB y4, vH y5], vI y6, .bx 59 [.own 57 y7, vB y8, vH y9, vB y10, vH y11]]) (fun y1 y2 y3 y4 y5 y6 y7 => xL Ubn 18 K (.exit 4) [.bx 59 [.nl, vB y1, .nl, vB y2, .nl], dD, .bx 59 [.own 57 y3, vB y4, vH y5, vB y6, vH y7]])
abbrev UxW (n : Nat) (K : Kc R) (l0 : Ueo.T (O R)) : Ueo.T (O R) := fun x1 x2 x3 x4 x5 x6 x7 x8 x9 => Ue5 n l0 x1 x2 x3 x4 x5 x6 x7 x8 x9 (fun y1 y2 y3 y4 y5 y6 y7 y8 y9 y10 y11 => xL Ubn 18 K .ret [.bx 59 [vH y1, vB y2, vH y3, vB y4, vH y5], vI y6, .bx 59 [.own 57 y7, vB y8, vH y9, vB y10, vH y11]]) (fun y1 y2 y3 y4 y5 y6 y7 => xL Ubn 18 K (.exit 4) [.bx 59 [.nl, vB y1, .nl, vB y2, .nl], dD, .bx 59 [.own 57 y3, vB y4, vH y5, vB y6, vH y7]])
abbrev UFc (n : Nat) : Orc R := oL Ubn (E46 n) n 18 UoH Ueo (Uj2 n n) (oL Ubn (E46 n) n 10 UoG Uen (Uj1 n n) (oL Ubn (E46 n) n 4 Uu0 Ugu (Urd n n) oN))
abbrev UE0 (n : Nat) : Orc R := oN
abbrev K46 (R : Type) (n : Nat) := JcK (R := R) Tryz.prog (Uyx n) Ubn n (105, []) (UFc n) (UE0 n)
theorem UD8 (n : Nat) : K46 R n (false, 4, Uu0) := JkM (lo := UFc n) (cu := UE0 n) (pO pN (by kernel_rfl)) Ugu (Urd n n) (JiK (F := Urd n) Ugu (UA9 n) (fun K _ _ _ _ _ => rfl) (fun _ _ => rfl) (fun L K _ _ _ _ _ => by show _ = _; kernel_rfl) n) fun _ _ => rfl
theorem Uz8 (n : Nat) : K46 R n (false, 10, UoG) := JkM (lo := UFc n) (cu := UE0 n) (pO pN (by kernel_rfl)) Uen (Uj1 n n) (JiK (F := Uj1 n) Uen (UxV n) (fun K _ _ _ _ _ _ => rfl) (fun _ _ => rfl) (fun L K _ _ _ _ _ _ => by show _ = _; kernel_rfl) n) fun _ _ => rfl
theorem Uz9 (n : Nat) : K46 R n (false, 18, UoH) := JkM (lo := UFc n) (cu := UE0 n) (pO pN (by kernel_rfl)) Ueo (Uj2 n n) (JiK (F := Uj2 n) Ueo (UxW n) (fun K _ _ _ _ _ _ _ _ _ => rfl) (fun _ _ => rfl) (fun L K _ _ _ _ _ _ _ _ _ => by show _ = _; kernel_rfl) n) fun _ _ => rfl
theorem UN1 (n : Nat) : Jfb (K46 R n) (JaJ Ubn (Jls Tryz.f46)) := pO (pC (UD8 n) (pC (Uz8 n) (pC (Uz9 n) pN))) (by kernel_rfl)
abbrev t46 : Sl (List SV) := (cS (cH .n))
abbrev f46 (n : Nat) (K : List SV → O R) : t46.T (O R) := fun x1 x2 => p46 n x1 x2 (fun y1 y2 y3 y4 y5 y6 => K [.p (.agg [.sh y1, .v (.bool y2), .sh y3, .v (.bool y4), .sh y5]), vI y6])
abbrev UJ4 (n : Nat) : FS := fT [false, false] t46 (f46 n)
theorem UNb (n : Nat) : FSound Tryz.prog GI 46 (UJ4 n) := gd Ubn n (UpT n) Tryz.func46 (.cons (UpT n) t46 (f46 n) (fun K _ _ => (Jkx (c := Jls Tryz.f46) (by kernel_rfl) (UN1 n) K).trans (by kernel_rfl)) .nil) (by kernel_rfl)
def Ujr : Ann := { loops := [(3, ids [2, 3, 4, 5, 6], ids [2, 3, 4, 5])], cuts := [], frz := [], rm := [.id] }
abbrev UyH (n : Nat) : Env := eC 108 (UCx n) (eC 67 (UC0 n) eN)
theorem Uqc (n : Nat) : EnvOK Tryz.prog GI (UyH n) := .cons (.cons (.nil) (UFk n)) (UGT n)
def UhZ (n : Nat) (l0 : LP → Bool → LP → Bool → LP → Bool → LP → Bool → LP → Bool → Bool → LP → Bool → LP → Bool → LP → Int → O R) (x1 : LP) (x2 : Bool) (x3 : LP) (x4 : Bool) (x5 : LP) (x6 : Bool) (x7 : LP) (x8 : Bool) (x9 : LP) (x10 x11 : Bool) (x12 : LP) (x13 : Bool) (x14 : LP) (x15 : Bool) (x16 : LP) (x17 : Int) (k0 : LP → Bool → LP → Bool → LP → Bool → LP → Bool → LP → Bool → Bool → LP → Bool → LP → Bool → LP → O R) : O R :=
  bif (decide (x17 < ((x12).length : Int))) then (bif (inR x17 ((x1).length)) then (Jh8 ((x1).getD ((x17 : Int).toNat) (.v (.bool false))) fun a18 => JdW a18 fun h19 t20 => Jj8 h19 fun e21 => JdW t20 fun h22 t23 => Jky h22 fun e24 => JdW t23 fun h25 t26 => Jj8 h25 fun e27 => JdW t26 fun h28 t29 => Jky h28 fun e30 => Ji8 t29 (UAJ n e21 e24 e27 e30 x6 x7 x8 x9 (fun y31 y32 y33 y34 => bif (inR x17 ((x12).length)) then (Jh8 ((x12).getD ((x17 : Int).toNat) (.v (.bool false))) fun a35 => JdW a35 fun h36 t37 => Jj8 h36 fun e38 => JdW t37 fun h39 t40 => Jky h39 fun e41 => JdW t40 fun h42 t43 => Jj8 h42 fun e44 => JdW t43 fun h45 t46 => Jky h45 fun e47 => Ji8 t46 (l0 x1 x2 x3 x4 x5 x6 x7 x8 x9 x10 x11 ((x12).set ((x17 : Int).toNat) (.agg [.v (.bool y31), .sh y32, .v (.bool y33), .sh y34])) x13 x14 x15 x16 (IntKind.i64.wrap (x17 + 1)))) else none))) else none) else (k0 x1 x2 x3 x4 x5 x6 x7 x8 x9 x10 x11 x12 x13 x14 x15 x16)
def UdR (n : Nat) : Nat → LP → Bool → LP → Bool → LP → Bool → LP → Bool → LP → Bool → Bool → LP → Bool → LP → Bool → LP → Int → (LP → Bool → LP → Bool → LP → Bool → LP → Bool → LP → Bool → Bool → LP → Bool → LP → Bool → LP → O R) → O R
  | 0, _, _, _, _, _, _, _, _, _, _, _, _, _, _, _, _, _, _ => none
  | m + 1, x1, x2, x3, x4, x5, x6, x7, x8, x9, x10, x11, x12, x13, x14, x15, x16, x17, k0 => UhZ n (fun x1 x2 x3 x4 x5 x6 x7 x8 x9 x10 x11 x12 x13 x14 x15 x16 x17 => UdR n m x1 x2 x3 x4 x5 x6 x7 x8 x9 x10 x11 x12 x13 x14 x15 x16 x17 k0) x1 x2 x3 x4 x5 x6 x7 x8 x9 x10 x11 x12 x13 x14 x15 x16 x17 k0
def Uwy (n : Nat) (x1 : LP) (x2 : Bool) (x3 : LP) (x4 : Bool) (x5 : LP) (x6 : Bool) (x7 : LP) (x8 : Bool) (x9 : LP) (x10 x11 : Bool) (x12 : LP) (x13 : Bool) (x14 : LP) (x15 : Bool) (x16 : LP) (x17 : Int) (k0 : LP → Bool → LP → Bool → LP → Bool → LP → Bool → LP → Bool → Bool → LP → Bool → LP → Bool → LP → O R) : O R := UdR n n x1 x2 x3 x4 x5 x6 x7 x8 x9 x10 x11 x12 x13 x14 x15 x16 x17 k0
def p68 (n : Nat) (x1 : LP) (x2 : Bool) (x3 : LP) (x4 : Bool) (x5 : LP) (x6 : Bool) (x7 : LP) (x8 : Bool) (x9 : LP) (k0 : LP → Bool → LP → Bool → LP → O R) : O R :=
  p67 n ((x1).length : Int) (fun y10 y11 y12 y13 y14 => Uwy n x1 x2 x3 x4 x5 x6 x7 x8 x9 false false y10 y11 y12 y13 y14 0 (fun y15 y16 y17 y18 y19 y20 y21 y22 y23 y24 y25 y26 y27 y28 y29 y30 => UAJ n y16 y17 y18 y19 y20 y21 y22 y23 (fun y31 y32 y33 y34 => k0 y26 y31 y32 y33 y34)))
abbrev E68 (n : Nat) : Code → Fr → Kc R → O R := evC Tryz.prog (UyH n) Ujr n (35, [])
noncomputable def Uv : Code := Jk (Jls Tryz.f68) [1, 1, 0, 1, 0, 0]
abbrev UgE : Sl (List SV) := (.c (sBx 59 (cH (cB (cH (cB (cH .n)))))) (.c (sBx 57 (cB (cH (cB (cH .n))))) (.c (sBx 59 (.c sNl (cB (.c sNl (cB (.c sNl .n)))))) (.c (sBx 59 (cO 57 (cB (cH (cB (cH .n)))))) (cI .n)))))
abbrev Urq (n m : Nat) (K : Kc R) : UgE.T (O R) := fun x1 x2 x3 x4 x5 x6 x7 x8 x9 x10 x11 x12 x13 x14 x15 x16 x17 => UdR n m x1 x2 x3 x4 x5 x6 x7 x8 x9 x10 x11 x12 x13 x14 x15 x16 x17 (fun y1 y2 y3 y4 y5 y6 y7 y8 y9 y10 y11 y12 y13 y14 y15 y16 => xL Ujr 3 K (.exit 0) [.bx 59 [vH y1, vB y2, vH y3, vB y4, vH y5], .bx 57 [vB y6, vH y7, vB y8, vH y9], .bx 59 [.nl, vB y10, .nl, vB y11, .nl], .bx 59 [.own 57 y12, vB y13, vH y14, vB y15, vH y16]])
abbrev UBi (n : Nat) (K : Kc R) (l0 : UgE.T (O R)) : UgE.T (O R) := fun x1 x2 x3 x4 x5 x6 x7 x8 x9 x10 x11 x12 x13 x14 x15 x16 x17 => UhZ n l0 x1 x2 x3 x4 x5 x6 x7 x8 x9 x10 x11 x12 x13 x14 x15 x16 x17 (fun y1 y2 y3 y4 y5 y6 y7 y8 y9 y10 y11 y12 y13 y14 y15 y16 => xL Ujr 3 K (.exit 0) [.bx 59 [vH y1, vB y2, vH y3, vB y4, vH y5], .bx 57 [vB y6, vH y7, vB y8, vH y9], .bx 59 [.nl, vB y10, .nl, vB y11, .nl], .bx 59 [.own 57 y12, vB y13, vH y14, vB y15, vH y16]])
abbrev UKF (n : Nat) : Orc R := oL Ujr (E68 n) n 3 Uv UgE (Urq n n) oN
abbrev UJu (n : Nat) : Orc R := oN
abbrev K68 (R : Type) (n : Nat) := JcK (R := R) Tryz.prog (UyH n) Ujr n (35, []) (UKF n) (UJu n)
theorem UEi (n : Nat) : K68 R n (false, 3, Uv) := JkM (lo := UKF n) (cu := UJu n) (pO pN (by kernel_rfl)) UgE (Urq n n) (JiK (F := Urq n) UgE (UBi n) (fun K _ _ _ _ _ _ _ _ _ _ _ _ _ _ _ _ _ => rfl) (fun _ _ => rfl) (fun L K _ _ _ _ _ _ _ _ _ _ _ _ _ _ _ _ _ => by show _ = _; kernel_rfl) n) fun _ _ => rfl
theorem UOj (n : Nat) : Jfb (K68 R n) (JaJ Ujr (Jls Tryz.f68)) := pO (pC (UEi n) pN) (by kernel_rfl)
abbrev t68 : Sl (List SV) := (.c (sP (JlP (.c sSh (.c Jlm (.c sSh (.c Jlm (.c sSh .n))))))) (.c (sP (JlP (.c Jlm (.c sSh (.c Jlm (.c sSh .n)))))) .n))
abbrev f68 (n : Nat) (K : List SV → O R) : t68.T (O R) := fun x1 x2 x3 x4 x5 x6 x7 x8 x9 => p68 n x1 x2 x3 x4 x5 x6 x7 x8 x9 (fun y1 y2 y3 y4 y5 => K [.p (.agg [.sh y1, .v (.bool y2), .sh y3, .v (.bool y4), .sh y5])])
abbrev UKd (n : Nat) : FS := fT [false, false] t68 (f68 n)
theorem UNl (n : Nat) : FSound Tryz.prog GI 68 (UKd n) := gd Ujr n (Uqc n) Tryz.func68 (.cons (Uqc n) t68 (f68 n) (fun K _ _ _ _ _ _ _ _ _ => (Jkx (c := Jls Tryz.f68) (by kernel_rfl) (UOj n) K).trans (by kernel_rfl)) .nil) (by kernel_rfl)
def Uw1 : Ann := { loops := [], cuts := [], frz := [], rm := [.id] }
abbrev UBR (n : Nat) : Env := eC 92 (UGm n) eN
theorem UpU (n : Nat) : EnvOK Tryz.prog GI (UBR n) := .cons (.nil) (UK2 n)
def p47 (n : Nat) (x1 : LP) (x2 : Bool) (x3 : LP) (x4 : Bool) (x5 : LP) (x6 : Int) (k0 : Bool → LP → Bool → LP → O R) : O R :=
  bif (decide (x6 < 0)) then (p92 n (fun y7 y8 y9 y10 => k0 y7 y8 y9 y10)) else (bif (bif false then true else (decide (x6 ≥ ((x1).length : Int)))) then (p92 n (fun y11 y12 y13 y14 => k0 y11 y12 y13 y14)) else (bif (inR x6 ((x1).length)) then (Jh8 ((x1).getD ((x6 : Int).toNat) (.v (.bool false))) fun a15 => JdW a15 fun h16 t17 => Jj8 h16 fun e18 => JdW t17 fun h19 t20 => Jky h19 fun e21 => JdW t20 fun h22 t23 => Jj8 h22 fun e24 => JdW t23 fun h25 t26 => Jky h25 fun e27 => Ji8 t26 (k0 e18 e21 e24 e27)) else none))
abbrev UMq (n : Nat) : Orc R := oN
abbrev ULK (n : Nat) : Orc R := oN
abbrev K47 (R : Type) (n : Nat) := JcK (R := R) Tryz.prog (UBR n) Uw1 n (20, []) (UMq n) (ULK n)
theorem UN2 (n : Nat) : Jfb (K47 R n) (JaJ Uw1 (Jls Tryz.f47)) := pO pN (by kernel_rfl)
abbrev t47 : Sl (List SV) := (.c (sP (JlP (.c sSh (.c Jlm (.c sSh (.c Jlm (.c sSh .n))))))) (cI .n))
abbrev f47 (n : Nat) (K : List SV → O R) : t47.T (O R) := fun x1 x2 x3 x4 x5 x6 => p47 n x1 x2 x3 x4 x5 x6 (fun y1 y2 y3 y4 => K [.p (.agg [.v (.bool y1), .sh y2, .v (.bool y3), .sh y4])])
abbrev UJ5 (n : Nat) : FS := fT [false, false] t47 (f47 n)
theorem UNc (n : Nat) : FSound Tryz.prog GI 47 (UJ5 n) := gd Uw1 n (UpU n) Tryz.func47 (.cons (UpU n) t47 (f47 n) (fun K _ _ _ _ _ _ => (Jkx (c := Jls Tryz.f47) (by kernel_rfl) (UN2 n) K).trans (by kernel_rfl)) .nil) (by kernel_rfl)
def Ujs : Ann := { loops := [(3, ids [2, 3, 4, 5, 6], ids [2, 3, 4, 5])], cuts := [], frz := [], rm := [.id] }
abbrev UyI (n : Nat) : Env := eC 91 (UGl n) (eC 67 (UC0 n) (eC 47 (UJ5 n) eN))
theorem Uqe (n : Nat) : EnvOK Tryz.prog GI (UyI n) := .cons (.cons (.cons (.nil) (UNc n)) (UFk n)) (UK1 n)
def Uh0 (n : Nat) (l0 : LP → Bool → LP → Bool → LP → LP → Bool → LP → Bool → LP → Bool → Bool → LP → Bool → LP → Bool → LP → Int → O R) (x1 : LP) (x2 : Bool) (x3 : LP) (x4 : Bool) (x5 x6 : LP) (x7 : Bool) (x8 : LP) (x9 : Bool) (x10 : LP) (x11 x12 : Bool) (x13 : LP) (x14 : Bool) (x15 : LP) (x16 : Bool) (x17 : LP) (x18 : Int) (k0 : LP → Bool → LP → Bool → LP → LP → Bool → LP → Bool → LP → Bool → Bool → LP → Bool → LP → Bool → LP → O R) : O R :=
  bif (decide (x18 < ((x13).length : Int))) then (p47 n x1 x2 x3 x4 x5 x18 (fun y19 y20 y21 y22 => p47 n x6 x7 x8 x9 x10 x18 (fun y23 y24 y25 y26 => p91 n y19 y20 y21 y22 y23 y24 y25 y26 (fun y27 y28 y29 y30 => bif (inR x18 ((x13).length)) then (Jh8 ((x13).getD ((x18 : Int).toNat) (.v (.bool false))) fun a31 => JdW a31 fun h32 t33 => Jj8 h32 fun e34 => JdW t33 fun h35 t36 => Jky h35 fun e37 => JdW t36 fun h38 t39 => Jj8 h38 fun e40 => JdW t39 fun h41 t42 => Jky h41 fun e43 => Ji8 t42 (l0 x1 x2 x3 x4 x5 x6 x7 x8 x9 x10 x11 x12 ((x13).set ((x18 : Int).toNat) (.agg [.v (.bool y27), .sh y28, .v (.bool y29), .sh y30])) x14 x15 x16 x17 (IntKind.i64.wrap (x18 + 1)))) else none)))) else (k0 x1 x2 x3 x4 x5 x6 x7 x8 x9 x10 x11 x12 x13 x14 x15 x16 x17)
def UdS (n : Nat) : Nat → LP → Bool → LP → Bool → LP → LP → Bool → LP → Bool → LP → Bool → Bool → LP → Bool → LP → Bool → LP → Int → (LP → Bool → LP → Bool → LP → LP → Bool → LP → Bool → LP → Bool → Bool → LP → Bool → LP → Bool → LP → O R) → O R
  | 0, _, _, _, _, _, _, _, _, _, _, _, _, _, _, _, _, _, _, _ => none
  | m + 1, x1, x2, x3, x4, x5, x6, x7, x8, x9, x10, x11, x12, x13, x14, x15, x16, x17, x18, k0 => Uh0 n (fun x1 x2 x3 x4 x5 x6 x7 x8 x9 x10 x11 x12 x13 x14 x15 x16 x17 x18 => UdS n m x1 x2 x3 x4 x5 x6 x7 x8 x9 x10 x11 x12 x13 x14 x15 x16 x17 x18 k0) x1 x2 x3 x4 x5 x6 x7 x8 x9 x10 x11 x12 x13 x14 x15 x16 x17 x18 k0
def Uwz (n : Nat) (x1 : LP) (x2 : Bool) (x3 : LP) (x4 : Bool) (x5 x6 : LP) (x7 : Bool) (x8 : LP) (x9 : Bool) (x10 : LP) (x11 x12 : Bool) (x13 : LP) (x14 : Bool) (x15 : LP) (x16 : Bool) (x17 : LP) (x18 : Int) (k0 : LP → Bool → LP → Bool → LP → LP → Bool → LP → Bool → LP → Bool → Bool → LP → Bool → LP → Bool → LP → O R) : O R := UdS n n x1 x2 x3 x4 x5 x6 x7 x8 x9 x10 x11 x12 x13 x14 x15 x16 x17 x18 k0
def p70 (n : Nat) (x1 : LP) (x2 : Bool) (x3 : LP) (x4 : Bool) (x5 x6 : LP) (x7 : Bool) (x8 : LP) (x9 : Bool) (x10 : LP) (k0 : LP → Bool → LP → Bool → LP → O R) : O R :=
  let v11 := Jk1 ((x1).length : Int) ((x6).length : Int); p67 n v11 (fun y12 y13 y14 y15 y16 => Uwz n x1 x2 x3 x4 x5 x6 x7 x8 x9 x10 false false y12 y13 y14 y15 y16 0 (fun y17 y18 y19 y20 y21 y22 y23 y24 y25 y26 y27 y28 y29 y30 y31 y32 y33 => p91 n y18 y19 y20 y21 y23 y24 y25 y26 (fun y34 y35 y36 y37 => k0 y29 y34 y35 y36 y37)))
abbrev E70 (n : Nat) : Code → Fr → Kc R → O R := evC Tryz.prog (UyI n) Ujs n (40, [])
noncomputable def Uva : Code := Jk (Jls Tryz.f70) [1, 1, 0, 1, 0, 0]
abbrev UgF : Sl (List SV) := (.c (sBx 59 (cH (cB (cH (cB (cH .n)))))) (.c (sBx 59 (cH (cB (cH (cB (cH .n)))))) (.c (sBx 59 (.c sNl (cB (.c sNl (cB (.c sNl .n)))))) (.c (sBx 59 (cO 57 (cB (cH (cB (cH .n)))))) (cI .n)))))
abbrev Urr (n m : Nat) (K : Kc R) : UgF.T (O R) := fun x1 x2 x3 x4 x5 x6 x7 x8 x9 x10 x11 x12 x13 x14 x15 x16 x17 x18 => UdS n m x1 x2 x3 x4 x5 x6 x7 x8 x9 x10 x11 x12 x13 x14 x15 x16 x17 x18 (fun y1 y2 y3 y4 y5 y6 y7 y8 y9 y10 y11 y12 y13 y14 y15 y16 y17 => xL Ujs 3 K (.exit 0) [.bx 59 [vH y1, vB y2, vH y3, vB y4, vH y5], .bx 59 [vH y6, vB y7, vH y8, vB y9, vH y10], .bx 59 [.nl, vB y11, .nl, vB y12, .nl], .bx 59 [.own 57 y13, vB y14, vH y15, vB y16, vH y17]])
abbrev UBj (n : Nat) (K : Kc R) (l0 : UgF.T (O R)) : UgF.T (O R) := fun x1 x2 x3 x4 x5 x6 x7 x8 x9 x10 x11 x12 x13 x14 x15 x16 x17 x18 => Uh0 n l0 x1 x2 x3 x4 x5 x6 x7 x8 x9 x10 x11 x12 x13 x14 x15 x16 x17 x18 (fun y1 y2 y3 y4 y5 y6 y7 y8 y9 y10 y11 y12 y13 y14 y15 y16 y17 => xL Ujs 3 K (.exit 0) [.bx 59 [vH y1, vB y2, vH y3, vB y4, vH y5], .bx 59 [vH y6, vB y7, vH y8, vB y9, vH y10], .bx 59 [.nl, vB y11, .nl, vB y12, .nl], .bx 59 [.own 57 y13, vB y14, vH y15, vB y16, vH y17]])
abbrev UKG (n : Nat) : Orc R := oL Ujs (E70 n) n 3 Uva UgF (Urr n n) oN
abbrev UJv (n : Nat) : Orc R := oN
abbrev K70 (R : Type) (n : Nat) := JcK (R := R) Tryz.prog (UyI n) Ujs n (40, []) (UKG n) (UJv n)
theorem UEj (n : Nat) : K70 R n (false, 3, Uva) := JkM (lo := UKG n) (cu := UJv n) (pO pN (by kernel_rfl)) UgF (Urr n n) (JiK (F := Urr n) UgF (UBj n) (fun K _ _ _ _ _ _ _ _ _ _ _ _ _ _ _ _ _ _ => rfl) (fun _ _ => rfl) (fun L K _ _ _ _ _ _ _ _ _ _ _ _ _ _ _ _ _ _ => by show _ = _; kernel_rfl) n) fun _ _ => rfl
theorem UOl (n : Nat) : Jfb (K70 R n) (JaJ Ujs (Jls Tryz.f70)) := pO (pC (UEj n) pN) (by kernel_rfl)
abbrev t70 : Sl (List SV) := (.c (sP (JlP (.c sSh (.c Jlm (.c sSh (.c Jlm (.c sSh .n))))))) (.c (sP (JlP (.c sSh (.c Jlm (.c sSh (.c Jlm (.c sSh .n))))))) .n))
abbrev f70 (n : Nat) (K : List SV → O R) : t70.T (O R) := fun x1 x2 x3 x4 x5 x6 x7 x8 x9 x10 => p70 n x1 x2 x3 x4 x5 x6 x7 x8 x9 x10 (fun y1 y2 y3 y4 y5 => K [.p (.agg [.sh y1, .v (.bool y2), .sh y3, .v (.bool y4), .sh y5])])
abbrev UKe (n : Nat) : FS := fT [false, false] t70 (f70 n)
theorem UNm (n : Nat) : FSound Tryz.prog GI 70 (UKe n) := gd Ujs n (Uqe n) Tryz.func70 (.cons (Uqe n) t70 (f70 n) (fun K _ _ _ _ _ _ _ _ _ _ => (Jkx (c := Jls Tryz.f70) (by kernel_rfl) (UOl n) K).trans (by kernel_rfl)) .nil) (by kernel_rfl)
def UaH : Ann := { loops := [(7, ids [1, 2, 4, 6, 7], ids [4, 5, 6])], cuts := [(3, ids [1, 2, 4], ids [4, 5]), (8, ids [1, 2, 4, 6, 7], ids [1, 2, 4, 5, 6, 7])], frz := [], rm := [.id, .id] }
abbrev Upq (n : Nat) : Env := eC 70 (UKe n) (eC 69 (UE8 n) (eC 68 (UKd n) (eC 67 (UC0 n) (eC 46 (UJ4 n) (eC 41 (UJ3 n) (eC 39 (UJ2 n) (eC 25 (UJU n) eN)))))))
theorem UpE (n : Nat) : EnvOK Tryz.prog GI (Upq n) := .cons (.cons (.cons (.cons (.cons (.cons (.cons (.cons (.nil) (UM2 n)) (UN n)) (UNa n)) (UNb n)) (UFk n)) (UNl n)) (UHo n)) (UNm n)
def Usk (n : Nat) (x1 : LP) (x2 : Int) (x3 : LP) (x4 x5 : Bool) (x6 : LP) (x7 : Bool) (x8 : LP) (x9 : Bool) (x10 : LP) (x11 : Int) (k0 : LP → Int → LP → Bool → Bool → LP → Bool → LP → Bool → LP → Int → O R) : O R :=
  k0 x1 x2 x3 x4 x5 x6 x7 x8 x9 x10 (IntKind.i64.wrap (x11 + 1))
def Ucd (n : Nat) (x1 : LP) (x2 : Int) (x3 : LP) (x4 x5 : Bool) (x6 : LP) (x7 : Bool) (x8 : LP) (x9 : Bool) (x10 : LP) (x11 : Int) (k0 : LP → Int → LP → Bool → Bool → LP → Bool → LP → Bool → LP → Int → O R) : O R :=
  k0 x1 x2 x3 x4 x5 x6 x7 x8 x9 x10 (IntKind.i64.wrap (x11 + 1))
def Udd (n : Nat) (l0 : LP → Int → LP → Bool → Bool → LP → Bool → LP → Bool → LP → Int → O R) (x1 : LP) (x2 : Int) (x3 : LP) (x4 x5 : Bool) (x6 : LP) (x7 : Bool) (x8 : LP) (x9 : Bool) (x10 : LP) (x11 : Int) (k0 : LP → Bool → LP → Bool → LP → Int → LP → Bool → LP → Bool → LP → O R) (k1 : Bool → Bool → LP → Bool → LP → Bool → LP → O R) : O R :=
  bif (decide (x11 < ((x1).length : Int))) then (bif (inR x11 ((x1).length)) then (Jj9 ((x1).getD ((x11 : Int).toNat) (.v (.bool false))) fun e12 => bif (eqS e12 (⟨#[48]⟩ : ByteArray)) then (Ucd n x1 x2 x3 x4 x5 x6 x7 x8 x9 x10 x11 (fun y13 y14 y15 y16 y17 y18 y19 y20 y21 y22 y23 => l0 y13 y14 y15 y16 y17 y18 y19 y20 y21 y22 y23)) else (bif (inR x11 ((x3).length)) then (Jh8 ((x3).getD ((x11 : Int).toNat) (.v (.bool false))) fun a24 => JdW a24 fun h25 t26 => Jky h25 fun e27 => JdW t26 fun h28 t29 => Jj9 h28 fun e30 => JdW t29 fun h31 t32 => Jj8 h31 fun e33 => JdW t32 fun h34 t35 => Jjf .i64 h34 fun e36 => Ji8 t35 (bif (inR x11 ((x3).length)) then (Jh8 ((x3).getD ((x11 : Int).toNat) (.v (.bool false))) fun a37 => JdW a37 fun h38 t39 => Jky h38 fun e40 => JdW t39 fun h41 t42 => Jj9 h41 fun e43 => JdW t42 fun h44 t45 => Jj8 h44 fun e46 => JdW t45 fun h47 t48 => Jjf .i64 h47 fun e49 => Ji8 t48 (p46 n e30 e40 (fun y50 y51 y52 y53 y54 y55 => bif (inR x11 ((x1).length)) then (Jj9 ((x1).getD ((x11 : Int).toNat) (.v (.bool false))) fun e56 => p69 n e56 (fun y57 y58 y59 y60 => p68 n y50 y51 y52 y53 y54 y57 y58 y59 y60 (fun y61 y62 y63 y64 y65 => p25 n y61 y62 y63 y64 y65 (fun y66 y67 y68 => bif (y68 != 0) then (k0 [] false [] false [] 5 x6 x7 x8 x9 x10) else (p70 n x6 x7 x8 x9 x10 y61 y62 y63 y64 y65 (fun y69 y70 y71 y72 y73 => p25 n y69 y70 y71 y72 y73 (fun y74 y75 y76 => bif (y76 != 0) then (k0 [] false [] false [] 5 y69 y70 y71 y72 y73) else (Ucd n x1 x2 x3 x4 x5 y69 y70 y71 y72 y73 x11 (fun y77 y78 y79 y80 y81 y82 y83 y84 y85 y86 y87 => l0 y77 y78 y79 y80 y81 y82 y83 y84 y85 y86 y87))))))))) else none))) else none)) else none)) else none) else (k1 x4 x5 x6 x7 x8 x9 x10)
def Ub (n : Nat) : Nat → LP → Int → LP → Bool → Bool → LP → Bool → LP → Bool → LP → Int → (LP → Bool → LP → Bool → LP → Int → LP → Bool → LP → Bool → LP → O R) → (Bool → Bool → LP → Bool → LP → Bool → LP → O R) → O R
  | 0, _, _, _, _, _, _, _, _, _, _, _, _, _ => none
  | m + 1, x1, x2, x3, x4, x5, x6, x7, x8, x9, x10, x11, k0, k1 => Udd n (fun x1 x2 x3 x4 x5 x6 x7 x8 x9 x10 x11 => Ub n m x1 x2 x3 x4 x5 x6 x7 x8 x9 x10 x11 k0 k1) x1 x2 x3 x4 x5 x6 x7 x8 x9 x10 x11 k0 k1
def UhC (n : Nat) (l0 : LP → Int → LP → Bool → Bool → LP → Bool → LP → Bool → LP → Int → O R) (l1 : LP → Int → LP → Bool → Bool → LP → Bool → LP → Bool → LP → Int → O R) (x1 : LP) (x2 : Int) (x3 : LP) (x4 x5 : Bool) (x6 : LP) (x7 : Bool) (x8 : LP) (x9 : Bool) (x10 : LP) (x11 : Int) (k0 : LP → Bool → LP → Bool → LP → Int → LP → Bool → LP → Bool → LP → O R) (k1 : LP → Bool → LP → Bool → LP → Int → LP → Bool → LP → Bool → LP → O R) (k2 : Bool → Bool → LP → Bool → LP → Bool → LP → O R) (k3 : Bool → Bool → LP → Bool → LP → Bool → LP → O R) : O R :=
  bif (decide (x11 < ((x1).length : Int))) then (bif (inR x11 ((x1).length)) then (Jj9 ((x1).getD ((x11 : Int).toNat) (.v (.bool false))) fun e12 => bif (eqS e12 (⟨#[48]⟩ : ByteArray)) then (Usk n x1 x2 x3 x4 x5 x6 x7 x8 x9 x10 x11 (fun y13 y14 y15 y16 y17 y18 y19 y20 y21 y22 y23 => l0 y13 y14 y15 y16 y17 y18 y19 y20 y21 y22 y23)) else (bif (inR x11 ((x3).length)) then (Jh8 ((x3).getD ((x11 : Int).toNat) (.v (.bool false))) fun a24 => JdW a24 fun h25 t26 => Jky h25 fun e27 => JdW t26 fun h28 t29 => Jj9 h28 fun e30 => JdW t29 fun h31 t32 => Jj8 h31 fun e33 => JdW t32 fun h34 t35 => Jjf .i64 h34 fun e36 => Ji8 t35 (bif (inR x11 ((x3).length)) then (Jh8 ((x3).getD ((x11 : Int).toNat) (.v (.bool false))) fun a37 => JdW a37 fun h38 t39 => Jky h38 fun e40 => JdW t39 fun h41 t42 => Jj9 h41 fun e43 => JdW t42 fun h44 t45 => Jj8 h44 fun e46 => JdW t45 fun h47 t48 => Jjf .i64 h47 fun e49 => Ji8 t48 (p46 n e30 e40 (fun y50 y51 y52 y53 y54 y55 => bif (inR x11 ((x1).length)) then (Jj9 ((x1).getD ((x11 : Int).toNat) (.v (.bool false))) fun e56 => p69 n e56 (fun y57 y58 y59 y60 => p68 n y50 y51 y52 y53 y54 y57 y58 y59 y60 (fun y61 y62 y63 y64 y65 => p25 n y61 y62 y63 y64 y65 (fun y66 y67 y68 => bif (y68 != 0) then (k0 [] false [] false [] 5 x6 x7 x8 x9 x10) else (p70 n x6 x7 x8 x9 x10 y61 y62 y63 y64 y65 (fun y69 y70 y71 y72 y73 => p25 n y69 y70 y71 y72 y73 (fun y74 y75 y76 => bif (y76 != 0) then (k1 [] false [] false [] 5 y69 y70 y71 y72 y73) else (Ucd n x1 x2 x3 x4 x5 y69 y70 y71 y72 y73 x11 (fun y77 y78 y79 y80 y81 y82 y83 y84 y85 y86 y87 => l1 y77 y78 y79 y80 y81 y82 y83 y84 y85 y86 y87))))))))) else none))) else none)) else none)) else none) else (k3 x4 x5 x6 x7 x8 x9 x10)
def UdA (n : Nat) : Nat → LP → Int → LP → Bool → Bool → LP → Bool → LP → Bool → LP → Int → (LP → Bool → LP → Bool → LP → Int → LP → Bool → LP → Bool → LP → O R) → (LP → Bool → LP → Bool → LP → Int → LP → Bool → LP → Bool → LP → O R) → (Bool → Bool → LP → Bool → LP → Bool → LP → O R) → (Bool → Bool → LP → Bool → LP → Bool → LP → O R) → O R
  | 0, _, _, _, _, _, _, _, _, _, _, _, _, _, _, _ => none
  | m + 1, x1, x2, x3, x4, x5, x6, x7, x8, x9, x10, x11, k0, k1, k2, k3 => UhC n (fun x1 x2 x3 x4 x5 x6 x7 x8 x9 x10 x11 => UdA n m x1 x2 x3 x4 x5 x6 x7 x8 x9 x10 x11 k0 k1 k2 k3) (fun x1 x2 x3 x4 x5 x6 x7 x8 x9 x10 x11 => Ub n m x1 x2 x3 x4 x5 x6 x7 x8 x9 x10 x11 k1 k2) x1 x2 x3 x4 x5 x6 x7 x8 x9 x10 x11 k0 k1 k2 k3
def Uwf (n : Nat) (x1 : LP) (x2 : Int) (x3 : LP) (x4 x5 : Bool) (x6 : LP) (x7 : Bool) (x8 : LP) (x9 : Bool) (x10 : LP) (x11 : Int) (k0 : LP → Bool → LP → Bool → LP → Int → LP → Bool → LP → Bool → LP → O R) (k1 : LP → Bool → LP → Bool → LP → Int → LP → Bool → LP → Bool → LP → O R) (k2 : Bool → Bool → LP → Bool → LP → Bool → LP → O R) (k3 : Bool → Bool → LP → Bool → LP → Bool → LP → O R) : O R := UdA n n x1 x2 x3 x4 x5 x6 x7 x8 x9 x10 x11 k0 k1 k2 k3
def UiZ (n : Nat) (x1 : LP) (x2 : Int) (x3 : LP) (x4 x5 : Bool) (k0 : LP → Bool → LP → Bool → LP → Int → O R) : O R :=
  bif (((x1).length : Int) != ((x3).length : Int)) then (k0 [] false [] false [] 6) else (p67 n 0 (fun y6 y7 y8 y9 y10 => Uwf n x1 x2 x3 x4 x5 y6 y7 y8 y9 y10 0 (fun y11 y12 y13 y14 y15 y16 y17 y18 y19 y20 y21 => k0 y11 y12 y13 y14 y15 y16) (fun y22 y23 y24 y25 y26 y27 y28 y29 y30 y31 y32 => k0 y22 y23 y24 y25 y26 y27) (fun y33 y34 y35 y36 y37 y38 y39 => k0 y35 y36 y37 y38 y39 0) (fun y40 y41 y42 y43 y44 y45 y46 => k0 y42 y43 y44 y45 y46 0)))
def p24 (n : Nat) (x1 : Int) (x2 x3 : LP) (k0 : LP → Bool → LP → Bool → LP → Int → O R) : O R :=
  p39 n x1 x2 (fun y4 => bif (y4 != 0) then (k0 [] false [] false [] 3) else (p41 n x3 (fun y5 => bif (bif false then true else (!y5)) then (k0 [] false [] false [] 3) else (UiZ n x3 x1 x2 false false (fun y6 y7 y8 y9 y10 y11 => k0 y6 y7 y8 y9 y10 y11)))))
abbrev E24 (n : Nat) : Code → Fr → Kc R → O R := evC Tryz.prog (Upq n) UaH n (89, [])
noncomputable def UuK : Code := Jk (Jls Tryz.f24) [1, 1]
abbrev UsT : Sl (List SV) := (cH (.c (sBx 24 (cI (cH .n))) (.c (sBx 59 (.c sNl (cB (.c sNl (cB (.c sNl .n)))))) .n)))
abbrev UvJ (n : Nat) (K : Kc R) : UsT.T (O R) := fun x1 x2 x3 x4 x5 => UiZ n x1 x2 x3 x4 x5 (fun y1 y2 y3 y4 y5 y6 => xC UaH 3 K .ret [.bx 59 [vH y1, vB y2, vH y3, vB y4, vH y5], vI y6])
noncomputable def UoE : Code := Jk (Jls Tryz.f24) [1, 1, 1, 1, 0, 1, 0, 0, 1, 1]
abbrev UkO : Sl (List SV) := (cH (.c (sBx 24 (cI (cH .n))) (.c (sBx 59 (.c sNl (cB (.c sNl (cB (.c sNl .n)))))) (.c (sBx 59 (cO 57 (cB (cH (cB (cH .n)))))) (cI .n)))))
abbrev UkP : Sl (List SV) := (cH (.c (sBx 24 (cI (cH .n))) (.c (sBx 59 (.c sNl (cB (.c sNl (cB (.c sNl .n)))))) (.c (sBx 59 (cH (cB (cH (cB (cH .n)))))) (cI .n)))))
abbrev UqZ (n : Nat) (K : Kc R) : UkO.T (O R) := fun x1 x2 x3 x4 x5 x6 x7 x8 x9 x10 x11 => Usk n x1 x2 x3 x4 x5 x6 x7 x8 x9 x10 x11 (fun y1 y2 y3 y4 y5 y6 y7 y8 y9 y10 y11 => xC UaH 8 K .normal [vH y1, .bx 24 [vI y2, vH y3], .bx 59 [.nl, vB y4, .nl, vB y5, .nl], dD, .bx 59 [.own 57 y6, vB y7, vH y8, vB y9, vH y10], vI y11])
abbrev Uq0 (n : Nat) (K : Kc R) : UkP.T (O R) := fun x1 x2 x3 x4 x5 x6 x7 x8 x9 x10 x11 => Ucd n x1 x2 x3 x4 x5 x6 x7 x8 x9 x10 x11 (fun y1 y2 y3 y4 y5 y6 y7 y8 y9 y10 y11 => xC UaH 8 K .normal [vH y1, .bx 24 [vI y2, vH y3], .bx 59 [.nl, vB y4, .nl, vB y5, .nl], dD, .bx 59 [vH y6, vB y7, vH y8, vB y9, vH y10], vI y11])
noncomputable def UiO : Code := Jk (Jls Tryz.f24) [1, 1, 1, 1, 0, 1, 0, 0]
abbrev UbA : Sl (List SV) := (cH (.c (sBx 24 (cI (cH .n))) (.c (sBx 59 (.c sNl (cB (.c sNl (cB (.c sNl .n)))))) (.c (sBx 59 (cH (cB (cH (cB (cH .n)))))) (cI .n)))))
abbrev UcG : Sl (List SV) := (cH (.c (sBx 24 (cI (cH .n))) (.c (sBx 59 (.c sNl (cB (.c sNl (cB (.c sNl .n)))))) (.c (sBx 59 (cO 57 (cB (cH (cB (cH .n)))))) (cI .n)))))
abbrev Ufr (n m : Nat) (K : Kc R) : UbA.T (O R) := fun x1 x2 x3 x4 x5 x6 x7 x8 x9 x10 x11 => Ub n m x1 x2 x3 x4 x5 x6 x7 x8 x9 x10 x11 (fun y1 y2 y3 y4 y5 y6 y7 y8 y9 y10 y11 => xL UaH 7 K .ret [.bx 59 [vH y1, vB y2, vH y3, vB y4, vH y5], vI y6, .bx 59 [vH y7, vB y8, vH y9, vB y10, vH y11]]) (fun y1 y2 y3 y4 y5 y6 y7 => xL UaH 7 K (.exit 0) [.bx 59 [.nl, vB y1, .nl, vB y2, .nl], dD, .bx 59 [vH y3, vB y4, vH y5, vB y6, vH y7]])
abbrev UxQ (n : Nat) (K : Kc R) (l0 : UbA.T (O R)) : UbA.T (O R) := fun x1 x2 x3 x4 x5 x6 x7 x8 x9 x10 x11 => Udd n l0 x1 x2 x3 x4 x5 x6 x7 x8 x9 x10 x11 (fun y1 y2 y3 y4 y5 y6 y7 y8 y9 y10 y11 => xL UaH 7 K .ret [.bx 59 [vH y1, vB y2, vH y3, vB y4, vH y5], vI y6, .bx 59 [vH y7, vB y8, vH y9, vB y10, vH y11]]) (fun y1 y2 y3 y4 y5 y6 y7 => xL UaH 7 K (.exit 0) [.bx 59 [.nl, vB y1, .nl, vB y2, .nl], dD, .bx 59 [vH y3, vB y4, vH y5, vB y6, vH y7]])
abbrev Uhc (n m : Nat) (K : Kc R) : UcG.T (O R) := fun x1 x2 x3 x4 x5 x6 x7 x8 x9 x10 x11 => UdA n m x1 x2 x3 x4 x5 x6 x7 x8 x9 x10 x11 (fun y1 y2 y3 y4 y5 y6 y7 y8 y9 y10 y11 => xL UaH 7 K .ret [.bx 59 [vH y1, vB y2, vH y3, vB y4, vH y5], vI y6, .bx 59 [.own 57 y7, vB y8, vH y9, vB y10, vH y11]]) (fun y1 y2 y3 y4 y5 y6 y7 y8 y9 y10 y11 => xL UaH 7 K .ret [.bx 59 [vH y1, vB y2, vH y3, vB y4, vH y5], vI y6, .bx 59 [vH y7, vB y8, vH y9, vB y10, vH y11]]) (fun y1 y2 y3 y4 y5 y6 y7 => xL UaH 7 K (.exit 0) [.bx 59 [.nl, vB y1, .nl, vB y2, .nl], dD, .bx 59 [vH y3, vB y4, vH y5, vB y6, vH y7]]) (fun y1 y2 y3 y4 y5 y6 y7 => xL UaH 7 K (.exit 0) [.bx 59 [.nl, vB y1, .nl, vB y2, .nl], dD, .bx 59 [.own 57 y3, vB y4, vH y5, vB y6, vH y7]])
abbrev UxR (n : Nat) (K : Kc R) (l0 : UcG.T (O R)) (l1 : UbA.T (O R)) : UcG.T (O R) := fun x1 x2 x3 x4 x5 x6 x7 x8 x9 x10 x11 => UhC n l0 l1 x1 x2 x3 x4 x5 x6 x7 x8 x9 x10 x11 (fun y1 y2 y3 y4 y5 y6 y7 y8 y9 y10 y11 => xL UaH 7 K .ret [.bx 59 [vH y1, vB y2, vH y3, vB y4, vH y5], vI y6, .bx 59 [.own 57 y7, vB y8, vH y9, vB y10, vH y11]]) (fun y1 y2 y3 y4 y5 y6 y7 y8 y9 y10 y11 => xL UaH 7 K .ret [.bx 59 [vH y1, vB y2, vH y3, vB y4, vH y5], vI y6, .bx 59 [vH y7, vB y8, vH y9, vB y10, vH y11]]) (fun y1 y2 y3 y4 y5 y6 y7 => xL UaH 7 K (.exit 0) [.bx 59 [.nl, vB y1, .nl, vB y2, .nl], dD, .bx 59 [vH y3, vB y4, vH y5, vB y6, vH y7]]) (fun y1 y2 y3 y4 y5 y6 y7 => xL UaH 7 K (.exit 0) [.bx 59 [.nl, vB y1, .nl, vB y2, .nl], dD, .bx 59 [.own 57 y3, vB y4, vH y5, vB y6, vH y7]])
abbrev Uv5 (n : Nat) : Orc R := fun i vs K => JfQ (Nat.beq i 7) (Jjm (UbA.ap vs (Ufr n n K)) (Jjm (UcG.ap vs (Uhc n n K)) (JcE UaH 7 (E24 n UiO) n vs K))) (oN i vs K)
abbrev Uvm (n : Nat) : Orc R := fun i vs K => JfQ (Nat.beq i 8) (Jjm (UkO.ap vs (UqZ n K)) (Jjm (UkP.ap vs (Uq0 n K)) (Jkp UaH 8 (E24 n UoE) vs K))) ((oC UaH (E24 n) 3 UuK UsT (UvJ n) oN) i vs K)
abbrev K24 (R : Type) (n : Nat) := JcK (R := R) Tryz.prog (Upq n) UaH n (89, []) (Uv5 n) (Uvm n)
theorem Usy (n : Nat) : Jfb (K24 R n) (JaJ UaH UoE) := pO pN (by kernel_rfl)
theorem UDP (n : Nat) : K24 R n (true, 8, UoE) := Jk3 (lo := Uv5 n) (cu := Uvm n) (Usy n) UkO (UqZ n) (fun K _ _ _ _ _ _ _ _ _ _ _ => by show _ = _; kernel_rfl) (Jk3 (lo := Uv5 n) (cu := Uvm n) (Usy n) UkP (Uq0 n) (fun K _ _ _ _ _ _ _ _ _ _ _ => by show _ = _; kernel_rfl) fun _ _ => rfl)
theorem Usz (n : Nat) : Jfb (K24 R n) (JaJ UaH UiO) := pO (pC (UDP n) pN) (by kernel_rfl)
theorem Uo4 (n : Nat) : ∀ m (K : Kc R), UbA.all (fun vs r => JcE UaH 7 (JcX Tryz.prog (Upq n) UaH (89, []) (Uv5 n) (Uvm n) UiO) m vs K = r) (Ufr n m K) := JiK (F := Ufr n) UbA (UxQ n) (fun K _ _ _ _ _ _ _ _ _ _ _ => rfl) (fun _ _ => rfl) (fun L K _ _ _ _ _ _ _ _ _ _ _ => by show _ = _; kernel_rfl)
theorem Uyc (n : Nat) : ∀ m (K : Kc R), UcG.all (fun vs r => JcE UaH 7 (JcX Tryz.prog (Upq n) UaH (89, []) (Uv5 n) (Uvm n) UiO) m vs K = r) (Uhc n m K) := JhC (F1 := Ufr n) (F := Uhc n) UcG UbA (UxR n) (fun K _ _ _ _ _ _ _ _ _ _ _ => rfl) (fun _ _ => rfl) (Uo4 n) (fun L K _ _ _ _ _ _ _ _ _ _ _ => by show _ = _; kernel_rfl)
theorem UDQ (n : Nat) : K24 R n (false, 7, UiO) := JkM (lo := Uv5 n) (cu := Uvm n) (Usz n) UbA (Ufr n n) (Uo4 n n) (JkM (lo := Uv5 n) (cu := Uvm n) (Usz n) UcG (Uhc n n) (Uyc n n) fun _ _ => rfl)
theorem UDO (n : Nat) : K24 R n (true, 3, UuK) := Jk3 (lo := Uv5 n) (cu := Uvm n) (pO (pC (UDQ n) pN) (by kernel_rfl)) UsT (UvJ n) (fun K _ _ _ _ _ => by show _ = _; kernel_rfl) fun _ _ => rfl
theorem UNM (n : Nat) : Jfb (K24 R n) (JaJ UaH (Jls Tryz.f24)) := pO (pC (UDO n) pN) (by kernel_rfl)
abbrev t24 : Sl (List SV) := (.c (sP (JlP (.c (JlC .i64) (.c sSh .n)))) (cH .n))
abbrev f24 (n : Nat) (K : List SV → O R) : t24.T (O R) := fun x1 x2 x3 => p24 n x1 x2 x3 (fun y1 y2 y3 y4 y5 y6 => K [.p (.agg [.sh y1, .v (.bool y2), .sh y3, .v (.bool y4), .sh y5]), vI y6])
abbrev UJT (n : Nat) : FS := fT [false, false] t24 (f24 n)
theorem UM1 (n : Nat) : FSound Tryz.prog GI 24 (UJT n) := gd UaH n (UpE n) Tryz.func24 (.cons (UpE n) t24 (f24 n) (fun K _ _ _ => (Jkx (c := Jls Tryz.f24) (by kernel_rfl) (UNM n) K).trans (by kernel_rfl)) .nil) (by kernel_rfl)
def UwY : Ann := { loops := [], cuts := [], frz := [], rm := [.id] }
abbrev UBO (n : Nat) : Env := eC 77 (UC1 n) eN
theorem UpM (n : Nat) : EnvOK Tryz.prog GI (UBO n) := .cons (.nil) (UFl n)
def p34 (n : Nat) (x1 : Bool) (x2 : LP) (x3 : Bool) (x4 : LP) (k0 : Int → O R) : O R :=
  p77 n x1 x2 (fun y5 => bif y5 then (k0 0) else (bif x1 then (k0 (-1)) else (k0 1)))
abbrev UMn (n : Nat) : Orc R := oN
abbrev ULH (n : Nat) : Orc R := oN
abbrev K34 (R : Type) (n : Nat) := JcK (R := R) Tryz.prog (UBO n) UwY n (9, []) (UMn n) (ULH n)
theorem UNU (n : Nat) : Jfb (K34 R n) (JaJ UwY (Jls Tryz.f34)) := pO pN (by kernel_rfl)
abbrev t34 : Sl (List SV) := (.c (sP (JlP (.c Jlm (.c sSh (.c Jlm (.c sSh .n)))))) .n)
abbrev f34 (n : Nat) (K : List SV → O R) : t34.T (O R) := fun x1 x2 x3 x4 => p34 n x1 x2 x3 x4 (fun y1 => K [vI y1])
abbrev UGa (n : Nat) : FS := fT [false] t34 (f34 n)
theorem UKQ (n : Nat) : FSound Tryz.prog GI 34 (UGa n) := gd UwY n (UpM n) Tryz.func34 (.cons (UpM n) t34 (f34 n) (fun K _ _ _ _ => (Jkx (c := Jls Tryz.f34) (by kernel_rfl) (UNU n) K).trans (by kernel_rfl)) .nil) (by kernel_rfl)
end
end Go.Proofs.YtmgfmlhdnadglaaGreatDoor
set_option linter.unusedVariables false
set_option linter.unusedSimpArgs false
namespace Go.Proofs.YtmgfmlhdnadglaaGreatDoor
open Go Th Go.Proofs
variable {R : Type}
theorem Udh {N : Nat} {σ : Type} {Inv : Nat → σ → Prop} (L : Nat → σ → Nat → Option R) {r : Option R} (hend : ∀ m s, Inv N s → L (m + 1) s N = r)
    (hstep : ∀ m s i, i < N → Inv i s → L (m + 1) s i = r ∨ ∃ s', Inv (i + 1) s' ∧ L (m + 1) s i = L m s' (i + 1)) : ∀ (d m i : Nat) (s : σ), d + i = N → d < m → Inv i s → L m s i = r
  | 0, m + 1, i, s, hd, hm, hs => by
    have : i = N := by omega
    subst this
    exact hend m s hs
  | d + 1, m + 1, i, s, hd, hm, hs => by
    rcases hstep m s i (by omega) hs with h | ⟨s', h1, h2⟩
    · exact h
    · rw [h2]; exact Udh L hend hstep d m (i + 1) s' (by omega) (by omega) h1
theorem UrJ (n : Nat) (hn : 10 ^ 400 ≤ n) (k0 : Bool → List PV → Bool → List PV → Option R) : p92 n k0 = k0 (sg (0 : Rat).num) (II (0 : Rat).num.natAbs) false (II (0 : Rat).den) := by
  have hN := Uas hn
  have h1 := fun k => UtP (R := R) n 0 (by decide +kernel) hN k
  have e0 : Lib.itoa 0 = [48] := by decide +kernel
  have e1 : IntKind.i64.wrap (0 + 1) = 1 := by decide
  have e2 : (sg 0, II (0 : Int).natAbs, II 1) = (sg (0 : Rat).num, II (0 : Rat).num.natAbs, II (0 : Rat).den) := rfl
  simp only [Prod.mk.injEq] at e2
  rw [e0] at h1
  unfold p92 UHu
  simp only [Uak, e1]
  rw [show Jfa 0 1 (⟨#[48, 49, 50, 51, 52, 53, 54, 55, 56, 57]⟩ : ByteArray).size = true from rfl, UaR]
  have h1' : ∀ k : Bool → List PV → Option R, Uwc n (ByteArray.extract (⟨#[48, 49, 50, 51, 52, 53, 54, 55, 56, 57]⟩ : ByteArray) (0 : Int).toNat (1 : Int).toNat) k = k (sg 0) (II (0 : Int).natAbs) := h1
  rw [h1']
  unfold UtT Uwb p77 UtT
  rw [← UnF, Uau, show ll (0 : Int).natAbs = 0 from Ubs]
  rw [e2.1, e2.2.1, e2.2.2]
  rfl
theorem UIc (l : List Rat) (q : Rat) : qs l ++ [.agg [.v (.bool (sg q.num)), .sh (II q.num.natAbs), .v (.bool false), .sh (II q.den)]] = qs (l ++ [q]) := UEx l q
theorem UiH (n : Nat) (hn : 10 ^ 400 ≤ n) (c : Nat) (hc : c ≤ 2048) (k0 : List PV → Bool → List PV → Bool → List PV → Option R) :
    p67 n (c : Int) k0 = k0 (qs (List.replicate c 0)) (sg (0 : Rat).num) (II (0 : Rat).num.natAbs) false (II (0 : Rat).den) := by
  have hN := Uas hn
  have h0 := fun k => UrJ (R := R) n hn k
  unfold p67 Uwx
  rw [h0]
  refine Udh (R := R) (N := c) (Inv := fun i d => d = List.replicate i 0)
    (fun m d i => UdQ n m (c : Int) false false (qs d) (sg (0 : Rat).num) (II (0 : Rat).num.natAbs) false (II (0 : Rat).den) (i : Int) (fun y6 y7 y8 y9 y10 y11 y12 => k0 y8 y9 y10 y11 y12))
    (fun m d hd => ?_) (fun m d i hi hd => ?_) c n 0 [] (by omega) (by omega) rfl
  · subst hd
    simp only [UdQ, UhY]
    simp (disch := (first | omega | (simp only [JlL]; omega))) only [↓JlO, JlM]
  · subst hd
    refine .inr ⟨List.replicate i 0 ++ [0], by rw [List.replicate_succ'], ?_⟩
    simp only [UdQ, UhY]
    simp (disch := (first | omega | (simp only [JlL]; omega))) only [↓JlO, JlM, h0, UaG, List.length_replicate, i1, UIc]
theorem Ujc (n : Nat) (hn : 10 ^ 400 ≤ n) {q : Rat} (hq : Ual q) (k0 : Bool → List PV → Bool → List PV → Option R) : p69 n (bs (Uag q)) k0 = k0 (sg q.num) (II q.num.natAbs) false (II q.den) := by
  unfold p69
  rw [Um5 n hn q hq]; rfl
theorem UrN (n : Nat) (q : Rat) (k0 : Bool → Option R) : p71 n (sg q.num) (II q.num.natAbs) false (II q.den) k0 = k0 (!decide (ll q.num.natAbs ≤ 400 ∧ ll q.den ≤ 400)) := by
  unfold p71 UFo
  rw [Uau, Uau]
  by_cases h1 : ll q.num.natAbs ≤ 400
  · have e1 : decide (((ll q.num.natAbs : Nat) : Int) > 400) = false := by simp; omega
    by_cases h2 : ll q.den ≤ 400
    · have e2 : decide (((ll q.den : Nat) : Int) > 400) = false := by simp; omega
      rw [e1, e2, decide_eq_true ⟨h1, h2⟩]; rfl
    · have e2 : decide (((ll q.den : Nat) : Int) > 400) = true := by simp; omega
      rw [e1, e2, decide_eq_false (p := ll q.num.natAbs ≤ 400 ∧ ll q.den ≤ 400) (fun h => h2 h.2)]; rfl
  · have e1 : decide (((ll q.num.natAbs : Nat) : Int) > 400) = true := by simp; omega
    rw [e1, decide_eq_false (p := ll q.num.natAbs ≤ 400 ∧ ll q.den ≤ 400) (fun h => h1 h.1)]; rfl
theorem UrP (n : Nat) {q : Rat} (h : Ual q) (k0 : Bool → Option R) : p71 n (sg q.num) (II q.num.natAbs) false (II q.den) k0 = k0 false := by
  rw [UrN, decide_eq_true (Ucz.1 h)]; rfl
theorem UrO (n : Nat) {q : Rat} (h : ¬ Ual q) (k0 : Bool → Option R) : p71 n (sg q.num) (II q.num.natAbs) false (II q.den) k0 = k0 true := by
  rw [UrN, decide_eq_false (fun q => h (Ucz.2 q))]; rfl
theorem Uut (n : Nat) (q : Rat) (k0 : Bool → Option R) : p72 n (sg q.num) (II q.num.natAbs) false (II q.den) k0 = k0 (decide (q = 0)) := by
  unfold p72 p77
  rw [Uau]
  congr 1
  rw [Bool.eq_iff_iff, beq_iff_eq, decide_eq_true_iff, ← Rat.num_eq_zero]
  have := Uct (a := q.num.natAbs)
  omega
theorem Uid (n : Nat) (q : Rat) (k0 : Int → Option R) : p34 n (sg q.num) (II q.num.natAbs) false (II q.den) k0 = k0 (if q = 0 then 0 else if q < 0 then -1 else 1) := by
  unfold p34 p77
  rw [Uau]
  by_cases h : q = 0
  · subst h
    rw [if_pos rfl, show ll (0 : Rat).num.natAbs = 0 from Ubs]; rfl
  · have e : (((ll q.num.natAbs : Nat) : Int) == 0) = false := by
      have := Uct (a := q.num.natAbs)
      have h' := fun h0 => h (Rat.num_eq_zero.1 h0)
      have h3 : q.num.natAbs ≠ 0 := fun h0 => h' (Int.natAbs_eq_zero.1 h0)
      have h4 : ll q.num.natAbs ≠ 0 := fun h0 => h3 (this.1 h0)
      have hh : ((ll q.num.natAbs : Nat) : Int) ≠ 0 := by omega
      exact beq_eq_false_iff_ne.2 hh
    rw [e, if_neg h]
    have h2 : sg q.num = decide (q < 0) := by
      unfold sg
      rw [Bool.eq_iff_iff, decide_eq_true_iff, decide_eq_true_iff, ← Int.not_le, Rat.num_nonneg, Rat.not_le]
    rw [h2]
    by_cases h3 : q < 0
    · rw [decide_eq_true h3, if_pos h3]; rfl
    · rw [decide_eq_false h3, if_neg h3]; rfl
def hiC (s : List SpT) : Nat := s.foldl (fun c t => max c (t.1 + 1)) 0
theorem Ufu : ∀ (s : List SpT) (c : Nat), c ≤ s.foldl (fun c t => max c (t.1 + 1)) c ∧ (∀ t ∈ s, t.1 < s.foldl (fun c t => max c (t.1 + 1)) c) ∧ ∀ b, c ≤ b → (∀ t ∈ s, t.1 < b) → s.foldl (fun c t => max c (t.1 + 1)) c ≤ b
  | [], c => ⟨Nat.le_refl _, (by intro t h; cases h), fun b h _ => h⟩
  | t :: s, c => by
    obtain ⟨h1, h2, h3⟩ := Ufu s (max c (t.1 + 1))
    rw [List.foldl_cons]
    refine ⟨by omega, fun x hx => ?_, fun b hb hx => h3 b ?_ fun y hy => hx y (List.mem_cons_of_mem _ hy)⟩
    · rcases List.mem_cons.1 hx with rfl | hx
      · omega
      · exact h2 x hx
    · have := hx t (List.mem_cons_self ..)
      omega
theorem UvX {s : List SpT} : ∀ t ∈ s, t.1 < hiC s := (Ufu s 0).2.1
theorem UvW {s : List SpT} {b : Nat} (h : ∀ t ∈ s, t.1 < b) : hiC s ≤ b := (Ufu s 0).2.2 b (Nat.zero_le _) h
theorem Uzg (c t : Nat) : Jk1 (c : Int) ((t + 1 : Nat) : Int) = ((max c (t + 1) : Nat) : Int) := by
  unfold Jk1
  split <;> omega
def okC (s : List SpT) : Prop := ∀ t ∈ s, Ual t.2 ∧ t.1 < 2048
noncomputable def UAi (c : Rat) (k0 : List PV → Bool → List PV → Bool → List PV → Int → Option R) : Option (List Rat) → Option R
  | none => k0 [] false [] false [] 5
  | some d => k0 (qs d) (sg c.num) (II c.num.natAbs) false (II c.den) 0
noncomputable def rdD (s : List SpT) : Option (List Rat) := UaO rdT (List.replicate (hiC s) 0) s
theorem UEz (n : Nat) (hn : 10 ^ 1000 ≤ n) {s : List SpT} (hs : okC s) (hl : s.length < 2 ^ 17) (c : Rat) (k0 : List PV → Bool → List PV → Bool → List PV → Int → Option R) :
    UcE n (tms (vt s)) false false (qs (List.replicate (hiC s) 0)) (sg c.num) (II c.num.natAbs) false (II c.den) 0 (fun y39 y40 y41 y42 y43 y44 y45 y46 y47 y48 y49 => k0 y39 y40 y41 y42 y43 y44) (fun y50 y51 y52 y53 y54 y55 y56 => k0 y52 y53 y54 y55 y56 0) = UAi c k0 (rdD s) := by
  have hN := Uas (UaT hn)
  have H := Udi (R := R) (l := s) (step := rdT) (kerr := k0 [] false [] false [] 5) (kend := fun d => k0 (qs d) (sg c.num) (II c.num.natAbs) false (II c.den) 0) (Inv := fun i d => d.length = hiC s ∧ ∀ x ∈ d, Ual x)
    (fun m d i => Ucf n m (tms (vt s)) false false (qs d) (sg c.num) (II c.num.natAbs) false (II c.den) (i : Int) (fun y39 y40 y41 y42 y43 y44 y45 y46 y47 y48 y49 => k0 y39 y40 y41 y42 y43 y44) (fun y50 y51 y52 y53 y54 y55 y56 => k0 y52 y53 y54 y55 y56 0))
    (fun m d hd => by
      simp only [Ucf, Ue5]
      simp (disch := (first | omega | (simp only [JlL]; omega))) only [↓JlO, JlM, Ua, Uaw])
    (fun d d' i hi hd he => by
      unfold rdT at he
      split at he
      · rename_i hf
        simp only [Option.some.injEq] at he
        subst he
        refine ⟨by rw [List.length_set]; exact hd.1, fun x hx => ?_⟩
        rcases List.mem_or_eq_of_mem_set hx with h | h
        · exact hd.2 x h
        · rw [h]; exact hf
      · cases he)
    (fun m d i hi hd => by
      have ht := hs _ (List.getElem_mem hi)
      have hti := UvX _ (List.getElem_mem hi)
      rw [← hd.1] at hti
      have g1 := fun k => Ujc (R := R) n (UaT hn) ht.1 k
      have hfd : Ual (d[(s[i]).1]) := hd.2 _ (List.getElem_mem hti)
      have g2 := fun k => UfM (R := R) n hn (d[(s[i]).1]) (s[i]).2 hfd ht.1 k
      have eg : d.getD (s[i]).1 0 = d[(s[i]).1] := by rw [List.getD_eq_getElem?_getD, List.getElem?_eq_getElem hti]; rfl
      have hti' : (s[i]).1 < (d.set (s[i]).1 (d[(s[i]).1] + (s[i]).2)).length := by rw [List.length_set]; exact hti
      have hin1 : inR ((s[i]).1 : Int) d.length = true := JkB (by omega) (by omega)
      simp only [Ucf, Ue5, rdT, eg]
      by_cases hf : Ual (d[(s[i]).1] + (s[i]).2)
      · have g3 := fun k => UrP (R := R) n hf k
        rw [if_pos hf]
        simp (disch := (first | omega | (simp only [JlL]; omega))) only [↓JlO, JlM, Ua, Uaw, Jjo, UaK hi, i1, UaG, hin1, Ud0 hti, g1, g2, Um1, List.length_set, Ud0 hti', List.getElem_set_self, g3]
        rfl
      · have g3 := fun k => UrO (R := R) n hf k
        rw [if_neg hf]
        simp (disch := (first | omega | (simp only [JlL]; omega))) only [↓JlO, JlM, Ua, Uaw, Jjo, UaK hi, i1, UaG, hin1, Ud0 hti, g1, g2, Um1, List.length_set, Ud0 hti', List.getElem_set_self, g3]
        rfl) s.length n 0 (List.replicate (hiC s) 0) (by omega) (by omega) ⟨List.length_replicate .., fun x hx => by rw [(List.mem_replicate.1 hx).2]; exact UeA⟩
  rw [List.drop_zero] at H
  unfold UcE
  refine Eq.trans H ?_
  unfold rdD
  cases UaO rdT (List.replicate (hiC s) 0) s <;> rfl
theorem UEH {l : List Uar} (h1 : aQ l = true) (h2 : aC l = true) : okC (spL l) ∧ l = vt (spL l) := by
  unfold aQ at h1
  unfold aC at h2
  rw [List.all_eq_true] at h1 h2
  refine ⟨fun t ht => ?_, ?_⟩
  · obtain ⟨x, hx, rfl⟩ := List.mem_map.1 ht
    have a := UsI (h1 x hx)
    have b := h2 x hx
    unfold inC at b
    simp only [Bool.and_eq_true, decide_eq_true_iff] at b
    exact ⟨a.1, by show x.1.toNat < 2048; omega⟩
  · unfold vt spL
    rw [List.map_map]
    conv => lhs; rw [← List.map_id l]
    refine List.map_congr_left fun x hx => ?_
    have a := UsI (h1 x hx)
    have b := h2 x hx
    unfold inC at b
    simp only [Bool.and_eq_true, decide_eq_true_iff] at b
    simp only [Function.comp, id_eq]
    refine Prod.ext ?_ a.2
    show x.1 = ((x.1.toNat : Nat) : Int)
    omega
theorem UAs (l : List Uar) : (spL l).length = l.length := by unfold spL; rw [List.length_map]
noncomputable def Uuo (l : List Uar) (c : List UInt8) (k0 : List PV → Bool → List PV → Bool → List PV → Int → Option R) : Option R :=
  if qb c = true then (if aQ l = true then (if aC l = true then UAi (rq c) k0 (rdD (spL l)) else k0 [] false [] false [] 2) else k0 [] false [] false [] 3) else k0 [] false [] false [] 3
theorem UAn (n : Nat) (hn : 10 ^ 1000 ≤ n) (l : List Uar) (c : List UInt8) (hl : smT l) (hc : c.length < 2 ^ 17) (k0 : List PV → Bool → List PV → Bool → List PV → Int → Option R) :
    p46 n (bs c) (tms l) k0 = Uuo l c k0 := by
  have hN := Uas (UaT hn)
  have hL := hl.1
  unfold p46 Uuo
  rw [Udg n (UaT hn) c hc]
  cases hqc : qb c with
  | false => rfl
  | true =>
    rw [if_pos rfl, Bool.not_true, Uak]
    have H4 := Uao (R := R) (l := l) (ok := fun t => qb t.2) (kbad := k0 [] false [] false [] 3) (kend := UhP n (bs c) (tms l) false false 0 0 (fun y16 y17 y18 y19 y20 y21 y22 y23 y24 => k0 y18 y19 y20 y21 y22 y23) (fun y25 y26 y27 y28 y29 => p67 n y29 (fun y30 y31 y32 y33 y34 => p69 n y25 (fun y35 y36 y37 y38 => UcE n y26 y27 y28 y30 y35 y36 y37 y38 0 (fun y39 y40 y41 y42 y43 y44 y45 y46 y47 y48 y49 => k0 y39 y40 y41 y42 y43 y44) (fun y50 y51 y52 y53 y54 y55 y56 => k0 y52 y53 y54 y55 y56 0)))))
      (fun m i => UdK n m (bs c) (tms l) false false (i : Int) (fun y4 y5 y6 y7 y8 y9 y10 y11 => k0 y6 y7 y8 y9 y10 y11) (fun y12 y13 y14 y15 => UhP n y12 y13 y14 y15 0 0 (fun y16 y17 y18 y19 y20 y21 y22 y23 y24 => k0 y18 y19 y20 y21 y22 y23) (fun y25 y26 y27 y28 y29 => p67 n y29 (fun y30 y31 y32 y33 y34 => p69 n y25 (fun y35 y36 y37 y38 => UcE n y26 y27 y28 y30 y35 y36 y37 y38 0 (fun y39 y40 y41 y42 y43 y44 y45 y46 y47 y48 y49 => k0 y39 y40 y41 y42 y43 y44) (fun y50 y51 y52 y53 y54 y55 y56 => k0 y52 y53 y54 y55 y56 0))))))
      (fun m => by simp only [UdK, UhQ]; simp (disch := (first | omega | (simp only [JlL]; omega))) only [↓JlO, JlM, Ua])
      (fun m i hi => by
        have hv := fun k => Udg (R := R) n (UaT hn) (l[i]).2 (hl.2 _ (List.getElem_mem hi)) k
        simp only [UdK, UhQ]
        simp (disch := (first | omega | (simp only [JlL]; omega))) only [↓JlO, JlM, Ua, Jjo, Uav hi, i1, hv]
        cases qb (l[i]).2 <;> rfl) l.length n 0 (by omega) (by omega)
    rw [List.drop_zero] at H4
    unfold Uwr
    refine Eq.trans H4 ?_
    cases haq : aQ l with
    | false =>
      have e : (l.all fun t => qb t.2) = false := haq
      rw [e]; rfl
    | true =>
      have e : (l.all fun t => qb t.2) = true := haq
      rw [e, if_pos rfl, if_pos rfl]
      have H10 := UfO (R := R) (l := l) (step := fun (cc : Nat) (t : Uar) K => if inC t.1 = true then K (max cc (t.1.toNat + 1)) else k0 [] false [] false [] 2)
        (kend := fun cc => p67 n (cc : Int) (fun y30 y31 y32 y33 y34 => p69 n (bs c) (fun y35 y36 y37 y38 => UcE n (tms l) false false y30 y35 y36 y37 y38 0 (fun y39 y40 y41 y42 y43 y44 y45 y46 y47 y48 y49 => k0 y39 y40 y41 y42 y43 y44) (fun y50 y51 y52 y53 y54 y55 y56 => k0 y52 y53 y54 y55 y56 0))))
        (fun m cc i => Uce n m (bs c) (tms l) false false (cc : Int) (i : Int) (fun y16 y17 y18 y19 y20 y21 y22 y23 y24 => k0 y18 y19 y20 y21 y22 y23) (fun y25 y26 y27 y28 y29 => p67 n y29 (fun y30 y31 y32 y33 y34 => p69 n y25 (fun y35 y36 y37 y38 => UcE n y26 y27 y28 y30 y35 y36 y37 y38 0 (fun y39 y40 y41 y42 y43 y44 y45 y46 y47 y48 y49 => k0 y39 y40 y41 y42 y43 y44) (fun y50 y51 y52 y53 y54 y55 y56 => k0 y52 y53 y54 y55 y56 0)))))
        (fun m cc => by simp only [Uce, Ue4]; simp (disch := (first | omega | (simp only [JlL]; omega))) only [↓JlO, JlM, Ua])
        (fun m cc i hi => by
          simp only [Uce, Ue4, inC]
          by_cases h1 : (l[i]).1 < 0
          · have e1 : ¬ 0 ≤ (l[i]).1 := by omega
            simp (disch := (first | omega | (simp only [JlL]; omega))) only [↓JlO, JlM, Ua, Jjo, Uav hi, i1]
            simp [e1]
          · by_cases h2 : (l[i]).1 ≥ 2048
            · have e1 : ¬ (l[i]).1 < 2048 := by omega
              simp (disch := (first | omega | (simp only [JlL]; omega))) only [↓JlO, JlM, Ua, Jjo, Uav hi, i1] <;> simp [e1]
            · have e1 : (l[i]).1 < 2048 := by omega
              have e2 : 0 ≤ (l[i]).1 := by omega
              obtain ⟨a, ha⟩ : ∃ a : Nat, (l[i]).1 = (a : Int) := ⟨(l[i]).1.toNat, by omega⟩
              rw [ha] at h1 h2 e1 e2
              simp (disch := (first | omega | (simp only [JlL]; omega))) only [↓JlO, JlM, Ua, Jjo, Uav hi, i1, ha, Uzg] <;> simp [e1, e2]) l.length n 0 0 (by omega) (by omega)
      rw [List.drop_zero] at H10
      unfold UhP
      refine Eq.trans H10 ?_
      have key : ∀ (kend : Nat → Option R) (r : List Uar) (cc : Nat), UwG (fun (cc : Nat) (t : Uar) K => if inC t.1 = true then K (max cc (t.1.toNat + 1)) else k0 [] false [] false [] 2) kend cc r =
          if aC r = true then kend ((spL r).foldl (fun c t => max c (t.1 + 1)) cc) else k0 [] false [] false [] 2 := by
        intro kend r
        induction r with
        | nil => intro cc; rfl
        | cons t r ih =>
          intro cc
          simp only [UwG, aC, List.all_cons] at ih ⊢
          rcases Bool.eq_false_or_eq_true (inC t.1) with h | h
          · have e9 : (inC t.1 && r.all fun t => inC t.1) = (r.all fun t => inC t.1) := by rw [h, Bool.true_and]
            simp only [if_pos h, ih, e9]
            rfl
          · simp [h]
      rw [key]
      cases hac : aC l with
      | false => rfl
      | true =>
        rw [if_pos rfl, if_pos rfl]
        obtain ⟨o1, o2⟩ := UEH haq hac
        have o3 := UsI hqc
        have ez := UiH (R := R) n (UaT hn) (hiC (spL l)) (UvW fun t ht => (o1 t ht).2)
        have eo := fun k => Ujc (R := R) n (UaT hn) o3.1 k
        rw [← o3.2] at eo
        show p67 n ((hiC (spL l) : Nat) : Int) _ = _
        rw [ez]
        simp only [eo]
        have e18 := UEz (R := R) n hn o1 (by rw [UAs]; exact hL) (rq c) k0
        rw [← o2] at e18
        exact e18
end Go.Proofs.YtmgfmlhdnadglaaGreatDoor
set_option linter.unusedVariables false
set_option maxRecDepth 100000
namespace Go.Proofs.YtmgfmlhdnadglaaGreatDoor
open Go Th Go.Proofs
noncomputable section
variable {R : Type}
def UgU : Ann := { loops := [(2, ids [1, 2, 5], ids [4])], cuts := [], frz := [], rm := [.id] }
abbrev Uys (n : Nat) : Env := eC 69 (UE8 n) (eC 34 (UGa n) eN)
theorem UpL (n : Nat) : EnvOK Tryz.prog GI (Uys n) := .cons (.cons (.nil) (UKQ n)) (UHo n)
def UhM (n : Nat) (l0 : LP → Int → LP → Int → O R) (x1 : LP) (x2 : Int) (x3 : LP) (x4 : Int) (k0 : Bool → O R) (k1 : O R) : O R :=
  bif (decide (x4 < ((x1).length : Int))) then (bif (inR x4 ((x3).length)) then (Jh8 ((x3).getD ((x4 : Int).toNat) (.v (.bool false))) fun a5 => JdW a5 fun h6 t7 => Jky h6 fun e8 => JdW t7 fun h9 t10 => Jj9 h9 fun e11 => JdW t10 fun h12 t13 => Jj8 h12 fun e14 => JdW t13 fun h15 t16 => Jjf .i64 h15 fun e17 => Ji8 t16 (bif (!e14) then (bif (inR x4 ((x1).length)) then (Jj9 ((x1).getD ((x4 : Int).toNat) (.v (.bool false))) fun e18 => p69 n e18 (fun y19 y20 y21 y22 => p34 n y19 y20 y21 y22 (fun y23 => bif (bif true then (decide (y23 < 0)) else false) then (k0 false) else (l0 x1 x2 x3 (IntKind.i64.wrap (x4 + 1)))))) else none) else (l0 x1 x2 x3 (IntKind.i64.wrap (x4 + 1))))) else none) else (k1)
def UdI (n : Nat) : Nat → LP → Int → LP → Int → (Bool → O R) → (O R) → O R
  | 0, _, _, _, _, _, _ => none
  | m + 1, x1, x2, x3, x4, k0, k1 => UhM n (fun x1 x2 x3 x4 => UdI n m x1 x2 x3 x4 k0 k1) x1 x2 x3 x4 k0 k1
def Uwn (n : Nat) (x1 : LP) (x2 : Int) (x3 : LP) (x4 : Int) (k0 : Bool → O R) (k1 : O R) : O R := UdI n n x1 x2 x3 x4 k0 k1
def p33 (n : Nat) (x1 : Int) (x2 x3 : LP) (k0 : Bool → O R) : O R :=
  Uwn n x3 x1 x2 0 (fun y4 => k0 y4) (k0 true)
abbrev E33 (n : Nat) : Code → Fr → Kc R → O R := evC Tryz.prog (Uys n) UgU n (28, [])
noncomputable def UuT : Code := Jk (Jls Tryz.f33) [1, 0, 1, 0, 0]
abbrev Ugq : Sl (List SV) := (cH (.c (sBx 24 (cI (cH .n))) (cI .n)))
abbrev Ur (n m : Nat) (K : Kc R) : Ugq.T (O R) := fun x1 x2 x3 x4 => UdI n m x1 x2 x3 x4 (fun y1 => xL UgU 2 K .ret [vB y1]) (xL UgU 2 K (.exit 0) [dD])
abbrev UA5 (n : Nat) (K : Kc R) (l0 : Ugq.T (O R)) : Ugq.T (O R) := fun x1 x2 x3 x4 => UhM n l0 x1 x2 x3 x4 (fun y1 => xL UgU 2 K .ret [vB y1]) (xL UgU 2 K (.exit 0) [dD])
abbrev UKx (n : Nat) : Orc R := oL UgU (E33 n) n 2 UuT Ugq (Ur n n) oN
abbrev UJm (n : Nat) : Orc R := oN
abbrev K33 (R : Type) (n : Nat) := JcK (R := R) Tryz.prog (Uys n) UgU n (28, []) (UKx n) (UJm n)
theorem UD1 (n : Nat) : K33 R n (false, 2, UuT) := JkM (lo := UKx n) (cu := UJm n) (pO pN (by kernel_rfl)) Ugq (Ur n n) (JiK (F := Ur n) Ugq (UA5 n) (fun K _ _ _ _ => rfl) (fun _ _ => rfl) (fun L K _ _ _ _ => by show _ = _; kernel_rfl) n) fun _ _ => rfl
theorem UNT (n : Nat) : Jfb (K33 R n) (JaJ UgU (Jls Tryz.f33)) := pO (pC (UD1 n) pN) (by kernel_rfl)
abbrev t33 : Sl (List SV) := (.c (sP (JlP (.c (JlC .i64) (.c sSh .n)))) (cH .n))
abbrev f33 (n : Nat) (K : List SV → O R) : t33.T (O R) := fun x1 x2 x3 => p33 n x1 x2 x3 (fun y1 => K [vB y1])
abbrev UJY (n : Nat) : FS := fT [false, false] t33 (f33 n)
theorem UM6 (n : Nat) : FSound Tryz.prog GI 33 (UJY n) := gd UgU n (UpL n) Tryz.func33 (.cons (UpL n) t33 (f33 n) (fun K _ _ _ => (Jkx (c := Jls Tryz.f33) (by kernel_rfl) (UNT n) K).trans (by kernel_rfl)) .nil) (by kernel_rfl)
def Ufi : Ann := { loops := [(7, ids [5, 7], ids [4])], cuts := [(6, ids [5], ids [4])], frz := [], rm := [.id] }
abbrev Uyj (n : Nat) : Env := eC 34 (UGa n) (eC 33 (UJY n) (eC 24 (UJT n) eN))
theorem Upv (n : Nat) : EnvOK Tryz.prog GI (Uyj n) := .cons (.cons (.cons (.nil) (UM1 n)) (UM6 n)) (UKQ n)
def Uhx (n : Nat) (l0 : LP → Bool → LP → Bool → LP → Int → O R) (x1 : LP) (x2 : Bool) (x3 : LP) (x4 : Bool) (x5 : LP) (x6 : Int) (k0 : Int → O R) (k1 : O R) : O R :=
  bif (decide (x6 < ((x1).length : Int))) then (bif (inR x6 ((x1).length)) then (Jh8 ((x1).getD ((x6 : Int).toNat) (.v (.bool false))) fun a7 => JdW a7 fun h8 t9 => Jj8 h8 fun e10 => JdW t9 fun h11 t12 => Jky h11 fun e13 => JdW t12 fun h14 t15 => Jj8 h14 fun e16 => JdW t15 fun h17 t18 => Jky h17 fun e19 => Ji8 t18 (p34 n e10 e13 e16 e19 (fun y20 => bif (decide (y20 > 0)) then (k0 16) else (l0 x1 x2 x3 x4 x5 (IntKind.i64.wrap (x6 + 1)))))) else none) else (k1)
def Udy (n : Nat) : Nat → LP → Bool → LP → Bool → LP → Int → (Int → O R) → (O R) → O R
  | 0, _, _, _, _, _, _, _, _ => none
  | m + 1, x1, x2, x3, x4, x5, x6, k0, k1 => Uhx n (fun x1 x2 x3 x4 x5 x6 => Udy n m x1 x2 x3 x4 x5 x6 k0 k1) x1 x2 x3 x4 x5 x6 k0 k1
def Uwd (n : Nat) (x1 : LP) (x2 : Bool) (x3 : LP) (x4 : Bool) (x5 : LP) (x6 : Int) (k0 : Int → O R) (k1 : O R) : O R := Udy n n x1 x2 x3 x4 x5 x6 k0 k1
def Usd (n : Nat) (x1 : LP) (x2 : Bool) (x3 : LP) (x4 : Bool) (x5 : LP) (k0 : Int → O R) : O R :=
  Uwd n x1 x2 x3 x4 x5 0 (fun y6 => k0 y6) (k0 0)
def p13 (n : Nat) (x1 : Int) (x2 x3 : LP) (k0 : Int → O R) : O R :=
  p24 n x1 x2 x3 (fun y4 y5 y6 y7 y8 y9 => bif (y9 != 0) then (k0 y9) else (p33 n x1 x2 x3 (fun y10 => bif (!y10) then (k0 16) else (p34 n y5 y6 y7 y8 (fun y11 => bif (bif false then true else (decide (y11 ≥ 0))) then (k0 16) else (Usd n y4 y5 y6 y7 y8 (fun y12 => k0 y12)))))))
abbrev E13 (n : Nat) : Code → Fr → Kc R → O R := evC Tryz.prog (Uyj n) Ufi n (41, [])
noncomputable def UuF : Code := Jk (Jls Tryz.f13) [1, 1, 1, 1]
abbrev UsQ : Sl (List SV) := (.c (sBx 59 (cH (cB (cH (cB (cH .n)))))) .n)
abbrev UvG (n : Nat) (K : Kc R) : UsQ.T (O R) := fun x1 x2 x3 x4 x5 => Usd n x1 x2 x3 x4 x5 (fun y1 => xC Ufi 6 K .ret [vI y1])
noncomputable def UuG : Code := Jk (Jls Tryz.f13) [1, 1, 1, 1, 0, 1, 0, 0]
abbrev Ugi : Sl (List SV) := (.c (sBx 59 (cH (cB (cH (cB (cH .n)))))) (cI .n))
abbrev UqS (n m : Nat) (K : Kc R) : Ugi.T (O R) := fun x1 x2 x3 x4 x5 x6 => Udy n m x1 x2 x3 x4 x5 x6 (fun y1 => xL Ufi 7 K .ret [vI y1]) (xL Ufi 7 K (.exit 0) [dD])
abbrev UAX (n : Nat) (K : Kc R) (l0 : Ugi.T (O R)) : Ugi.T (O R) := fun x1 x2 x3 x4 x5 x6 => Uhx n l0 x1 x2 x3 x4 x5 x6 (fun y1 => xL Ufi 7 K .ret [vI y1]) (xL Ufi 7 K (.exit 0) [dD])
abbrev UGC (n : Nat) : Orc R := oL Ufi (E13 n) n 7 UuG Ugi (UqS n n) oN
abbrev UFS (n : Nat) : Orc R := oC Ufi (E13 n) 6 UuF UsQ (UvG n) oN
abbrev K13 (R : Type) (n : Nat) := JcK (R := R) Tryz.prog (Uyj n) Ufi n (41, []) (UGC n) (UFS n)
theorem UDK (n : Nat) : K13 R n (false, 7, UuG) := JkM (lo := UGC n) (cu := UFS n) (pO pN (by kernel_rfl)) Ugi (UqS n n) (JiK (F := UqS n) Ugi (UAX n) (fun K _ _ _ _ _ _ => rfl) (fun _ _ => rfl) (fun L K _ _ _ _ _ _ => by show _ = _; kernel_rfl) n) fun _ _ => rfl
theorem UDJ (n : Nat) : K13 R n (true, 6, UuF) := Jk3 (lo := UGC n) (cu := UFS n) (pO (pC (UDK n) pN) (by kernel_rfl)) UsQ (UvG n) (fun K _ _ _ _ _ => by show _ = _; kernel_rfl) fun _ _ => rfl
theorem UND (n : Nat) : Jfb (K13 R n) (JaJ Ufi (Jls Tryz.f13)) := pO (pC (UDJ n) pN) (by kernel_rfl)
abbrev t13 : Sl (List SV) := (.c (sP (JlP (.c (JlC .i64) (.c sSh .n)))) (cH .n))
abbrev f13 (n : Nat) (K : List SV → O R) : t13.T (O R) := fun x1 x2 x3 => p13 n x1 x2 x3 (fun y1 => K [vI y1])
abbrev UJO (n : Nat) : FS := fT [false, false] t13 (f13 n)
theorem UMW (n : Nat) : FSound Tryz.prog GI 13 (UJO n) := gd Ufi n (Upv n) Tryz.func13 (.cons (Upv n) t13 (f13 n) (fun K _ _ _ => (Jkx (c := Jls Tryz.f13) (by kernel_rfl) (UND n) K).trans (by kernel_rfl)) .nil) (by kernel_rfl)
end
end Go.Proofs.YtmgfmlhdnadglaaGreatDoor
set_option linter.unusedVariables false
set_option linter.unusedSimpArgs false
namespace Go.Proofs.YtmgfmlhdnadglaaGreatDoor
open Go Th Go.Proofs
variable {R : Type}
theorem Uds {d : List Rat} {i : Nat} (h : i < d.length) : d.getD i 0 = d[i] := by rw [List.getD_eq_getElem?_getD, List.getElem?_eq_getElem h]; rfl
theorem UmE {d : List Rat} {i : Nat} (h : d.length ≤ i) : d.getD i 0 = 0 := by rw [List.getD_eq_getElem?_getD, List.getElem?_eq_none h]; rfl
theorem Ume {a b : List Rat} (h : a.length = b.length) (hi : ∀ i, i < a.length → a.getD i 0 = b.getD i 0) : a = b := by
  refine List.ext_getElem h fun i h1 h2 => ?_
  have := hi i h1
  rwa [Uds h1, Uds h2] at this
theorem UoX (n : Nat) (hn : 10 ^ 400 ≤ n) (d : List Rat) (i : Nat) (x2 : Bool) (x3 : List PV) (x4 : Bool) (x5 : List PV) (k0 : Bool → List PV → Bool → List PV → Option R) :
    p47 n (qs d) x2 x3 x4 x5 (i : Int) k0 = k0 (sg (d.getD i 0).num) (II (d.getD i 0).num.natAbs) false (II (d.getD i 0).den) := by
  have h0 := fun k => UrJ (R := R) n hn k
  unfold p47
  by_cases hi : i < d.length
  · rw [Uds hi]
    simp (disch := (first | omega | (simp only [JlL]; omega))) only [↓JlO, JlM, UaG, Jjo, Ud0 hi]
  · rw [UmE (by omega)]
    simp (disch := (first | omega | (simp only [JlL]; omega))) only [↓JlO, JlM, UaG, h0]
theorem UsM (n : Nat) (hn : 10 ^ 1000 ≤ n) {d : DnR} (hd : UaU d) (hl : d.1.length ≤ 2048) {q : Rat} (hq : Ual q) (k0 : List PV → Bool → List PV → Bool → List PV → Option R) :
    p68 n (qs d.1) (sg d.2.num) (II d.2.num.natAbs) false (II d.2.den) (sg q.num) (II q.num.natAbs) false (II q.den) k0 =
      k0 (qs (scD q d).1) (sg (scD q d).2.num) (II (scD q d).2.num.natAbs) false (II (scD q d).2.den) := by
  have hN := Uas (UaT hn)
  have ez := UiH (R := R) n (UaT hn) d.1.length hl
  unfold p68
  rw [UaG, ez]
  unfold Uwy
  refine Udh (R := R) (N := d.1.length) (Inv := fun i e => e.length = d.1.length ∧ ∀ j, j < i → e.getD j 0 = d.1.getD j 0 * q)
    (fun m e i => UdR n m (qs d.1) (sg d.2.num) (II d.2.num.natAbs) false (II d.2.den) (sg q.num) (II q.num.natAbs) false (II q.den) false false (qs e) (sg (0 : Rat).num) (II (0 : Rat).num.natAbs) false (II (0 : Rat).den) (i : Int)
      (fun y15 y16 y17 y18 y19 y20 y21 y22 y23 y24 y25 y26 y27 y28 y29 y30 => UAJ n y16 y17 y18 y19 y20 y21 y22 y23 (fun y31 y32 y33 y34 => k0 y26 y31 y32 y33 y34)))
    (fun m e he => ?_) (fun m e i hi he => ?_) d.1.length n 0 (List.replicate d.1.length 0) (by omega) (by omega) ⟨List.length_replicate .., fun j hj => by omega⟩
  · have ee : e = (scD q d).1 := Ume (by show _ = (d.1.map _).length; rw [List.length_map]; exact he.1) fun j hj => by rw [Ufb]; exact he.2 j (by rw [← he.1]; exact hj)
    have g1 := fun k => Ujb (R := R) n hn d.2 q hd.2 hq k
    have hel := he.1
    simp only [UdR, UhZ]
    simp (disch := (first | omega | (simp only [JlL]; omega))) only [↓JlO, JlM, UaG, g1]
    rw [ee]; rfl
  · have hfd : Ual (d.1[i]) := hd.1 _ (List.getElem_mem hi)
    have g1 := fun k => Ujb (R := R) n hn (d.1[i]) q hfd hq k
    have hel := he.1
    have hie : i < e.length := by omega
    refine .inr ⟨e.set i (d.1[i] * q), ⟨by rw [List.length_set]; exact hel, fun j hj => ?_⟩, ?_⟩
    · rw [Uhj _ _ _ _ hie]
      by_cases h : i = j
      · subst h; rw [if_pos rfl, Uds hi]
      · rw [if_neg h]; exact he.2 j (by omega)
    · simp only [UdR, UhZ]
      simp (disch := (first | omega | (simp only [JlL]; omega))) only [↓JlO, JlM, UaG, Jjo, Ud0 hi, Ud0 hie, i1, g1, Um1]
theorem UwO (n : Nat) (hn : 10 ^ 1000 ≤ n) {a b : DnR} (ha : UaU a) (hb : UaU b) (hl : a.1.length ≤ 2048) (hl' : b.1.length ≤ 2048) (k0 : List PV → Bool → List PV → Bool → List PV → Option R) :
    p70 n (qs a.1) (sg a.2.num) (II a.2.num.natAbs) false (II a.2.den) (qs b.1) (sg b.2.num) (II b.2.num.natAbs) false (II b.2.den) k0 =
      k0 (qs (adD a b).1) (sg (adD a b).2.num) (II (adD a b).2.num.natAbs) false (II (adD a b).2.den) := by
  have hN := Uas (UaT hn)
  have ez := UiH (R := R) n (UaT hn) (max a.1.length b.1.length) (by omega)
  have em : Jk1 (a.1.length : Int) (b.1.length : Int) = ((max a.1.length b.1.length : Nat) : Int) := by unfold Jk1; split <;> omega
  have hal : (adD a b).1.length = max a.1.length b.1.length := by show ((List.range _).map _).length = _; rw [List.length_map, List.length_range]
  unfold p70
  simp only [UaG, em, ez]
  unfold Uwz
  refine Udh (R := R) (N := max a.1.length b.1.length) (Inv := fun i e => e.length = max a.1.length b.1.length ∧ ∀ j, j < i → e.getD j 0 = a.1.getD j 0 + b.1.getD j 0)
    (fun m e i => UdS n m (qs a.1) (sg a.2.num) (II a.2.num.natAbs) false (II a.2.den) (qs b.1) (sg b.2.num) (II b.2.num.natAbs) false (II b.2.den) false false (qs e) (sg (0 : Rat).num) (II (0 : Rat).num.natAbs) false (II (0 : Rat).den) (i : Int) _)
    (fun m e he => ?_) (fun m e i hi he => ?_) (max a.1.length b.1.length) n 0 (List.replicate (max a.1.length b.1.length) 0) (by omega) (by omega) ⟨List.length_replicate .., fun j hj => by omega⟩
  · have ee : e = (adD a b).1 := Ume (by rw [hal]; exact he.1) fun j hj => by rw [UgO]; exact he.2 j (by rw [← he.1]; exact hj)
    have g1 := fun k => UfM (R := R) n hn a.2 b.2 ha.2 hb.2 k
    have hel := he.1
    simp only [UdS, Uh0]
    simp (disch := (first | omega | (simp only [JlL]; omega))) only [↓JlO, JlM, UaG, g1]
    rw [ee]; rfl
  · have hfa : Ual (a.1.getD i 0) := (UbN.1 ha).1 i
    have hfb : Ual (b.1.getD i 0) := (UbN.1 hb).1 i
    have g1 := fun k => UfM (R := R) n hn (a.1.getD i 0) (b.1.getD i 0) hfa hfb k
    have g2 := fun x2 x3 x4 x5 k => UoX (R := R) n (UaT hn) a.1 i x2 x3 x4 x5 k
    have g3 := fun x2 x3 x4 x5 k => UoX (R := R) n (UaT hn) b.1 i x2 x3 x4 x5 k
    have hel := he.1
    have hie : i < e.length := by omega
    refine .inr ⟨e.set i (a.1.getD i 0 + b.1.getD i 0), ⟨by rw [List.length_set]; exact hel, fun j hj => ?_⟩, ?_⟩
    · rw [Uhj _ _ _ _ hie]
      by_cases h : i = j
      · subst h; rw [if_pos rfl]
      · rw [if_neg h]; exact he.2 j (by omega)
    · simp only [UdS, Uh0]
      simp (disch := (first | omega | (simp only [JlL]; omega))) only [↓JlO, JlM, UaG, Jjo, g2, g3, Ud0 hie, i1, g1, Um1]
theorem Uk2 : ∀ (a b : List Rat) (k : Nat), wrD k (a ++ b) = wrD k a ++ wrD (k + a.length) b
  | [], b, k => rfl
  | x :: a, b, k => by
    rw [List.cons_append, wrD, wrD, Uk2 a b (k + 1), List.length_cons, show k + 1 + a.length = k + (a.length + 1) from by omega]
    split <;> rfl
theorem Utb : ∀ (a : List Rat) (k : Nat), (wrD k a).length ≤ a.length
  | [], k => Nat.le_refl _
  | x :: a, k => by
    have := Utb a (k + 1)
    rw [wrD]
    split <;> simp <;> omega
theorem UfP {d : List Rat} {i : Nat} (h : i < d.length) : d.take (i + 1) = d.take i ++ [d[i]] := by rw [List.take_succ_eq_append_getElem h]
open Classical in
noncomputable def Uta (k0 : List PV → ByteArray → Int → Option R) (d : DnR) : Option R := if UaU d then k0 (tms (vt (wrD 0 d.1))) (bs (Uag d.2)) 0 else k0 [] (bs []) 5
theorem Unc (n : Nat) (hn : 10 ^ 400 ≤ n) (d : DnR) (hl : d.1.length ≤ 2048) (k0 : List PV → ByteArray → Int → Option R) :
    p25 n (qs d.1) (sg d.2.num) (II d.2.num.natAbs) false (II d.2.den) k0 = Uta k0 d := by
  have hN := Uas hn
  have txt : ∀ {q : Rat}, Ual q → ∀ k : ByteArray → Option R, p73 n (sg q.num) (II q.num.natAbs) false (II q.den) k = k (bs (Uag q)) := fun {q} hq k => by
    obtain ⟨h1, h2⟩ := Ucz.1 hq
    exact Ui8 n q (by omega) (by omega) hN k
  unfold p25 Uwg
  refine Udh (R := R) (N := d.1.length) (Inv := fun i (acc : List SpT) => acc = wrD 0 (d.1.take i) ∧ ∀ x ∈ d.1.take i, Ual x)
    (fun m acc i => UbT n m (qs d.1) (sg d.2.num) (II d.2.num.natAbs) false (II d.2.den) (tms (vt acc)) (i : Int) (fun y6 y7 y8 y9 y10 y11 y12 y13 => k0 [] y11 y12) (fun y14 y15 y16 y17 y18 y19 => p71 n y15 y16 y17 y18 (fun y20 => bif y20 then (k0 [] ⟨#[]⟩ 5) else (p73 n y15 y16 y17 y18 (fun y21 => k0 y19 y21 0)))))
    (fun m acc ha => ?_) (fun m acc i hi ha => ?_) d.1.length n 0 [] (by omega) (by omega) ⟨rfl, fun x hx => by cases hx⟩
  · obtain ⟨h1, h2⟩ := ha
    rw [List.take_length] at h1 h2
    subst h1
    simp only [UbT, UdB]
    unfold Uta
    by_cases hf : Ual d.2
    · have g1 := fun k => UrP (R := R) n hf k
      have g2 := fun k => txt hf k
      rw [if_pos ⟨h2, hf⟩]
      simp (disch := (first | omega | (simp only [JlL]; omega))) only [↓JlO, JlM, UaG, g1, g2]
    · have g1 := fun k => UrO (R := R) n hf k
      rw [if_neg (fun h => hf h.2)]
      simp (disch := (first | omega | (simp only [JlL]; omega))) only [↓JlO, JlM, UaG, g1]
  · obtain ⟨h1, h2⟩ := ha
    have hal : acc.length ≤ i := by
      rw [h1]
      refine Nat.le_trans (Utb _ _) ?_
      rw [List.length_take]; omega
    by_cases hf : Ual (d.1[i])
    · have g1 := fun k => UrP (R := R) n hf k
      have g2 := fun k => txt hf k
      have g3 := fun k => Uut (R := R) n (d.1[i]) k
      have h3 : ∀ x ∈ d.1.take (i + 1), Ual x := fun x hx => by
        rw [UfP hi] at hx
        rcases List.mem_append.1 hx with hx | hx
        · exact h2 x hx
        · rw [List.mem_singleton.1 hx]; exact hf
      have htl : (d.1.take i).length = i := by rw [List.length_take]; omega
      by_cases hz : d.1[i] = 0
      · have e3 : decide (d.1[i] = 0) = true := decide_eq_true hz
        refine .inr ⟨acc, ⟨?_, h3⟩, ?_⟩
        · rw [UfP hi, Uk2, htl, ← h1, Nat.zero_add]
          show acc = acc ++ wrD i [d.1[i]]
          rw [wrD, if_pos hz]
          show acc = acc ++ []
          rw [List.append_nil]
        · simp only [UbT, UdB, Uf5]
          simp (disch := (first | omega | (simp only [JlL]; omega))) only [↓JlO, JlM, UaG, Jjo, Ud0 hi, g1, g3, e3, i1]
      · have e3 : decide (d.1[i] = 0) = false := decide_eq_false hz
        refine .inr ⟨acc ++ [(i, d.1[i])], ⟨?_, h3⟩, ?_⟩
        · rw [UfP hi, Uk2, htl, ← h1, Nat.zero_add]
          show _ = acc ++ wrD i [d.1[i]]
          rw [wrD, if_neg hz]; rfl
        · simp only [UbT, UdB, Uf5]
          simp (disch := (first | omega | (simp only [JlL]; omega))) only [↓JlO, JlM, UaG, Jjo, Ud0 hi, g1, g3, e3, g2, Ua, Uaw, Udj, i1]
    · have g1 := fun k => UrO (R := R) n hf k
      refine .inl ?_
      unfold Uta
      rw [if_neg (fun h => hf (h.1 _ (List.getElem_mem hi)))]
      simp only [UbT, UdB, Uf5]
      simp (disch := (first | omega | (simp only [JlL]; omega))) only [↓JlO, JlM, UaG, Jjo, Ud0 hi, g1]
noncomputable def dnR (r : RowT) : DnR := ((rdD (spL r.tm)).getD [], rq r.c)
theorem UEy {cols : Int} {s : List SpT} (h : okS cols s) : ∃ d, rdD s = some d ∧ d.length = hiC s ∧ ∀ i, d.getD i 0 = cf s i := by
  have hz : ∀ i, (List.replicate (hiC s) (0 : Rat)).getD i 0 = 0 := fun i => by
    rw [List.getD_eq_getElem?_getD]
    by_cases hi : i < (List.replicate (hiC s) (0 : Rat)).length
    · rw [List.getElem?_eq_getElem hi, List.getElem_replicate]; rfl
    · rw [List.getElem?_eq_none (by omega)]; rfl
  obtain ⟨d, e1, e2⟩ := UEB (d := List.replicate (hiC s) 0) h.1 h.2 (fun i _ => hz i) (fun t ht => by rw [List.length_replicate]; exact UvX t ht)
  refine ⟨d, e1, (UEA e1).trans (List.length_replicate ..), fun i => ?_⟩
  rw [e2 i, hz i, Rat.zero_add]
theorem Uf1 {cols : Int} (hc : cols ≤ 2048) {r : RowT} (h : okR cols r = true) : rdD (spL r.tm) = some (dnR r).1 ∧ (dnR r).1.length ≤ 2048 ∧ Uuu (spR r) (dnR r) ∧ UaU (dnR r) := by
  obtain ⟨o1, o2, o3⟩ := Uf4 h
  obtain ⟨d, e1, e2, e3⟩ := UEy (s := spL r.tm) o1.1
  have ed : (dnR r).1 = d := by show (rdD (spL r.tm)).getD [] = d; rw [e1]; rfl
  have hs : Uuu (spR r) (dnR r) := ⟨rfl, fun i => by rw [ed]; exact e3 i⟩
  refine ⟨by rw [ed]; exact e1, ?_, hs, UbN.2 ⟨fun i => ?_, o1.2⟩⟩
  · rw [ed, e2]
    refine UvW fun t ht => ?_
    have := (o1.1.2 t ht).2.2
    omega
  · rw [hs.2 i]; exact Ujz o1.1.2 i
theorem Um2 (n : Nat) (hn : 10 ^ 1000 ≤ n) {cols : Int} (hc : cols ≤ 2048) {r : RowT} (h : okR cols r = true) (k0 : List PV → Bool → List PV → Bool → List PV → Int → Option R) :
    p46 n (bs r.c) (tms r.tm) k0 = k0 (qs (dnR r).1) (sg (dnR r).2.num) (II (dnR r).2.num.natAbs) false (II (dnR r).2.den) 0 := by
  obtain ⟨o1, o2, o3⟩ := Uf4 h
  obtain ⟨e1, _⟩ := Uf1 hc h
  have h' := h
  unfold okR at h'
  rw [Bool.and_eq_true] at h'
  have o1' := UeM hc o1
  have hl := UbP o1'.1
  have a2 : okT 2048 (-1) r.tm = true := by rw [o2]; exact UrX o1'.1.1 o1'.1.2
  obtain ⟨b1, b2, b3⟩ := (Ufw (by omega)).1 a2
  have e : (Uuo r.tm r.c k0 : Option R) = UAi (rq r.c) k0 (rdD (spL r.tm)) := by
    unfold Uuo
    rw [if_pos h'.2, if_pos b1, if_pos b2]
  rw [UAn n hn r.tm r.c (by rw [o2]; exact UEP o1'.1.2 (Nat.lt_of_le_of_lt hl (by decide))) (by rw [o3]; exact Uif o1.2), e, e1]; rfl
noncomputable def zsD (rows : List RowT) (mult : List (List UInt8)) : List (DnR × Rat) := (rows.zip mult).map fun x => (dnR x.1, rq x.2)
noncomputable def UAV (k0 : List PV → Bool → List PV → Bool → List PV → Int → Option R) : Option DnR → Option R
  | none => k0 [] false [] false [] 5
  | some d => k0 (qs d.1) (sg d.2.num) (II d.2.num.natAbs) false (II d.2.den) 0
theorem UnI {a b : DnR} : (adD a b).1.length = max a.1.length b.1.length := by show ((List.range _).map _).length = _; rw [List.length_map, List.length_range]
theorem Uig {q : Rat} {d : DnR} : (scD q d).1.length = d.1.length := by show (d.1.map _).length = _; rw [List.length_map]
theorem Uih {q : Rat} {r s x : DnR} (hr : r.1.length ≤ 2048) (hs : s.1.length ≤ 2048 ∧ UaU s) (he : Uba q r s = some x) : x.1.length ≤ 2048 ∧ UaU x := by
  unfold Uba at he
  split at he
  · simp only [Option.some.injEq] at he; rwa [← he]
  · split at he
    · split at he
      · rename_i h3
        simp only [Option.some.injEq] at he
        subst he
        refine ⟨?_, h3⟩
        rw [UnI, Uig]; omega
      · cases he
    · cases he
theorem Udp : ∀ (l : List (DnR × Rat)) (s : DnR), Ug4 l s = UaO (fun s x => Uba x.2 x.1 s) s l
  | [], s => rfl
  | x :: l, s => by
    rw [Ug4, UaO]
    congr 1
    funext s'
    exact Udp l s'
theorem Um4 (n : Nat) (hn : 10 ^ 1000 ≤ n) {cols : Int} (hc : cols ≤ 2048) {r : RowT} (hr : okR cols r = true) {m : List UInt8} (hm : qb m = true) (h0 : rq m ≠ 0) {s : DnR} (hs : s.1.length ≤ 2048 ∧ UaU s)
    (kb : Option R) (K : List PV → Bool → List PV → Bool → List PV → Option R) :
    (p68 n (qs (dnR r).1) (sg (dnR r).2.num) (II (dnR r).2.num.natAbs) false (II (dnR r).2.den) (sg (rq m).num) (II (rq m).num.natAbs) false (II (rq m).den) fun y61 y62 y63 y64 y65 => p25 n y61 y62 y63 y64 y65 fun y66 y67 y68 => bif (y68 != 0) then kb else
      p70 n (qs s.1) (sg s.2.num) (II s.2.num.natAbs) false (II s.2.den) y61 y62 y63 y64 y65 fun y69 y70 y71 y72 y73 => p25 n y69 y70 y71 y72 y73 fun y74 y75 y76 => bif (y76 != 0) then kb else
        K y69 y70 y71 y72 y73) = UAD kb (fun d => K (qs d.1) (sg d.2.num) (II d.2.num.natAbs) false (II d.2.den)) (Uba (rq m) (dnR r) s) := by
  obtain ⟨m1, m2⟩ := UsI hm
  obtain ⟨d1, d2, d3, d4⟩ := Uf1 hc hr
  rw [UsM n hn d4 d2 m1, Unc n (UaT hn) _ (by rw [Uig]; exact d2)]
  unfold Uta
  by_cases h1 : UaU (scD (rq m) (dnR r))
  · rw [if_pos h1]
    dsimp only
    rw [UnE, Uak, UwO n hn hs.2 h1 hs.1 (by rw [Uig]; exact d2), Unc n (UaT hn) _ (by rw [UnI, Uig]; omega)]
    unfold Uta
    by_cases h2 : UaU (adD s (scD (rq m) (dnR r)))
    · rw [if_pos h2]
      dsimp only
      rw [UnE, Uak]
      have e : Uba (rq m) (dnR r) s = some (adD s (scD (rq m) (dnR r))) := by unfold Uba; rw [if_neg h0, if_pos h1, if_pos h2]
      rw [e]; rfl
    · have e : Uba (rq m) (dnR r) s = none := by unfold Uba; rw [if_neg h0, if_pos h1, if_neg h2]
      rw [if_neg h2, e]; rfl
  · have e : Uba (rq m) (dnR r) s = none := by unfold Uba; rw [if_neg h0, if_neg h1]
    rw [if_neg h1, e]; rfl
section
variable (n : Nat) (hn : 10 ^ 1000 ≤ n) (cols : Int) (rows : List RowT) (mult : List (List UInt8)) (h : okRM cols rows mult) (k0 : List PV → Bool → List PV → Bool → List PV → Int → Option R)
noncomputable def stX (s : DnR) (x : RowT × List UInt8) : Option DnR := Uba (rq x.2) (dnR x.1) s
include hn h
theorem Uy5 : ∀ (d m i : Nat) (s : DnR), d + i = (rows.zip mult).length → d < m → (s.1.length ≤ 2048 ∧ UaU s) →
    Ub n m (sl mult) cols (rws rows) false false (qs s.1) (sg s.2.num) (II s.2.num.natAbs) false (II s.2.den) (i : Int) (fun y22 y23 y24 y25 y26 y27 y28 y29 y30 y31 y32 => k0 y22 y23 y24 y25 y26 y27) (fun y33 y34 y35 y36 y37 y38 y39 => k0 y35 y36 y37 y38 y39 0) =
      UAV k0 (UaO stX s ((rows.zip mult).drop i)) := by
  have hN := Uas (UaT hn)
  have hlen : (rows.zip mult).length = rows.length := by rw [List.length_zip, h.len]; omega
  have hf := h.few
  have hl := h.len
  intro d m i s e1 e2 e3
  have H := Udi (R := R) (l := rows.zip mult) (step := stX) (kerr := k0 [] false [] false [] 5) (kend := fun d => k0 (qs d.1) (sg d.2.num) (II d.2.num.natAbs) false (II d.2.den) 0) (Inv := fun i s => s.1.length ≤ 2048 ∧ UaU s)
    (fun m s i => Ub n m (sl mult) cols (rws rows) false false (qs s.1) (sg s.2.num) (II s.2.num.natAbs) false (II s.2.den) (i : Int) (fun y22 y23 y24 y25 y26 y27 y28 y29 y30 y31 y32 => k0 y22 y23 y24 y25 y26 y27) (fun y33 y34 y35 y36 y37 y38 y39 => k0 y35 y36 y37 y38 y39 0))
    (fun m s hs => by
      simp only [Ub, Udd]
      rw [hlen]
      simp (disch := (first | omega | (simp only [JlL]; omega))) only [↓JlO, JlM, Uaj])
    (fun s s' i hi hs he => by
      have hr := h.hr _ (List.of_mem_zip (List.getElem_mem hi)).1
      exact Uih (Uf1 h.hc hr).2.1 hs he)
    (fun m s i hi hs => by
      have hi1 : i < rows.length := by omega
      have hi2 : i < mult.length := by omega
      have e0 : (rows.zip mult)[i] = (rows[i], mult[i]) := List.getElem_zip
      rw [e0]
      have hr := h.hr rows[i] (List.getElem_mem hi1)
      have hq := h.hm mult[i] (List.getElem_mem hi2)
      obtain ⟨m1, m2⟩ := UsI hq
      simp only [Ub, Udd, Ucd]
      show _ = UAD _ _ (Uba (rq mult[i]) (dnR rows[i]) s)
      by_cases h0 : rq mult[i] = 0
      · have e3 : (mult[i] == [48]) = true := Ujv (by rw [m2, h0, Ujd])
        have e4 : Uba (rq mult[i]) (dnR rows[i]) s = some s := by unfold Uba; rw [if_pos h0]
        rw [e4]
        simp (disch := (first | omega | (simp only [JlL]; omega))) only [↓JlO, JlM, Uab, Uaj, Jjo, UbU hi2, i1, e3]
        rfl
      · have e3 : (mult[i] == [48]) = false := UiN (by rw [m2]; exact fun q => h0 (Uew.1 q))
        have g1 : ∀ k : List PV → Bool → List PV → Bool → List PV → Int → Option R, p46 n (bs (rows[i]).c) (tms (rows[i]).tm) k = _ := fun k => Um2 n hn h.hc hr k
        have g2 : ∀ k : Bool → List PV → Bool → List PV → Option R, p69 n (bs mult[i]) k = k (sg (rq mult[i]).num) (II (rq mult[i]).num.natAbs) false (II (rq mult[i]).den) := fun k => by
          have := Ujc (R := R) n (UaT hn) m1 k
          rwa [← m2] at this
        simp (disch := (first | omega | (simp only [JlL]; omega))) only [↓JlO, JlM, Uab, Uaj, Jjo, UbU hi2, UaJ hi1, i1, e3, g1, g2]
        exact Um4 n hn h.hc hr hq h0 hs _ _) d m i s e1 e2 e3
  refine Eq.trans H ?_
  cases UaO stX s ((rows.zip mult).drop i) <;> rfl
theorem UGq : ∀ (d m i : Nat), d + i = (rows.zip mult).length → d < m →
    UdA n m (sl mult) cols (rws rows) false false (qs []) (sg (0 : Rat).num) (II (0 : Rat).num.natAbs) false (II (0 : Rat).den) (i : Int) (fun y11 y12 y13 y14 y15 y16 y17 y18 y19 y20 y21 => k0 y11 y12 y13 y14 y15 y16) (fun y22 y23 y24 y25 y26 y27 y28 y29 y30 y31 y32 => k0 y22 y23 y24 y25 y26 y27)
      (fun y33 y34 y35 y36 y37 y38 y39 => k0 y35 y36 y37 y38 y39 0) (fun y40 y41 y42 y43 y44 y45 y46 => k0 y42 y43 y44 y45 y46 0) =
      UAV k0 (UaO stX ([], 0) ((rows.zip mult).drop i)) := by
  have hN := Uas (UaT hn)
  have hlen : (rows.zip mult).length = rows.length := by rw [List.length_zip, h.len]; omega
  have hf := h.few
  have hl := h.len
  have hz : (([], 0) : DnR).1.length ≤ 2048 ∧ UaU ([], 0) := ⟨by simp, ⟨by simp, UeA⟩⟩
  intro d
  induction d with
  | zero =>
    intro m i e1 e2
    obtain ⟨m, rfl⟩ : ∃ m', m = m' + 1 := ⟨m - 1, by omega⟩
    simp only [UdA, UhC]
    rw [List.drop_eq_nil_of_le (by omega)]
    simp (disch := (first | omega | (simp only [JlL]; omega))) only [↓JlO, JlM, Uaj]
    rfl
  | succ d ih =>
    intro m i e1 e2
    obtain ⟨m, rfl⟩ : ∃ m', m = m' + 1 := ⟨m - 1, by omega⟩
    have hi : i < (rows.zip mult).length := by omega
    have hi1 : i < rows.length := by omega
    have hi2 : i < mult.length := by omega
    have e0 : (rows.zip mult)[i] = (rows[i], mult[i]) := List.getElem_zip
    have hr := h.hr rows[i] (List.getElem_mem hi1)
    have hq := h.hm mult[i] (List.getElem_mem hi2)
    obtain ⟨m1, m2⟩ := UsI hq
    rw [Ua6 hi, e0]
    simp only [UdA, UhC, Usk, Ucd]
    show _ = UAV k0 ((Uba (rq mult[i]) (dnR rows[i]) ([], 0)).bind fun s' => UaO stX s' ((rows.zip mult).drop (i + 1)))
    by_cases h0 : rq mult[i] = 0
    · have e3 : (mult[i] == [48]) = true := Ujv (by rw [m2, h0, Ujd])
      have e4 : Uba (rq mult[i]) (dnR rows[i]) ([], 0) = some ([], 0) := by unfold Uba; rw [if_pos h0]
      rw [e4, Option.bind_some, ← ih m (i + 1) (by omega) (by omega)]
      simp (disch := (first | omega | (simp only [JlL]; omega))) only [↓JlO, JlM, Uab, Uaj, Jjo, UbU hi2, i1, e3]
    · have e3 : (mult[i] == [48]) = false := UiN (by rw [m2]; exact fun q => h0 (Uew.1 q))
      have g1 : ∀ k : List PV → Bool → List PV → Bool → List PV → Int → Option R, p46 n (bs (rows[i]).c) (tms (rows[i]).tm) k = _ := fun k => Um2 n hn h.hc hr k
      have g2 : ∀ k : Bool → List PV → Bool → List PV → Option R, p69 n (bs mult[i]) k = k (sg (rq mult[i]).num) (II (rq mult[i]).num.natAbs) false (II (rq mult[i]).den) := fun k => by
        have := Ujc (R := R) n (UaT hn) m1 k
        rwa [← m2] at this
      simp (disch := (first | omega | (simp only [JlL]; omega))) only [↓JlO, JlM, Uab, Uaj, Jjo, UbU hi2, UaJ hi1, i1, e3, g1, g2]
      refine Eq.trans (Um4 n hn h.hc hr hq h0 hz _ _) ?_
      cases hst : Uba (rq mult[i]) (dnR rows[i]) ([], 0) with
      | none => rfl
      | some s =>
        have hs := Uih (Uf1 h.hc hr).2.1 hz hst
        exact Uy5 n hn cols rows mult h k0 d m (i + 1) s (by omega) (by omega) hs
end
theorem Ukr (n : Nat) (hn : 10 ^ 1000 ≤ n) (cols : Int) (rows : List RowT) (mult : List (List UInt8)) (h : okRM cols rows mult) (k0 : List PV → Bool → List PV → Bool → List PV → Int → Option R) :
    UiZ n (sl mult) cols (rws rows) false false k0 = UAV k0 (Ug4 (zsD rows mult) ([], 0)) := by
  have hN := Uas (UaT hn)
  have hlen : (rows.zip mult).length = rows.length := by rw [List.length_zip, h.len]; omega
  have hf := h.few
  have hl := h.len
  have ez := UiH (R := R) n (UaT hn) 0 (by omega)
  have e3 : ((mult.length : Int) != (rows.length : Int)) = false := by simp [h.len]
  have ez' : ∀ k : List PV → Bool → List PV → Bool → List PV → Option R, p67 n 0 k = k (qs []) (sg (0 : Rat).num) (II (0 : Rat).num.natAbs) false (II (0 : Rat).den) := ez
  unfold UiZ Uwf
  rw [Uaj, Uab, e3, Uak, ez']
  have H := UGq (R := R) n hn cols rows mult h k0 rows.length n 0 (by omega) (by omega)
  rw [List.drop_zero] at H
  have hc : UaO stX ([], 0) (rows.zip mult) = Ug4 (zsD rows mult) ([], 0) := by
    rw [Udp, zsD, ← Uft]; rfl
  rw [hc] at H
  exact H
theorem UAh (n : Nat) (hn : 10 ^ 1000 ≤ n) (cols : Int) (rows : List RowT) (mult : List (List UInt8)) (h : okRM cols rows mult) (k0 : Bool → Option R) :
    p33 n cols (rws rows) (sl mult) k0 = k0 (adm rows mult) := by
  have hN := Uas (UaT hn)
  have hlen : (rows.zip mult).length = rows.length := by rw [List.length_zip, h.len]; omega
  have hf := h.few
  have hl := h.len
  unfold p33 Uwn
  have H := Uao (R := R) (l := rows.zip mult) (ok := UwP) (kbad := k0 false) (kend := k0 true)
    (fun m i => UdI n m (sl mult) cols (rws rows) (i : Int) (fun y4 => k0 y4) (k0 true))
    (fun m => by
      simp only [UdI, UhM]
      rw [hlen]
      simp (disch := (first | omega | (simp only [JlL]; omega))) only [↓JlO, JlM, Uaj])
    (fun m i hi => by
      have hi1 : i < rows.length := by omega
      have hi2 : i < mult.length := by omega
      have e0 : (rows.zip mult)[i] = (rows[i], mult[i]) := List.getElem_zip
      rw [e0]
      obtain ⟨m1, m2⟩ := UsI (h.hm mult[i] (List.getElem_mem hi2))
      have g2 : ∀ k : Bool → List PV → Bool → List PV → Option R, p69 n (bs mult[i]) k = k (sg (rq mult[i]).num) (II (rq mult[i]).num.natAbs) false (II (rq mult[i]).den) := fun k => by
        have := Ujc (R := R) n (UaT hn) m1 k
        rwa [← m2] at this
      have g3 := fun k => Uid (R := R) n (rq mult[i]) k
      simp only [UdI, UhM, UwP]
      rcases Bool.eq_false_or_eq_true (rows[i]).eq with he | he
      · simp (disch := (first | omega | (simp only [JlL]; omega))) only [↓JlO, JlM, Uab, Uaj, Jjo, UbU hi2, UaJ hi1, i1, he]
        simp [he]
      · rcases tri (rq mult[i]) 0 with h0 | h0 | h0
        · have hz : rq mult[i] ≠ 0 := fun q => by rw [q] at h0; exact absurd h0 (by decide)
          rw [if_neg hz, if_pos h0] at g3
          simp (disch := (first | omega | (simp only [JlL]; omega))) only [↓JlO, JlM, Uab, Uaj, Jjo, UbU hi2, UaJ hi1, i1, he, g2, g3]
          simp [h0]
        · rw [if_pos h0] at g3
          simp (disch := (first | omega | (simp only [JlL]; omega))) only [↓JlO, JlM, Uab, Uaj, Jjo, UbU hi2, UaJ hi1, i1, he, g2, g3]
          simp [h0]
        · have hz : rq mult[i] ≠ 0 := fun q => by rw [q] at h0; exact absurd h0 (by decide)
          have hz2 : ¬ rq mult[i] < 0 := Rat.not_lt.2 (Rat.le_of_lt h0)
          rw [if_neg hz, if_neg hz2] at g3
          simp (disch := (first | omega | (simp only [JlL]; omega))) only [↓JlO, JlM, Uab, Uaj, Jjo, UbU hi2, UaJ hi1, i1, he, g2, g3]
          simp [hz2]) rows.length n 0 (by omega) (by omega)
  rw [List.drop_zero] at H
  refine Eq.trans H ?_
  unfold adm
  cases (rows.zip mult).all UwP <;> rfl
theorem UEF {q : Rat} : ((if q = 0 then 0 else if q < 0 then -1 else 1 : Int) ≥ 0) ↔ ¬ q < 0 := by
  rcases tri q 0 with h0 | h0 | h0
  · have hz : q ≠ 0 := fun e => by rw [e] at h0; exact absurd h0 (by decide)
    rw [if_neg hz, if_pos h0]; simp [h0]
  · rw [if_pos h0, h0]; decide
  · have hz : q ≠ 0 := fun e => by rw [e] at h0; exact absurd h0 (by decide)
    have hz2 : ¬ q < 0 := Rat.not_lt.2 (Rat.le_of_lt h0)
    rw [if_neg hz, if_neg hz2]; simp [hz2]
theorem UEG {q : Rat} : ((if q = 0 then 0 else if q < 0 then -1 else 1 : Int) > 0) ↔ ¬ q ≤ 0 := by
  rcases tri q 0 with h0 | h0 | h0
  · have hz : q ≠ 0 := fun e => by rw [e] at h0; exact absurd h0 (by decide)
    rw [if_neg hz, if_pos h0]; simp [Rat.le_of_lt h0]
  · rw [if_pos h0, h0]; decide
  · have hz : q ≠ 0 := fun e => by rw [e] at h0; exact absurd h0 (by decide)
    have hz2 : ¬ q < 0 := Rat.not_lt.2 (Rat.le_of_lt h0)
    rw [if_neg hz, if_neg hz2]; simp [Rat.not_le.2 h0]
theorem UF5 {cols : Int} {rows : List RowT} {mult : List (List UInt8)} {x : SpR} {d : DnR} (hx : okF cols x) (h : Uuu x d) :
    Uno rows mult x = (adm rows mult && (decide (d.2 < 0) && d.1.all fun q => decide (q ≤ 0))) := by
  have e : (x.1.all fun t => decide (t.2 ≤ 0)) = (d.1.all fun q => decide (q ≤ 0)) := by
    rw [Bool.eq_iff_iff, List.all_eq_true, List.all_eq_true]
    refine ⟨fun h1 q hq => ?_, fun h1 t ht => ?_⟩
    · obtain ⟨i, hi, rfl⟩ := List.getElem_of_mem hq
      have := h.2 i
      rw [Uds hi] at this
      rw [this]
      by_cases h0 : cf x.1 i = 0
      · rw [h0]; decide
      · obtain ⟨t, ht, _, e⟩ := Ux5 h0
        rw [← e]; exact h1 t ht
    · have := h.2 t.1
      rw [UoR hx.1.1 t ht] at this
      by_cases hi : t.1 < d.1.length
      · rw [Uds hi] at this
        rw [← this]; exact h1 _ (List.getElem_mem hi)
      · rw [UmE (by omega)] at this
        rw [← this]; decide
  unfold Uno
  rw [e, h.1]
  cases adm rows mult <;> cases decide (d.2 < 0) <;> simp
theorem UnA (n : Nat) (hn : 10 ^ 1000 ≤ n) (cols : Int) (rows : List RowT) (mult : List (List UInt8)) (hr : smA rows) (hm : smS mult) (k0 : Int → Option R) :
    p13 n cols (rws rows) (sl mult) k0 = k0 (Unp cols rows mult) := by
  have hN := Uas (UaT hn)
  unfold p13 p24 Unp
  rw [UAu n (UaT hn) cols rows hr]
  by_cases h1 : Um9 cols rows = 0
  · have e1 : (Um9 cols rows != 0) = false := by rw [h1]; rfl
    rw [e1, if_neg (by simp [h1]), Uak, Ukt n (UaT hn) mult hm]
    cases h2 : UuD mult with
    | false => rfl
    | true =>
      rw [if_neg (by decide)]
      by_cases h3 : mult.length = rows.length
      · have h := UrV h1 h2 h3
        simp only [Bool.not_true, Uak]
        rw [Ukr n hn cols rows mult h]
        rw [if_neg (by simp [h3])]
        have hcs := UiR (cols := cols) (l := zsR rows mult) (ld := zsD rows mult) (s := ([], 0)) (sd := ([], 0)) (by simp [zsR, zsD]) (fun i a b => by
            have hr' := h.hr _ (List.of_mem_zip (List.getElem_mem (by simpa [zsR] using a))).1
            simp only [zsR, zsD, List.getElem_map]
            exact ⟨(Uf4 hr').1, (Uf1 h.hc hr').2.2.1, trivial⟩) Uk3 ⟨rfl, fun i => by simp [cf]⟩
        rcases hcs with ⟨q1, q2⟩ | ⟨x, d, q1, q2, q3, q4⟩
        · rw [q1, q2]; rfl
        · rw [q1, q2]
          have g0 := fun k => UAh (R := R) n hn cols rows mult h k
          have hdl : d.1.length ≤ 2048 := by
            have : ∀ (l : List (DnR × Rat)) (s : DnR), (∀ y ∈ l, y.1.1.length ≤ 2048) → (s.1.length ≤ 2048 ∧ UaU s) → ∀ x, Ug4 l s = some x → x.1.length ≤ 2048 ∧ UaU x := fun l s hl hs x hx => by
              rw [Udp] at hx
              exact Ufs (step := fun s (x : DnR × Rat) => Uba x.2 x.1 s) (P := fun y => y.1.1.length ≤ 2048) (Inv := fun s => s.1.length ≤ 2048 ∧ UaU s) (fun s s' a ha hs he => Uih ha hs he) hl hs hx
            refine (this (zsD rows mult) ([], 0) (fun y hy => ?_) ⟨by simp, ⟨by simp, UeA⟩⟩ d q2).1
            obtain ⟨z, hz, rfl⟩ := List.mem_map.1 hy
            exact (Uf1 h.hc (h.hr _ (List.of_mem_zip hz).1)).2.1
          have hB := UF5 (rows := rows) (mult := mult) q3 q4
          have H := Uao (R := R) (l := d.1) (ok := fun q => decide (q ≤ 0)) (kbad := k0 16) (kend := k0 0)
            (fun m i => Udy n m (qs d.1) (sg d.2.num) (II d.2.num.natAbs) false (II d.2.den) (i : Int) (fun y6 => k0 y6) (k0 0))
            (fun m => by simp only [Udy, Uhx]; simp (disch := (first | omega | (simp only [JlL]; omega))) only [↓JlO, JlM, UaG])
            (fun m i hi => by
              have g3 := fun k => Uid (R := R) n (d.1[i]) k
              have hs := UEG (q := d.1[i])
              simp only [Udy, Uhx]
              by_cases h0 : d.1[i] ≤ 0
              · have h0' := fun q => hs.1 q h0
                simp (disch := (first | omega | (simp only [JlL]; omega))) only [↓JlO, JlM, UaG, Jjo, Ud0 hi, i1, g3] <;> simp [h0]
              · have h0' := hs.2 h0
                simp (disch := (first | omega | (simp only [JlL]; omega))) only [↓JlO, JlM, UaG, Jjo, Ud0 hi, i1, g3] <;> simp [h0]) d.1.length n 0 (by omega) (by omega)
          rw [List.drop_zero] at H
          have g5 := fun k => Uid (R := R) n d.2 k
          have hs := UEF (q := d.2)
          simp only [UAV, UyS, UnE, Uak, g0]
          rw [hB]
          cases adm rows mult with
          | false => rfl
          | true =>
            simp only [Bool.not_true, Uak, g5]
            by_cases h0 : d.2 < 0
            · have h0' : ¬ _ := fun q => hs.1 q h0
              rw [decide_eq_false h0', decide_eq_true h0]
              unfold Usd Uwd
              refine Eq.trans H ?_
              cases d.1.all fun q => decide (q ≤ 0) <;> rfl
            · rw [decide_eq_true (hs.2 h0), decide_eq_false h0]; rfl
      · have e3 : ((mult.length : Int) != (rows.length : Int)) = true := by simp; omega
        rw [if_pos h3]
        simp only [Bool.not_true, Uak]
        unfold UiZ
        rw [Uaj, Uab, e3]; rfl
  · have e1 : (Um9 cols rows != 0) = true := by simp [h1]
    rw [e1, if_pos h1]; rfl
end Go.Proofs.YtmgfmlhdnadglaaGreatDoor
set_option linter.unusedVariables false
set_option maxRecDepth 100000
namespace Go.Proofs.YtmgfmlhdnadglaaGreatDoor
open Go Th Go.Proofs
noncomputable section
variable {R : Type}
def UbJ : Ann := { loops := [(4, ids [1, 2, 5], ids [4]), (9, ids [1, 2, 5, 6], ids [1, 2, 4, 5])], cuts := [(8, ids [1, 2, 5], ids [1, 2, 4, 5])], frz := [], rm := [.id] }
abbrev Uyo (n : Nat) : Env := eN
theorem UpG (n : Nat) : EnvOK Tryz.prog GI (Uyo n) := .nil
def UhE (n : Nat) (l0 : Int → Int → LP → Int → Int → O R) (x1 x2 : Int) (x3 : LP) (x4 x5 : Int) (k0 : Int → Int → LP → Bool → Int → O R) (k1 : Int → Int → LP → Int → O R) : O R :=
  bif (inR x4 ((x3).length)) then (Jh8 ((x3).getD ((x4 : Int).toNat) (.v (.bool false))) fun a6 => JdW a6 fun h7 t8 => Jky h7 fun e9 => JdW t8 fun h10 t11 => Jj9 h10 fun e12 => JdW t11 fun h13 t14 => Jj8 h13 fun e15 => JdW t14 fun h16 t17 => Jjf .i64 h16 fun e18 => Ji8 t17 (bif (decide (x5 < ((e9).length : Int))) then (bif (inR x4 ((x3).length)) then (Jh8 ((x3).getD ((x4 : Int).toNat) (.v (.bool false))) fun a19 => JdW a19 fun h20 t21 => Jky h20 fun e22 => JdW t21 fun h23 t24 => Jj9 h23 fun e25 => JdW t24 fun h26 t27 => Jj8 h26 fun e28 => JdW t27 fun h29 t30 => Jjf .i64 h29 fun e31 => Ji8 t30 (bif (inR x5 ((e22).length)) then (Jh8 ((e22).getD ((x5 : Int).toNat) (.v (.bool false))) fun a32 => JdW a32 fun h33 t34 => Jjf .i64 h33 fun e35 => JdW t34 fun h36 t37 => Jj9 h36 fun e38 => Ji8 t37 (bif (decide (((e38).size : Int) > x1)) then (k0 x1 x2 x3 false x4) else (l0 x1 x2 x3 x4 (IntKind.i64.wrap (x5 + 1))))) else none)) else none) else (k1 x1 x2 x3 x4))) else none
def UdC (n : Nat) : Nat → Int → Int → LP → Int → Int → (Int → Int → LP → Bool → Int → O R) → (Int → Int → LP → Int → O R) → O R
  | 0, _, _, _, _, _, _, _ => none
  | m + 1, x1, x2, x3, x4, x5, k0, k1 => UhE n (fun x1 x2 x3 x4 x5 => UdC n m x1 x2 x3 x4 x5 k0 k1) x1 x2 x3 x4 x5 k0 k1
def Uwi (n : Nat) (x1 x2 : Int) (x3 : LP) (x4 x5 : Int) (k0 : Int → Int → LP → Bool → Int → O R) (k1 : Int → Int → LP → Int → O R) : O R := UdC n n x1 x2 x3 x4 x5 k0 k1
def UmW (n : Nat) (x1 x2 : Int) (x3 : LP) (x4 : Int) (k0 : Int → Int → LP → Bool → Int → O R) (k1 : Int → Int → LP → Int → O R) : O R :=
  Uwi n x1 x2 x3 x4 0 (fun y5 y6 y7 y8 y9 => k0 y5 y6 y7 y8 y9) (fun y10 y11 y12 y13 => k1 y10 y11 y12 y13)
def UhD (n : Nat) (l0 : Int → Int → LP → Int → O R) (x1 x2 : Int) (x3 : LP) (x4 : Int) (k0 : Bool → O R) (k1 : O R) : O R :=
  bif (decide (x4 < ((x3).length : Int))) then (bif (inR x4 ((x3).length)) then (Jh8 ((x3).getD ((x4 : Int).toNat) (.v (.bool false))) fun a5 => JdW a5 fun h6 t7 => Jky h6 fun e8 => JdW t7 fun h9 t10 => Jj9 h9 fun e11 => JdW t10 fun h12 t13 => Jj8 h12 fun e14 => JdW t13 fun h15 t16 => Jjf .i64 h15 fun e17 => Ji8 t16 (bif (decide (((e8).length : Int) > 12)) then (k0 false) else (bif (inR x4 ((x3).length)) then (Jh8 ((x3).getD ((x4 : Int).toNat) (.v (.bool false))) fun a18 => JdW a18 fun h19 t20 => Jky h19 fun e21 => JdW t20 fun h22 t23 => Jj9 h22 fun e24 => JdW t23 fun h25 t26 => Jj8 h25 fun e27 => JdW t26 fun h28 t29 => Jjf .i64 h28 fun e30 => Ji8 t29 (bif (bif false then true else (decide (((e24).size : Int) > x1))) then (k0 false) else (UmW n x1 x2 x3 x4 (fun y31 y32 y33 y34 y35 => k0 y34) (fun y36 y37 y38 y39 => l0 y36 y37 y38 (IntKind.i64.wrap (y39 + 1)))))) else none))) else none) else (k1)
def UcC (n : Nat) : Nat → Int → Int → LP → Int → (Bool → O R) → (O R) → O R
  | 0, _, _, _, _, _, _ => none
  | m + 1, x1, x2, x3, x4, k0, k1 => UhD n (fun x1 x2 x3 x4 => UcC n m x1 x2 x3 x4 k0 k1) x1 x2 x3 x4 k0 k1
def Uwh (n : Nat) (x1 x2 : Int) (x3 : LP) (x4 : Int) (k0 : Bool → O R) (k1 : O R) : O R := UcC n n x1 x2 x3 x4 k0 k1
def p27 (n : Nat) (x1 : Int) (x2 : LP) (x3 : Int) (k0 : Bool → O R) : O R :=
  bif (decide (((x2).length : Int) > 16)) then (k0 false) else (Uwh n x3 x1 x2 0 (fun y4 => k0 y4) (k0 true))
abbrev E27 (n : Nat) : Code → Fr → Kc R → O R := evC Tryz.prog (Uyo n) UbJ n (61, [])
noncomputable def UuN : Code := Jk (Jls Tryz.f27) [1, 1, 0, 1, 0, 0, 1, 0, 0, 1]
abbrev UsV : Sl (List SV) := (cI (.c (sBx 24 (cI (cH .n))) (cI .n)))
abbrev UvL (n : Nat) (K : Kc R) : UsV.T (O R) := fun x1 x2 x3 x4 => UmW n x1 x2 x3 x4 (fun y1 y2 y3 y4 y5 => xC UbJ 8 K .ret [vI y1, .bx 24 [vI y2, vH y3], vB y4, vI y5]) (fun y1 y2 y3 y4 => xC UbJ 8 K .normal [vI y1, .bx 24 [vI y2, vH y3], dD, vI y4])
noncomputable def UuO : Code := Jk (Jls Tryz.f27) [1, 1, 0, 1, 0, 0]
abbrev Ugl : Sl (List SV) := (cI (.c (sBx 24 (cI (cH .n))) (cI .n)))
abbrev Uq2 (n m : Nat) (K : Kc R) : Ugl.T (O R) := fun x1 x2 x3 x4 => UcC n m x1 x2 x3 x4 (fun y1 => xL UbJ 4 K .ret [vB y1]) (xL UbJ 4 K (.exit 0) [dD])
abbrev UA0 (n : Nat) (K : Kc R) (l0 : Ugl.T (O R)) : Ugl.T (O R) := fun x1 x2 x3 x4 => UhD n l0 x1 x2 x3 x4 (fun y1 => xL UbJ 4 K .ret [vB y1]) (xL UbJ 4 K (.exit 0) [dD])
noncomputable def UuP : Code := Jk (Jls Tryz.f27) [1, 1, 0, 1, 0, 0, 1, 0, 0, 1, 1, 0, 0]
abbrev Ugm : Sl (List SV) := (cI (.c (sBx 24 (cI (cH .n))) (cI (cI .n))))
abbrev Uq3 (n m : Nat) (K : Kc R) : Ugm.T (O R) := fun x1 x2 x3 x4 x5 => UdC n m x1 x2 x3 x4 x5 (fun y1 y2 y3 y4 y5 => xL UbJ 9 K .ret [vI y1, .bx 24 [vI y2, vH y3], vB y4, vI y5]) (fun y1 y2 y3 y4 => xL UbJ 9 K (.exit 2) [vI y1, .bx 24 [vI y2, vH y3], dD, vI y4])
abbrev UA1 (n : Nat) (K : Kc R) (l0 : Ugm.T (O R)) : Ugm.T (O R) := fun x1 x2 x3 x4 x5 => UhE n l0 x1 x2 x3 x4 x5 (fun y1 y2 y3 y4 y5 => xL UbJ 9 K .ret [vI y1, .bx 24 [vI y2, vH y3], vB y4, vI y5]) (fun y1 y2 y3 y4 => xL UbJ 9 K (.exit 2) [vI y1, .bx 24 [vI y2, vH y3], dD, vI y4])
abbrev UFb (n : Nat) : Orc R := oL UbJ (E27 n) n 9 UuP Ugm (Uq3 n n) (oL UbJ (E27 n) n 4 UuO Ugl (Uq2 n n) oN)
abbrev UEZ (n : Nat) : Orc R := oC UbJ (E27 n) 8 UuN UsV (UvL n) oN
abbrev K27 (R : Type) (n : Nat) := JcK (R := R) Tryz.prog (Uyo n) UbJ n (61, []) (UFb n) (UEZ n)
theorem UDV (n : Nat) : K27 R n (false, 9, UuP) := JkM (lo := UFb n) (cu := UEZ n) (pO pN (by kernel_rfl)) Ugm (Uq3 n n) (JiK (F := Uq3 n) Ugm (UA1 n) (fun K _ _ _ _ _ => rfl) (fun _ _ => rfl) (fun L K _ _ _ _ _ => by show _ = _; kernel_rfl) n) fun _ _ => rfl
theorem UDT (n : Nat) : K27 R n (true, 8, UuN) := Jk3 (lo := UFb n) (cu := UEZ n) (pO (pC (UDV n) pN) (by kernel_rfl)) UsV (UvL n) (fun K _ _ _ _ => by show _ = _; kernel_rfl) fun _ _ => rfl
theorem UDU (n : Nat) : K27 R n (false, 4, UuO) := JkM (lo := UFb n) (cu := UEZ n) (pO (pC (UDT n) pN) (by kernel_rfl)) Ugl (Uq2 n n) (JiK (F := Uq2 n) Ugl (UA0 n) (fun K _ _ _ _ => rfl) (fun _ _ => rfl) (fun L K _ _ _ _ => by show _ = _; kernel_rfl) n) fun _ _ => rfl
theorem UNO (n : Nat) : Jfb (K27 R n) (JaJ UbJ (Jls Tryz.f27)) := pO (pC (UDU n) pN) (by kernel_rfl)
abbrev t27 : Sl (List SV) := (.c (sP (JlP (.c (JlC .i64) (.c sSh .n)))) (cI .n))
abbrev f27 (n : Nat) (K : List SV → O R) : t27.T (O R) := fun x1 x2 x3 => p27 n x1 x2 x3 (fun y1 => K [vB y1])
abbrev UJV (n : Nat) : FS := fT [false, false] t27 (f27 n)
theorem UM3 (n : Nat) : FSound Tryz.prog GI 27 (UJV n) := gd UbJ n (UpG n) Tryz.func27 (.cons (UpG n) t27 (f27 n) (fun K _ _ _ => (Jkx (c := Jls Tryz.f27) (by kernel_rfl) (UNO n) K).trans (by kernel_rfl)) .nil) (by kernel_rfl)
def UFE : Ann := { loops := [], cuts := [], frz := [], rm := [.id] }
abbrev UJB (n : Nat) : Env := eC 27 (UJV n) eN
theorem UvF (n : Nat) : EnvOK Tryz.prog GI (UJB n) := .cons (.nil) (UM3 n)
def p9 (n : Nat) (x1 : Int) (x2 : LP) (k0 : Bool → O R) : O R :=
  p27 n x1 x2 14 (fun y3 => k0 y3)
abbrev lo9 (n : Nat) : Orc R := oN
abbrev cu9 (n : Nat) : Orc R := oN
abbrev K9 (R : Type) (n : Nat) := JcK (R := R) Tryz.prog (UJB n) UFE n (5, []) (lo9 n) (cu9 n)
theorem pa9 (n : Nat) : Jfb (K9 R n) (JaJ UFE (Jls Tryz.f9)) := pO pN (by kernel_rfl)
abbrev t9 : Sl (List SV) := (.c (sP (JlP (.c (JlC .i64) (.c sSh .n)))) .n)
abbrev f9 (n : Nat) (K : List SV → O R) : t9.T (O R) := fun x1 x2 => p9 n x1 x2 (fun y1 => K [vB y1])
abbrev fs9 (n : Nat) : FS := fT [false] t9 (f9 n)
theorem ok9 (n : Nat) : FSound Tryz.prog GI 9 (fs9 n) := gd UFE n (UvF n) Tryz.func9 (.cons (UvF n) t9 (f9 n) (fun K _ _ => (Jkx (c := Jls Tryz.f9) (by kernel_rfl) (pa9 n) K).trans (by kernel_rfl)) .nil) (by kernel_rfl)
def UgQ : Ann := { loops := [(2, ids [0, 3], ids [0, 2])], cuts := [], frz := [], rm := [.id] }
abbrev Uyi (n : Nat) : Env := eN
theorem Ups (n : Nat) : EnvOK Tryz.prog GI (Uyi n) := .nil
def Uhn (n : Nat) (l0 : LP → Int → O R) (x1 : LP) (x2 : Int) (k0 : LP → Bool → O R) (k1 : LP → O R) : O R :=
  bif (decide (x2 < ((x1).length : Int))) then (bif (bif true then (decide (x2 < 20)) else false) then (bif (inR x2 ((x1).length)) then (Jj9 ((x1).getD ((x2 : Int).toNat) (.v (.bool false))) fun e3 => bif (decide (((e3).size : Int) > 14)) then (k0 x1 false) else (l0 x1 (IntKind.i64.wrap (x2 + 1)))) else none) else (k1 x1)) else (k1 x1)
def Udw (n : Nat) : Nat → LP → Int → (LP → Bool → O R) → (LP → O R) → O R
  | 0, _, _, _, _ => none
  | m + 1, x1, x2, k0, k1 => Uhn n (fun x1 x2 => Udw n m x1 x2 k0 k1) x1 x2 k0 k1
def Uwa (n : Nat) (x1 : LP) (x2 : Int) (k0 : LP → Bool → O R) (k1 : LP → O R) : O R := Udw n n x1 x2 k0 k1
def p10 (n : Nat) (x1 : LP) (k0 : Bool → O R) : O R :=
  Uwa n x1 0 (fun y2 y3 => k0 y3) (fun y4 => k0 (decide (((y4).length : Int) ≤ 16)))
abbrev E10 (n : Nat) : Code → Fr → Kc R → O R := evC Tryz.prog (Uyi n) UgQ n (23, [])
noncomputable def UuE : Code := Jk (Jls Tryz.f10) [1, 0, 1, 0, 0]
abbrev Ugh : Sl (List SV) := (cH (cI .n))
abbrev UqG (n m : Nat) (K : Kc R) : Ugh.T (O R) := fun x1 x2 => Udw n m x1 x2 (fun y1 y2 => xL UgQ 2 K .ret [vH y1, vB y2]) (fun y1 => xL UgQ 2 K (.exit 0) [vH y1, dD])
abbrev UAW (n : Nat) (K : Kc R) (l0 : Ugh.T (O R)) : Ugh.T (O R) := fun x1 x2 => Uhn n l0 x1 x2 (fun y1 y2 => xL UgQ 2 K .ret [vH y1, vB y2]) (fun y1 => xL UgQ 2 K (.exit 0) [vH y1, dD])
abbrev UKs (n : Nat) : Orc R := oL UgQ (E10 n) n 2 UuE Ugh (UqG n n) oN
abbrev UJh (n : Nat) : Orc R := oN
abbrev K10 (R : Type) (n : Nat) := JcK (R := R) Tryz.prog (Uyi n) UgQ n (23, []) (UKs n) (UJh n)
theorem UDI (n : Nat) : K10 R n (false, 2, UuE) := JkM (lo := UKs n) (cu := UJh n) (pO pN (by kernel_rfl)) Ugh (UqG n n) (JiK (F := UqG n) Ugh (UAW n) (fun K _ _ => rfl) (fun _ _ => rfl) (fun L K _ _ => by show _ = _; kernel_rfl) n) fun _ _ => rfl
theorem UNA (n : Nat) : Jfb (K10 R n) (JaJ UgQ (Jls Tryz.f10)) := pO (pC (UDI n) pN) (by kernel_rfl)
abbrev t10 : Sl (List SV) := (cH .n)
abbrev f10 (n : Nat) (K : List SV → O R) : t10.T (O R) := fun x1 => p10 n x1 (fun y1 => K [vB y1])
abbrev UJM (n : Nat) : FS := fT [false] t10 (f10 n)
theorem UMU (n : Nat) : FSound Tryz.prog GI 10 (UJM n) := gd UgQ n (Ups n) Tryz.func10 (.cons (Ups n) t10 (f10 n) (fun K _ => (Jkx (c := Jls Tryz.f10) (by kernel_rfl) (UNA n) K).trans (by kernel_rfl)) .nil) (by kernel_rfl)
end
end Go.Proofs.YtmgfmlhdnadglaaGreatDoor
set_option linter.unusedVariables false
set_option linter.unusedSimpArgs false
namespace Go.Proofs.YtmgfmlhdnadglaaGreatDoor
open Go Th Go.Proofs
variable {R : Type}
def UCo (r : RowT) : Bool := decide (r.tm.length ≤ 12) && (decide (r.c.length ≤ 14) && r.tm.all fun t => decide (t.2.length ≤ 14))
def UCn (rows : List RowT) : Bool := decide (rows.length ≤ 16) && rows.all UCo
def Uje (l : List (List UInt8)) : Bool := ((l.take 20).all fun s => decide (s.length ≤ 14)) && decide (l.length ≤ 16)
theorem UvU {rows : List RowT} (h : UCn rows = true) : smA rows := by
  unfold UCn at h
  simp only [Bool.and_eq_true, decide_eq_true_iff, List.all_eq_true] at h
  refine ⟨by omega, fun r hr => ?_⟩
  have := h.2 r hr
  unfold UCo at this
  simp only [Bool.and_eq_true, decide_eq_true_iff, List.all_eq_true] at this
  refine ⟨⟨by omega, fun t ht => ?_⟩, by omega⟩
  have := this.2.2 t ht
  omega
theorem Um8 {l : List (List UInt8)} (h : Uje l = true) : smS l := by
  unfold Uje at h
  simp only [Bool.and_eq_true, decide_eq_true_iff, List.all_eq_true] at h
  rw [List.take_of_length_le (by omega)] at h
  refine ⟨by omega, fun s hs => ?_⟩
  have := h.1 s hs
  omega
theorem UCq (n : Nat) (hn : 200000 ≤ n) (cols : Int) (rows : List RowT) (i : Nat) (hi : i < rows.length) (hl : (rows[i]).tm.length ≤ 12) (k0 : Int → Int → List PV → Bool → Int → Option R) (k1 : Int → Int → List PV → Int → Option R) :
    UmW n 14 cols (rws rows) (i : Int) k0 k1 = if ((rows[i]).tm.all fun t => decide (t.2.length ≤ 14)) = true then k1 14 cols (rws rows) (i : Int) else k0 14 cols (rws rows) false (i : Int) := by
  unfold UmW Uwi
  have h := Uao (R := R) (l := (rows[i]).tm) (ok := fun t => decide (t.2.length ≤ 14)) (kbad := k0 14 cols (rws rows) false (i : Int)) (kend := k1 14 cols (rws rows) (i : Int))
    (fun m j => UdC n m 14 cols (rws rows) (i : Int) (j : Int) (fun y5 y6 y7 y8 y9 => k0 y5 y6 y7 y8 y9) (fun y10 y11 y12 y13 => k1 y10 y11 y12 y13))
    (fun m => by
      simp only [UdC, UhE]
      simp (disch := (first | omega | (simp only [JlL]; omega))) only [↓JlO, JlM, Uab, Jjo, UaJ hi, Ua])
    (fun m j hj => by
      simp only [UdC, UhE]
      by_cases h1 : ((rows[i]).tm[j]).2.length ≤ 14
      · simp (disch := (first | omega | (simp only [JlL]; omega))) only [↓JlO, JlM, Uab, Jjo, UaJ hi, Ua, Uav hj, i1]
      · simp (disch := (first | omega | (simp only [JlL]; omega))) only [↓JlO, JlM, Uab, Jjo, UaJ hi, Ua, Uav hj, i1]
        simp [h1]) (rows[i]).tm.length n 0 (by omega) (by omega)
  rw [List.drop_zero] at h
  exact h
theorem UCp (n : Nat) (hn : 200000 ≤ n) (cols : Int) (rows : List RowT) (k0 : Bool → Option R) : p9 n cols (rws rows) k0 = k0 (UCn rows) := by
  unfold p9 p27 UCn
  by_cases h0 : rows.length ≤ 16
  · have h := Uao (R := R) (l := rows) (ok := UCo) (kbad := k0 false) (kend := k0 true) (fun m i => UcC n m 14 cols (rws rows) (i : Int) (fun y4 => k0 y4) (k0 true))
      (fun m => by simp only [UcC, UhD]; simp (disch := (first | omega | (simp only [JlL]; omega))) only [↓JlO, JlM, Uab])
      (fun m i hi => by
        simp only [UcC, UhD, UCo]
        by_cases h1 : (rows[i]).tm.length ≤ 12
        · by_cases h2 : (rows[i]).c.length ≤ 14
          · simp (disch := (first | omega | (simp only [JlL]; omega))) only [↓JlO, JlM, Uab, Jjo, UaJ hi, Ua, i1, UCq n hn cols rows i hi h1]
          · simp (disch := (first | omega | (simp only [JlL]; omega))) only [↓JlO, JlM, Uab, Jjo, UaJ hi, Ua, i1]
            simp [h2]
        · simp (disch := (first | omega | (simp only [JlL]; omega))) only [↓JlO, JlM, Uab, Jjo, UaJ hi, Ua, i1]
          simp [h1]) rows.length n 0 (by omega) (by omega)
    rw [List.drop_zero] at h
    have h' : UcC n n 14 cols (rws rows) 0 (fun y4 => k0 y4) (k0 true) = _ := h
    unfold Uwh
    simp (disch := (first | omega | (simp only [JlL]; omega))) only [↓JlO, JlM, Uab, h']
    cases rows.all UCo <;> rfl
  · simp (disch := (first | omega | (simp only [JlL]; omega))) only [↓JlO, JlM, Uab]
theorem UsN (n : Nat) (hn : 200000 ≤ n) (l : List (List UInt8)) (k0 : Bool → Option R) : p10 n (sl l) k0 = k0 (Uje l) := by
  unfold p10 Uwa
  have hg : ∀ (i : Nat) (h : i < (l.take 20).length), (l.take 20)[i] = l[i]'(by rw [List.length_take] at h; omega) := fun i h => List.getElem_take
  have hlen : (l.take 20).length = min 20 l.length := List.length_take
  have h := Uao (R := R) (l := l.take 20) (ok := fun s => decide (s.length ≤ 14)) (kbad := k0 false) (kend := k0 (decide (l.length ≤ 16)))
    (fun m i => Udw n m (sl l) (i : Int) (fun y2 y3 => k0 y3) (fun y4 => k0 (decide (((y4).length : Int) ≤ 16))))
    (fun m => by
      have e : decide (((l.length : Nat) : Int) ≤ 16) = decide (l.length ≤ 16) := by rw [Bool.eq_iff_iff]; simp; omega
      simp only [Udw, Uhn]
      rw [hlen]
      by_cases h1 : l.length < 20
      · rw [show min 20 l.length = l.length from by omega]
        simp (disch := (first | omega | (simp only [JlL]; omega))) only [↓JlO, JlM, Uaj, e]
      · by_cases h2 : l.length = 20
        · rw [show min 20 l.length = 20 from by omega]
          simp (disch := (first | omega | (simp only [JlL]; omega))) only [↓JlO, JlM, Uaj, e]
        · rw [show min 20 l.length = 20 from by omega]
          simp (disch := (first | omega | (simp only [JlL]; omega))) only [↓JlO, JlM, Uaj, e])
    (fun m i hi => by
      have hi' : i < l.length := by omega
      have hi2 : i < 20 := by omega
      rw [hg i hi]
      simp only [Udw, Uhn]
      by_cases h1 : (l[i]).length ≤ 14
      · simp (disch := (first | omega | (simp only [JlL]; omega))) only [↓JlO, JlM, Uaj, Jjo, UbU hi', i1]
      · simp (disch := (first | omega | (simp only [JlL]; omega))) only [↓JlO, JlM, Uaj, Jjo, UbU hi', i1]
        simp [h1]) (l.take 20).length n 0 (by omega) (by omega)
  rw [List.drop_zero] at h
  refine Eq.trans h ?_
  unfold Uje
  cases ((l.take 20).all fun s => decide (s.length ≤ 14)) <;> rfl
end Go.Proofs.YtmgfmlhdnadglaaGreatDoor
set_option linter.unusedVariables false
set_option maxRecDepth 100000
namespace Go.Proofs.YtmgfmlhdnadglaaGreatDoor
open Go Th Go.Proofs
noncomputable section
variable {R : Type}
def UwS : Ann := { loops := [], cuts := [], frz := [], rm := [.id] }
abbrev UBI (n : Nat) : Env := eC 32 (UE4 n) eN
theorem Upw (n : Nat) : EnvOK Tryz.prog GI (UBI n) := .cons (.nil) (UHk n)
def p15 (n : Nat) (x1 : Int) (x2 x3 x4 x5 : LP) (k0 : Int → O R) : O R :=
  UDy n x1 x2 x3 ([.sh x4] : LP) x5 true x1 x2 x5 x3 x4 (fun y6 => k0 y6)
abbrev UMh (n : Nat) : Orc R := oN
abbrev ULB (n : Nat) : Orc R := oN
abbrev K15 (R : Type) (n : Nat) := JcK (R := R) Tryz.prog (UBI n) UwS n (17, []) (UMh n) (ULB n)
theorem UNE (n : Nat) : Jfb (K15 R n) (JaJ UwS (Jls Tryz.f15)) := pO pN (by kernel_rfl)
abbrev t15 : Sl (List SV) := (.c (sP (JlP (.c (JlC .i64) (.c sSh .n)))) (cH (cH (cH .n))))
abbrev f15 (n : Nat) (K : List SV → O R) : t15.T (O R) := fun x1 x2 x3 x4 x5 => p15 n x1 x2 x3 x4 x5 (fun y1 => K [vI y1])
abbrev UJP (n : Nat) : FS := fT [false, false, false, false] t15 (f15 n)
theorem UMX (n : Nat) : FSound Tryz.prog GI 15 (UJP n) := gd UwS n (Upw n) Tryz.func15 (.cons (Upw n) t15 (f15 n) (fun K _ _ _ _ _ => (Jkx (c := Jls Tryz.f15) (by kernel_rfl) (UNE n) K).trans (by kernel_rfl)) .nil) (by kernel_rfl)
def UwU : Ann := { loops := [], cuts := [], frz := [], rm := [.id] }
abbrev UBK (n : Nat) : Env := eC 32 (UE4 n) eN
theorem UpA (n : Nat) : EnvOK Tryz.prog GI (UBK n) := .cons (.nil) (UHk n)
def p20 (n : Nat) (x1 : Int) (x2 x3 x4 x5 : LP) (k0 : Int → O R) : O R :=
  UDz n x1 x2 x3 ([.sh x4, .sh x5] : LP) [] false x5 x1 x2 x3 (fun y6 => k0 y6)
abbrev UMj (n : Nat) : Orc R := oN
abbrev ULD (n : Nat) : Orc R := oN
abbrev K20 (R : Type) (n : Nat) := JcK (R := R) Tryz.prog (UBK n) UwU n (17, []) (UMj n) (ULD n)
theorem UNI (n : Nat) : Jfb (K20 R n) (JaJ UwU (Jls Tryz.f20)) := pO pN (by kernel_rfl)
abbrev t20 : Sl (List SV) := (.c (sP (JlP (.c (JlC .i64) (.c sSh .n)))) (cH (cH (cH .n))))
abbrev f20 (n : Nat) (K : List SV → O R) : t20.T (O R) := fun x1 x2 x3 x4 x5 => p20 n x1 x2 x3 x4 x5 (fun y1 => K [vI y1])
abbrev UJR (n : Nat) : FS := fT [false, false, false, false] t20 (f20 n)
theorem UMZ (n : Nat) : FSound Tryz.prog GI 20 (UJR n) := gd UwU n (UpA n) Tryz.func20 (.cons (UpA n) t20 (f20 n) (fun K _ _ _ _ _ => (Jkx (c := Jls Tryz.f20) (by kernel_rfl) (UNI n) K).trans (by kernel_rfl)) .nil) (by kernel_rfl)
def UwX : Ann := { loops := [], cuts := [], frz := [], rm := [.id] }
abbrev UBN (n : Nat) : Env := eN
theorem UpH (n : Nat) : EnvOK Tryz.prog GI (UBN n) := .nil
def p28 (n : Nat) (x1 : Int) (x2 : ByteArray) (k0 : Int → ByteArray → O R) : O R :=
  k0 x1 x2
abbrev UMm (n : Nat) : Orc R := oN
abbrev ULG (n : Nat) : Orc R := oN
abbrev K28 (R : Type) (n : Nat) := JcK (R := R) Tryz.prog (UBN n) UwX n (8, []) (UMm n) (ULG n)
theorem UNP (n : Nat) : Jfb (K28 R n) (JaJ UwX (Jls Tryz.f28)) := pO pN (by kernel_rfl)
abbrev t28 : Sl (List SV) := (cI (cS .n))
abbrev f28 (n : Nat) (K : List SV → O R) : t28.T (O R) := fun x1 x2 => p28 n x1 x2 (fun y1 y2 => K [.p (.agg [.v (.int .i64 y1), .v (.string y2)])])
abbrev UJW (n : Nat) : FS := fT [false, false] t28 (f28 n)
theorem UM4 (n : Nat) : FSound Tryz.prog GI 28 (UJW n) := gd UwX n (UpH n) Tryz.func28 (.cons (UpH n) t28 (f28 n) (fun K _ _ => (Jkx (c := Jls Tryz.f28) (by kernel_rfl) (UNP n) K).trans (by kernel_rfl)) .nil) (by kernel_rfl)
def UwQ : Ann := { loops := [], cuts := [], frz := [], rm := [.id] }
abbrev UBG (n : Nat) : Env := eC 28 (UJW n) (eC 23 (UJS n) (eC 20 (UJR n) (eC 15 (UJP n) (eC 12 (UF6 n) eN))))
theorem Upt (n : Nat) : EnvOK Tryz.prog GI (UBG n) := .cons (.cons (.cons (.cons (.cons (.nil) (UKL n)) (UMX n)) (UMZ n)) (UM0 n)) (UM4 n)
def p11 (n : Nat)  (k0 : Bool → O R) : O R :=
  p28 n 0 ⟨#[49]⟩ (fun y1 y2 => p28 n 0 ⟨#[45, 49]⟩ (fun y3 y4 => p23 n 1 ([.agg [.sh ([.agg [.v (.int .i64 y1), .v (.string y2)]] : LP), .v (.string ⟨#[45, 51]⟩), .v (.bool false), .v (.int .i64 0)], .agg [.sh ([.agg [.v (.int .i64 y3), .v (.string y4)]] : LP), .v (.string ⟨#[50]⟩), .v (.bool false), .v (.int .i64 0)]] : LP) ([.v (.string ⟨#[49]⟩), .v (.string ⟨#[49]⟩)] : LP) (fun y5 y6 y7 => p28 n 0 ⟨#[49]⟩ (fun y8 y9 => p28 n 1 ⟨#[49]⟩ (fun y10 y11 => bif (y7 == 0) then (bif true then (bif true then (bif true then (bif (bif true then (((y5).length : Int) == 0) else false) then (bif true then (bif true then (bif (bif true then eqS y6 (⟨#[45, 49]⟩ : ByteArray) else false) then (bif true then (bif true then (p12 n 1 ([.agg [.sh ([.agg [.v (.int .i64 y1), .v (.string y2)]] : LP), .v (.string ⟨#[45, 51]⟩), .v (.bool false), .v (.int .i64 0)], .agg [.sh ([.agg [.v (.int .i64 y3), .v (.string y4)]] : LP), .v (.string ⟨#[50]⟩), .v (.bool false), .v (.int .i64 0)]] : LP) ([.v (.string ⟨#[49]⟩), .v (.string ⟨#[49]⟩)] : LP) (fun y12 => bif true then (bif (bif true then (y12 == 0) else false) then (bif true then (bif true then (p12 n 1 ([.agg [.sh ([.agg [.v (.int .i64 y1), .v (.string y2)]] : LP), .v (.string ⟨#[45, 51]⟩), .v (.bool false), .v (.int .i64 0)], .agg [.sh ([.agg [.v (.int .i64 y3), .v (.string y4)]] : LP), .v (.string ⟨#[50]⟩), .v (.bool false), .v (.int .i64 0)]] : LP) ([.v (.string ⟨#[49]⟩), .v (.string ⟨#[48]⟩)] : LP) (fun y13 => bif true then (bif (bif true then (y13 == 16) else false) then (bif true then (p28 n 0 ⟨#[50]⟩ (fun y14 y15 => bif true then (p28 n 1 ⟨#[51]⟩ (fun y16 y17 => bif true then (bif true then (bif true then (bif true then (p15 n 2 ([.agg [.sh ([.agg [.v (.int .i64 y8), .v (.string y9)], .agg [.v (.int .i64 y10), .v (.string y11)]] : LP), .v (.string ⟨#[45, 50]⟩), .v (.bool false), .v (.int .i64 0)]] : LP) ([.agg [.v (.int .i64 y14), .v (.string y15)], .agg [.v (.int .i64 y16), .v (.string y17)]] : LP) ([.v (.string ⟨#[50]⟩), .v (.string ⟨#[48]⟩)] : LP) ([.v (.string ⟨#[50]⟩)] : LP) (fun y18 => bif true then (bif (bif true then (y18 == 0) else false) then (bif true then (p28 n 1 ⟨#[45, 49]⟩ (fun y19 y20 => bif true then (bif true then (bif true then (bif true then (p20 n 2 ([.agg [.sh ([.agg [.v (.int .i64 y8), .v (.string y9)], .agg [.v (.int .i64 y10), .v (.string y11)]] : LP), .v (.string ⟨#[45, 50]⟩), .v (.bool false), .v (.int .i64 0)]] : LP) ([.agg [.v (.int .i64 y19), .v (.string y20)]] : LP) ([.v (.string ⟨#[50]⟩), .v (.string ⟨#[48]⟩)] : LP) ([.v (.string ⟨#[48]⟩), .v (.string ⟨#[49]⟩)] : LP) (fun y21 => bif true then (k0 (bif true then (y21 == 0) else false)) else none)) else none) else none) else none) else none)) else none) else (bif false then none else (bif false then none else (bif false then none else (bif false then none else (bif false then none else (bif false then none else (bif false then none else (k0 false))))))))) else none)) else none) else none) else none) else none)) else none)) else none) else (bif false then none else (bif false then none else (bif false then none else (bif false then none else (bif false then none else (bif false then none else (bif false then none else (bif false then none else (bif false then none else (bif false then none else (bif false then none else (bif false then none else (bif false then none else (bif false then none else (bif false then none else (bif false then none else (k0 false)))))))))))))))))) else none)) else none) else none) else (bif false then none else (bif false then none else (bif false then none else (bif false then none else (bif false then none else (bif false then none else (bif false then none else (bif false then none else (bif false then none else (bif false then none else (bif false then none else (bif false then none else (bif false then none else (bif false then none else (bif false then none else (bif false then none else (bif false then none else (bif false then none else (bif false then none else (bif false then none else (bif false then none else (k0 false))))))))))))))))))))))) else none)) else none) else none) else (bif false then none else (bif false then none else (bif false then none else (bif false then none else (bif false then none else (bif false then none else (bif false then none else (bif false then none else (bif false then none else (bif false then none else (bif false then none else (bif false then none else (bif false then none else (bif false then none else (bif false then none else (bif false then none else (bif false then none else (bif false then none else (bif false then none else (bif false then none else (bif false then none else (bif false then none else (bif false then none else (bif false then none else (bif false then none else (bif false then none else (k0 false)))))))))))))))))))))))))))) else none) else none) else (bif false then none else (bif false then none else (bif false then none else (bif false then none else (bif false then none else (bif false then none else (bif false then none else (bif false then none else (bif false then none else (bif false then none else (bif false then none else (bif false then none else (bif false then none else (bif false then none else (bif false then none else (bif false then none else (bif false then none else (bif false then none else (bif false then none else (bif false then none else (bif false then none else (bif false then none else (bif false then none else (bif false then none else (bif false then none else (bif false then none else (bif false then none else (bif false then none else (bif false then none else (bif false then none else (k0 false)))))))))))))))))))))))))))))))) else none) else none) else none) else (bif false then none else (bif false then none else (bif false then none else (bif false then none else (bif false then none else (bif false then none else (bif false then none else (bif false then none else (bif false then none else (bif false then none else (bif false then none else (bif false then none else (bif false then none else (bif false then none else (bif false then none else (bif false then none else (bif false then none else (bif false then none else (bif false then none else (bif false then none else (bif false then none else (bif false then none else (bif false then none else (bif false then none else (bif false then none else (bif false then none else (bif false then none else (bif false then none else (bif false then none else (bif false then none else (bif false then none else (bif false then none else (bif false then none else (bif false then none else (bif false then none else (k0 false)))))))))))))))))))))))))))))))))))))))))
abbrev UMf (n : Nat) : Orc R := oN
abbrev ULz (n : Nat) : Orc R := oN
abbrev K11 (R : Type) (n : Nat) := JcK (R := R) Tryz.prog (UBG n) UwQ n (69, []) (UMf n) (ULz n)
theorem UNB (n : Nat) : Jfb (K11 R n) (JaJ UwQ (Jls Tryz.f11)) := pO pN (by kernel_rfl)
abbrev t11 : Sl (List SV) := .n
abbrev f11 (n : Nat) (K : List SV → O R) : t11.T (O R) := p11 n  (fun y1 => K [vB y1])
abbrev UJN (n : Nat) : FS := fT [] t11 (f11 n)
theorem UMV (n : Nat) : FSound Tryz.prog GI 11 (UJN n) := gd UwQ n (Upt n) Tryz.func11 (.cons (Upt n) t11 (f11 n) (fun K => (Jkx (c := Jls Tryz.f11) (by kernel_rfl) (UNB n) K).trans (by kernel_rfl)) .nil) (by kernel_rfl)
end
end Go.Proofs.YtmgfmlhdnadglaaGreatDoor
namespace Go.Proofs.YtmgfmlhdnadglaaGreatDoor
open Go Th Go.Proofs
theorem UDr {R : Type} (m : Nat) (k0 : Bool → Option R) : p11 (m + 40) k0 = k0 true := by kernel_rfl
theorem Uzi {R : Type} (n : Nat) (h : 40 ≤ n) (k0 : Bool → Option R) : p11 n k0 = k0 true := by
  rw [show n = (n - 40) + 40 from by omega]; exact UDr _ k0
end Go.Proofs.YtmgfmlhdnadglaaGreatDoor
set_option linter.unusedVariables false
namespace Go.Proofs.YtmgfmlhdnadglaaGreatDoor
open Go Th Go.Proofs
abbrev Uc0 : List (String × DataW Unit) := [("math/bits.deBruijn32tab", Rows.laid_math_bits_deBruijn32tab), ("math/bits.deBruijn64tab", Rows.laid_math_bits_deBruijn64tab), ("internal/strconv.uint64pow10", Rows.laid_internal_strconv_uint64pow10), ("unicode/utf8.acceptRanges", Rows.laid_unicode_utf8_acceptRanges), ("strconv.ErrRange", Rows.laid_strconv_ErrRange), ("strconv.ErrSyntax", Rows.laid_strconv_ErrSyntax), ("unicode/utf8.first", Rows.laid_unicode_utf8_first)]
theorem Uuv {W : World} (h : laidMetH Tryz.prog Uc0 W) : Lib.TabIs Tryz.prog W "internal/strconv.uint64pow10" .u64 Lib.pow10Tab := by
  rw [MakeChecks.laidMetH_plain _ _ _ (by kernel_rfl)] at h
  obtain ⟨ps, ⟨_, _, _, _, _, _, _, _, _, _, ⟨_, _, _, _, _, _, _, _, _, _, ⟨g, t, cs, f, p, q, hg, ht, hv, hd, _, _⟩, _⟩, _⟩, _⟩ := h
  obtain rfl := Option.some.inj ((show Tryz.prog.globalNamed "internal/strconv.uint64pow10" = some 0 by kernel_rfl).symm.trans hg)
  have e : (Rows.laid_internal_strconv_uint64pow10 : DataW Unit) = Lib.tabData .u64 Lib.pow10Tab := by kernel_rfl
  rw [e] at hd
  obtain rfl := Option.some.inj ((show (Tryz.prog.globals[0]?).map (·.type) = some 199 by kernel_rfl).symm.trans ht)
  have hc := Lib.cells_of_tab Tryz.underlying199 Tryz.underlying144 (by kernel_rfl) (by kernel_rfl) hd
  unfold Lib.TabIs
  rw [hv, ← hc]
theorem Uuw {P : Program} {W : World} {name : String} {k : IntKind} {zs : List Int} {g : Nat} (hg : P.globalNamed name = some g) (h : Lib.TabIs P W name k zs) : g < W.heap.size := by
  unfold Lib.TabIs World.var? at h
  rw [hg] at h
  simp only [Option.bind_some] at h
  split at h
  · rename_i hh
    exact (Array.getElem?_eq_some_iff.1 hh).1
  · cases h
abbrev Tab (W : World) : Prop := Lib.TabIs Tryz.prog W "internal/strconv.uint64pow10" .u64 Lib.pow10Tab
def Fp (ps : List MemPlace) (b : Nat) : Prop := b = 0 ∨ ∃ x ∈ ps, x.block = b
theorem UCr {ps qs : List MemPlace} (h : ∀ x ∈ qs, x ∈ ps) : ∀ x ∈ qs, Fp ps x.block := fun x hx => .inr ⟨x, h x hx, rfl⟩
theorem UtH {g : Nat} {fs : FS} (hf : FSound Tryz.prog GI g fs) {cargs : Array Value} {args : List PV} {W : World} (h : Tab W) (ps : List MemPlace) (hlt : ∀ x ∈ ps, x.block < W.heap.size)
    (ha : RSs Tryz.prog (Fp ps) W (args.map SV.p) cargs.toList []) (hk : fs.run (args.map SV.p) Jg5 = some true) :
    Calls Tryz.prog g cargs W fun e w' => e = .returned (.bool true) ∧ RowKit.Below W.heap.size W w' :=
  Jjh hf W (Fp ps) (fun b hb => by
    rcases hb with rfl | ⟨x, hx, rfl⟩
    · exact Uuw (by kernel_rfl) h
    · exact hlt x hx) ⟨.inl rfl, h⟩ ha hk
theorem c3 : Tryz.prog.cellsOf 3 = 1 := by kernel_rfl
theorem c4 : Tryz.prog.cellsOf 4 = 1 := by kernel_rfl
theorem c9 : Tryz.prog.cellsOf 9 = 1 := by kernel_rfl
theorem c22 : Tryz.prog.cellsOf 22 = 1 := by kernel_rfl
theorem c24 : Tryz.prog.cellsOf 24 = 2 := by kernel_rfl
theorem c25 : Tryz.prog.cellsOf 25 = 1 := by kernel_rfl
theorem c33 : Tryz.prog.cellsOf 33 = 1 := by kernel_rfl
theorem c66 : Tryz.prog.cellsOf 66 = 2 := by kernel_rfl
theorem c70 : Tryz.prog.cellsOf 70 = 4 := by kernel_rfl
section
variable {H : Type} {enc : TypeId × Value → H} {W : World} {spare : Nat → Bool} {held : Bool} {F : Nat → Prop}
abbrev Und := Int × ByteArray × Unit
abbrev UAA := List Und × ByteArray × Bool × Int × Unit
abbrev UJg := Int × List UAA × Unit
def Us4 (y : Und) : List PV := [.v (.int .i64 y.1)] ++ ([.v (.string y.2.1)] ++ [])
def UFu (y : UAA) : List PV := [.sh (y.1.map fun t => .agg (Us4 t))] ++ ([.v (.string y.2.1)] ++ ([.v (.bool y.2.2.1)] ++ ([.v (.int .i64 y.2.2.2.1)] ++ [])))
def UOL (y : UJg) : List PV := [.v (.int .i64 y.1)] ++ ([.sh (y.2.1.map fun r => .agg (UFu r))] ++ [])
theorem UyQ {f : Field} {fs : List Field} {off : Nat} {B : Type} {ok2 : B → Prop} {cells2 : B → List PV} {size : Nat} (ho : f.offset = off) (ht : f.type = 3) (s : Fld enc Tryz.prog W spare held F fs (off + 1) B ok2 cells2 size) :
    Fld enc Tryz.prog W spare held F (f :: fs) off (Int × B) (fun y => (Lit.int .i64 y.1).wf = true ∧ ok2 y.2) (fun y => [.v (.int .i64 y.1)] ++ cells2 y.2) (1 + size) :=
  JkY ho (by rw [ht]; exact c3) (by rw [ht]; exact Jlv Tryz.underlying3 c3) s
theorem UCm {f : Field} {fs : List Field} {off : Nat} {B : Type} {ok2 : B → Prop} {cells2 : B → List PV} {size : Nat} (ho : f.offset = off) (ht : f.type = 9) (s : Fld enc Tryz.prog W spare held F fs (off + 1) B ok2 cells2 size) :
    Fld enc Tryz.prog W spare held F (f :: fs) off (ByteArray × B) (fun y => y.1.size ≤ maxLen ∧ ok2 y.2) (fun y => [.v (.string y.1)] ++ cells2 y.2) (1 + size) :=
  JkY ho (by rw [ht]; exact c9) (by rw [ht]; exact Jlw Tryz.underlying9 c9) s
theorem UCl {f : Field} {fs : List Field} {off : Nat} {B : Type} {ok2 : B → Prop} {cells2 : B → List PV} {size : Nat} (ho : f.offset = off) (ht : f.type = 4) (s : Fld enc Tryz.prog W spare held F fs (off + 1) B ok2 cells2 size) :
    Fld enc Tryz.prog W spare held F (f :: fs) off (Bool × B) (fun y => True ∧ ok2 y.2) (fun y => [.v (.bool y.1)] ++ cells2 y.2) (1 + size) :=
  JkY ho (by rw [ht]; exact c4) (by rw [ht]; exact Jlj Tryz.underlying4 c4) s
theorem UJL {t k : Nat} {f : Field} {fs : List Field} {off : Nat} {A B : Type} {ok : A → Prop} {cells : A → List PV} {ok2 : B → Prop} {cells2 : B → List PV} {size : Nat} (ht : f.type = t) (hc : Tryz.prog.cellsOf t = k) (r : Rd enc Tryz.prog W spare held F t A ok cells) (ho : f.offset = off) (s : Fld enc Tryz.prog W spare held F fs (off + k) B ok2 cells2 size) :
    Fld enc Tryz.prog W spare held F (f :: fs) off (A × B) (fun y => ok y.1 ∧ ok2 y.2) (fun y => cells y.1 ++ cells2 y.2) (k + size) :=
  JkY ho (by rw [ht]; exact hc) (by rw [ht]; exact r) s
theorem UAl : ∃ ok, Rd enc Tryz.prog W spare held F 66 Und ok Us4 :=
  ⟨_, JkN Tryz.underlying66 c66 (UyQ rfl rfl (UCm rfl rfl (Jla _)))⟩
theorem Uun : ∃ ok, Rd enc Tryz.prog W spare held F 33 (List Und) ok (fun l => [.sh (l.map fun t => .agg (Us4 t))]) :=
  let ⟨ok, h⟩ := UAl
  ⟨_, Jk5 Tryz.underlying33 c33 (by rw [c66]; omega) (fun a => rfl) h⟩
theorem UEC : ∃ ok, Rd enc Tryz.prog W spare held F 70 UAA ok UFu :=
  let ⟨ok, h⟩ := Uun
  ⟨_, JkN Tryz.underlying70 c70 (UJL (t := 33) rfl c33 h rfl (UCm rfl rfl (UCl rfl rfl (UyQ rfl rfl (Jla _)))))⟩
theorem UAj : ∃ ok, Rd enc Tryz.prog W spare held F 22 (List UAA) ok (fun l => [.sh (l.map fun t => .agg (UFu t))]) :=
  let ⟨ok, h⟩ := UEC
  ⟨_, Jk5 Tryz.underlying22 c22 (by rw [c70]; omega) (fun a => rfl) h⟩
theorem UED : ∃ ok, Rd enc Tryz.prog W spare held F 24 UJg ok UOL :=
  let ⟨ok, h⟩ := UAj
  ⟨_, JkN Tryz.underlying24 c24 (UyQ rfl rfl (UJL (t := 22) rfl c22 h rfl (Jla _)))⟩
theorem UAk : ∃ ok, Rd enc Tryz.prog W spare held F 25 (List ByteArray) ok (fun l => [.sh (l.map fun s => .v (.string s))]) :=
  ⟨_, Jk5 Tryz.underlying25 c25 (by rw [c9]; omega) (fun a => rfl) (Jlw Tryz.underlying9 c9)⟩
def UEM (y : Und) : Uar := (y.1, y.2.1.data.toList)
def UId (y : UAA) : RowT := ⟨y.1.map UEM, y.2.1.data.toList, y.2.2.1, y.2.2.2.1⟩
theorem UAv (l : List Und) : (l.map fun t => PV.agg (Us4 t)) = tms (l.map UEM) := by
  unfold tms; rw [List.map_map]; rfl
theorem UEE (l : List UAA) : (l.map fun t => PV.agg (UFu t)) = rws (l.map UId) := by
  unfold rws
  rw [List.map_map]
  refine List.map_congr_left fun r _ => ?_
  show PV.agg ([.sh (r.1.map fun t => .agg (Us4 t))] ++ _) = rPV (UId r)
  rw [UAv]; rfl
theorem UEJ (l : List ByteArray) : (l.map fun s => PV.v (.string s)) = sl (l.map fun s => s.data.toList) := by
  unfold sl; rw [List.map_map]; rfl
theorem Uxu {cs : Array Value} {d : DataW H} {p : List MemPlace} (h : DataW.Trod enc Tryz.prog W 0 spare held 24 (.agg cs) d p) (hF : ∀ x ∈ p, F x.block) : ∃ cols rows, RP F W (.agg [.v (.int .i64 cols), .sh (rws rows)]) (.agg cs) := by
  obtain ⟨ok, r⟩ := UED (enc := enc) (W := W) (spare := spare) (held := held) (F := F)
  obtain ⟨a, _, h2⟩ := Jlx r h hF
  refine ⟨a.1, a.2.1.map UId, ?_⟩
  rw [← UEE]
  exact h2
theorem Ute {x : Option Addr} {len cap : Nat} {d : DataW H} {p : List MemPlace} (h : DataW.Trod enc Tryz.prog W 0 spare held 25 (.slice x len cap) d p) (hF : ∀ x ∈ p, F x.block) : ∃ l, RP F W (.sh (sl l)) (.slice x len cap) := by
  obtain ⟨ok, r⟩ := UAk (enc := enc) (W := W) (spare := spare) (held := held) (F := F)
  obtain ⟨a, _, h2⟩ := Jly r h hF
  refine ⟨a.map fun s => s.data.toList, ?_⟩
  rw [← UEJ]
  exact h2
end
end Go.Proofs.YtmgfmlhdnadglaaGreatDoor
set_option linter.unusedVariables false
set_option maxRecDepth 100000
namespace Go.Proofs.YtmgfmlhdnadglaaGreatDoor
open Go Th Go.Proofs
noncomputable section
variable {R : Type}
def UFD : Ann := { loops := [], cuts := [], frz := [], rm := [.id] }
abbrev UJA (n : Nat) : Env := eC 13 (UJO n) (eC 12 (UF6 n) (eC 11 (UJN n) (eC 10 (UJM n) (eC 9 (fs9 n) eN))))
theorem UvE (n : Nat) : EnvOK Tryz.prog GI (UJA n) := .cons (.cons (.cons (.cons (.cons (.nil) (ok9 n)) (UMU n)) (UMV n)) (UKL n)) (UMW n)
def p3 (n : Nat) (x1 : Int) (x2 x3 : LP) (k0 : Bool → O R) : O R :=
  p9 n x1 x2 (fun y4 => bif (!y4) then (p11 n (fun y5 => k0 y5)) else (p10 n x3 (fun y6 => bif (bif false then true else (!y6)) then (p11 n (fun y7 => k0 y7)) else (p12 n x1 x2 x3 (fun y8 => p13 n x1 x2 x3 (fun y9 => bif (y8 == y9) then (p11 n (fun y10 => k0 (bif true then y10 else false))) else (k0 false)))))))
abbrev lo3 (n : Nat) : Orc R := oN
abbrev cu3 (n : Nat) : Orc R := oN
abbrev K3 (R : Type) (n : Nat) := JcK (R := R) Tryz.prog (UJA n) UFD n (24, []) (lo3 n) (cu3 n)
theorem pa3 (n : Nat) : Jfb (K3 R n) (JaJ UFD (Jls Tryz.f3)) := pO pN (by kernel_rfl)
abbrev t3 : Sl (List SV) := (.c (sP (JlP (.c (JlC .i64) (.c sSh .n)))) (cH .n))
abbrev f3 (n : Nat) (K : List SV → O R) : t3.T (O R) := fun x1 x2 x3 => p3 n x1 x2 x3 (fun y1 => K [vB y1])
abbrev fs3 (n : Nat) : FS := fT [false, false] t3 (f3 n)
theorem ok3 (n : Nat) : FSound Tryz.prog GI 3 (fs3 n) := gd UFD n (UvE n) Tryz.func3 (.cons (UvE n) t3 (f3 n) (fun K _ _ _ => (Jkx (c := Jls Tryz.f3) (by kernel_rfl) (pa3 n) K).trans (by kernel_rfl)) .nil) (by kernel_rfl)
end
end Go.Proofs.YtmgfmlhdnadglaaGreatDoor
set_option linter.unusedVariables false
set_option linter.unusedSimpArgs false
namespace Go.Proofs.YtmgfmlhdnadglaaGreatDoor
open Go Th Go.Proofs
variable {R : Type}
theorem Ud2 (n : Nat) (hn : 10 ^ 1000 ≤ n) (cols : Int) (rows : List RowT) (mult : List (List UInt8)) (k : Bool → Option R) : p3 n cols (rws rows) (sl mult) k = k true := by
  have hN := Uas (UaT hn)
  have hA := fun k => Uzi (R := R) n (Nat.le_trans (by decide) hN) k
  have h1 := fun k => UCp (R := R) n hN cols rows k
  have h2 := fun k => UsN (R := R) n hN mult k
  unfold p3
  rw [h1]
  cases h3 : UCn rows with
  | false => simp only [UFg, UaR, hA]
  | true =>
    simp only [UFh, Uak, h2]
    cases h4 : Uje mult with
    | false => simp only [UFg, UaR, hA]
    | true =>
      have g1 := fun k => UrC (R := R) n hn cols rows mult (UvU h3) (Um8 h4) k
      have g2 := fun k => UnA (R := R) n hn cols rows mult (UvU h3) (Um8 h4) k
      have e : (Unp cols rows mult == Unp cols rows mult) = true := beq_self_eq_true _
      simp only [UFh, Uak, g1, g2, e, UaR, hA]
theorem Udu {H : Type} {enc : TypeId × Value → H} {spare : Nat → Bool} {held : Bool} (W : World) (h : Tab W) {c0 : Array Value} {x1 : Option Addr} {l1 p1 : Nat} {d0 d1 : DataW H} {q0 q1 : List MemPlace}
    (h0 : DataW.Trod enc Tryz.prog W 0 spare held 24 (.agg c0) d0 q0) (h1 : DataW.Trod enc Tryz.prog W 0 spare held 25 (.slice x1 l1 p1) d1 q1) (hlt : ∀ x ∈ q0 ++ q1, x.block < W.heap.size) :
    Calls Tryz.prog 3 #[.agg c0, .slice x1 l1 p1] W fun e w' => e = .returned (.bool true) ∧ RowKit.Below W.heap.size W w' := by
  obtain ⟨cols, rows, r0⟩ := Uxu (F := Fp (q0 ++ q1)) h0 (UCr fun x hx => List.mem_append_left _ hx)
  obtain ⟨mult, r1⟩ := Ute (F := Fp (q0 ++ q1)) h1 (UCr fun x hx => List.mem_append_right _ hx)
  refine UtH (ok3 (10 ^ 1000)) (args := [.agg [.v (.int .i64 cols), .sh (rws rows)], .sh (sl mult)]) h (q0 ++ q1) hlt (.cons (B := []) (.p r0) (.cons (B := []) (.p r1) .nil)) ?_
  show p3 (10 ^ 1000) cols (rws rows) (sl mult) _ = _
  rw [Ud2 (10 ^ 1000) (Nat.le_refl _) cols rows mult]; rfl
end Go.Proofs.YtmgfmlhdnadglaaGreatDoor
namespace Go.Proofs.YtmgfmlhdnadglaaGreatDoor.certifyFarkas
open Go.ChangeShapes Go.WideShapes Go.ChangeAt Go.RowKit
open Go.ChangeMaps (open_string shut_string)
theorem own : ownKnob Tryz.prog.godebug = none := by kernel_rfl
theorem laidOut : laidOutB Tryz.prog = true := by kernel_rfl
set_option maxRecDepth 100000 in
theorem lifted (os : Os) (started : os.Started) (H : Type) (enc : TypeId × Value → H) :
    ReturnsInHanded {} Tryz.checked os 3 .any (fun w args => (Rows.certifyFarkasSpec.pre enc Tryz.prog Tryz.f3 Rows.certifyFarkasRow.domain false w args ∧ laidMetH Tryz.prog Uc0 w) ∧ sizedMet enc Tryz.prog Tryz.f3 (OpenSpec.ofChange Rows.certifyFarkasSpec) false w args)
      (Rows.certifyFarkasSpec.post enc Tryz.prog Tryz.f3 false true false false) := by
  refine returnsInHanded_of_change_and (C := Tryz.checked) (X := fun w _ => laidMetH Tryz.prog Uc0 w) (fun _ _ _ hh h => h.of_heap hh) own started (by kernel_rfl) Tryz.func3
    (ChangeSpec.witness_shaped (enc := enc) (C := Tryz.checked) (os := os) (X := fun w _ => laidMetH Tryz.prog Uc0 w) false (World.laidAll Tryz.prog os Uc0) #[.agg #[.int .i64 0, .slice none 0 0], .slice none 0 0] 8 (World.laidAll_os _ _ _)
      (World.shaped_of_ZipB (by kernel_rfl) (by kernel_rfl)) (by kernel_rfl) (by kernel_rfl) (by kernel_rfl)
      (by rw [MakeChecks.laidMetH_plain _ _ _ (by kernel_rfl)]; exact laidMet_laidAll _ (by kernel_rfl) (by kernel_rfl))) ?_
  intro W base args ds gs before hval0 hW hcnd hsz0 hL _
  have hval : ∀ (j : Nat) t v, Tryz.f3.params[j]? = some t → args[j]? = some v → Value.okWide Tryz.prog W .any base t v := hval0
  have hW' := hW
  obtain ⟨p, q, hA0, hV, rfl, hfz, hnd⟩ := hW
  have hA : DataW.TrodAll enc Tryz.prog W 0 (fun _ => true) true Tryz.f3.params.toList args.toList ds p := hA0
  rw [Tryz.params3] at hA hval
  obtain ⟨v0, vs0, d0, ds0, p0, q0, hargs, rfl, rfl, h0, r0⟩ := trodAll_cons hA
  obtain ⟨v1, vs1, d1, ds1, p1, q1, rfl, rfl, rfl, h1, r1⟩ := trodAll_cons r0
  obtain ⟨rfl, rfl, rfl⟩ := trodAll_nil r1
  obtain rfl : args = #[v0, v1] := by cases args; simp_all
  obtain ⟨rfl, rfl⟩ := trodVars_none hV
  obtain ⟨cs0, rfl, _⟩ := okWide_struct Tryz.underlying24 (hval 0 24 v0 rfl rfl)
  have h0k := h0
  obtain ⟨sa1, sl1, sc1, rfl⟩ := okWide_slice Tryz.underlying25 (hval 1 25 v1 rfl rfl)
  have h1k := h1
  have hlt : ∀ x ∈ p0 ++ p1, x.block < W.heap.size := fun x hx => by simpa using hW'.lt x (by simpa using hx)
  have hcall := Udu W (Uuv hL) h0 h1 hlt
  clear hA0 hval0 hsz0
  refine hcall.mono fun e W' ⟨he, bel⟩ => ?_
  subst he
  exact ⟨_, rfl, _, _, _, [], _, [], hW', trodAll_mk1 (shut_bool Tryz.underlying4 _), (trodAll_cons_mk (Below.trod laidOut (by kernel_rfl) (of_decide_eq_true (by kernel_rfl)) h0k bel (fun x hx => hlt x (by simp [hx]))) (trodAll_cons_mk (Below.trod laidOut (by kernel_rfl) (of_decide_eq_true (by kernel_rfl)) h1k bel (fun x hx => hlt x (by simp [hx]))) trodAll_mk0)), rfl, bel.frame _, fun h => by cases h⟩
theorem over : Rows.CertifyFarkasSaid :=
  OpenClaim.holds_of_wide 3 Tryz.f3 rfl rfl rfl rfl rfl rfl rfl ⟨rfl, rfl, rfl, rfl, rfl⟩ rfl rfl rfl rfl rfl (by kernel_rfl) Tryz.func3 (by kernel_rfl)
    (of_decide_eq_true (by kernel_rfl)) (by unfold Func.isWrapper; first | (rw [if_pos (by decide +kernel)]; kernel_rfl) | (rw [if_neg (by decide +kernel)]; exact ⟨rfl, rfl⟩))
    (fun os started H enc _ => lifted os started H enc)
theorem proved : Rows.CertifyFarkasCardSaid :=
  Claim7.holds_tied_plain_at .later [] [.data, .data, .data, .data, .sentinel, .sentinel, .pinned] true (true, "f7700371c8b5fddb2e0cf9d5ff2e169200c13f28753ab1d3c19509a013739147") true over (fun _ h => by cases h) (by kernel_rfl) (fun _ h => by cases h) certifyFarkas_row_tie rfl ⟨rfl, rfl⟩ (by kernel_rfl) rfl
    (fun f fn hf hfn => by
      obtain rfl : f = 3 := Option.some.inj ((show Tryz.prog.funcNamed "cellarer/cellarerlaw08.CertifyFarkas" = some 3 by kernel_rfl).symm.trans hf) |>.symm
      obtain rfl : fn = Tryz.f3 := (Option.some.inj (Tryz.func3.symm.trans hfn)).symm
      exact ⟨by kernel_rfl, fun j t ht => by
        rw [Tryz.params3] at ht
        have hm : t ∈ [24, 25] := by simpa using Array.mem_of_getElem? ht
        have hall : ([24, 25].all fun u => !Tryz.prog.wantsStandIn u) = true := by kernel_rfl
        exact (show Tryz.prog.wantsStandIn t = false by simpa using List.all_eq_true.1 hall t hm)⟩)
    (by kernel_rfl)
end Go.Proofs.YtmgfmlhdnadglaaGreatDoor.certifyFarkas
namespace Go.Proofs.YtmgfmlhdnadglaaGreatDoor
theorem certifyFarkas_holds : Rows.CertifyFarkasCardSaid := certifyFarkas.proved
end Go.Proofs.YtmgfmlhdnadglaaGreatDoor
