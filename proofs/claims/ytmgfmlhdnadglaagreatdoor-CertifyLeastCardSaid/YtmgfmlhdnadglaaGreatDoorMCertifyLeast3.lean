/- Proved: part 7 of the proof that the law CertifyLeast returns true at all its arguments (no further conditions). -/
import Derived.Test.YtmgfmlhdnadglaaGreatDoorMCertifyLeast0
import Derived.Test.YtmgfmlhdnadglaaGreatDoorMCertifyLeast1
import Derived.Test.YtmgfmlhdnadglaaGreatDoorMCertifyLeast2
set_option linter.unusedVariables false
set_option maxRecDepth 100000
namespace Go.Proofs.YtmgfmlhdnadglaaGreatDoor
open Go Th Go.Proofs
noncomputable section
variable {R:Type}
def Upr:Ann:={ loops:=[],cuts:=[],frz:=[],rm:=[.id] }
abbrev Ux5 (n:Nat):Env:=eN
theorem Unv (n:Nat):EnvOK Tryz.prog GI (Ux5 n):=.nil
def ULt (n:Nat)  (k0:ByteArray→O R):O R :=
 bif (Je5 0 (IntKind.i64.wrap (0 + 1)) ((⟨#[48,49,50,51,52,53,54,55,56,57]⟩:ByteArray)).size) then (k0 (ByteArray.extract (⟨#[48,49,50,51,52,53,54,55,56,57]⟩:ByteArray) (0:Int).toNat (IntKind.i64.wrap (0 + 1):Int).toNat)) else none
abbrev UKs (n:Nat):Orc R:=oN
abbrev UJF (n:Nat):Orc R:=oN
abbrev UPz (R:Type) (n:Nat):=JcH (R:=R) Tryz.prog (Ux5 n) Upr n (36,[]) (UKs n) (UJF n)
theorem ULY (n:Nat):Je6 (UPz R n) (JaJ Upr (Jll Tryz.f126)):=pO pN (by kernel_rfl)
abbrev UMB:Sl (List SV):=(.c (sP (Jlw .i64 0)) .n)
abbrev f126 (n:Nat) (K:List SV→O R):UMB.T (O R):=ULt n  (fun y1=>K [vS y1])
abbrev UF6 (n:Nat):FS:=fT [false] UMB (f126 n)
theorem UKX (n:Nat):FSound Tryz.prog GI 126 (UF6 n):=gd Upr n (Unv n) Tryz.func126 (.cons (Unv n) UMB (f126 n) (fun K=>(Jkq (c:=Jll Tryz.f126) (by kernel_rfl) (ULY n) K).trans (by kernel_rfl)) .nil) (by kernel_rfl)
def UAb:Ann:={ loops:=[],cuts:=[],frz:=[],rm:=[.id] }
abbrev UFG (n:Nat):Env:=eC 126 (UF6 n) (eC 125 (UBV n) (eC 123 (UtD n) (eC 110 (UtC n) eN)))
theorem Usq (n:Nat):EnvOK Tryz.prog GI (UFG n):=.cons (.cons (.cons (.cons (.nil) (Uwg n)) (Uwh n)) (UGW n)) (UKX n)
def p92 (n:Nat)  (k0:Bool→LP→Bool→LP→O R):O R :=
 ULt n (fun y1=>UyL n y1 (fun y2 y3=>Uwi n (fun y4 y5=>UyK n y2 y3 y4 y5 (fun y6 y7 y8 y9=>k0 y6 y7 y8 y9))))
abbrev UQ8 (n:Nat):Orc R:=oN
abbrev UQm (n:Nat):Orc R:=oN
abbrev K92 (R:Type) (n:Nat):=JcH (R:=R) Tryz.prog (UFG n) UAb n (8,[]) (UQ8 n) (UQm n)
theorem US9 (n:Nat):Je6 (K92 R n) (JaJ UAb (Jll Tryz.f92)):=pO pN (by kernel_rfl)
abbrev t92:Sl (List SV):=(.c (sP (Jlw .i64 0)) .n)
abbrev f92 (n:Nat) (K:List SV→O R):t92.T (O R):=p92 n  (fun y1 y2 y3 y4=>K [.p (.agg [.v (.bool y1),.sh y2,.v (.bool y3),.sh y4])])
abbrev UKf (n:Nat):FS:=fT [false] t92 (f92 n)
theorem UO7 (n:Nat):FSound Tryz.prog GI 92 (UKf n):=gd UAb n (Usq n) Tryz.func92 (.cons (Usq n) t92 (f92 n) (fun K=>(Jkq (c:=Jll Tryz.f92) (by kernel_rfl) (US9 n) K).trans (by kernel_rfl)) .nil) (by kernel_rfl)
def UkL:Ann:={ loops:=[(3,[(0,.id),(2,.id),(3,.cs [some 57,none,none,none,none]),(4,.id)],ids [2,3])],cuts:=[],frz:=[1000006,1000018],rm:=[.cs [some 57,none,none,none,none]] }
abbrev UBx (n:Nat):Env:=eC 92 (UKf n) eN
theorem Ur2 (n:Nat):EnvOK Tryz.prog GI (UBx n):=.cons (.nil) (UO7 n)
def Ui8 (n:Nat) (l0:Int→Bool→Bool→LP→Bool→LP→Bool→LP→Int→O R) (x1:Int) (x2 x3:Bool) (x4:LP) (x5:Bool) (x6:LP) (x7:Bool) (x8:LP) (x9:Int) (k0:Bool→Bool→LP→Bool→LP→Bool→LP→O R):O R :=
 bif (decide (x9<x1)) then (p92 n (fun y10 y11 y12 y13=>bif (Jbu ((x4).length + 1) 64) then (l0 x1 x2 x3 (x4++([.agg [.v (.bool y10),.sh y11,.v (.bool y12),.sh y13]]:LP)) x5 x6 x7 x8 (IntKind.i64.wrap (x9 + 1))) else none)) else (k0 x2 x3 x4 x5 x6 x7 x8)
def Uew (n:Nat):Nat→Int→Bool→Bool→LP→Bool→LP→Bool→LP→Int→(Bool→Bool→LP→Bool→LP→Bool→LP→O R)→O R
 | 0,_,_,_,_,_,_,_,_,_,_=>none
 | m + 1,x1,x2,x3,x4,x5,x6,x7,x8,x9,k0=>Ui8 n (fun x1 x2 x3 x4 x5 x6 x7 x8 x9=>Uew n m x1 x2 x3 x4 x5 x6 x7 x8 x9 k0) x1 x2 x3 x4 x5 x6 x7 x8 x9 k0
def Uy6 (n:Nat) (x1:Int) (x2 x3:Bool) (x4:LP) (x5:Bool) (x6:LP) (x7:Bool) (x8:LP) (x9:Int) (k0:Bool→Bool→LP→Bool→LP→Bool→LP→O R):O R:=Uew n n x1 x2 x3 x4 x5 x6 x7 x8 x9 k0
def p67 (n:Nat) (x1:Int) (k0:LP→Bool→LP→Bool→LP→O R):O R :=
 p92 n (fun y2 y3 y4 y5=>Uy6 n x1 false false [] y2 y3 y4 y5 0 (fun y6 y7 y8 y9 y10 y11 y12=>k0 y8 y9 y10 y11 y12))
abbrev E67 (n:Nat):Code→Fr→Kc R→O R:=evC Tryz.prog (UBx n) UkL n (19,[])
noncomputable def Uxz:Code:=Jj4 (Jll Tryz.f67) [1,1,0,1,0,0]
abbrev UhD:Sl (List SV):=(cI (.c (sBx 59 (.c sNl (cB (.c sNl (cB (.c sNl .n)))))) (.c (sBx 59 (cO 57 (cB (cH (cB (cH .n)))))) (cI .n))))
abbrev Utl (n m:Nat) (K:Kc R):UhD.T (O R):=fun x1 x2 x3 x4 x5 x6 x7 x8 x9=>Uew n m x1 x2 x3 x4 x5 x6 x7 x8 x9 (fun y1 y2 y3 y4 y5 y6 y7=>xL UkL 3 K (.exit 0) [.bx 59 [.nl,vB y1,.nl,vB y2,.nl],.bx 59 [.own 57 y3,vB y4,vH y5,vB y6,vH y7]])
abbrev UEt (n:Nat) (K:Kc R) (l0:UhD.T (O R)):UhD.T (O R):=fun x1 x2 x3 x4 x5 x6 x7 x8 x9=>Ui8 n l0 x1 x2 x3 x4 x5 x6 x7 x8 x9 (fun y1 y2 y3 y4 y5 y6 y7=>xL UkL 3 K (.exit 0) [.bx 59 [.nl,vB y1,.nl,vB y2,.nl],.bx 59 [.own 57 y3,vB y4,vH y5,vB y6,vH y7]])
abbrev UOG (n:Nat):Orc R:=oL UkL (E67 n) n 3 Uxz UhD (Utl n n) oN
abbrev UNr (n:Nat):Orc R:=oN
abbrev K67 (R:Type) (n:Nat):=JcH (R:=R) Tryz.prog (UBx n) UkL n (19,[]) (UOG n) (UNr n)
theorem UHT (n:Nat):K67 R n (false,3,Uxz):=JkF (lo:=UOG n) (cu:=UNr n) (pO pN (by kernel_rfl)) UhD (Utl n n) (JiE (F:=Utl n) UhD (UEt n) (fun K _ _ _ _ _ _ _ _ _=>rfl) (fun _ _=>rfl) (fun L K _ _ _ _ _ _ _ _ _=>by show _=_; kernel_rfl) n) fun _ _=>rfl
theorem USK (n:Nat):Je6 (K67 R n) (JaJ UkL (Jll Tryz.f67)):=pO (pC (UHT n) pN) (by kernel_rfl)
abbrev t67:Sl (List SV):=(cI .n)
abbrev f67 (n:Nat) (K:List SV→O R):t67.T (O R):=fun x1=>p67 n x1 (fun y1 y2 y3 y4 y5=>K [.st [.own 57 y1,vB y2,vH y3,vB y4,vH y5]])
abbrev UGs (n:Nat):FS:=fT [false] t67 (f67 n)
theorem UI5 (n:Nat):FSound Tryz.prog GI 67 (UGs n):=gd UkL n (Ur2 n) Tryz.func67 (.cons (Ur2 n) t67 (f67 n) (fun K _=>(Jkq (c:=Jll Tryz.f67) (by kernel_rfl) (USK n) K).trans (by kernel_rfl)) .nil) (by kernel_rfl)
def UzY:Ann:={ loops:=[],cuts:=[],frz:=[],rm:=[.id] }
abbrev UFs (n:Nat):Env:=eC 110 (UtC n) (eC 109 (Uv3 n) eN)
theorem Ur4 (n:Nat):EnvOK Tryz.prog GI (UFs n):=.cons (.cons (.nil) (UCg n)) (Uwg n)
def p69 (n:Nat) (x1:ByteArray) (k0:Bool→LP→Bool→LP→O R):O R :=
 Uvv n x1 (fun y2 y3 y4 y5 y6=>bif (!y6) then (Uwi n (fun y7 y8=>k0 false [] y7 y8)) else (k0 y2 y3 y4 y5))
abbrev UQU (n:Nat):Orc R:=oN
abbrev UP9 (n:Nat):Orc R:=oN
abbrev K69 (R:Type) (n:Nat):=JcH (R:=R) Tryz.prog (UFs n) UzY n (16,[]) (UQU n) (UP9 n)
theorem USM (n:Nat):Je6 (K69 R n) (JaJ UzY (Jll Tryz.f69)):=pO pN (by kernel_rfl)
abbrev t69:Sl (List SV):=(cS .n)
abbrev f69 (n:Nat) (K:List SV→O R):t69.T (O R):=fun x1=>p69 n x1 (fun y1 y2 y3 y4=>K [.p (.agg [.v (.bool y1),.sh y2,.v (.bool y3),.sh y4])])
abbrev UDN (n:Nat):FS:=fT [false] t69 (f69 n)
theorem UG2 (n:Nat):FSound Tryz.prog GI 69 (UDN n):=gd UzY n (Ur4 n) Tryz.func69 (.cons (Ur4 n) t69 (f69 n) (fun K _=>(Jkq (c:=Jll Tryz.f69) (by kernel_rfl) (USM n) K).trans (by kernel_rfl)) .nil) (by kernel_rfl)
def Ubw:Ann:={ loops:=[(4,ids [0,1,4,6],ids [0,1,4,5]),(10,ids [0,1,4,7,8],ids [0,1,4,5,7]),(18,ids [1,4,9,10],ids [4,5,9])],cuts:=[],frz:=[],rm:=[.id,.id] }
abbrev UBo (n:Nat):Env:=eC 91 (UGw n) (eC 84 (UGu n) (eC 71 (UIT n) (eC 69 (UDN n) (eC 67 (UGs n) eN))))
theorem UrK (n:Nat):EnvOK Tryz.prog GI (UBo n):=.cons (.cons (.cons (.cons (.cons (.nil) (UI5 n)) (UG2 n)) (ULo n)) (UI7 n)) (UI9 n)
def UiZ (n:Nat) (l0:ByteArray→LP→Bool→Bool→Int→O R) (x1:ByteArray) (x2:LP) (x3 x4:Bool) (x5:Int) (k0:ByteArray→LP→LP→Bool→LP→Bool→LP→Int→O R) (k1:ByteArray→LP→Bool→Bool→O R):O R :=
 bif (decide (x5<((x2).length:Int))) then (bif (inR x5 ((x2).length)) then (Jh2 ((x2).getD ((x5:Int).toNat) (.v (.bool false))) fun a6=>JdT a6 fun h7 t8=>Jj .i64 h7 fun e9=>JdT t8 fun h10 t11=>Jj3 h10 fun e12=>Ji2 t11 (p84 n e12 (fun y13=>bif (!y13) then (k0 x1 x2 [] false [] false [] 3) else (l0 x1 x2 x3 x4 (IntKind.i64.wrap (x5 + 1)))))) else none) else (k1 x1 x2 x3 x4)
def Uep (n:Nat):Nat→ByteArray→LP→Bool→Bool→Int→(ByteArray→LP→LP→Bool→LP→Bool→LP→Int→O R)→(ByteArray→LP→Bool→Bool→O R)→O R
 | 0,_,_,_,_,_,_,_=>none
 | m + 1,x1,x2,x3,x4,x5,k0,k1=>UiZ n (fun x1 x2 x3 x4 x5=>Uep n m x1 x2 x3 x4 x5 k0 k1) x1 x2 x3 x4 x5 k0 k1
def UyZ (n:Nat) (x1:ByteArray) (x2:LP) (x3 x4:Bool) (x5:Int) (k0:ByteArray→LP→LP→Bool→LP→Bool→LP→Int→O R) (k1:ByteArray→LP→Bool→Bool→O R):O R:=Uep n n x1 x2 x3 x4 x5 k0 k1
def UfX (n:Nat) (l0:ByteArray→LP→Bool→Bool→Int→Int→O R) (x1:ByteArray) (x2:LP) (x3 x4:Bool) (x5 x6:Int) (k0:ByteArray→LP→LP→Bool→LP→Bool→LP→Int→Int→O R) (k1:ByteArray→LP→Bool→Bool→Int→O R):O R :=
 bif (decide (x6<((x2).length:Int))) then (bif (inR x6 ((x2).length)) then (Jh2 ((x2).getD ((x6:Int).toNat) (.v (.bool false))) fun a7=>JdT a7 fun h8 t9=>Jj .i64 h8 fun e10=>JdT t9 fun h11 t12=>Jj3 h11 fun e13=>Ji2 t12 (bif (decide (e10<0)) then (k0 x1 x2 [] false [] false [] 2 x5) else (bif (inR x6 ((x2).length)) then (Jh2 ((x2).getD ((x6:Int).toNat) (.v (.bool false))) fun a14=>JdT a14 fun h15 t16=>Jj .i64 h15 fun e17=>JdT t16 fun h18 t19=>Jj3 h18 fun e20=>Ji2 t19 (bif (bif false then true else (decide (e17≥2048))) then (k0 x1 x2 [] false [] false [] 2 x5) else (bif (inR x6 ((x2).length)) then (Jh2 ((x2).getD ((x6:Int).toNat) (.v (.bool false))) fun a21=>JdT a21 fun h22 t23=>Jj .i64 h22 fun e24=>JdT t23 fun h25 t26=>Jj3 h25 fun e27=>Ji2 t26 (let v28:=JkU x5 (IntKind.i64.wrap (e24 + 1)); l0 x1 x2 x3 x4 v28 (IntKind.i64.wrap (x6 + 1)))) else none))) else none))) else none) else (k1 x1 x2 x3 x4 x5)
def UcA (n:Nat):Nat→ByteArray→LP→Bool→Bool→Int→Int→(ByteArray→LP→LP→Bool→LP→Bool→LP→Int→Int→O R)→(ByteArray→LP→Bool→Bool→Int→O R)→O R
 | 0,_,_,_,_,_,_,_,_=>none
 | m + 1,x1,x2,x3,x4,x5,x6,k0,k1=>UfX n (fun x1 x2 x3 x4 x5 x6=>UcA n m x1 x2 x3 x4 x5 x6 k0 k1) x1 x2 x3 x4 x5 x6 k0 k1
def UiY (n:Nat) (x1:ByteArray) (x2:LP) (x3 x4:Bool) (x5 x6:Int) (k0:ByteArray→LP→LP→Bool→LP→Bool→LP→Int→Int→O R) (k1:ByteArray→LP→Bool→Bool→Int→O R):O R:=UcA n n x1 x2 x3 x4 x5 x6 k0 k1
def UfY (n:Nat) (l0:LP→Bool→Bool→LP→Bool→LP→Bool→LP→Int→O R) (x1:LP) (x2 x3:Bool) (x4:LP) (x5:Bool) (x6:LP) (x7:Bool) (x8:LP) (x9:Int) (k0:LP→Bool→LP→Bool→LP→Int→LP→Bool→LP→Bool→LP→O R) (k1:Bool→Bool→LP→Bool→LP→Bool→LP→O R):O R :=
 bif (decide (x9<((x1).length:Int))) then (bif (inR x9 ((x1).length)) then (Jh2 ((x1).getD ((x9:Int).toNat) (.v (.bool false))) fun a10=>JdT a10 fun h11 t12=>Jj .i64 h11 fun e13=>JdT t12 fun h14 t15=>Jj3 h14 fun e16=>Ji2 t15 (bif (inR x9 ((x1).length)) then (Jh2 ((x1).getD ((x9:Int).toNat) (.v (.bool false))) fun a17=>JdT a17 fun h18 t19=>Jj .i64 h18 fun e20=>JdT t19 fun h21 t22=>Jj3 h21 fun e23=>Ji2 t22 (bif (inR e20 ((x4).length)) then (Jh2 ((x4).getD ((e20:Int).toNat) (.v (.bool false))) fun a24=>JdT a24 fun h25 t26=>Jj2 h25 fun e27=>JdT t26 fun h28 t29=>Jkr h28 fun e30=>JdT t29 fun h31 t32=>Jj2 h31 fun e33=>JdT t32 fun h34 t35=>Jkr h34 fun e36=>Ji2 t35 (bif (inR x9 ((x1).length)) then (Jh2 ((x1).getD ((x9:Int).toNat) (.v (.bool false))) fun a37=>JdT a37 fun h38 t39=>Jj .i64 h38 fun e40=>JdT t39 fun h41 t42=>Jj3 h41 fun e43=>Ji2 t42 (p69 n e43 (fun y44 y45 y46 y47=>p91 n e27 e30 e33 e36 y44 y45 y46 y47 (fun y48 y49 y50 y51=>bif (inR e13 ((x4).length)) then (Jh2 ((x4).getD ((e13:Int).toNat) (.v (.bool false))) fun a52=>JdT a52 fun h53 t54=>Jj2 h53 fun e55=>JdT t54 fun h56 t57=>Jkr h56 fun e58=>JdT t57 fun h59 t60=>Jj2 h59 fun e61=>JdT t60 fun h62 t63=>Jkr h62 fun e64=>Ji2 t63 (bif (inR x9 ((x1).length)) then (Jh2 ((x1).getD ((x9:Int).toNat) (.v (.bool false))) fun a65=>JdT a65 fun h66 t67=>Jj .i64 h66 fun e68=>JdT t67 fun h69 t70=>Jj3 h69 fun e71=>Ji2 t70 (bif (inR e68 (((x4).set ((e13:Int).toNat) (.agg [.v (.bool y48),.sh y49,.v (.bool y50),.sh y51])).length)) then (Jh2 (((x4).set ((e13:Int).toNat) (.agg [.v (.bool y48),.sh y49,.v (.bool y50),.sh y51])).getD ((e68:Int).toNat) (.v (.bool false))) fun a72=>JdT a72 fun h73 t74=>Jj2 h73 fun e75=>JdT t74 fun h76 t77=>Jkr h76 fun e78=>JdT t77 fun h79 t80=>Jj2 h79 fun e81=>JdT t80 fun h82 t83=>Jkr h82 fun e84=>Ji2 t83 (p71 n e75 e78 e81 e84 (fun y85=>bif y85 then (k0 [] false [] false [] 5 ((x4).set ((e13:Int).toNat) (.agg [.v (.bool y48),.sh y49,.v (.bool y50),.sh y51])) x5 x6 x7 x8) else (l0 x1 x2 x3 ((x4).set ((e13:Int).toNat) (.agg [.v (.bool y48),.sh y49,.v (.bool y50),.sh y51])) x5 x6 x7 x8 (IntKind.i64.wrap (x9 + 1)))))) else none)) else none)) else none)))) else none)) else none)) else none)) else none) else (k1 x2 x3 x4 x5 x6 x7 x8)
def UcB (n:Nat):Nat→LP→Bool→Bool→LP→Bool→LP→Bool→LP→Int→(LP→Bool→LP→Bool→LP→Int→LP→Bool→LP→Bool→LP→O R)→(Bool→Bool→LP→Bool→LP→Bool→LP→O R)→O R
 | 0,_,_,_,_,_,_,_,_,_,_,_=>none
 | m + 1,x1,x2,x3,x4,x5,x6,x7,x8,x9,k0,k1=>UfY n (fun x1 x2 x3 x4 x5 x6 x7 x8 x9=>UcB n m x1 x2 x3 x4 x5 x6 x7 x8 x9 k0 k1) x1 x2 x3 x4 x5 x6 x7 x8 x9 k0 k1
def Uc3 (n:Nat) (x1:LP) (x2 x3:Bool) (x4:LP) (x5:Bool) (x6:LP) (x7:Bool) (x8:LP) (x9:Int) (k0:LP→Bool→LP→Bool→LP→Int→LP→Bool→LP→Bool→LP→O R) (k1:Bool→Bool→LP→Bool→LP→Bool→LP→O R):O R:=UcB n n x1 x2 x3 x4 x5 x6 x7 x8 x9 k0 k1
def p46 (n:Nat) (x1:ByteArray) (x2:LP) (k0:LP→Bool→LP→Bool→LP→Int→O R):O R :=
 p84 n x1 (fun y3=>bif (!y3) then (k0 [] false [] false [] 3) else (UyZ n x1 x2 false false 0 (fun y4 y5 y6 y7 y8 y9 y10 y11=>k0 y6 y7 y8 y9 y10 y11) (fun y12 y13 y14 y15=>UiY n y12 y13 y14 y15 0 0 (fun y16 y17 y18 y19 y20 y21 y22 y23 y24=>k0 y18 y19 y20 y21 y22 y23) (fun y25 y26 y27 y28 y29=>p67 n y29 (fun y30 y31 y32 y33 y34=>p69 n y25 (fun y35 y36 y37 y38=>Uc3 n y26 y27 y28 y30 y35 y36 y37 y38 0 (fun y39 y40 y41 y42 y43 y44 y45 y46 y47 y48 y49=>k0 y39 y40 y41 y42 y43 y44) (fun y50 y51 y52 y53 y54 y55 y56=>k0 y52 y53 y54 y55 y56 0)))))))
abbrev E46 (n:Nat):Code→Fr→Kc R→O R:=evC Tryz.prog (UBo n) Ubw n (105,[])
noncomputable def Uxq:Code:=Jj4 (Jll Tryz.f46) [1,1,0,1,0,0]
abbrev Uhu:Sl (List SV):=(cS (cH (.c (sBx 59 (.c sNl (cB (.c sNl (cB (.c sNl .n)))))) (cI .n))))
abbrev Ut (n m:Nat) (K:Kc R):Uhu.T (O R):=fun x1 x2 x3 x4 x5=>Uep n m x1 x2 x3 x4 x5 (fun y1 y2 y3 y4 y5 y6 y7 y8=>xL Ubw 4 K .ret [vS y1,vH y2,.bx 59 [vH y3,vB y4,vH y5,vB y6,vH y7],vI y8]) (fun y1 y2 y3 y4=>xL Ubw 4 K (.exit 0) [vS y1,vH y2,.bx 59 [.nl,vB y3,.nl,vB y4,.nl],dD])
abbrev UEk (n:Nat) (K:Kc R) (l0:Uhu.T (O R)):Uhu.T (O R):=fun x1 x2 x3 x4 x5=>UiZ n l0 x1 x2 x3 x4 x5 (fun y1 y2 y3 y4 y5 y6 y7 y8=>xL Ubw 4 K .ret [vS y1,vH y2,.bx 59 [vH y3,vB y4,vH y5,vB y6,vH y7],vI y8]) (fun y1 y2 y3 y4=>xL Ubw 4 K (.exit 0) [vS y1,vH y2,.bx 59 [.nl,vB y3,.nl,vB y4,.nl],dD])
noncomputable def Uqq:Code:=Jj4 (Jll Tryz.f46) [1,1,1,1,0,1,0,0]
abbrev Ue9:Sl (List SV):=(cS (cH (.c (sBx 59 (.c sNl (cB (.c sNl (cB (.c sNl .n)))))) (cI (cI .n)))))
abbrev Ulo (n m:Nat) (K:Kc R):Ue9.T (O R):=fun x1 x2 x3 x4 x5 x6=>UcA n m x1 x2 x3 x4 x5 x6 (fun y1 y2 y3 y4 y5 y6 y7 y8 y9=>xL Ubw 10 K .ret [vS y1,vH y2,.bx 59 [vH y3,vB y4,vH y5,vB y6,vH y7],vI y8,vI y9]) (fun y1 y2 y3 y4 y5=>xL Ubw 10 K (.exit 2) [vS y1,vH y2,.bx 59 [.nl,vB y3,.nl,vB y4,.nl],dD,vI y5])
abbrev UAK (n:Nat) (K:Kc R) (l0:Ue9.T (O R)):Ue9.T (O R):=fun x1 x2 x3 x4 x5 x6=>UfX n l0 x1 x2 x3 x4 x5 x6 (fun y1 y2 y3 y4 y5 y6 y7 y8 y9=>xL Ubw 10 K .ret [vS y1,vH y2,.bx 59 [vH y3,vB y4,vH y5,vB y6,vH y7],vI y8,vI y9]) (fun y1 y2 y3 y4 y5=>xL Ubw 10 K (.exit 2) [vS y1,vH y2,.bx 59 [.nl,vB y3,.nl,vB y4,.nl],dD,vI y5])
noncomputable def Uqr:Code:=Jj4 (Jll Tryz.f46) [1,1,1,1,1,1,1,0,1,0,0]
abbrev Uf:Sl (List SV):=(cH (.c (sBx 59 (.c sNl (cB (.c sNl (cB (.c sNl .n)))))) (.c (sBx 59 (cO 57 (cB (cH (cB (cH .n)))))) (cI .n))))
abbrev Ulp (n m:Nat) (K:Kc R):Uf.T (O R):=fun x1 x2 x3 x4 x5 x6 x7 x8 x9=>UcB n m x1 x2 x3 x4 x5 x6 x7 x8 x9 (fun y1 y2 y3 y4 y5 y6 y7 y8 y9 y10 y11=>xL Ubw 18 K .ret [.bx 59 [vH y1,vB y2,vH y3,vB y4,vH y5],vI y6,.bx 59 [.own 57 y7,vB y8,vH y9,vB y10,vH y11]]) (fun y1 y2 y3 y4 y5 y6 y7=>xL Ubw 18 K (.exit 4) [.bx 59 [.nl,vB y1,.nl,vB y2,.nl],dD,.bx 59 [.own 57 y3,vB y4,vH y5,vB y6,vH y7]])
abbrev UAL (n:Nat) (K:Kc R) (l0:Uf.T (O R)):Uf.T (O R):=fun x1 x2 x3 x4 x5 x6 x7 x8 x9=>UfY n l0 x1 x2 x3 x4 x5 x6 x7 x8 x9 (fun y1 y2 y3 y4 y5 y6 y7 y8 y9 y10 y11=>xL Ubw 18 K .ret [.bx 59 [vH y1,vB y2,vH y3,vB y4,vH y5],vI y6,.bx 59 [.own 57 y7,vB y8,vH y9,vB y10,vH y11]]) (fun y1 y2 y3 y4 y5 y6 y7=>xL Ubw 18 K (.exit 4) [.bx 59 [.nl,vB y1,.nl,vB y2,.nl],dD,.bx 59 [.own 57 y3,vB y4,vH y5,vB y6,vH y7]])
abbrev UIX (n:Nat):Orc R:=oL Ubw (E46 n) n 18 Uqr Uf (Ulp n n) (oL Ubw (E46 n) n 10 Uqq Ue9 (Ulo n n) (oL Ubw (E46 n) n 4 Uxq Uhu (Ut n n) oN))
abbrev UII (n:Nat):Orc R:=oN
abbrev K46 (R:Type) (n:Nat):=JcH (R:=R) Tryz.prog (UBo n) Ubw n (105,[]) (UIX n) (UII n)
theorem UHJ (n:Nat):K46 R n (false,4,Uxq):=JkF (lo:=UIX n) (cu:=UII n) (pO pN (by kernel_rfl)) Uhu (Ut n n) (JiE (F:=Ut n) Uhu (UEk n) (fun K _ _ _ _ _=>rfl) (fun _ _=>rfl) (fun L K _ _ _ _ _=>by show _=_; kernel_rfl) n) fun _ _=>rfl
theorem UDd (n:Nat):K46 R n (false,10,Uqq):=JkF (lo:=UIX n) (cu:=UII n) (pO pN (by kernel_rfl)) Ue9 (Ulo n n) (JiE (F:=Ulo n) Ue9 (UAK n) (fun K _ _ _ _ _ _=>rfl) (fun _ _=>rfl) (fun L K _ _ _ _ _ _=>by show _=_; kernel_rfl) n) fun _ _=>rfl
theorem UDe (n:Nat):K46 R n (false,18,Uqr):=JkF (lo:=UIX n) (cu:=UII n) (pO pN (by kernel_rfl)) Uf (Ulp n n) (JiE (F:=Ulp n) Uf (UAL n) (fun K _ _ _ _ _ _ _ _ _=>rfl) (fun _ _=>rfl) (fun L K _ _ _ _ _ _ _ _ _=>by show _=_; kernel_rfl) n) fun _ _=>rfl
theorem USs (n:Nat):Je6 (K46 R n) (JaJ Ubw (Jll Tryz.f46)):=pO (pC (UHJ n) (pC (UDd n) (pC (UDe n) pN))) (by kernel_rfl)
abbrev t46:Sl (List SV):=(cS (cH .n))
abbrev f46 (n:Nat) (K:List SV→O R):t46.T (O R):=fun x1 x2=>p46 n x1 x2 (fun y1 y2 y3 y4 y5 y6=>K [.p (.agg [.sh y1,.v (.bool y2),.sh y3,.v (.bool y4),.sh y5]),vI y6])
abbrev UDL (n:Nat):FS:=fT [false,false] t46 (f46 n)
theorem UG0 (n:Nat):FSound Tryz.prog GI 46 (UDL n):=gd Ubw n (UrK n) Tryz.func46 (.cons (UrK n) t46 (f46 n) (fun K _ _=>(Jkq (c:=Jll Tryz.f46) (by kernel_rfl) (USs n) K).trans (by kernel_rfl)) .nil) (by kernel_rfl)
def UkM:Ann:={ loops:=[(3,ids [2,3,4,5,6],ids [2,3,4,5])],cuts:=[],frz:=[],rm:=[.id] }
abbrev UBy (n:Nat):Env:=eC 108 (Uv2 n) (eC 67 (UGs n) eN)
theorem Ur3 (n:Nat):EnvOK Tryz.prog GI (UBy n):=.cons (.cons (.nil) (UI5 n)) (UCf n)
def Ui9 (n:Nat) (l0:LP→Bool→LP→Bool→LP→Bool→LP→Bool→LP→Bool→Bool→LP→Bool→LP→Bool→LP→Int→O R) (x1:LP) (x2:Bool) (x3:LP) (x4:Bool) (x5:LP) (x6:Bool) (x7:LP) (x8:Bool) (x9:LP) (x10 x11:Bool) (x12:LP) (x13:Bool) (x14:LP) (x15:Bool) (x16:LP) (x17:Int) (k0:LP→Bool→LP→Bool→LP→Bool→LP→Bool→LP→Bool→Bool→LP→Bool→LP→Bool→LP→O R):O R :=
 bif (decide (x17<((x12).length:Int))) then (bif (inR x17 ((x1).length)) then (Jh2 ((x1).getD ((x17:Int).toNat) (.v (.bool false))) fun a18=>JdT a18 fun h19 t20=>Jj2 h19 fun e21=>JdT t20 fun h22 t23=>Jkr h22 fun e24=>JdT t23 fun h25 t26=>Jj2 h25 fun e27=>JdT t26 fun h28 t29=>Jkr h28 fun e30=>Ji2 t29 (UyH n e21 e24 e27 e30 x6 x7 x8 x9 (fun y31 y32 y33 y34=>bif (inR x17 ((x12).length)) then (Jh2 ((x12).getD ((x17:Int).toNat) (.v (.bool false))) fun a35=>JdT a35 fun h36 t37=>Jj2 h36 fun e38=>JdT t37 fun h39 t40=>Jkr h39 fun e41=>JdT t40 fun h42 t43=>Jj2 h42 fun e44=>JdT t43 fun h45 t46=>Jkr h45 fun e47=>Ji2 t46 (l0 x1 x2 x3 x4 x5 x6 x7 x8 x9 x10 x11 ((x12).set ((x17:Int).toNat) (.agg [.v (.bool y31),.sh y32,.v (.bool y33),.sh y34])) x13 x14 x15 x16 (IntKind.i64.wrap (x17 + 1)))) else none))) else none) else (k0 x1 x2 x3 x4 x5 x6 x7 x8 x9 x10 x11 x12 x13 x14 x15 x16)
def Uex (n:Nat):Nat→LP→Bool→LP→Bool→LP→Bool→LP→Bool→LP→Bool→Bool→LP→Bool→LP→Bool→LP→Int→(LP→Bool→LP→Bool→LP→Bool→LP→Bool→LP→Bool→Bool→LP→Bool→LP→Bool→LP→O R)→O R
 | 0,_,_,_,_,_,_,_,_,_,_,_,_,_,_,_,_,_,_=>none
 | m + 1,x1,x2,x3,x4,x5,x6,x7,x8,x9,x10,x11,x12,x13,x14,x15,x16,x17,k0=>Ui9 n (fun x1 x2 x3 x4 x5 x6 x7 x8 x9 x10 x11 x12 x13 x14 x15 x16 x17=>Uex n m x1 x2 x3 x4 x5 x6 x7 x8 x9 x10 x11 x12 x13 x14 x15 x16 x17 k0) x1 x2 x3 x4 x5 x6 x7 x8 x9 x10 x11 x12 x13 x14 x15 x16 x17 k0
def Uy7 (n:Nat) (x1:LP) (x2:Bool) (x3:LP) (x4:Bool) (x5:LP) (x6:Bool) (x7:LP) (x8:Bool) (x9:LP) (x10 x11:Bool) (x12:LP) (x13:Bool) (x14:LP) (x15:Bool) (x16:LP) (x17:Int) (k0:LP→Bool→LP→Bool→LP→Bool→LP→Bool→LP→Bool→Bool→LP→Bool→LP→Bool→LP→O R):O R:=Uex n n x1 x2 x3 x4 x5 x6 x7 x8 x9 x10 x11 x12 x13 x14 x15 x16 x17 k0
def p68 (n:Nat) (x1:LP) (x2:Bool) (x3:LP) (x4:Bool) (x5:LP) (x6:Bool) (x7:LP) (x8:Bool) (x9:LP) (k0:LP→Bool→LP→Bool→LP→O R):O R :=
 p67 n ((x1).length:Int) (fun y10 y11 y12 y13 y14=>Uy7 n x1 x2 x3 x4 x5 x6 x7 x8 x9 false false y10 y11 y12 y13 y14 0 (fun y15 y16 y17 y18 y19 y20 y21 y22 y23 y24 y25 y26 y27 y28 y29 y30=>UyH n y16 y17 y18 y19 y20 y21 y22 y23 (fun y31 y32 y33 y34=>k0 y26 y31 y32 y33 y34)))
abbrev E68 (n:Nat):Code→Fr→Kc R→O R:=evC Tryz.prog (UBy n) UkM n (35,[])
noncomputable def UxA:Code:=Jj4 (Jll Tryz.f68) [1,1,0,1,0,0]
abbrev UhE:Sl (List SV):=(.c (sBx 59 (cH (cB (cH (cB (cH .n)))))) (.c (sBx 57 (cB (cH (cB (cH .n))))) (.c (sBx 59 (.c sNl (cB (.c sNl (cB (.c sNl .n)))))) (.c (sBx 59 (cO 57 (cB (cH (cB (cH .n)))))) (cI .n)))))
abbrev Utm (n m:Nat) (K:Kc R):UhE.T (O R):=fun x1 x2 x3 x4 x5 x6 x7 x8 x9 x10 x11 x12 x13 x14 x15 x16 x17=>Uex n m x1 x2 x3 x4 x5 x6 x7 x8 x9 x10 x11 x12 x13 x14 x15 x16 x17 (fun y1 y2 y3 y4 y5 y6 y7 y8 y9 y10 y11 y12 y13 y14 y15 y16=>xL UkM 3 K (.exit 0) [.bx 59 [vH y1,vB y2,vH y3,vB y4,vH y5],.bx 57 [vB y6,vH y7,vB y8,vH y9],.bx 59 [.nl,vB y10,.nl,vB y11,.nl],.bx 59 [.own 57 y12,vB y13,vH y14,vB y15,vH y16]])
abbrev UEu (n:Nat) (K:Kc R) (l0:UhE.T (O R)):UhE.T (O R):=fun x1 x2 x3 x4 x5 x6 x7 x8 x9 x10 x11 x12 x13 x14 x15 x16 x17=>Ui9 n l0 x1 x2 x3 x4 x5 x6 x7 x8 x9 x10 x11 x12 x13 x14 x15 x16 x17 (fun y1 y2 y3 y4 y5 y6 y7 y8 y9 y10 y11 y12 y13 y14 y15 y16=>xL UkM 3 K (.exit 0) [.bx 59 [vH y1,vB y2,vH y3,vB y4,vH y5],.bx 57 [vB y6,vH y7,vB y8,vH y9],.bx 59 [.nl,vB y10,.nl,vB y11,.nl],.bx 59 [.own 57 y12,vB y13,vH y14,vB y15,vH y16]])
abbrev UOH (n:Nat):Orc R:=oL UkM (E68 n) n 3 UxA UhE (Utm n n) oN
abbrev UNs (n:Nat):Orc R:=oN
abbrev K68 (R:Type) (n:Nat):=JcH (R:=R) Tryz.prog (UBy n) UkM n (35,[]) (UOH n) (UNs n)
theorem UHU (n:Nat):K68 R n (false,3,UxA):=JkF (lo:=UOH n) (cu:=UNs n) (pO pN (by kernel_rfl)) UhE (Utm n n) (JiE (F:=Utm n) UhE (UEu n) (fun K _ _ _ _ _ _ _ _ _ _ _ _ _ _ _ _ _=>rfl) (fun _ _=>rfl) (fun L K _ _ _ _ _ _ _ _ _ _ _ _ _ _ _ _ _=>by show _=_; kernel_rfl) n) fun _ _=>rfl
theorem USL (n:Nat):Je6 (K68 R n) (JaJ UkM (Jll Tryz.f68)):=pO (pC (UHU n) pN) (by kernel_rfl)
abbrev t68:Sl (List SV):=(.c (sP (JlI (.c sSh (.c Jlf (.c sSh (.c Jlf (.c sSh .n))))))) (.c (sP (JlI (.c Jlf (.c sSh (.c Jlf (.c sSh .n)))))) .n))
abbrev f68 (n:Nat) (K:List SV→O R):t68.T (O R):=fun x1 x2 x3 x4 x5 x6 x7 x8 x9=>p68 n x1 x2 x3 x4 x5 x6 x7 x8 x9 (fun y1 y2 y3 y4 y5=>K [.p (.agg [.sh y1,.v (.bool y2),.sh y3,.v (.bool y4),.sh y5])])
abbrev UOe (n:Nat):FS:=fT [false,false] t68 (f68 n)
theorem URH (n:Nat):FSound Tryz.prog GI 68 (UOe n):=gd UkM n (Ur3 n) Tryz.func68 (.cons (Ur3 n) t68 (f68 n) (fun K _ _ _ _ _ _ _ _ _=>(Jkq (c:=Jll Tryz.f68) (by kernel_rfl) (USL n) K).trans (by kernel_rfl)) .nil) (by kernel_rfl)
def UzN:Ann:={ loops:=[],cuts:=[],frz:=[],rm:=[.id] }
abbrev UFh (n:Nat):Env:=eC 92 (UKf n) eN
theorem UrL (n:Nat):EnvOK Tryz.prog GI (UFh n):=.cons (.nil) (UO7 n)
def p47 (n:Nat) (x1:LP) (x2:Bool) (x3:LP) (x4:Bool) (x5:LP) (x6:Int) (k0:Bool→LP→Bool→LP→O R):O R :=
 bif (decide (x6<0)) then (p92 n (fun y7 y8 y9 y10=>k0 y7 y8 y9 y10)) else (bif (bif false then true else (decide (x6≥((x1).length:Int)))) then (p92 n (fun y11 y12 y13 y14=>k0 y11 y12 y13 y14)) else (bif (inR x6 ((x1).length)) then (Jh2 ((x1).getD ((x6:Int).toNat) (.v (.bool false))) fun a15=>JdT a15 fun h16 t17=>Jj2 h16 fun e18=>JdT t17 fun h19 t20=>Jkr h19 fun e21=>JdT t20 fun h22 t23=>Jj2 h22 fun e24=>JdT t23 fun h25 t26=>Jkr h25 fun e27=>Ji2 t26 (k0 e18 e21 e24 e27)) else none))
abbrev UQJ (n:Nat):Orc R:=oN
abbrev UPY (n:Nat):Orc R:=oN
abbrev K47 (R:Type) (n:Nat):=JcH (R:=R) Tryz.prog (UFh n) UzN n (20,[]) (UQJ n) (UPY n)
theorem USt (n:Nat):Je6 (K47 R n) (JaJ UzN (Jll Tryz.f47)):=pO pN (by kernel_rfl)
abbrev t47:Sl (List SV):=(.c (sP (JlI (.c sSh (.c Jlf (.c sSh (.c Jlf (.c sSh .n))))))) (cI .n))
abbrev f47 (n:Nat) (K:List SV→O R):t47.T (O R):=fun x1 x2 x3 x4 x5 x6=>p47 n x1 x2 x3 x4 x5 x6 (fun y1 y2 y3 y4=>K [.p (.agg [.v (.bool y1),.sh y2,.v (.bool y3),.sh y4])])
abbrev UJ4 (n:Nat):FS:=fT [false,false] t47 (f47 n)
theorem UOV (n:Nat):FSound Tryz.prog GI 47 (UJ4 n):=gd UzN n (UrL n) Tryz.func47 (.cons (UrL n) t47 (f47 n) (fun K _ _ _ _ _ _=>(Jkq (c:=Jll Tryz.f47) (by kernel_rfl) (USt n) K).trans (by kernel_rfl)) .nil) (by kernel_rfl)
def UkN:Ann:={ loops:=[(3,ids [2,3,4,5,6],ids [2,3,4,5])],cuts:=[],frz:=[],rm:=[.id] }
abbrev UBz (n:Nat):Env:=eC 91 (UGw n) (eC 67 (UGs n) (eC 47 (UJ4 n) eN))
theorem Ur5 (n:Nat):EnvOK Tryz.prog GI (UBz n):=.cons (.cons (.cons (.nil) (UOV n)) (UI5 n)) (UI9 n)
def Uj (n:Nat) (l0:LP→Bool→LP→Bool→LP→LP→Bool→LP→Bool→LP→Bool→Bool→LP→Bool→LP→Bool→LP→Int→O R) (x1:LP) (x2:Bool) (x3:LP) (x4:Bool) (x5 x6:LP) (x7:Bool) (x8:LP) (x9:Bool) (x10:LP) (x11 x12:Bool) (x13:LP) (x14:Bool) (x15:LP) (x16:Bool) (x17:LP) (x18:Int) (k0:LP→Bool→LP→Bool→LP→LP→Bool→LP→Bool→LP→Bool→Bool→LP→Bool→LP→Bool→LP→O R):O R :=
 bif (decide (x18<((x13).length:Int))) then (p47 n x1 x2 x3 x4 x5 x18 (fun y19 y20 y21 y22=>p47 n x6 x7 x8 x9 x10 x18 (fun y23 y24 y25 y26=>p91 n y19 y20 y21 y22 y23 y24 y25 y26 (fun y27 y28 y29 y30=>bif (inR x18 ((x13).length)) then (Jh2 ((x13).getD ((x18:Int).toNat) (.v (.bool false))) fun a31=>JdT a31 fun h32 t33=>Jj2 h32 fun e34=>JdT t33 fun h35 t36=>Jkr h35 fun e37=>JdT t36 fun h38 t39=>Jj2 h38 fun e40=>JdT t39 fun h41 t42=>Jkr h41 fun e43=>Ji2 t42 (l0 x1 x2 x3 x4 x5 x6 x7 x8 x9 x10 x11 x12 ((x13).set ((x18:Int).toNat) (.agg [.v (.bool y27),.sh y28,.v (.bool y29),.sh y30])) x14 x15 x16 x17 (IntKind.i64.wrap (x18 + 1)))) else none)))) else (k0 x1 x2 x3 x4 x5 x6 x7 x8 x9 x10 x11 x12 x13 x14 x15 x16 x17)
def Uey (n:Nat):Nat→LP→Bool→LP→Bool→LP→LP→Bool→LP→Bool→LP→Bool→Bool→LP→Bool→LP→Bool→LP→Int→(LP→Bool→LP→Bool→LP→LP→Bool→LP→Bool→LP→Bool→Bool→LP→Bool→LP→Bool→LP→O R)→O R
 | 0,_,_,_,_,_,_,_,_,_,_,_,_,_,_,_,_,_,_,_=>none
 | m + 1,x1,x2,x3,x4,x5,x6,x7,x8,x9,x10,x11,x12,x13,x14,x15,x16,x17,x18,k0=>Uj n (fun x1 x2 x3 x4 x5 x6 x7 x8 x9 x10 x11 x12 x13 x14 x15 x16 x17 x18=>Uey n m x1 x2 x3 x4 x5 x6 x7 x8 x9 x10 x11 x12 x13 x14 x15 x16 x17 x18 k0) x1 x2 x3 x4 x5 x6 x7 x8 x9 x10 x11 x12 x13 x14 x15 x16 x17 x18 k0
def Uy8 (n:Nat) (x1:LP) (x2:Bool) (x3:LP) (x4:Bool) (x5 x6:LP) (x7:Bool) (x8:LP) (x9:Bool) (x10:LP) (x11 x12:Bool) (x13:LP) (x14:Bool) (x15:LP) (x16:Bool) (x17:LP) (x18:Int) (k0:LP→Bool→LP→Bool→LP→LP→Bool→LP→Bool→LP→Bool→Bool→LP→Bool→LP→Bool→LP→O R):O R:=Uey n n x1 x2 x3 x4 x5 x6 x7 x8 x9 x10 x11 x12 x13 x14 x15 x16 x17 x18 k0
def p70 (n:Nat) (x1:LP) (x2:Bool) (x3:LP) (x4:Bool) (x5 x6:LP) (x7:Bool) (x8:LP) (x9:Bool) (x10:LP) (k0:LP→Bool→LP→Bool→LP→O R):O R :=
 let v11:=JkU ((x1).length:Int) ((x6).length:Int); p67 n v11 (fun y12 y13 y14 y15 y16=>Uy8 n x1 x2 x3 x4 x5 x6 x7 x8 x9 x10 false false y12 y13 y14 y15 y16 0 (fun y17 y18 y19 y20 y21 y22 y23 y24 y25 y26 y27 y28 y29 y30 y31 y32 y33=>p91 n y18 y19 y20 y21 y23 y24 y25 y26 (fun y34 y35 y36 y37=>k0 y29 y34 y35 y36 y37)))
abbrev E70 (n:Nat):Code→Fr→Kc R→O R:=evC Tryz.prog (UBz n) UkN n (40,[])
noncomputable def UxB:Code:=Jj4 (Jll Tryz.f70) [1,1,0,1,0,0]
abbrev UhF:Sl (List SV):=(.c (sBx 59 (cH (cB (cH (cB (cH .n)))))) (.c (sBx 59 (cH (cB (cH (cB (cH .n)))))) (.c (sBx 59 (.c sNl (cB (.c sNl (cB (.c sNl .n)))))) (.c (sBx 59 (cO 57 (cB (cH (cB (cH .n)))))) (cI .n)))))
abbrev Utn (n m:Nat) (K:Kc R):UhF.T (O R):=fun x1 x2 x3 x4 x5 x6 x7 x8 x9 x10 x11 x12 x13 x14 x15 x16 x17 x18=>Uey n m x1 x2 x3 x4 x5 x6 x7 x8 x9 x10 x11 x12 x13 x14 x15 x16 x17 x18 (fun y1 y2 y3 y4 y5 y6 y7 y8 y9 y10 y11 y12 y13 y14 y15 y16 y17=>xL UkN 3 K (.exit 0) [.bx 59 [vH y1,vB y2,vH y3,vB y4,vH y5],.bx 59 [vH y6,vB y7,vH y8,vB y9,vH y10],.bx 59 [.nl,vB y11,.nl,vB y12,.nl],.bx 59 [.own 57 y13,vB y14,vH y15,vB y16,vH y17]])
abbrev UEv (n:Nat) (K:Kc R) (l0:UhF.T (O R)):UhF.T (O R):=fun x1 x2 x3 x4 x5 x6 x7 x8 x9 x10 x11 x12 x13 x14 x15 x16 x17 x18=>Uj n l0 x1 x2 x3 x4 x5 x6 x7 x8 x9 x10 x11 x12 x13 x14 x15 x16 x17 x18 (fun y1 y2 y3 y4 y5 y6 y7 y8 y9 y10 y11 y12 y13 y14 y15 y16 y17=>xL UkN 3 K (.exit 0) [.bx 59 [vH y1,vB y2,vH y3,vB y4,vH y5],.bx 59 [vH y6,vB y7,vH y8,vB y9,vH y10],.bx 59 [.nl,vB y11,.nl,vB y12,.nl],.bx 59 [.own 57 y13,vB y14,vH y15,vB y16,vH y17]])
abbrev UOI (n:Nat):Orc R:=oL UkN (E70 n) n 3 UxB UhF (Utn n n) oN
abbrev UNt (n:Nat):Orc R:=oN
abbrev K70 (R:Type) (n:Nat):=JcH (R:=R) Tryz.prog (UBz n) UkN n (40,[]) (UOI n) (UNt n)
theorem UHV (n:Nat):K70 R n (false,3,UxB):=JkF (lo:=UOI n) (cu:=UNt n) (pO pN (by kernel_rfl)) UhF (Utn n n) (JiE (F:=Utn n) UhF (UEv n) (fun K _ _ _ _ _ _ _ _ _ _ _ _ _ _ _ _ _ _=>rfl) (fun _ _=>rfl) (fun L K _ _ _ _ _ _ _ _ _ _ _ _ _ _ _ _ _ _=>by show _=_; kernel_rfl) n) fun _ _=>rfl
theorem USN (n:Nat):Je6 (K70 R n) (JaJ UkN (Jll Tryz.f70)):=pO (pC (UHV n) pN) (by kernel_rfl)
abbrev t70:Sl (List SV):=(.c (sP (JlI (.c sSh (.c Jlf (.c sSh (.c Jlf (.c sSh .n))))))) (.c (sP (JlI (.c sSh (.c Jlf (.c sSh (.c Jlf (.c sSh .n))))))) .n))
abbrev f70 (n:Nat) (K:List SV→O R):t70.T (O R):=fun x1 x2 x3 x4 x5 x6 x7 x8 x9 x10=>p70 n x1 x2 x3 x4 x5 x6 x7 x8 x9 x10 (fun y1 y2 y3 y4 y5=>K [.p (.agg [.sh y1,.v (.bool y2),.sh y3,.v (.bool y4),.sh y5])])
abbrev UOf (n:Nat):FS:=fT [false,false] t70 (f70 n)
theorem URI (n:Nat):FSound Tryz.prog GI 70 (UOf n):=gd UkN n (Ur5 n) Tryz.func70 (.cons (Ur5 n) t70 (f70 n) (fun K _ _ _ _ _ _ _ _ _ _=>(Jkq (c:=Jll Tryz.f70) (by kernel_rfl) (USN n) K).trans (by kernel_rfl)) .nil) (by kernel_rfl)
def UaP:Ann:={ loops:=[(7,ids [1,2,4,6,7],ids [4,5,6])],cuts:=[(3,ids [1,2,4],ids [4,5]),(8,ids [1,2,4,6,7],ids [1,2,4,5,6,7])],frz:=[],rm:=[.id,.id] }
abbrev Urb (n:Nat):Env:=eC 70 (UOf n) (eC 69 (UDN n) (eC 68 (UOe n) (eC 67 (UGs n) (eC 46 (UDL n) (eC 41 (UJ3 n) (eC 39 (UIP n) (eC 25 (UNU n) eN)))))))
theorem Urq (n:Nat):EnvOK Tryz.prog GI (Urb n):=.cons (.cons (.cons (.cons (.cons (.cons (.cons (.cons (.nil) (URm n)) (ULk n)) (UOU n)) (UG0 n)) (UI5 n)) (URH n)) (UG2 n)) (URI n)
def Uup (n:Nat) (x1:LP) (x2:Int) (x3:LP) (x4 x5:Bool) (x6:LP) (x7:Bool) (x8:LP) (x9:Bool) (x10:LP) (x11:Int) (k0:LP→Int→LP→Bool→Bool→LP→Bool→LP→Bool→LP→Int→O R):O R :=
 k0 x1 x2 x3 x4 x5 x6 x7 x8 x9 x10 (IntKind.i64.wrap (x11 + 1))
def Ucy (n:Nat) (x1:LP) (x2:Int) (x3:LP) (x4 x5:Bool) (x6:LP) (x7:Bool) (x8:LP) (x9:Bool) (x10:LP) (x11:Int) (k0:LP→Int→LP→Bool→Bool→LP→Bool→LP→Bool→LP→Int→O R):O R :=
 k0 x1 x2 x3 x4 x5 x6 x7 x8 x9 x10 (IntKind.i64.wrap (x11 + 1))
def UdP (n:Nat) (l0:LP→Int→LP→Bool→Bool→LP→Bool→LP→Bool→LP→Int→O R) (x1:LP) (x2:Int) (x3:LP) (x4 x5:Bool) (x6:LP) (x7:Bool) (x8:LP) (x9:Bool) (x10:LP) (x11:Int) (k0:LP→Bool→LP→Bool→LP→Int→LP→Bool→LP→Bool→LP→O R) (k1:Bool→Bool→LP→Bool→LP→Bool→LP→O R):O R :=
 bif (decide (x11<((x1).length:Int))) then (bif (inR x11 ((x1).length)) then (Jj3 ((x1).getD ((x11:Int).toNat) (.v (.bool false))) fun e12=>bif (eqS e12 (⟨#[48]⟩:ByteArray)) then (Ucy n x1 x2 x3 x4 x5 x6 x7 x8 x9 x10 x11 (fun y13 y14 y15 y16 y17 y18 y19 y20 y21 y22 y23=>l0 y13 y14 y15 y16 y17 y18 y19 y20 y21 y22 y23)) else (bif (inR x11 ((x3).length)) then (Jh2 ((x3).getD ((x11:Int).toNat) (.v (.bool false))) fun a24=>JdT a24 fun h25 t26=>Jkr h25 fun e27=>JdT t26 fun h28 t29=>Jj3 h28 fun e30=>JdT t29 fun h31 t32=>Jj2 h31 fun e33=>JdT t32 fun h34 t35=>Jj .i64 h34 fun e36=>Ji2 t35 (bif (inR x11 ((x3).length)) then (Jh2 ((x3).getD ((x11:Int).toNat) (.v (.bool false))) fun a37=>JdT a37 fun h38 t39=>Jkr h38 fun e40=>JdT t39 fun h41 t42=>Jj3 h41 fun e43=>JdT t42 fun h44 t45=>Jj2 h44 fun e46=>JdT t45 fun h47 t48=>Jj .i64 h47 fun e49=>Ji2 t48 (p46 n e30 e40 (fun y50 y51 y52 y53 y54 y55=>bif (inR x11 ((x1).length)) then (Jj3 ((x1).getD ((x11:Int).toNat) (.v (.bool false))) fun e56=>p69 n e56 (fun y57 y58 y59 y60=>p68 n y50 y51 y52 y53 y54 y57 y58 y59 y60 (fun y61 y62 y63 y64 y65=>p25 n y61 y62 y63 y64 y65 (fun y66 y67 y68=>bif (y68 != 0) then (k0 [] false [] false [] 5 x6 x7 x8 x9 x10) else (p70 n x6 x7 x8 x9 x10 y61 y62 y63 y64 y65 (fun y69 y70 y71 y72 y73=>p25 n y69 y70 y71 y72 y73 (fun y74 y75 y76=>bif (y76 != 0) then (k0 [] false [] false [] 5 y69 y70 y71 y72 y73) else (Ucy n x1 x2 x3 x4 x5 y69 y70 y71 y72 y73 x11 (fun y77 y78 y79 y80 y81 y82 y83 y84 y85 y86 y87=>l0 y77 y78 y79 y80 y81 y82 y83 y84 y85 y86 y87))))))))) else none))) else none)) else none)) else none) else (k1 x4 x5 x6 x7 x8 x9 x10)
def Ube (n:Nat):Nat→LP→Int→LP→Bool→Bool→LP→Bool→LP→Bool→LP→Int→(LP→Bool→LP→Bool→LP→Int→LP→Bool→LP→Bool→LP→O R)→(Bool→Bool→LP→Bool→LP→Bool→LP→O R)→O R
 | 0,_,_,_,_,_,_,_,_,_,_,_,_,_=>none
 | m + 1,x1,x2,x3,x4,x5,x6,x7,x8,x9,x10,x11,k0,k1=>UdP n (fun x1 x2 x3 x4 x5 x6 x7 x8 x9 x10 x11=>Ube n m x1 x2 x3 x4 x5 x6 x7 x8 x9 x10 x11 k0 k1) x1 x2 x3 x4 x5 x6 x7 x8 x9 x10 x11 k0 k1
def UiN (n:Nat) (l0:LP→Int→LP→Bool→Bool→LP→Bool→LP→Bool→LP→Int→O R) (l1:LP→Int→LP→Bool→Bool→LP→Bool→LP→Bool→LP→Int→O R) (x1:LP) (x2:Int) (x3:LP) (x4 x5:Bool) (x6:LP) (x7:Bool) (x8:LP) (x9:Bool) (x10:LP) (x11:Int) (k0:LP→Bool→LP→Bool→LP→Int→LP→Bool→LP→Bool→LP→O R) (k1:LP→Bool→LP→Bool→LP→Int→LP→Bool→LP→Bool→LP→O R) (k2:Bool→Bool→LP→Bool→LP→Bool→LP→O R) (k3:Bool→Bool→LP→Bool→LP→Bool→LP→O R):O R :=
 bif (decide (x11<((x1).length:Int))) then (bif (inR x11 ((x1).length)) then (Jj3 ((x1).getD ((x11:Int).toNat) (.v (.bool false))) fun e12=>bif (eqS e12 (⟨#[48]⟩:ByteArray)) then (Uup n x1 x2 x3 x4 x5 x6 x7 x8 x9 x10 x11 (fun y13 y14 y15 y16 y17 y18 y19 y20 y21 y22 y23=>l0 y13 y14 y15 y16 y17 y18 y19 y20 y21 y22 y23)) else (bif (inR x11 ((x3).length)) then (Jh2 ((x3).getD ((x11:Int).toNat) (.v (.bool false))) fun a24=>JdT a24 fun h25 t26=>Jkr h25 fun e27=>JdT t26 fun h28 t29=>Jj3 h28 fun e30=>JdT t29 fun h31 t32=>Jj2 h31 fun e33=>JdT t32 fun h34 t35=>Jj .i64 h34 fun e36=>Ji2 t35 (bif (inR x11 ((x3).length)) then (Jh2 ((x3).getD ((x11:Int).toNat) (.v (.bool false))) fun a37=>JdT a37 fun h38 t39=>Jkr h38 fun e40=>JdT t39 fun h41 t42=>Jj3 h41 fun e43=>JdT t42 fun h44 t45=>Jj2 h44 fun e46=>JdT t45 fun h47 t48=>Jj .i64 h47 fun e49=>Ji2 t48 (p46 n e30 e40 (fun y50 y51 y52 y53 y54 y55=>bif (inR x11 ((x1).length)) then (Jj3 ((x1).getD ((x11:Int).toNat) (.v (.bool false))) fun e56=>p69 n e56 (fun y57 y58 y59 y60=>p68 n y50 y51 y52 y53 y54 y57 y58 y59 y60 (fun y61 y62 y63 y64 y65=>p25 n y61 y62 y63 y64 y65 (fun y66 y67 y68=>bif (y68 != 0) then (k0 [] false [] false [] 5 x6 x7 x8 x9 x10) else (p70 n x6 x7 x8 x9 x10 y61 y62 y63 y64 y65 (fun y69 y70 y71 y72 y73=>p25 n y69 y70 y71 y72 y73 (fun y74 y75 y76=>bif (y76 != 0) then (k1 [] false [] false [] 5 y69 y70 y71 y72 y73) else (Ucy n x1 x2 x3 x4 x5 y69 y70 y71 y72 y73 x11 (fun y77 y78 y79 y80 y81 y82 y83 y84 y85 y86 y87=>l1 y77 y78 y79 y80 y81 y82 y83 y84 y85 y86 y87))))))))) else none))) else none)) else none)) else none) else (k3 x4 x5 x6 x7 x8 x9 x10)
def Uef (n:Nat):Nat→LP→Int→LP→Bool→Bool→LP→Bool→LP→Bool→LP→Int→(LP→Bool→LP→Bool→LP→Int→LP→Bool→LP→Bool→LP→O R)→(LP→Bool→LP→Bool→LP→Int→LP→Bool→LP→Bool→LP→O R)→(Bool→Bool→LP→Bool→LP→Bool→LP→O R)→(Bool→Bool→LP→Bool→LP→Bool→LP→O R)→O R
 | 0,_,_,_,_,_,_,_,_,_,_,_,_,_,_,_=>none
 | m + 1,x1,x2,x3,x4,x5,x6,x7,x8,x9,x10,x11,k0,k1,k2,k3=>UiN n (fun x1 x2 x3 x4 x5 x6 x7 x8 x9 x10 x11=>Uef n m x1 x2 x3 x4 x5 x6 x7 x8 x9 x10 x11 k0 k1 k2 k3) (fun x1 x2 x3 x4 x5 x6 x7 x8 x9 x10 x11=>Ube n m x1 x2 x3 x4 x5 x6 x7 x8 x9 x10 x11 k1 k2) x1 x2 x3 x4 x5 x6 x7 x8 x9 x10 x11 k0 k1 k2 k3
def UyP (n:Nat) (x1:LP) (x2:Int) (x3:LP) (x4 x5:Bool) (x6:LP) (x7:Bool) (x8:LP) (x9:Bool) (x10:LP) (x11:Int) (k0:LP→Bool→LP→Bool→LP→Int→LP→Bool→LP→Bool→LP→O R) (k1:LP→Bool→LP→Bool→LP→Int→LP→Bool→LP→Bool→LP→O R) (k2:Bool→Bool→LP→Bool→LP→Bool→LP→O R) (k3:Bool→Bool→LP→Bool→LP→Bool→LP→O R):O R:=Uef n n x1 x2 x3 x4 x5 x6 x7 x8 x9 x10 x11 k0 k1 k2 k3
def Uos (n:Nat) (x1:LP) (x2:Int) (x3:LP) (x4 x5:Bool) (k0:LP→Bool→LP→Bool→LP→Int→O R):O R :=
 bif (((x1).length:Int) != ((x3).length:Int)) then (k0 [] false [] false [] 6) else (p67 n 0 (fun y6 y7 y8 y9 y10=>UyP n x1 x2 x3 x4 x5 y6 y7 y8 y9 y10 0 (fun y11 y12 y13 y14 y15 y16 y17 y18 y19 y20 y21=>k0 y11 y12 y13 y14 y15 y16) (fun y22 y23 y24 y25 y26 y27 y28 y29 y30 y31 y32=>k0 y22 y23 y24 y25 y26 y27) (fun y33 y34 y35 y36 y37 y38 y39=>k0 y35 y36 y37 y38 y39 0) (fun y40 y41 y42 y43 y44 y45 y46=>k0 y42 y43 y44 y45 y46 0)))
def p24 (n:Nat) (x1:Int) (x2 x3:LP) (k0:LP→Bool→LP→Bool→LP→Int→O R):O R :=
 p39 n x1 x2 (fun y4=>bif (y4 != 0) then (k0 [] false [] false [] 3) else (p41 n x3 (fun y5=>bif (bif false then true else (!y5)) then (k0 [] false [] false [] 3) else (Uos n x3 x1 x2 false false (fun y6 y7 y8 y9 y10 y11=>k0 y6 y7 y8 y9 y10 y11)))))
abbrev E24 (n:Nat):Code→Fr→Kc R→O R:=evC Tryz.prog (Urb n) UaP n (89,[])
noncomputable def Uxa:Code:=Jj4 (Jll Tryz.f24) [1,1]
abbrev Uu4:Sl (List SV):=(cH (.c (sBx 24 (cI (cH .n))) (.c (sBx 59 (.c sNl (cB (.c sNl (cB (.c sNl .n)))))) .n)))
abbrev Uyi (n:Nat) (K:Kc R):Uu4.T (O R):=fun x1 x2 x3 x4 x5=>Uos n x1 x2 x3 x4 x5 (fun y1 y2 y3 y4 y5 y6=>xC UaP 3 K .ret [.bx 59 [vH y1,vB y2,vH y3,vB y4,vH y5],vI y6])
noncomputable def Uqo:Code:=Jj4 (Jll Tryz.f24) [1,1,1,1,0,1,0,0,1,1]
abbrev Ume:Sl (List SV):=(cH (.c (sBx 24 (cI (cH .n))) (.c (sBx 59 (.c sNl (cB (.c sNl (cB (.c sNl .n)))))) (.c (sBx 59 (cO 57 (cB (cH (cB (cH .n)))))) (cI .n)))))
abbrev Umf:Sl (List SV):=(cH (.c (sBx 24 (cI (cH .n))) (.c (sBx 59 (.c sNl (cB (.c sNl (cB (.c sNl .n)))))) (.c (sBx 59 (cH (cB (cH (cB (cH .n)))))) (cI .n)))))
abbrev UsV (n:Nat) (K:Kc R):Ume.T (O R):=fun x1 x2 x3 x4 x5 x6 x7 x8 x9 x10 x11=>Uup n x1 x2 x3 x4 x5 x6 x7 x8 x9 x10 x11 (fun y1 y2 y3 y4 y5 y6 y7 y8 y9 y10 y11=>xC UaP 8 K .normal [vH y1,.bx 24 [vI y2,vH y3],.bx 59 [.nl,vB y4,.nl,vB y5,.nl],dD,.bx 59 [.own 57 y6,vB y7,vH y8,vB y9,vH y10],vI y11])
abbrev UsW (n:Nat) (K:Kc R):Umf.T (O R):=fun x1 x2 x3 x4 x5 x6 x7 x8 x9 x10 x11=>Ucy n x1 x2 x3 x4 x5 x6 x7 x8 x9 x10 x11 (fun y1 y2 y3 y4 y5 y6 y7 y8 y9 y10 y11=>xC UaP 8 K .normal [vH y1,.bx 24 [vI y2,vH y3],.bx 59 [.nl,vB y4,.nl,vB y5,.nl],dD,.bx 59 [vH y6,vB y7,vH y8,vB y9,vH y10],vI y11])
noncomputable def Uj2:Code:=Jj4 (Jll Tryz.f24) [1,1,1,1,0,1,0,0]
abbrev UbN:Sl (List SV):=(cH (.c (sBx 24 (cI (cH .n))) (.c (sBx 59 (.c sNl (cB (.c sNl (cB (.c sNl .n)))))) (.c (sBx 59 (cH (cB (cH (cB (cH .n)))))) (cI .n)))))
abbrev Uc7:Sl (List SV):=(cH (.c (sBx 24 (cI (cH .n))) (.c (sBx 59 (.c sNl (cB (.c sNl (cB (.c sNl .n)))))) (.c (sBx 59 (cO 57 (cB (cH (cB (cH .n)))))) (cI .n)))))
abbrev Ugo (n m:Nat) (K:Kc R):UbN.T (O R):=fun x1 x2 x3 x4 x5 x6 x7 x8 x9 x10 x11=>Ube n m x1 x2 x3 x4 x5 x6 x7 x8 x9 x10 x11 (fun y1 y2 y3 y4 y5 y6 y7 y8 y9 y10 y11=>xL UaP 7 K .ret [.bx 59 [vH y1,vB y2,vH y3,vB y4,vH y5],vI y6,.bx 59 [vH y7,vB y8,vH y9,vB y10,vH y11]]) (fun y1 y2 y3 y4 y5 y6 y7=>xL UaP 7 K (.exit 0) [.bx 59 [.nl,vB y1,.nl,vB y2,.nl],dD,.bx 59 [vH y3,vB y4,vH y5,vB y6,vH y7]])
abbrev UAF (n:Nat) (K:Kc R) (l0:UbN.T (O R)):UbN.T (O R):=fun x1 x2 x3 x4 x5 x6 x7 x8 x9 x10 x11=>UdP n l0 x1 x2 x3 x4 x5 x6 x7 x8 x9 x10 x11 (fun y1 y2 y3 y4 y5 y6 y7 y8 y9 y10 y11=>xL UaP 7 K .ret [.bx 59 [vH y1,vB y2,vH y3,vB y4,vH y5],vI y6,.bx 59 [vH y7,vB y8,vH y9,vB y10,vH y11]]) (fun y1 y2 y3 y4 y5 y6 y7=>xL UaP 7 K (.exit 0) [.bx 59 [.nl,vB y1,.nl,vB y2,.nl],dD,.bx 59 [vH y3,vB y4,vH y5,vB y6,vH y7]])
abbrev Uim (n m:Nat) (K:Kc R):Uc7.T (O R):=fun x1 x2 x3 x4 x5 x6 x7 x8 x9 x10 x11=>Uef n m x1 x2 x3 x4 x5 x6 x7 x8 x9 x10 x11 (fun y1 y2 y3 y4 y5 y6 y7 y8 y9 y10 y11=>xL UaP 7 K .ret [.bx 59 [vH y1,vB y2,vH y3,vB y4,vH y5],vI y6,.bx 59 [.own 57 y7,vB y8,vH y9,vB y10,vH y11]]) (fun y1 y2 y3 y4 y5 y6 y7 y8 y9 y10 y11=>xL UaP 7 K .ret [.bx 59 [vH y1,vB y2,vH y3,vB y4,vH y5],vI y6,.bx 59 [vH y7,vB y8,vH y9,vB y10,vH y11]]) (fun y1 y2 y3 y4 y5 y6 y7=>xL UaP 7 K (.exit 0) [.bx 59 [.nl,vB y1,.nl,vB y2,.nl],dD,.bx 59 [vH y3,vB y4,vH y5,vB y6,vH y7]]) (fun y1 y2 y3 y4 y5 y6 y7=>xL UaP 7 K (.exit 0) [.bx 59 [.nl,vB y1,.nl,vB y2,.nl],dD,.bx 59 [.own 57 y3,vB y4,vH y5,vB y6,vH y7]])
abbrev UAG (n:Nat) (K:Kc R) (l0:Uc7.T (O R)) (l1:UbN.T (O R)):Uc7.T (O R):=fun x1 x2 x3 x4 x5 x6 x7 x8 x9 x10 x11=>UiN n l0 l1 x1 x2 x3 x4 x5 x6 x7 x8 x9 x10 x11 (fun y1 y2 y3 y4 y5 y6 y7 y8 y9 y10 y11=>xL UaP 7 K .ret [.bx 59 [vH y1,vB y2,vH y3,vB y4,vH y5],vI y6,.bx 59 [.own 57 y7,vB y8,vH y9,vB y10,vH y11]]) (fun y1 y2 y3 y4 y5 y6 y7 y8 y9 y10 y11=>xL UaP 7 K .ret [.bx 59 [vH y1,vB y2,vH y3,vB y4,vH y5],vI y6,.bx 59 [vH y7,vB y8,vH y9,vB y10,vH y11]]) (fun y1 y2 y3 y4 y5 y6 y7=>xL UaP 7 K (.exit 0) [.bx 59 [.nl,vB y1,.nl,vB y2,.nl],dD,.bx 59 [vH y3,vB y4,vH y5,vB y6,vH y7]]) (fun y1 y2 y3 y4 y5 y6 y7=>xL UaP 7 K (.exit 0) [.bx 59 [.nl,vB y1,.nl,vB y2,.nl],dD,.bx 59 [.own 57 y3,vB y4,vH y5,vB y6,vH y7]])
abbrev UyD (n:Nat):Orc R:=fun i vs K=>JfK (Nat.beq i 7) (Jjg (UbN.ap vs (Ugo n n K)) (Jjg (Uc7.ap vs (Uim n n K)) (JcB UaP 7 (E24 n Uj2) n vs K))) (oN i vs K)
abbrev UxV (n:Nat):Orc R:=fun i vs K=>JfK (Nat.beq i 8) (Jjg (Ume.ap vs (UsV n K)) (Jjg (Umf.ap vs (UsW n K)) (Jki UaP 8 (E24 n Uqo) vs K))) ((oC UaP (E24 n) 3 Uxa Uu4 (Uyi n) oN) i vs K)
abbrev K24 (R:Type) (n:Nat):=JcH (R:=R) Tryz.prog (Urb n) UaP n (89,[]) (UyD n) (UxV n)
theorem UuB (n:Nat):Je6 (K24 R n) (JaJ UaP Uqo):=pO pN (by kernel_rfl)
theorem UHq (n:Nat):K24 R n (true,8,Uqo):=JkW (lo:=UyD n) (cu:=UxV n) (UuB n) Ume (UsV n) (fun K _ _ _ _ _ _ _ _ _ _ _=>by show _=_; kernel_rfl) (JkW (lo:=UyD n) (cu:=UxV n) (UuB n) Umf (UsW n) (fun K _ _ _ _ _ _ _ _ _ _ _=>by show _=_; kernel_rfl) fun _ _=>rfl)
theorem UuC (n:Nat):Je6 (K24 R n) (JaJ UaP Uj2):=pO (pC (UHq n) pN) (by kernel_rfl)
theorem UqM (n:Nat):∀ m (K:Kc R),UbN.all (fun vs r=>JcB UaP 7 (JcU Tryz.prog (Urb n) UaP (89,[]) (UyD n) (UxV n) Uj2) m vs K=r) (Ugo n m K):=JiE (F:=Ugo n) UbN (UAF n) (fun K _ _ _ _ _ _ _ _ _ _ _=>rfl) (fun _ _=>rfl) (fun L K _ _ _ _ _ _ _ _ _ _ _=>by show _=_; kernel_rfl)
theorem UA3 (n:Nat):∀ m (K:Kc R),Uc7.all (fun vs r=>JcB UaP 7 (JcU Tryz.prog (Urb n) UaP (89,[]) (UyD n) (UxV n) Uj2) m vs K=r) (Uim n m K):=Jhw (F1:=Ugo n) (F:=Uim n) Uc7 UbN (UAG n) (fun K _ _ _ _ _ _ _ _ _ _ _=>rfl) (fun _ _=>rfl) (UqM n) (fun L K _ _ _ _ _ _ _ _ _ _ _=>by show _=_; kernel_rfl)
theorem UHr (n:Nat):K24 R n (false,7,Uj2):=JkF (lo:=UyD n) (cu:=UxV n) (UuC n) UbN (Ugo n n) (UqM n n) (JkF (lo:=UyD n) (cu:=UxV n) (UuC n) Uc7 (Uim n n) (UA3 n n) fun _ _=>rfl)
theorem UHp (n:Nat):K24 R n (true,3,Uxa):=JkW (lo:=UyD n) (cu:=UxV n) (pO (pC (UHr n) pN) (by kernel_rfl)) Uu4 (Uyi n) (fun K _ _ _ _ _=>by show _=_; kernel_rfl) fun _ _=>rfl
theorem UR9 (n:Nat):Je6 (K24 R n) (JaJ UaP (Jll Tryz.f24)):=pO (pC (UHp n) pN) (by kernel_rfl)
abbrev t24:Sl (List SV):=(.c (sP (JlI (.c (Jlv .i64) (.c sSh .n)))) (cH .n))
abbrev f24 (n:Nat) (K:List SV→O R):t24.T (O R):=fun x1 x2 x3=>p24 n x1 x2 x3 (fun y1 y2 y3 y4 y5 y6=>K [.p (.agg [.sh y1,.v (.bool y2),.sh y3,.v (.bool y4),.sh y5]),vI y6])
abbrev UNT (n:Nat):FS:=fT [false,false] t24 (f24 n)
theorem URl (n:Nat):FSound Tryz.prog GI 24 (UNT n):=gd UaP n (Urq n) Tryz.func24 (.cons (Urq n) t24 (f24 n) (fun K _ _ _=>(Jkq (c:=Jll Tryz.f24) (by kernel_rfl) (UR9 n) K).trans (by kernel_rfl)) .nil) (by kernel_rfl)
def UzF:Ann:={ loops:=[],cuts:=[],frz:=[],rm:=[.id] }
abbrev UF (n:Nat):Env:=eC 77 (UGt n) eN
theorem Ury (n:Nat):EnvOK Tryz.prog GI (UF n):=.cons (.nil) (UI6 n)
def p34 (n:Nat) (x1:Bool) (x2:LP) (x3:Bool) (x4:LP) (k0:Int→O R):O R :=
 p77 n x1 x2 (fun y5=>bif y5 then (k0 0) else (bif x1 then (k0 (-1)) else (k0 1)))
abbrev UQB (n:Nat):Orc R:=oN
abbrev UPQ (n:Nat):Orc R:=oN
abbrev K34 (R:Type) (n:Nat):=JcH (R:=R) Tryz.prog (UF n) UzF n (9,[]) (UQB n) (UPQ n)
theorem USg (n:Nat):Je6 (K34 R n) (JaJ UzF (Jll Tryz.f34)):=pO pN (by kernel_rfl)
abbrev t34:Sl (List SV):=(.c (sP (JlI (.c Jlf (.c sSh (.c Jlf (.c sSh .n)))))) .n)
abbrev f34 (n:Nat) (K:List SV→O R):t34.T (O R):=fun x1 x2 x3 x4=>p34 n x1 x2 x3 x4 (fun y1=>K [vI y1])
abbrev UIO (n:Nat):FS:=fT [false] t34 (f34 n)
theorem ULj (n:Nat):FSound Tryz.prog GI 34 (UIO n):=gd UzF n (Ury n) Tryz.func34 (.cons (Ury n) t34 (f34 n) (fun K _ _ _ _=>(Jkq (c:=Jll Tryz.f34) (by kernel_rfl) (USg n) K).trans (by kernel_rfl)) .nil) (by kernel_rfl)
end
end Go.Proofs.YtmgfmlhdnadglaaGreatDoor
set_option linter.unusedVariables false
set_option linter.unusedSimpArgs false
namespace Go.Proofs.YtmgfmlhdnadglaaGreatDoor
open Go Th Go.Proofs
variable {R:Type}
theorem UaW {N:Nat} {σ:Type} {Inv:Nat→σ→Prop} (L:Nat→σ→Nat→Option R) {r:Option R} (hend:∀ m s,Inv N s→L (m + 1) s N=r)
 (hstep:∀ m s i,i<N→Inv i s→L (m + 1) s i=r∨∃ s',Inv (i + 1) s'∧L (m + 1) s i=L m s' (i + 1)):∀ (d m i:Nat) (s:σ),d + i=N→d<m→Inv i s→L m s i=r
 | 0,m + 1,i,s,hd,hm,hs=>by
  have:i=N:=by omega
  subst this
  exact hend m s hs
 | d + 1,m + 1,i,s,hd,hm,hs=>by
  rcases hstep m s i (by omega) hs with h | ⟨s',h1,h2⟩
  · exact h
  · rw [h2]; exact UaW L hend hstep d m (i + 1) s' (by omega) (by omega) h1
theorem UtI (n:Nat) (hn:10 ^ 400≤n) (k0:Bool→List PV→Bool→List PV→Option R):p92 n k0=k0 (sg (0:Rat).num) (II (0:Rat).num.natAbs) false (II (0:Rat).den):=by
 have hN:=Ual hn
 have h1:=fun k=>Uwf (R:=R) n 0 (by decide +kernel) hN k
 have e0:Lib.itoa 0=[48]:=by decide +kernel
 have e1:IntKind.i64.wrap (0 + 1)=1:=by decide
 have e2:(sg 0,II (0:Int).natAbs,II 1)=(sg (0:Rat).num,II (0:Rat).num.natAbs,II (0:Rat).den):=rfl
 simp only [Prod.mk.injEq] at e2
 rw [e0] at h1
 unfold p92 ULt
 simp only [Uaf,e1]
 rw [show Je5 0 1 (⟨#[48,49,50,51,52,53,54,55,56,57]⟩:ByteArray).size=true from rfl,Uay]
 have h1':∀ k:Bool→List PV→Option R,UyL n (ByteArray.extract (⟨#[48,49,50,51,52,53,54,55,56,57]⟩:ByteArray) (0:Int).toNat (1:Int).toNat) k=k (sg 0) (II (0:Int).natAbs):=h1
 rw [h1']
 unfold Uwi UyK p77 Uwi
 rw [←Upd,UaC,show ll (0:Int).natAbs=0 from UbB]
 rw [e2.1,e2.2.1,e2.2.2]
 rfl
theorem UIe (l:List Rat) (q:Rat):qs l++[.agg [.v (.bool (sg q.num)),.sh (II q.num.natAbs),.v (.bool false),.sh (II q.den)]]=qs (l++[q]):=UIg l q
theorem UjV (n:Nat) (hn:10 ^ 400≤n) (c:Nat) (hc:c≤2048) (k0:List PV→Bool→List PV→Bool→List PV→Option R) :
 p67 n (c:Int) k0=k0 (qs (List.replicate c 0)) (sg (0:Rat).num) (II (0:Rat).num.natAbs) false (II (0:Rat).den):=by
 have hN:=Ual hn
 have h0:=fun k=>UtI (R:=R) n hn k
 unfold p67 Uy6
 rw [h0]
 refine UaW (R:=R) (N:=c) (Inv:=fun i d=>d=List.replicate i 0)
  (fun m d i=>Uew n m (c:Int) false false (qs d) (sg (0:Rat).num) (II (0:Rat).num.natAbs) false (II (0:Rat).den) (i:Int) (fun y6 y7 y8 y9 y10 y11 y12=>k0 y8 y9 y10 y11 y12))
  (fun m d hd=>?_) (fun m d i hi hd=>?_) c n 0 [] (by omega) (by omega) rfl
 · subst hd
   simp only [Uew,Ui8]
   simp (disch:=(first | omega | (simp only [JlE]; omega))) only [↓JlH,JlF]
 · subst hd
   refine .inr ⟨List.replicate i 0++[0],by rw [List.replicate_succ'],?_⟩
   simp only [Uew,Ui8]
   simp (disch:=(first | omega | (simp only [JlE]; omega))) only [↓JlH,JlF,h0,UaA,List.length_replicate,i1,UIe]
theorem UdX (n:Nat) (hn:10 ^ 400≤n) {q:Rat} (hq:fits q) (k0:Bool→List PV→Bool→List PV→Option R):p69 n (bs (Uae q)) k0=k0 (sg q.num) (II q.num.natAbs) false (II q.den):=by
 unfold p69
 rw [Ujs n hn q hq]; rfl
theorem UtP (n:Nat) (q:Rat) (k0:Bool→Option R):p71 n (sg q.num) (II q.num.natAbs) false (II q.den) k0=k0 (!decide (ll q.num.natAbs≤400∧ll q.den≤400)):=by
 unfold p71 UJb
 rw [UaC,UaC]
 by_cases h1:ll q.num.natAbs≤400
 · have e1:decide (((ll q.num.natAbs:Nat):Int)>400)=false:=by simp; omega
   by_cases h2:ll q.den≤400
   · have e2:decide (((ll q.den:Nat):Int)>400)=false:=by simp; omega
     rw [e1,e2,decide_eq_true ⟨h1,h2⟩]; rfl
   · have e2:decide (((ll q.den:Nat):Int)>400)=true:=by simp; omega
     rw [e1,e2,decide_eq_false (p:=ll q.num.natAbs≤400∧ll q.den≤400) (fun h=>h2 h.2)]; rfl
 · have e1:decide (((ll q.num.natAbs:Nat):Int)>400)=true:=by simp; omega
   rw [e1,decide_eq_false (p:=ll q.num.natAbs≤400∧ll q.den≤400) (fun h=>h1 h.1)]; rfl
theorem Ukd (n:Nat) {q:Rat} (h:fits q) (k0:Bool→Option R):p71 n (sg q.num) (II q.num.natAbs) false (II q.den) k0=k0 false:=by
 rw [UtP,decide_eq_true (UaR.1 h)]; rfl
theorem Ukc (n:Nat) {q:Rat} (h:¬ fits q) (k0:Bool→Option R):p71 n (sg q.num) (II q.num.natAbs) false (II q.den) k0=k0 true:=by
 rw [UtP,decide_eq_false (fun q=>h (UaR.2 q))]; rfl
theorem UoH (n:Nat) (q:Rat) (k0:Bool→Option R):p72 n (sg q.num) (II q.num.natAbs) false (II q.den) k0=k0 (decide (q=0)):=by
 unfold p72 p77
 rw [UaC]
 congr 1
 rw [Bool.eq_iff_iff,beq_iff_eq,decide_eq_true_iff,←Rat.num_eq_zero]
 have:=UcR (a:=q.num.natAbs)
 omega
theorem Ujt (n:Nat) (q:Rat) (k0:Int→Option R):p34 n (sg q.num) (II q.num.natAbs) false (II q.den) k0=k0 (if q=0 then 0 else if q<0 then -1 else 1):=by
 unfold p34 p77
 rw [UaC]
 by_cases h:q=0
 · subst h
   rw [if_pos rfl,show ll (0:Rat).num.natAbs=0 from UbB]; rfl
 · have e:(((ll q.num.natAbs:Nat):Int) == 0)=false:=by
    have:=UcR (a:=q.num.natAbs)
    have h':=fun h0=>h (Rat.num_eq_zero.1 h0)
    have h3:q.num.natAbs≠0:=fun h0=>h' (Int.natAbs_eq_zero.1 h0)
    have h4:ll q.num.natAbs≠0:=fun h0=>h3 (this.1 h0)
    have hh:((ll q.num.natAbs:Nat):Int)≠0:=by omega
    exact beq_eq_false_iff_ne.2 hh
   rw [e,if_neg h]
   have h2:sg q.num=decide (q<0):=by
    unfold sg
    rw [Bool.eq_iff_iff,decide_eq_true_iff,decide_eq_true_iff,←Int.not_le,Rat.num_nonneg,Rat.not_le]
   rw [h2]
   by_cases h3:q<0
   · rw [decide_eq_true h3,if_pos h3]; rfl
   · rw [decide_eq_false h3,if_neg h3]; rfl
def hiC (s:List SpT):Nat:=s.foldl (fun c t=>max c (t.1 + 1)) 0
theorem Ugq:∀ (s:List SpT) (c:Nat),c≤s.foldl (fun c t=>max c (t.1 + 1)) c∧(∀ t∈s,t.1<s.foldl (fun c t=>max c (t.1 + 1)) c)∧∀ b,c≤b→(∀ t∈s,t.1<b)→s.foldl (fun c t=>max c (t.1 + 1)) c≤b
 | [],c=>⟨Nat.le_refl _,(by intro t h; cases h),fun b h _=>h⟩
 | t::s,c=>by
  obtain ⟨h1,h2,h3⟩:=Ugq s (max c (t.1 + 1))
  rw [List.foldl_cons]
  refine ⟨by omega,fun x hx=>?_,fun b hb hx=>h3 b ?_ fun y hy=>hx y (List.mem_cons_of_mem _ hy)⟩
  · rcases List.mem_cons.1 hx with rfl | hx
    · omega
    · exact h2 x hx
  · have:=hx t (List.mem_cons_self ..)
    omega
theorem Uoc {s:List SpT}:∀ t∈s,t.1<hiC s:=(Ugq s 0).2.1
theorem Ugr {s:List SpT} {b:Nat} (h:∀ t∈s,t.1<b):hiC s≤b:=(Ugq s 0).2.2 b (Nat.zero_le _) h
theorem UCe (c t:Nat):JkU (c:Int) ((t + 1:Nat):Int)=((max c (t + 1):Nat):Int):=by
 unfold JkU
 split <;> omega
def okC (s:List SpT):Prop:=∀ t∈s,fits t.2∧t.1<2048
noncomputable def UwN (c:Rat) (k0:List PV→Bool→List PV→Bool→List PV→Int→Option R):Option (List Rat)→Option R
 | none=>k0 [] false [] false [] 5
 | some d=>k0 (qs d) (sg c.num) (II c.num.natAbs) false (II c.den) 0
noncomputable def rdD (s:List SpT):Option (List Rat):=Uan rdT (List.replicate (hiC s) 0) s
theorem UIh (n:Nat) (hn:10 ^ 1000≤n) {s:List SpT} (hs:okC s) (hl:s.length<2 ^ 17) (c:Rat) (k0:List PV→Bool→List PV→Bool→List PV→Int→Option R) :
 Uc3 n (tms (vt s)) false false (qs (List.replicate (hiC s) 0)) (sg c.num) (II c.num.natAbs) false (II c.den) 0 (fun y39 y40 y41 y42 y43 y44 y45 y46 y47 y48 y49=>k0 y39 y40 y41 y42 y43 y44) (fun y50 y51 y52 y53 y54 y55 y56=>k0 y52 y53 y54 y55 y56 0)=UwN c k0 (rdD s):=by
 have hN:=Ual (Uat hn)
 have H:=UbL (R:=R) (l:=s) (step:=rdT) (kerr:=k0 [] false [] false [] 5) (kend:=fun d=>k0 (qs d) (sg c.num) (II c.num.natAbs) false (II c.den) 0) (Inv:=fun i d=>d.length=hiC s∧∀ x∈d,fits x)
  (fun m d i=>UcB n m (tms (vt s)) false false (qs d) (sg c.num) (II c.num.natAbs) false (II c.den) (i:Int) (fun y39 y40 y41 y42 y43 y44 y45 y46 y47 y48 y49=>k0 y39 y40 y41 y42 y43 y44) (fun y50 y51 y52 y53 y54 y55 y56=>k0 y52 y53 y54 y55 y56 0))
  (fun m d hd=>by
    simp only [UcB,UfY]
    simp (disch:=(first | omega | (simp only [JlE]; omega))) only [↓JlH,JlF,Ua,Uak])
  (fun d d' i hi hd he=>by
    unfold rdT at he
    split at he
    · rename_i hf
      simp only [Option.some.injEq] at he
      subst he
      refine ⟨by rw [List.length_set]; exact hd.1,fun x hx=>?_⟩
      rcases List.mem_or_eq_of_mem_set hx with h | h
      · exact hd.2 x h
      · rw [h]; exact hf
    · cases he)
  (fun m d i hi hd=>by
    have ht:=hs _ (List.getElem_mem hi)
    have hti:=Uoc _ (List.getElem_mem hi)
    rw [←hd.1] at hti
    have g1:=fun k=>UdX (R:=R) n (Uat hn) ht.1 k
    have hfd:fits (d[(s[i]).1]):=hd.2 _ (List.getElem_mem hti)
    have g2:=fun k=>Uc (R:=R) n hn (d[(s[i]).1]) (s[i]).2 hfd ht.1 k
    have eg:d.getD (s[i]).1 0=d[(s[i]).1]:=by rw [List.getD_eq_getElem?_getD,List.getElem?_eq_getElem hti]; rfl
    have hti':(s[i]).1<(d.set (s[i]).1 (d[(s[i]).1] + (s[i]).2)).length:=by rw [List.length_set]; exact hti
    have hin1:inR ((s[i]).1:Int) d.length=true:=Jku (by omega) (by omega)
    simp only [UcB,UfY,rdT,eg]
    by_cases hf:fits (d[(s[i]).1] + (s[i]).2)
    · have g3:=fun k=>Ukd (R:=R) n hf k
      rw [if_pos hf]
      simp (disch:=(first | omega | (simp only [JlE]; omega))) only [↓JlH,JlF,Ua,Uak,Jji,Uax hi,i1,UaA,hin1,UbW hti,g1,g2,UoB,List.length_set,UbW hti',List.getElem_set_self,g3]
      rfl
    · have g3:=fun k=>Ukc (R:=R) n hf k
      rw [if_neg hf]
      simp (disch:=(first | omega | (simp only [JlE]; omega))) only [↓JlH,JlF,Ua,Uak,Jji,Uax hi,i1,UaA,hin1,UbW hti,g1,g2,UoB,List.length_set,UbW hti',List.getElem_set_self,g3]
      rfl) s.length n 0 (List.replicate (hiC s) 0) (by omega) (by omega) ⟨List.length_replicate ..,fun x hx=>by rw [(List.mem_replicate.1 hx).2]; exact UbV⟩
 rw [List.drop_zero] at H
 unfold Uc3
 refine Eq.trans H ?_
 unfold rdD
 cases Uan rdT (List.replicate (hiC s) 0) s <;> rfl
theorem UIq {l:List TermT} (h1:aQ l=true) (h2:aC l=true):okC (spL l)∧l=vt (spL l):=by
 unfold aQ at h1
 unfold aC at h2
 rw [List.all_eq_true] at h1 h2
 refine ⟨fun t ht=>?_,?_⟩
 · obtain ⟨x,hx,rfl⟩:=List.mem_map.1 ht
   have a:=UjX (h1 x hx)
   have b:=h2 x hx
   unfold inC at b
   simp only [Bool.and_eq_true,decide_eq_true_iff] at b
   exact ⟨a.1,by show x.1.toNat<2048; omega⟩
 · unfold vt spL
   rw [List.map_map]
   conv=>lhs; rw [←List.map_id l]
   refine List.map_congr_left fun x hx=>?_
   have a:=UjX (h1 x hx)
   have b:=h2 x hx
   unfold inC at b
   simp only [Bool.and_eq_true,decide_eq_true_iff] at b
   simp only [Function.comp,id_eq]
   refine Prod.ext ?_ a.2
   show x.1=((x.1.toNat:Nat):Int)
   omega
theorem UlT (l:List TermT):(spL l).length=l.length:=by unfold spL; rw [List.length_map]
noncomputable def Uo7 (l:List TermT) (c:List UInt8) (k0:List PV→Bool→List PV→Bool→List PV→Int→Option R):Option R :=
 if qb c=true then (if aQ l=true then (if aC l=true then UwN (rq c) k0 (rdD (spL l)) else k0 [] false [] false [] 2) else k0 [] false [] false [] 3) else k0 [] false [] false [] 3
theorem UlQ (n:Nat) (hn:10 ^ 1000≤n) (l:List TermT) (c:List UInt8) (hl:smT l) (hc:c.length<2 ^ 17) (k0:List PV→Bool→List PV→Bool→List PV→Int→Option R) :
 p46 n (bs c) (tms l) k0=Uo7 l c k0:=by
 have hN:=Ual (Uat hn)
 have hL:=hl.1
 unfold p46 Uo7
 rw [UcH n (Uat hn) c hc]
 cases hqc:qb c with
 | false=>rfl
 | true =>
  rw [if_pos rfl,Bool.not_true,Uaf]
  have H4:=Uaj (R:=R) (l:=l) (ok:=fun t=>qb t.2) (kbad:=k0 [] false [] false [] 3) (kend:=UiY n (bs c) (tms l) false false 0 0 (fun y16 y17 y18 y19 y20 y21 y22 y23 y24=>k0 y18 y19 y20 y21 y22 y23) (fun y25 y26 y27 y28 y29=>p67 n y29 (fun y30 y31 y32 y33 y34=>p69 n y25 (fun y35 y36 y37 y38=>Uc3 n y26 y27 y28 y30 y35 y36 y37 y38 0 (fun y39 y40 y41 y42 y43 y44 y45 y46 y47 y48 y49=>k0 y39 y40 y41 y42 y43 y44) (fun y50 y51 y52 y53 y54 y55 y56=>k0 y52 y53 y54 y55 y56 0)))))
   (fun m i=>Uep n m (bs c) (tms l) false false (i:Int) (fun y4 y5 y6 y7 y8 y9 y10 y11=>k0 y6 y7 y8 y9 y10 y11) (fun y12 y13 y14 y15=>UiY n y12 y13 y14 y15 0 0 (fun y16 y17 y18 y19 y20 y21 y22 y23 y24=>k0 y18 y19 y20 y21 y22 y23) (fun y25 y26 y27 y28 y29=>p67 n y29 (fun y30 y31 y32 y33 y34=>p69 n y25 (fun y35 y36 y37 y38=>Uc3 n y26 y27 y28 y30 y35 y36 y37 y38 0 (fun y39 y40 y41 y42 y43 y44 y45 y46 y47 y48 y49=>k0 y39 y40 y41 y42 y43 y44) (fun y50 y51 y52 y53 y54 y55 y56=>k0 y52 y53 y54 y55 y56 0))))))
   (fun m=>by simp only [Uep,UiZ]; simp (disch:=(first | omega | (simp only [JlE]; omega))) only [↓JlH,JlF,Ua])
   (fun m i hi=>by
     have hv:=fun k=>UcH (R:=R) n (Uat hn) (l[i]).2 (hl.2 _ (List.getElem_mem hi)) k
     simp only [Uep,UiZ]
     simp (disch:=(first | omega | (simp only [JlE]; omega))) only [↓JlH,JlF,Ua,Jji,Uas hi,i1,hv]
     cases qb (l[i]).2 <;> rfl) l.length n 0 (by omega) (by omega)
  rw [List.drop_zero] at H4
  unfold UyZ
  refine Eq.trans H4 ?_
  cases haq:aQ l with
  | false =>
   have e:(l.all fun t=>qb t.2)=false:=haq
   rw [e]; rfl
  | true =>
   have e:(l.all fun t=>qb t.2)=true:=haq
   rw [e,if_pos rfl,if_pos rfl]
   have H10:=UgI (R:=R) (l:=l) (step:=fun (cc:Nat) (t:TermT) K=>if inC t.1=true then K (max cc (t.1.toNat + 1)) else k0 [] false [] false [] 2)
    (kend:=fun cc=>p67 n (cc:Int) (fun y30 y31 y32 y33 y34=>p69 n (bs c) (fun y35 y36 y37 y38=>Uc3 n (tms l) false false y30 y35 y36 y37 y38 0 (fun y39 y40 y41 y42 y43 y44 y45 y46 y47 y48 y49=>k0 y39 y40 y41 y42 y43 y44) (fun y50 y51 y52 y53 y54 y55 y56=>k0 y52 y53 y54 y55 y56 0))))
    (fun m cc i=>UcA n m (bs c) (tms l) false false (cc:Int) (i:Int) (fun y16 y17 y18 y19 y20 y21 y22 y23 y24=>k0 y18 y19 y20 y21 y22 y23) (fun y25 y26 y27 y28 y29=>p67 n y29 (fun y30 y31 y32 y33 y34=>p69 n y25 (fun y35 y36 y37 y38=>Uc3 n y26 y27 y28 y30 y35 y36 y37 y38 0 (fun y39 y40 y41 y42 y43 y44 y45 y46 y47 y48 y49=>k0 y39 y40 y41 y42 y43 y44) (fun y50 y51 y52 y53 y54 y55 y56=>k0 y52 y53 y54 y55 y56 0)))))
    (fun m cc=>by simp only [UcA,UfX]; simp (disch:=(first | omega | (simp only [JlE]; omega))) only [↓JlH,JlF,Ua])
    (fun m cc i hi=>by
      simp only [UcA,UfX,inC]
      by_cases h1:(l[i]).1<0
      · have e1:¬ 0≤(l[i]).1:=by omega
        simp (disch:=(first | omega | (simp only [JlE]; omega))) only [↓JlH,JlF,Ua,Jji,Uas hi,i1]
        simp [e1]
      · by_cases h2:(l[i]).1≥2048
        · have e1:¬ (l[i]).1<2048:=by omega
          simp (disch:=(first | omega | (simp only [JlE]; omega))) only [↓JlH,JlF,Ua,Jji,Uas hi,i1] <;> simp [e1]
        · have e1:(l[i]).1<2048:=by omega
          have e2:0≤(l[i]).1:=by omega
          obtain ⟨a,ha⟩:∃ a:Nat,(l[i]).1=(a:Int):=⟨(l[i]).1.toNat,by omega⟩
          rw [ha] at h1 h2 e1 e2
          simp (disch:=(first | omega | (simp only [JlE]; omega))) only [↓JlH,JlF,Ua,Jji,Uas hi,i1,ha,UCe] <;> simp [e1,e2]) l.length n 0 0 (by omega) (by omega)
   rw [List.drop_zero] at H10
   unfold UiY
   refine Eq.trans H10 ?_
   have key:∀ (kend:Nat→Option R) (r:List TermT) (cc:Nat),Uzk (fun (cc:Nat) (t:TermT) K=>if inC t.1=true then K (max cc (t.1.toNat + 1)) else k0 [] false [] false [] 2) kend cc r =
    if aC r=true then kend ((spL r).foldl (fun c t=>max c (t.1 + 1)) cc) else k0 [] false [] false [] 2:=by
    intro kend r
    induction r with
    | nil=>intro cc; rfl
    | cons t r ih =>
     intro cc
     simp only [Uzk,aC,List.all_cons] at ih ⊢
     rcases Bool.eq_false_or_eq_true (inC t.1) with h | h
     · have e9:(inC t.1&&r.all fun t=>inC t.1)=(r.all fun t=>inC t.1):=by rw [h,Bool.true_and]
       simp only [if_pos h,ih,e9]
       rfl
     · simp [h]
   rw [key]
   cases hac:aC l with
   | false=>rfl
   | true =>
    rw [if_pos rfl,if_pos rfl]
    obtain ⟨o1,o2⟩:=UIq haq hac
    have o3:=UjX hqc
    have ez:=UjV (R:=R) n (Uat hn) (hiC (spL l)) (Ugr fun t ht=>(o1 t ht).2)
    have eo:=fun k=>UdX (R:=R) n (Uat hn) o3.1 k
    rw [←o3.2] at eo
    show p67 n ((hiC (spL l):Nat):Int) _=_
    rw [ez]
    simp only [eo]
    have e18:=UIh (R:=R) n hn o1 (by rw [UlT]; exact hL) (rq c) k0
    rw [←o2] at e18
    exact e18
end Go.Proofs.YtmgfmlhdnadglaaGreatDoor
set_option linter.unusedVariables false
set_option maxRecDepth 100000
namespace Go.Proofs.YtmgfmlhdnadglaaGreatDoor
open Go Th Go.Proofs
noncomputable section
variable {R:Type}
def UhZ:Ann:={ loops:=[(2,ids [1,2,5],ids [4])],cuts:=[],frz:=[],rm:=[.id] }
abbrev UBj (n:Nat):Env:=eC 69 (UDN n) (eC 34 (UIO n) eN)
theorem Urx (n:Nat):EnvOK Tryz.prog GI (UBj n):=.cons (.cons (.nil) (ULj n)) (UG2 n)
def UiU (n:Nat) (l0:LP→Int→LP→Int→O R) (x1:LP) (x2:Int) (x3:LP) (x4:Int) (k0:Bool→O R) (k1:O R):O R :=
 bif (decide (x4<((x1).length:Int))) then (bif (inR x4 ((x3).length)) then (Jh2 ((x3).getD ((x4:Int).toNat) (.v (.bool false))) fun a5=>JdT a5 fun h6 t7=>Jkr h6 fun e8=>JdT t7 fun h9 t10=>Jj3 h9 fun e11=>JdT t10 fun h12 t13=>Jj2 h12 fun e14=>JdT t13 fun h15 t16=>Jj .i64 h15 fun e17=>Ji2 t16 (bif (!e14) then (bif (inR x4 ((x1).length)) then (Jj3 ((x1).getD ((x4:Int).toNat) (.v (.bool false))) fun e18=>p69 n e18 (fun y19 y20 y21 y22=>p34 n y19 y20 y21 y22 (fun y23=>bif (bif true then (decide (y23<0)) else false) then (k0 false) else (l0 x1 x2 x3 (IntKind.i64.wrap (x4 + 1)))))) else none) else (l0 x1 x2 x3 (IntKind.i64.wrap (x4 + 1))))) else none) else (k1)
def Uem (n:Nat):Nat→LP→Int→LP→Int→(Bool→O R)→(O R)→O R
 | 0,_,_,_,_,_,_=>none
 | m + 1,x1,x2,x3,x4,k0,k1=>UiU n (fun x1 x2 x3 x4=>Uem n m x1 x2 x3 x4 k0 k1) x1 x2 x3 x4 k0 k1
def UyW (n:Nat) (x1:LP) (x2:Int) (x3:LP) (x4:Int) (k0:Bool→O R) (k1:O R):O R:=Uem n n x1 x2 x3 x4 k0 k1
def p33 (n:Nat) (x1:Int) (x2 x3:LP) (k0:Bool→O R):O R :=
 UyW n x3 x1 x2 0 (fun y4=>k0 y4) (k0 true)
abbrev E33 (n:Nat):Code→Fr→Kc R→O R:=evC Tryz.prog (UBj n) UhZ n (28,[])
noncomputable def Uxj:Code:=Jj4 (Jll Tryz.f33) [1,0,1,0,0]
abbrev Uhq:Sl (List SV):=(cH (.c (sBx 24 (cI (cH .n))) (cI .n)))
abbrev Us6 (n m:Nat) (K:Kc R):Uhq.T (O R):=fun x1 x2 x3 x4=>Uem n m x1 x2 x3 x4 (fun y1=>xL UhZ 2 K .ret [vB y1]) (xL UhZ 2 K (.exit 0) [dD])
abbrev UEg (n:Nat) (K:Kc R) (l0:Uhq.T (O R)):Uhq.T (O R):=fun x1 x2 x3 x4=>UiU n l0 x1 x2 x3 x4 (fun y1=>xL UhZ 2 K .ret [vB y1]) (xL UhZ 2 K (.exit 0) [dD])
abbrev UOz (n:Nat):Orc R:=oL UhZ (E33 n) n 2 Uxj Uhq (Us6 n n) oN
abbrev UNk (n:Nat):Orc R:=oN
abbrev K33 (R:Type) (n:Nat):=JcH (R:=R) Tryz.prog (UBj n) UhZ n (28,[]) (UOz n) (UNk n)
theorem UHC (n:Nat):K33 R n (false,2,Uxj):=JkF (lo:=UOz n) (cu:=UNk n) (pO pN (by kernel_rfl)) Uhq (Us6 n n) (JiE (F:=Us6 n) Uhq (UEg n) (fun K _ _ _ _=>rfl) (fun _ _=>rfl) (fun L K _ _ _ _=>by show _=_; kernel_rfl) n) fun _ _=>rfl
theorem USf (n:Nat):Je6 (K33 R n) (JaJ UhZ (Jll Tryz.f33)):=pO (pC (UHC n) pN) (by kernel_rfl)
abbrev t33:Sl (List SV):=(.c (sP (JlI (.c (Jlv .i64) (.c sSh .n)))) (cH .n))
abbrev f33 (n:Nat) (K:List SV→O R):t33.T (O R):=fun x1 x2 x3=>p33 n x1 x2 x3 (fun y1=>K [vB y1])
abbrev UNY (n:Nat):FS:=fT [false,false] t33 (f33 n)
theorem URq (n:Nat):FSound Tryz.prog GI 33 (UNY n):=gd UhZ n (Urx n) Tryz.func33 (.cons (Urx n) t33 (f33 n) (fun K _ _ _=>(Jkq (c:=Jll Tryz.f33) (by kernel_rfl) (USf n) K).trans (by kernel_rfl)) .nil) (by kernel_rfl)
abbrev t13:Sl (List SV):=(.c (sP (JlI (.c (Jlv .i64) (.c sSh .n)))) (cH .n))
end
end Go.Proofs.YtmgfmlhdnadglaaGreatDoor
set_option linter.unusedVariables false
set_option linter.unusedSimpArgs false
namespace Go.Proofs.YtmgfmlhdnadglaaGreatDoor
open Go Th Go.Proofs
variable {R:Type}
theorem Uit {d:List Rat} {i:Nat} (h:i<d.length):d.getD i 0=d[i]:=by rw [List.getD_eq_getElem?_getD,List.getElem?_eq_getElem h]; rfl
theorem Uv4 {d:List Rat} {i:Nat} (h:d.length≤i):d.getD i 0=0:=by rw [List.getD_eq_getElem?_getD,List.getElem?_eq_none h]; rfl
theorem UnM {a b:List Rat} (h:a.length=b.length) (hi:∀ i,i<a.length→a.getD i 0=b.getD i 0):a=b:=by
 refine List.ext_getElem h fun i h1 h2=>?_
 have:=hi i h1
 rwa [Uit h1,Uit h2] at this
theorem Uid (n:Nat) (hn:10 ^ 400≤n) (d:List Rat) (i:Nat) (x2:Bool) (x3:List PV) (x4:Bool) (x5:List PV) (k0:Bool→List PV→Bool→List PV→Option R) :
 p47 n (qs d) x2 x3 x4 x5 (i:Int) k0=k0 (sg (d.getD i 0).num) (II (d.getD i 0).num.natAbs) false (II (d.getD i 0).den):=by
 have h0:=fun k=>UtI (R:=R) n hn k
 unfold p47
 by_cases hi:i<d.length
 · rw [Uit hi]
   simp (disch:=(first | omega | (simp only [JlE]; omega))) only [↓JlH,JlF,UaA,Jji,UbW hi]
 · rw [Uv4 (by omega)]
   simp (disch:=(first | omega | (simp only [JlE]; omega))) only [↓JlH,JlF,UaA,h0]
theorem UuY (n:Nat) (hn:10 ^ 1000≤n) {d:DnR} (hd:UaJ d) (hl:d.1.length≤2048) {q:Rat} (hq:fits q) (k0:List PV→Bool→List PV→Bool→List PV→Option R) :
 p68 n (qs d.1) (sg d.2.num) (II d.2.num.natAbs) false (II d.2.den) (sg q.num) (II q.num.natAbs) false (II q.den) k0 =
  k0 (qs (scD q d).1) (sg (scD q d).2.num) (II (scD q d).2.num.natAbs) false (II (scD q d).2.den):=by
 have hN:=Ual (Uat hn)
 have ez:=UjV (R:=R) n (Uat hn) d.1.length hl
 unfold p68
 rw [UaA,ez]
 unfold Uy7
 refine UaW (R:=R) (N:=d.1.length) (Inv:=fun i e=>e.length=d.1.length∧∀ j,j<i→e.getD j 0=d.1.getD j 0 * q)
  (fun m e i=>Uex n m (qs d.1) (sg d.2.num) (II d.2.num.natAbs) false (II d.2.den) (sg q.num) (II q.num.natAbs) false (II q.den) false false (qs e) (sg (0:Rat).num) (II (0:Rat).num.natAbs) false (II (0:Rat).den) (i:Int)
    (fun y15 y16 y17 y18 y19 y20 y21 y22 y23 y24 y25 y26 y27 y28 y29 y30=>UyH n y16 y17 y18 y19 y20 y21 y22 y23 (fun y31 y32 y33 y34=>k0 y26 y31 y32 y33 y34)))
  (fun m e he=>?_) (fun m e i hi he=>?_) d.1.length n 0 (List.replicate d.1.length 0) (by omega) (by omega) ⟨List.length_replicate ..,fun j hj=>by omega⟩
 · have ee:e=(scD q d).1:=UnM (by show _=(d.1.map _).length; rw [List.length_map]; exact he.1) fun j hj=>by rw [Uf5]; exact he.2 j (by rw [←he.1]; exact hj)
   have g1:=fun k=>UdW (R:=R) n hn d.2 q hd.2 hq k
   have hel:=he.1
   simp only [Uex,Ui9]
   simp (disch:=(first | omega | (simp only [JlE]; omega))) only [↓JlH,JlF,UaA,g1]
   rw [ee]; rfl
 · have hfd:fits (d.1[i]):=hd.1 _ (List.getElem_mem hi)
   have g1:=fun k=>UdW (R:=R) n hn (d.1[i]) q hfd hq k
   have hel:=he.1
   have hie:i<e.length:=by omega
   refine .inr ⟨e.set i (d.1[i] * q),⟨by rw [List.length_set]; exact hel,fun j hj=>?_⟩,?_⟩
   · rw [Uiu _ _ _ _ hie]
     by_cases h:i=j
     · subst h; rw [if_pos rfl,Uit hi]
     · rw [if_neg h]; exact he.2 j (by omega)
   · simp only [Uex,Ui9]
     simp (disch:=(first | omega | (simp only [JlE]; omega))) only [↓JlH,JlF,UaA,Jji,UbW hi,UbW hie,i1,g1,UoB]
theorem Uzv (n:Nat) (hn:10 ^ 1000≤n) {a b:DnR} (ha:UaJ a) (hb:UaJ b) (hl:a.1.length≤2048) (hl':b.1.length≤2048) (k0:List PV→Bool→List PV→Bool→List PV→Option R) :
 p70 n (qs a.1) (sg a.2.num) (II a.2.num.natAbs) false (II a.2.den) (qs b.1) (sg b.2.num) (II b.2.num.natAbs) false (II b.2.den) k0 =
  k0 (qs (adD a b).1) (sg (adD a b).2.num) (II (adD a b).2.num.natAbs) false (II (adD a b).2.den):=by
 have hN:=Ual (Uat hn)
 have ez:=UjV (R:=R) n (Uat hn) (max a.1.length b.1.length) (by omega)
 have em:JkU (a.1.length:Int) (b.1.length:Int)=((max a.1.length b.1.length:Nat):Int):=by unfold JkU; split <;> omega
 have hal:(adD a b).1.length=max a.1.length b.1.length:=by show ((List.range _).map _).length=_; rw [List.length_map,List.length_range]
 unfold p70
 simp only [UaA,em,ez]
 unfold Uy8
 refine UaW (R:=R) (N:=max a.1.length b.1.length) (Inv:=fun i e=>e.length=max a.1.length b.1.length∧∀ j,j<i→e.getD j 0=a.1.getD j 0 + b.1.getD j 0)
  (fun m e i=>Uey n m (qs a.1) (sg a.2.num) (II a.2.num.natAbs) false (II a.2.den) (qs b.1) (sg b.2.num) (II b.2.num.natAbs) false (II b.2.den) false false (qs e) (sg (0:Rat).num) (II (0:Rat).num.natAbs) false (II (0:Rat).den) (i:Int) _)
  (fun m e he=>?_) (fun m e i hi he=>?_) (max a.1.length b.1.length) n 0 (List.replicate (max a.1.length b.1.length) 0) (by omega) (by omega) ⟨List.length_replicate ..,fun j hj=>by omega⟩
 · have ee:e=(adD a b).1:=UnM (by rw [hal]; exact he.1) fun j hj=>by rw [UhS]; exact he.2 j (by rw [←he.1]; exact hj)
   have g1:=fun k=>Uc (R:=R) n hn a.2 b.2 ha.2 hb.2 k
   have hel:=he.1
   simp only [Uey,Uj]
   simp (disch:=(first | omega | (simp only [JlE]; omega))) only [↓JlH,JlF,UaA,g1]
   rw [ee]; rfl
 · have hfa:fits (a.1.getD i 0):=(UaF.1 ha).1 i
   have hfb:fits (b.1.getD i 0):=(UaF.1 hb).1 i
   have g1:=fun k=>Uc (R:=R) n hn (a.1.getD i 0) (b.1.getD i 0) hfa hfb k
   have g2:=fun x2 x3 x4 x5 k=>Uid (R:=R) n (Uat hn) a.1 i x2 x3 x4 x5 k
   have g3:=fun x2 x3 x4 x5 k=>Uid (R:=R) n (Uat hn) b.1 i x2 x3 x4 x5 k
   have hel:=he.1
   have hie:i<e.length:=by omega
   refine .inr ⟨e.set i (a.1.getD i 0 + b.1.getD i 0),⟨by rw [List.length_set]; exact hel,fun j hj=>?_⟩,?_⟩
   · rw [Uiu _ _ _ _ hie]
     by_cases h:i=j
     · subst h; rw [if_pos rfl]
     · rw [if_neg h]; exact he.2 j (by omega)
   · simp only [Uey,Uj]
     simp (disch:=(first | omega | (simp only [JlE]; omega))) only [↓JlH,JlF,UaA,Jji,g2,g3,UbW hie,i1,g1,UoB]
theorem Ums:∀ (a b:List Rat) (k:Nat),wrD k (a++b)=wrD k a++wrD (k + a.length) b
 | [],b,k=>rfl
 | x::a,b,k=>by
  rw [List.cons_append,wrD,wrD,Ums a b (k + 1),List.length_cons,show k + 1 + a.length=k + (a.length + 1) from by omega]
  split <;> rfl
theorem Uvs:∀ (a:List Rat) (k:Nat),(wrD k a).length≤a.length
 | [],k=>Nat.le_refl _
 | x::a,k=>by
  have:=Uvs a (k + 1)
  rw [wrD]
  split <;> simp <;> omega
theorem UgJ {d:List Rat} {i:Nat} (h:i<d.length):d.take (i + 1)=d.take i++[d[i]]:=by rw [List.take_succ_eq_append_getElem h]
open Classical in
noncomputable def Uvr (k0:List PV→ByteArray→Int→Option R) (d:DnR):Option R:=if UaJ d then k0 (tms (vt (wrD 0 d.1))) (bs (Uae d.2)) 0 else k0 [] (bs []) 5
theorem UoO (n:Nat) (hn:10 ^ 400≤n) (d:DnR) (hl:d.1.length≤2048) (k0:List PV→ByteArray→Int→Option R) :
 p25 n (qs d.1) (sg d.2.num) (II d.2.num.natAbs) false (II d.2.den) k0=Uvr k0 d:=by
 have hN:=Ual hn
 have txt:∀ {q:Rat},fits q→∀ k:ByteArray→Option R,p73 n (sg q.num) (II q.num.natAbs) false (II q.den) k=k (bs (Uae q)):=fun {q} hq k=>by
  obtain ⟨h1,h2⟩:=UaR.1 hq
  exact Ukp n q (by omega) (by omega) hN k
 unfold p25 UyQ
 refine UaW (R:=R) (N:=d.1.length) (Inv:=fun i (acc:List SpT)=>acc=wrD 0 (d.1.take i)∧∀ x∈d.1.take i,fits x)
  (fun m acc i=>Ub9 n m (qs d.1) (sg d.2.num) (II d.2.num.natAbs) false (II d.2.den) (tms (vt acc)) (i:Int) (fun y6 y7 y8 y9 y10 y11 y12 y13=>k0 [] y11 y12) (fun y14 y15 y16 y17 y18 y19=>p71 n y15 y16 y17 y18 (fun y20=>bif y20 then (k0 [] ⟨#[]⟩ 5) else (p73 n y15 y16 y17 y18 (fun y21=>k0 y19 y21 0)))))
  (fun m acc ha=>?_) (fun m acc i hi ha=>?_) d.1.length n 0 [] (by omega) (by omega) ⟨rfl,fun x hx=>by cases hx⟩
 · obtain ⟨h1,h2⟩:=ha
   rw [List.take_length] at h1 h2
   subst h1
   simp only [Ub9,Ueg]
   unfold Uvr
   by_cases hf:fits d.2
   · have g1:=fun k=>Ukd (R:=R) n hf k
     have g2:=fun k=>txt hf k
     rw [if_pos ⟨h2,hf⟩]
     simp (disch:=(first | omega | (simp only [JlE]; omega))) only [↓JlH,JlF,UaA,g1,g2]
   · have g1:=fun k=>Ukc (R:=R) n hf k
     rw [if_neg (fun h=>hf h.2)]
     simp (disch:=(first | omega | (simp only [JlE]; omega))) only [↓JlH,JlF,UaA,g1]
 · obtain ⟨h1,h2⟩:=ha
   have hal:acc.length≤i:=by
    rw [h1]
    refine Nat.le_trans (Uvs _ _) ?_
    rw [List.length_take]; omega
   by_cases hf:fits (d.1[i])
   · have g1:=fun k=>Ukd (R:=R) n hf k
     have g2:=fun k=>txt hf k
     have g3:=fun k=>UoH (R:=R) n (d.1[i]) k
     have h3:∀ x∈d.1.take (i + 1),fits x:=fun x hx=>by
      rw [UgJ hi] at hx
      rcases List.mem_append.1 hx with hx | hx
      · exact h2 x hx
      · rw [List.mem_singleton.1 hx]; exact hf
     have htl:(d.1.take i).length=i:=by rw [List.length_take]; omega
     by_cases hz:d.1[i]=0
     · have e3:decide (d.1[i]=0)=true:=decide_eq_true hz
       refine .inr ⟨acc,⟨?_,h3⟩,?_⟩
       · rw [UgJ hi,Ums,htl,←h1,Nat.zero_add]
         show acc=acc++wrD i [d.1[i]]
         rw [wrD,if_pos hz]
         show acc=acc++[]
         rw [List.append_nil]
       · simp only [Ub9,Ueg,Ug6]
         simp (disch:=(first | omega | (simp only [JlE]; omega))) only [↓JlH,JlF,UaA,Jji,UbW hi,g1,g3,e3,i1]
     · have e3:decide (d.1[i]=0)=false:=decide_eq_false hz
       refine .inr ⟨acc++[(i,d.1[i])],⟨?_,h3⟩,?_⟩
       · rw [UgJ hi,Ums,htl,←h1,Nat.zero_add]
         show _=acc++wrD i [d.1[i]]
         rw [wrD,if_neg hz]; rfl
       · simp only [Ub9,Ueg,Ug6]
         simp (disch:=(first | omega | (simp only [JlE]; omega))) only [↓JlH,JlF,UaA,Jji,UbW hi,g1,g3,e3,g2,Ua,Uak,UdY,i1]
   · have g1:=fun k=>Ukc (R:=R) n hf k
     refine .inl ?_
     unfold Uvr
     rw [if_neg (fun h=>hf (h.1 _ (List.getElem_mem hi)))]
     simp only [Ub9,Ueg,Ug6]
     simp (disch:=(first | omega | (simp only [JlE]; omega))) only [↓JlH,JlF,UaA,Jji,UbW hi,g1]
noncomputable def dnR (r:RowT):DnR:=((rdD (spL r.tm)).getD [],rq r.c)
theorem UuL {cols:Int} {s:List SpT} (h:okS cols s):∃ d,rdD s=some d∧d.length=hiC s∧∀ i,d.getD i 0=cf s i:=by
 have hz:∀ i,(List.replicate (hiC s) (0:Rat)).getD i 0=0:=fun i=>by
  rw [List.getD_eq_getElem?_getD]
  by_cases hi:i<(List.replicate (hiC s) (0:Rat)).length
  · rw [List.getElem?_eq_getElem hi,List.getElem_replicate]; rfl
  · rw [List.getElem?_eq_none (by omega)]; rfl
 obtain ⟨d,e1,e2⟩:=UIj (d:=List.replicate (hiC s) 0) h.1 h.2 (fun i _=>hz i) (fun t ht=>by rw [List.length_replicate]; exact Uoc t ht)
 refine ⟨d,e1,(UIi e1).trans (List.length_replicate ..),fun i=>?_⟩
 rw [e2 i,hz i,Rat.zero_add]
theorem Ugn {cols:Int} (hc:cols≤2048) {r:RowT} (h:okR cols r=true):rdD (spL r.tm)=some (dnR r).1∧(dnR r).1.length≤2048∧same (spR r) (dnR r)∧UaJ (dnR r):=by
 obtain ⟨o1,o2,o3⟩:=Ub4 h
 obtain ⟨d,e1,e2,e3⟩:=UuL (s:=spL r.tm) o1.1
 have ed:(dnR r).1=d:=by show (rdD (spL r.tm)).getD []=d; rw [e1]; rfl
 have hs:same (spR r) (dnR r):=⟨rfl,fun i=>by rw [ed]; exact e3 i⟩
 refine ⟨by rw [ed]; exact e1,?_,hs,UaF.2 ⟨fun i=>?_,o1.2⟩⟩
 · rw [ed,e2]
   refine Ugr fun t ht=>?_
   have:=(o1.1.2 t ht).2.2
   omega
 · rw [hs.2 i]; exact Ud5 o1.1.2 i
theorem Ujr (n:Nat) (hn:10 ^ 1000≤n) {cols:Int} (hc:cols≤2048) {r:RowT} (h:okR cols r=true) (k0:List PV→Bool→List PV→Bool→List PV→Int→Option R) :
 p46 n (bs r.c) (tms r.tm) k0=k0 (qs (dnR r).1) (sg (dnR r).2.num) (II (dnR r).2.num.natAbs) false (II (dnR r).2.den) 0:=by
 obtain ⟨o1,o2,o3⟩:=Ub4 h
 obtain ⟨e1,_⟩:=Ugn hc h
 have h':=h
 unfold okR at h'
 rw [Bool.and_eq_true] at h'
 have o1':=Ucg hc o1
 have hl:=UaZ o1'.1
 have a2:okT 2048 (-1) r.tm=true:=by rw [o2]; exact Ukg o1'.1.1 o1'.1.2
 obtain ⟨b1,b2,b3⟩:=(Ub5 (by omega)).1 a2
 have e:(Uo7 r.tm r.c k0:Option R)=UwN (rq r.c) k0 (rdD (spL r.tm)):=by
  unfold Uo7
  rw [if_pos h'.2,if_pos b1,if_pos b2]
 rw [UlQ n hn r.tm r.c (by rw [o2]; exact UDB o1'.1.2 (Nat.lt_of_le_of_lt hl (by decide))) (by rw [o3]; exact UgH o1.2),e,e1]; rfl
noncomputable def zsD (rows:List RowT) (mult:List (List UInt8)):List (DnR × Rat):=(rows.zip mult).map fun x=>(dnR x.1,rq x.2)
noncomputable def UDG (k0:List PV→Bool→List PV→Bool→List PV→Int→Option R):Option DnR→Option R
 | none=>k0 [] false [] false [] 5
 | some d=>k0 (qs d.1) (sg d.2.num) (II d.2.num.natAbs) false (II d.2.den) 0
theorem Uph {a b:DnR}:(adD a b).1.length=max a.1.length b.1.length:=by show ((List.range _).map _).length=_; rw [List.length_map,List.length_range]
theorem Uju {q:Rat} {d:DnR}:(scD q d).1.length=d.1.length:=by show (d.1.map _).length=_; rw [List.length_map]
theorem Ujv {q:Rat} {r s x:DnR} (hr:r.1.length≤2048) (hs:s.1.length≤2048∧UaJ s) (he:Ubg q r s=some x):x.1.length≤2048∧UaJ x:=by
 unfold Ubg at he
 split at he
 · simp only [Option.some.injEq] at he; rwa [←he]
 · split at he
   · split at he
     · rename_i h3
       simp only [Option.some.injEq] at he
       subst he
       refine ⟨?_,h3⟩
       rw [Uph,Uju]; omega
     · cases he
   · cases he
theorem Ud7:∀ (l:List (DnR × Rat)) (s:DnR),Ufn l s=Uan (fun s x=>Ubg x.2 x.1 s) s l
 | [],s=>rfl
 | x::l,s=>by
  rw [Ufn,Uan]
  congr 1
  funext s'
  exact Ud7 l s'
end Go.Proofs.YtmgfmlhdnadglaaGreatDoor
set_option linter.unusedVariables false
set_option maxRecDepth 100000
namespace Go.Proofs.YtmgfmlhdnadglaaGreatDoor
open Go Th Go.Proofs
noncomputable section
variable {R:Type}
def Uh8:Ann:={ loops:=[(3,[(0,.id),(4,.own 57),(5,.id)],ids [2,3,4])],cuts:=[],frz:=[],rm:=[.sh,.id] }
abbrev UBF (n:Nat):Env:=eC 109 (Uv3 n) eN
theorem Usk (n:Nat):EnvOK Tryz.prog GI (UBF n):=.cons (.nil) (UCg n)
def Ujg (n:Nat) (l0:LP→LP→Int→O R) (x1 x2:LP) (x3:Int) (k0:Bool→LP→O R) (k1:LP→O R):O R :=
 bif (decide (x3<((x1).length:Int))) then (bif (inR x3 ((x1).length)) then (Jj3 ((x1).getD ((x3:Int).toNat) (.v (.bool false))) fun e4=>Uvv n e4 (fun y5 y6 y7 y8 y9=>bif (!y9) then (k0 false x2) else (bif (Jbu ((x2).length + 1) 64) then (l0 x1 (x2++([.agg [.v (.bool y5),.sh y6,.v (.bool y7),.sh y8]]:LP)) (IntKind.i64.wrap (x3 + 1))) else none))) else none) else (k1 x2)
def UeD (n:Nat):Nat→LP→LP→Int→(Bool→LP→O R)→(LP→O R)→O R
 | 0,_,_,_,_,_=>none
 | m + 1,x1,x2,x3,k0,k1=>Ujg n (fun x1 x2 x3=>UeD n m x1 x2 x3 k0 k1) x1 x2 x3 k0 k1
def Uzd (n:Nat) (x1 x2:LP) (x3:Int) (k0:Bool→LP→O R) (k1:LP→O R):O R:=UeD n n x1 x2 x3 k0 k1
def p86 (n:Nat) (x1:LP) (k0:LP→Bool→O R):O R :=
 Uzd n x1 [] 0 (fun y2 y3=>k0 [] y2) (fun y4=>k0 y4 true)
abbrev E86 (n:Nat):Code→Fr→Kc R→O R:=evC Tryz.prog (UBF n) Uh8 n (29,[])
noncomputable def UxJ:Code:=Jj4 (Jll Tryz.f86) [1,1,0,1,0,0]
abbrev UhK:Sl (List SV):=(cH (cO 57 (cI .n)))
abbrev Utv (n m:Nat) (K:Kc R):UhK.T (O R):=fun x1 x2 x3=>UeD n m x1 x2 x3 (fun y1 y2=>xL Uh8 3 K .ret [.nl,vB y1,.own 57 y2]) (fun y1=>xL Uh8 3 K (.exit 0) [dD,dD,.own 57 y1])
abbrev UEA (n:Nat) (K:Kc R) (l0:UhK.T (O R)):UhK.T (O R):=fun x1 x2 x3=>Ujg n l0 x1 x2 x3 (fun y1 y2=>xL Uh8 3 K .ret [.nl,vB y1,.own 57 y2]) (fun y1=>xL Uh8 3 K (.exit 0) [dD,dD,.own 57 y1])
abbrev UOM (n:Nat):Orc R:=oL Uh8 (E86 n) n 3 UxJ UhK (Utv n n) oN
abbrev UNx (n:Nat):Orc R:=oN
abbrev K86 (R:Type) (n:Nat):=JcH (R:=R) Tryz.prog (UBF n) Uh8 n (29,[]) (UOM n) (UNx n)
theorem UH3 (n:Nat):K86 R n (false,3,UxJ):=JkF (lo:=UOM n) (cu:=UNx n) (pO pN (by kernel_rfl)) UhK (Utv n n) (JiE (F:=Utv n) UhK (UEA n) (fun K _ _ _=>rfl) (fun _ _=>rfl) (fun L K _ _ _=>by show _=_; kernel_rfl) n) fun _ _=>rfl
theorem US3 (n:Nat):Je6 (K86 R n) (JaJ Uh8 (Jll Tryz.f86)):=pO (pC (UH3 n) pN) (by kernel_rfl)
abbrev t86:Sl (List SV):=(cH .n)
abbrev f86 (n:Nat) (K:List SV→O R):t86.T (O R):=fun x1=>p86 n x1 (fun y1 y2=>K [vH y1,vB y2])
abbrev UKc (n:Nat):FS:=fT [false] t86 (f86 n)
theorem UO4 (n:Nat):FSound Tryz.prog GI 86 (UKc n):=gd Uh8 n (Usk n) Tryz.func86 (.cons (Usk n) t86 (f86 n) (fun K _=>(Jkq (c:=Jll Tryz.f86) (by kernel_rfl) (US3 n) K).trans (by kernel_rfl)) .nil) (by kernel_rfl)
def Udp:Ann:={ loops:=[(3,ids [1,2,4,6,7],ids [4,5,6])],cuts:=[(4,ids [1,2,4,6,7],ids [1,2,4,5,6,7]),(5,ids [1,2,4,6,7],ids [1,2,4,5,6,7])],frz:=[],rm:=[.id,.id] }
abbrev UBG (n:Nat):Env:=eC 108 (Uv2 n) (eC 91 (UGw n) (eC 72 (UJ9 n) (eC 71 (UIT n) eN)))
theorem Usl (n:Nat):EnvOK Tryz.prog GI (UBG n):=.cons (.cons (.cons (.cons (.nil) (ULo n)) (UO0 n)) (UI9 n)) (UCf n)
def Uox (n:Nat) (x1 x2:LP) (x3:Bool) (x4:LP) (x5:Bool) (x6:LP) (x7 x8 x9:Bool) (x10:LP) (x11:Bool) (x12:LP) (x13:Int) (k0:LP→LP→Bool→LP→Bool→LP→Bool→Bool→Bool→LP→Bool→LP→Int→O R):O R :=
 k0 x1 x2 x3 x4 x5 x6 x7 x8 x9 x10 x11 x12 (IntKind.i64.wrap (x13 + 1))
def Uuz (n:Nat) (x1 x2:LP) (x3:Bool) (x4:LP) (x5:Bool) (x6:LP) (x7 x8 x9:Bool) (x10:LP) (x11:Bool) (x12:LP) (x13:Int) (k0:LP→LP→Bool→LP→Bool→LP→Bool→Bool→Bool→LP→Bool→LP→Int→O R) (k1:LP→LP→Bool→LP→Bool→LP→Bool→LP→Bool→LP→Bool→Bool→LP→Bool→LP→Int→O R):O R :=
 bif (inR x13 ((x2).length)) then (Jh2 ((x2).getD ((x13:Int).toNat) (.v (.bool false))) fun a14=>JdT a14 fun h15 t16=>Jj2 h15 fun e17=>JdT t16 fun h18 t19=>Jkr h18 fun e20=>JdT t19 fun h21 t22=>Jj2 h21 fun e23=>JdT t22 fun h24 t25=>Jkr h24 fun e26=>Ji2 t25 (p72 n e17 e20 e23 e26 (fun y27=>bif y27 then (Uox n x1 x2 x3 x4 x5 x6 x7 x8 x9 x10 x11 x12 x13 (fun y28 y29 y30 y31 y32 y33 y34 y35 y36 y37 y38 y39 y40=>k0 y28 y29 y30 y31 y32 y33 y34 y35 y36 y37 y38 y39 y40)) else (bif (inR x13 ((x2).length)) then (Jh2 ((x2).getD ((x13:Int).toNat) (.v (.bool false))) fun a41=>JdT a41 fun h42 t43=>Jj2 h42 fun e44=>JdT t43 fun h45 t46=>Jkr h45 fun e47=>JdT t46 fun h48 t49=>Jj2 h48 fun e50=>JdT t49 fun h51 t52=>Jkr h51 fun e53=>Ji2 t52 (bif (inR x13 ((x1).length)) then (Jh2 ((x1).getD ((x13:Int).toNat) (.v (.bool false))) fun a54=>JdT a54 fun h55 t56=>Jj2 h55 fun e57=>JdT t56 fun h58 t59=>Jkr h58 fun e60=>JdT t59 fun h61 t62=>Jj2 h61 fun e63=>JdT t62 fun h64 t65=>Jkr h64 fun e66=>Ji2 t65 (UyH n e44 e47 e50 e53 e57 e60 e63 e66 (fun y67 y68 y69 y70=>p91 n x9 x10 x11 x12 y67 y68 y69 y70 (fun y71 y72 y73 y74=>p71 n y67 y68 y69 y70 (fun y75=>bif y75 then (k1 x1 x2 x3 x4 x5 x6 y71 y72 y73 y74 false y71 y72 y73 y74 x13) else (p71 n y71 y72 y73 y74 (fun y76=>bif (bif false then true else y76) then (k1 x1 x2 x3 x4 x5 x6 y71 y72 y73 y74 false y71 y72 y73 y74 x13) else (Uox n x1 x2 x3 x4 x5 x6 x7 x8 y71 y72 y73 y74 x13 (fun y77 y78 y79 y80 y81 y82 y83 y84 y85 y86 y87 y88 y89=>k0 y77 y78 y79 y80 y81 y82 y83 y84 y85 y86 y87 y88 y89))))))))) else none)) else none)))) else none
def Ujh (n:Nat) (l0:LP→LP→Bool→LP→Bool→LP→Bool→Bool→Bool→LP→Bool→LP→Int→O R) (x1 x2:LP) (x3:Bool) (x4:LP) (x5:Bool) (x6:LP) (x7 x8 x9:Bool) (x10:LP) (x11:Bool) (x12:LP) (x13:Int) (k0:Bool→LP→Bool→LP→Bool→Bool→LP→Bool→LP→O R) (k1:Bool→Bool→Bool→LP→Bool→LP→O R):O R :=
 bif (decide (x13<((x2).length:Int))) then (bif (bif true then (decide (x13<((x1).length:Int))) else false) then (Uuz n x1 x2 x3 x4 x5 x6 x7 x8 x9 x10 x11 x12 x13 (fun y14 y15 y16 y17 y18 y19 y20 y21 y22 y23 y24 y25 y26=>l0 y14 y15 y16 y17 y18 y19 y20 y21 y22 y23 y24 y25 y26) (fun y27 y28 y29 y30 y31 y32 y33 y34 y35 y36 y37 y38 y39 y40 y41 y42=>k0 y33 y34 y35 y36 y37 y38 y39 y40 y41)) else (k1 x7 x8 x9 x10 x11 x12)) else (k1 x7 x8 x9 x10 x11 x12)
def UeE (n:Nat):Nat→LP→LP→Bool→LP→Bool→LP→Bool→Bool→Bool→LP→Bool→LP→Int→(Bool→LP→Bool→LP→Bool→Bool→LP→Bool→LP→O R)→(Bool→Bool→Bool→LP→Bool→LP→O R)→O R
 | 0,_,_,_,_,_,_,_,_,_,_,_,_,_,_,_=>none
 | m + 1,x1,x2,x3,x4,x5,x6,x7,x8,x9,x10,x11,x12,x13,k0,k1=>Ujh n (fun x1 x2 x3 x4 x5 x6 x7 x8 x9 x10 x11 x12 x13=>UeE n m x1 x2 x3 x4 x5 x6 x7 x8 x9 x10 x11 x12 x13 k0 k1) x1 x2 x3 x4 x5 x6 x7 x8 x9 x10 x11 x12 x13 k0 k1
def Uze (n:Nat) (x1 x2:LP) (x3:Bool) (x4:LP) (x5:Bool) (x6:LP) (x7 x8 x9:Bool) (x10:LP) (x11:Bool) (x12:LP) (x13:Int) (k0:Bool→LP→Bool→LP→Bool→Bool→LP→Bool→LP→O R) (k1:Bool→Bool→Bool→LP→Bool→LP→O R):O R:=UeE n n x1 x2 x3 x4 x5 x6 x7 x8 x9 x10 x11 x12 x13 k0 k1
def p87 (n:Nat) (x1:LP) (x2:Bool) (x3:LP) (x4:Bool) (x5 x6:LP) (k0:Bool→LP→Bool→LP→Bool→O R):O R :=
 Uze n x6 x1 x2 x3 x4 x5 false false x2 x3 x4 x5 0 (fun y7 y8 y9 y10 y11 y12 y13 y14 y15=>k0 y7 y8 y9 y10 y11) (fun y16 y17 y18 y19 y20 y21=>k0 y18 y19 y20 y21 true)
abbrev E87 (n:Nat):Code→Fr→Kc R→O R:=evC Tryz.prog (UBG n) Udp n (51,[])
noncomputable def UxK:Code:=Jj4 (Jll Tryz.f87) [1,1,0,1,0,0,1,1]
abbrev Uvc:Sl (List SV):=(cH (.c (sBx 59 (cH (cB (cH (cB (cH .n)))))) (.c (sBx 57 (cB (.c sNl (cB (.c sNl .n))))) (.c (sBx 57 (cB (cH (cB (cH .n))))) (cI .n)))))
abbrev Uyr (n:Nat) (K:Kc R):Uvc.T (O R):=fun x1 x2 x3 x4 x5 x6 x7 x8 x9 x10 x11 x12 x13=>Uox n x1 x2 x3 x4 x5 x6 x7 x8 x9 x10 x11 x12 x13 (fun y1 y2 y3 y4 y5 y6 y7 y8 y9 y10 y11 y12 y13=>xC Udp 4 K .normal [vH y1,.bx 59 [vH y2,vB y3,vH y4,vB y5,vH y6],.bx 57 [vB y7,.nl,vB y8,.nl],dD,.bx 57 [vB y9,vH y10,vB y11,vH y12],vI y13])
noncomputable def UxL:Code:=Jj4 (Jll Tryz.f87) [1,1,0,1,0,0,1]
abbrev Uvd:Sl (List SV):=(cH (.c (sBx 59 (cH (cB (cH (cB (cH .n)))))) (.c (sBx 57 (cB (.c sNl (cB (.c sNl .n))))) (.c (sBx 57 (cB (cH (cB (cH .n))))) (cI .n)))))
abbrev Uys (n:Nat) (K:Kc R):Uvd.T (O R):=fun x1 x2 x3 x4 x5 x6 x7 x8 x9 x10 x11 x12 x13=>Uuz n x1 x2 x3 x4 x5 x6 x7 x8 x9 x10 x11 x12 x13 (fun y1 y2 y3 y4 y5 y6 y7 y8 y9 y10 y11 y12 y13=>xC Udp 5 K .normal [vH y1,.bx 59 [vH y2,vB y3,vH y4,vB y5,vH y6],.bx 57 [vB y7,.nl,vB y8,.nl],dD,.bx 57 [vB y9,vH y10,vB y11,vH y12],vI y13]) (fun y1 y2 y3 y4 y5 y6 y7 y8 y9 y10 y11 y12 y13 y14 y15 y16=>xC Udp 5 K .ret [vH y1,.bx 59 [vH y2,vB y3,vH y4,vB y5,vH y6],.bx 57 [vB y7,vH y8,vB y9,vH y10],vB y11,.bx 57 [vB y12,vH y13,vB y14,vH y15],vI y16])
noncomputable def UxM:Code:=Jj4 (Jll Tryz.f87) [1,1,0,1,0,0]
abbrev UhL:Sl (List SV):=(cH (.c (sBx 59 (cH (cB (cH (cB (cH .n)))))) (.c (sBx 57 (cB (.c sNl (cB (.c sNl .n))))) (.c (sBx 57 (cB (cH (cB (cH .n))))) (cI .n)))))
abbrev Utw (n m:Nat) (K:Kc R):UhL.T (O R):=fun x1 x2 x3 x4 x5 x6 x7 x8 x9 x10 x11 x12 x13=>UeE n m x1 x2 x3 x4 x5 x6 x7 x8 x9 x10 x11 x12 x13 (fun y1 y2 y3 y4 y5 y6 y7 y8 y9=>xL Udp 3 K .ret [.bx 57 [vB y1,vH y2,vB y3,vH y4],vB y5,.bx 57 [vB y6,vH y7,vB y8,vH y9]]) (fun y1 y2 y3 y4 y5 y6=>xL Udp 3 K (.exit 0) [.bx 57 [vB y1,.nl,vB y2,.nl],dD,.bx 57 [vB y3,vH y4,vB y5,vH y6]])
abbrev UEB (n:Nat) (K:Kc R) (l0:UhL.T (O R)):UhL.T (O R):=fun x1 x2 x3 x4 x5 x6 x7 x8 x9 x10 x11 x12 x13=>Ujh n l0 x1 x2 x3 x4 x5 x6 x7 x8 x9 x10 x11 x12 x13 (fun y1 y2 y3 y4 y5 y6 y7 y8 y9=>xL Udp 3 K .ret [.bx 57 [vB y1,vH y2,vB y3,vH y4],vB y5,.bx 57 [vB y6,vH y7,vB y8,vH y9]]) (fun y1 y2 y3 y4 y5 y6=>xL Udp 3 K (.exit 0) [.bx 57 [vB y1,.nl,vB y2,.nl],dD,.bx 57 [vB y3,vH y4,vB y5,vH y6]])
abbrev UIZ (n:Nat):Orc R:=oL Udp (E87 n) n 3 UxM UhL (Utw n n) oN
abbrev UIK (n:Nat):Orc R:=oC Udp (E87 n) 5 UxL Uvd (Uys n) (oC Udp (E87 n) 4 UxK Uvc (Uyr n) oN)
abbrev K87 (R:Type) (n:Nat):=JcH (R:=R) Tryz.prog (UBG n) Udp n (51,[]) (UIZ n) (UIK n)
theorem UH4 (n:Nat):K87 R n (true,4,UxK):=JkW (lo:=UIZ n) (cu:=UIK n) (pO pN (by kernel_rfl)) Uvc (Uyr n) (fun K _ _ _ _ _ _ _ _ _ _ _ _ _=>by show _=_; kernel_rfl) fun _ _=>rfl
theorem UH5 (n:Nat):K87 R n (true,5,UxL):=JkW (lo:=UIZ n) (cu:=UIK n) (pO (pC (UH4 n) pN) (by kernel_rfl)) Uvd (Uys n) (fun K _ _ _ _ _ _ _ _ _ _ _ _ _=>by show _=_; kernel_rfl) fun _ _=>rfl
theorem UH6 (n:Nat):K87 R n (false,3,UxM):=JkF (lo:=UIZ n) (cu:=UIK n) (pO (pC (UH5 n) pN) (by kernel_rfl)) UhL (Utw n n) (JiE (F:=Utw n) UhL (UEB n) (fun K _ _ _ _ _ _ _ _ _ _ _ _ _=>rfl) (fun _ _=>rfl) (fun L K _ _ _ _ _ _ _ _ _ _ _ _ _=>by show _=_; kernel_rfl) n) fun _ _=>rfl
theorem US4 (n:Nat):Je6 (K87 R n) (JaJ Udp (Jll Tryz.f87)):=pO (pC (UH6 n) pN) (by kernel_rfl)
abbrev t87:Sl (List SV):=(.c (sP (JlI (.c sSh (.c Jlf (.c sSh (.c Jlf (.c sSh .n))))))) (cH .n))
abbrev f87 (n:Nat) (K:List SV→O R):t87.T (O R):=fun x1 x2 x3 x4 x5 x6=>p87 n x1 x2 x3 x4 x5 x6 (fun y1 y2 y3 y4 y5=>K [.p (.agg [.v (.bool y1),.sh y2,.v (.bool y3),.sh y4]),vB y5])
abbrev UKd (n:Nat):FS:=fT [false,false] t87 (f87 n)
theorem UO5 (n:Nat):FSound Tryz.prog GI 87 (UKd n):=gd Udp n (Usl n) Tryz.func87 (.cons (Usl n) t87 (f87 n) (fun K _ _ _ _ _ _=>(Jkq (c:=Jll Tryz.f87) (by kernel_rfl) (US4 n) K).trans (by kernel_rfl)) .nil) (by kernel_rfl)
def UzK:Ann:={ loops:=[],cuts:=[],frz:=[],rm:=[.id,.id] }
abbrev UFe (n:Nat):Env:=eC 87 (UKd n) (eC 86 (UKc n) (eC 46 (UDL n) eN))
theorem UrH (n:Nat):EnvOK Tryz.prog GI (UFe n):=.cons (.cons (.cons (.nil) (UG0 n)) (UO4 n)) (UO5 n)
def p43 (n:Nat) (x1 x2:LP) (k0:Bool→LP→Bool→LP→Bool→O R):O R :=
 p46 n ⟨#[48]⟩ x1 (fun y3 y4 y5 y6 y7 y8=>p86 n x2 (fun y9 y10=>p87 n y3 y4 y5 y6 y7 y9 (fun y11 y12 y13 y14 y15=>k0 y11 y12 y13 y14 y15)))
abbrev UQG (n:Nat):Orc R:=oN
abbrev UPV (n:Nat):Orc R:=oN
abbrev K43 (R:Type) (n:Nat):=JcH (R:=R) Tryz.prog (UFe n) UzK n (25,[]) (UQG n) (UPV n)
theorem USp (n:Nat):Je6 (K43 R n) (JaJ UzK (Jll Tryz.f43)):=pO pN (by kernel_rfl)
abbrev t43:Sl (List SV):=(cH (cH .n))
abbrev f43 (n:Nat) (K:List SV→O R):t43.T (O R):=fun x1 x2=>p43 n x1 x2 (fun y1 y2 y3 y4 y5=>K [.p (.agg [.v (.bool y1),.sh y2,.v (.bool y3),.sh y4]),vB y5])
abbrev UN4 (n:Nat):FS:=fT [false,false] t43 (f43 n)
theorem URw (n:Nat):FSound Tryz.prog GI 43 (UN4 n):=gd UzK n (UrH n) Tryz.func43 (.cons (UrH n) t43 (f43 n) (fun K _ _=>(Jkq (c:=Jll Tryz.f43) (by kernel_rfl) (USp n) K).trans (by kernel_rfl)) .nil) (by kernel_rfl)
end
end Go.Proofs.YtmgfmlhdnadglaaGreatDoor
set_option linter.unusedVariables false
set_option linter.unusedSimpArgs false
namespace Go.Proofs.YtmgfmlhdnadglaaGreatDoor
open Go Th Go.Proofs
variable {R:Type}
theorem UB2 (a b:List SpT):hiC (a++b)=(b.foldl (fun c t=>max c (t.1 + 1)) (hiC a)):=by unfold hiC; rw [List.foldl_append]
theorem UpA:∀ {a:List SpT} {t:SpT} {last:Int},asc last (a++[t])→∀ x∈a,x.1<t.1
 | y::a,t,last,h,x,hx=>by
  rcases List.mem_cons.1 hx with rfl | hx
  · have:=Ugh h.2 t (List.mem_append_right _ (List.mem_singleton.2 rfl)); omega
  · exact UpA h.2 x hx
theorem Uw3 {s:List SpT} {last:Int} (h:asc last s) (hl:0<s.length):hiC s=(s[s.length - 1]'(by omega)).1 + 1:=by
 obtain ⟨a,t,rfl⟩:∃ a t,s=a++[t]:=⟨s.dropLast,s.getLast (by intro e; rw [e] at hl; simp at hl),(List.dropLast_concat_getLast _).symm⟩
 have h1:hiC a≤t.1:=Ugr fun x hx=>UpA h x hx
 have e:(a++[t])[(a++[t]).length - 1]'(by omega)=t:=by simp
 rw [e,UB2]
 simp only [List.foldl_cons,List.foldl_nil]
 omega
theorem UB3:hiC []=0:=rfl
noncomputable def evK (k0:ByteArray→Int→Option R):Option Rat→Option R
 | none=>k0 (bs []) 5
 | some x=>k0 (bs (Uae x)) 0
noncomputable def vq (w:List (List UInt8)):List Rat:=w.map rq
theorem UkE (w:List (List UInt8)):(vq w).length=w.length:=by unfold vq; rw [List.length_map]
theorem Uzs {w:List (List UInt8)} {i:Nat} (h:i<w.length):(vq w).getD i 0=rq w[i]:=by
 unfold vq; rw [Udw rq h]
theorem UvZ (n:Nat) (hn:10 ^ 1000≤n) {r:SpR} (hr:okF 2048 r) {w:List (List UInt8)} (hw:Ude w=true) (hc:hiC r.1≤w.length) (k0:ByteArray→Int→Option R) :
 UbJ n (sl w) (tms (vt r.1)) (bs (Uae r.2)) k0=evK k0 (Uan (evS (vq w)) r.2 r.1):=by
 have hN:=Ual (Uat hn)
 have hL:=UaZ hr.1
 have H:=UbL (R:=R) (l:=r.1) (step:=evS (vq w)) (kerr:=k0 (bs []) 5) (kend:=fun x=>k0 (bs (Uae x)) 0) (Inv:=fun _ x=>fits x)
  (fun m x i=>Ucx n m (sl w) (bs (Uae x)) (tms (vt r.1)) ((tms (vt r.1)).length:Int) (i:Int) (fun y4 y5 y6=>k0 y4 y5) (fun y7=>k0 y7 0))
  (fun m x hx=>by simp only [Ucx,UfW]; simp (disch:=(first | omega | (simp only [JlE]; omega))) only [↓JlH,JlF,Ua,Uak])
  (fun x x' i hi hx he=>(Udd he).2)
  (fun m x i hi hx=>by
    have ht:=(hr.1.2 _ (List.getElem_mem hi)).2.1
    have htw:(r.1[i]).1<w.length:=Nat.lt_of_lt_of_le (Uoc _ (List.getElem_mem hi)) hc
    have hq:=UjX (List.all_eq_true.1 hw _ (List.getElem_mem htw))
    have hin:inR ((r.1[i]).1:Int) w.length=true:=Jku (by omega) (by omega)
    have g1:∀ k,p21 n (bs (Uae (r.1[i]).2)) (bs (w[(r.1[i]).1])) k=Ukt ((r.1[i]).2 * rq (w[(r.1[i]).1])) k:=fun k=>by
     have:=Uw2 (R:=R) n hn (r.1[i]).2 (rq (w[(r.1[i]).1])) ht hq.1 k
     rw [←hq.2] at this
     exact this
    simp only [Ucx,UfW]
    unfold evS Upi
    rw [Uzs htw]
    by_cases h1:fits ((r.1[i]).2 * rq (w[(r.1[i]).1]))
    · have g1':∀ k,p21 n (bs (Uae (r.1[i]).2)) (bs (w[(r.1[i]).1])) k=k (bs (Uae ((r.1[i]).2 * rq (w[(r.1[i]).1])))) 0:=fun k=>by rw [g1,UcF h1]
      have g2:=fun k=>Upb (R:=R) n hn x ((r.1[i]).2 * rq (w[(r.1[i]).1])) hx h1 k
      rw [if_pos h1]
      by_cases h2:fits (x + (r.1[i]).2 * rq (w[(r.1[i]).1]))
      · have g2':∀ k,p22 n (bs (Uae x)) (bs (Uae ((r.1[i]).2 * rq (w[(r.1[i]).1])))) k=k (bs (Uae (x + (r.1[i]).2 * rq (w[(r.1[i]).1])))) 0:=fun k=>by rw [g2,UcF h2]
        rw [if_pos h2]
        simp (disch:=(first | omega | (simp only [JlE]; omega))) only [↓JlH,JlF,Ua,Uak,Jji,Uax hi,Uac,hin,UaO htw,g1',UgQ,g2',i1]
        rfl
      · have g2':∀ k,p22 n (bs (Uae x)) (bs (Uae ((r.1[i]).2 * rq (w[(r.1[i]).1])))) k=k (bs []) 5:=fun k=>by rw [g2]; unfold Ukt; rw [if_neg h2]
        rw [if_neg h2]
        simp (disch:=(first | omega | (simp only [JlE]; omega))) only [↓JlH,JlF,Ua,Uak,Jji,Uax hi,Uac,hin,UaO htw,g1',UgQ,g2',UGP,i1]
        rfl
    · have g1':∀ k,p21 n (bs (Uae (r.1[i]).2)) (bs (w[(r.1[i]).1])) k=k (bs []) 5:=fun k=>by rw [g1]; unfold Ukt; rw [if_neg h1]
      rw [if_neg h1]
      simp (disch:=(first | omega | (simp only [JlE]; omega))) only [↓JlH,JlF,Ua,Uak,Jji,Uax hi,Uac,hin,UaO htw,g1',UGP,i1]
      rfl) r.1.length n 0 r.2 (by omega) (by omega) hr.2
 rw [List.drop_zero] at H
 unfold UbJ Uun
 refine Eq.trans H ?_
 cases Uan (evS (vq w)) r.2 r.1 <;> rfl
noncomputable def evA (l:List TermT) (c:List UInt8) (w:List (List UInt8)) (k0:ByteArray→Int→Option R):Option R :=
 if UoZ l c≠0 then k0 (bs []) 3 else if Ude w=false then k0 (bs []) 3 else if w.length<hiC (spL l) then k0 (bs []) 2 else evK k0 (Uan (evS (vq w)) (rq c) (spL l))
theorem Usx (n:Nat) (hn:10 ^ 1000≤n) (l:List TermT) (c:List UInt8) (w:List (List UInt8)) (hl:smT l) (hc:c.length<2 ^ 17) (hw:smS w) (k0:ByteArray→Int→Option R) :
 p18 n (tms l) (bs c) (sl w) k0=evA l c w k0:=by
 have hN:=Ual (Uat hn)
 have hL:=hw.1
 unfold p18 evA
 rw [Uia n (Uat hn) l c hl hc]
 by_cases h0:UoZ l c=0
 · have e0:(UoZ l c != 0)=false:=by rw [h0]; rfl
   rw [e0,Uaf,if_neg (by simp [h0])]
   obtain ⟨o1,o2⟩:=Ug0.1 h0
   obtain ⟨s1,s2⟩:=Uom o1
   have c1:=UjX o2
   have hr:okF 2048 (spL l,rq c):=⟨s1,c1.1⟩
   have h:=Uaj (R:=R) (l:=w) (ok:=qb) (kbad:=k0 (bs []) 3) (kend:=(fun y10 y11 y12=>bif (decide (((y11).length:Int)>0)) then (let v13:=IntKind.i64.wrap (((y11).length:Int) - 1); bif (inR v13 ((y11).length)) then (Jh2 ((y11).getD ((v13:Int).toNat) (.v (.bool false))) fun a14=>JdT a14 fun h15 t16=>Jj .i64 h15 fun e17=>JdT t16 fun h18 t19=>Jj3 h18 fun e20=>Ji2 t19 (bif (bif true then (decide (e17≥((y10).length:Int))) else false) then (k0 ⟨#[]⟩ 2) else (UbJ n y10 y11 y12 (fun y21 y22=>k0 y21 y22)))) else none) else (UbJ n y10 y11 y12 (fun y23 y24=>k0 y23 y24))) (sl w) (tms l) (bs c))
    (fun m i=>Ued n m (sl w) (tms l) (bs c) (sl w) ((sl w).length:Int) (i:Int) (fun y5 y6 y7 y8 y9=>k0 y8 y9) (fun y10 y11 y12=>bif (decide (((y11).length:Int)>0)) then (let v13:=IntKind.i64.wrap (((y11).length:Int) - 1); bif (inR v13 ((y11).length)) then (Jh2 ((y11).getD ((v13:Int).toNat) (.v (.bool false))) fun a14=>JdT a14 fun h15 t16=>Jj .i64 h15 fun e17=>JdT t16 fun h18 t19=>Jj3 h18 fun e20=>Ji2 t19 (bif (bif true then (decide (e17≥((y10).length:Int))) else false) then (k0 ⟨#[]⟩ 2) else (UbJ n y10 y11 y12 (fun y21 y22=>k0 y21 y22)))) else none) else (UbJ n y10 y11 y12 (fun y23 y24=>k0 y23 y24))))
    (fun m=>by simp only [Ued,UiM]; simp (disch:=(first | omega | (simp only [JlE]; omega))) only [↓JlH,JlF,Uac])
    (fun m i hi=>by
      have hv:=fun k=>Ucc (R:=R) n (Uat hn) w[i] (hw.2 _ (List.getElem_mem hi)) k
      simp only [Ued,UiM]
      simp (disch:=(first | omega | (simp only [JlE]; omega))) only [↓JlH,JlF,Uac,Jji,UaO hi,hv,i1]
      cases qb w[i] <;> rfl) w.length n 0 (by omega) (by omega)
   rw [List.drop_zero] at h
   unfold UyN
   refine Eq.trans h ?_
   have ea:w.all qb=Ude w:=rfl
   rw [ea]
   cases hq:Ude w with
   | false=>rfl
   | true =>
    rw [if_pos rfl,if_neg (by decide)]
    have g:=fun h' k=>UvZ (R:=R) n hn hr (w:=w) hq h' k
    dsimp only at g
    rw [←s2,←c1.2] at g
    have hls:l.length=(spL l).length:=(UlT l).symm
    by_cases h3:0<(spL l).length
    · have hh:=Uw3 s1.1 h3
      have hlast:l.length - 1<l.length:=by omega
      have eg:(l[l.length - 1]).1=(((spL l)[(spL l).length - 1]'(by omega)).1:Int):=by
       have:∀ (k:Nat) (h1:k<l.length) (h2:k<(spL l).length),(l[k]).1=(((spL l)[k]).1:Int):=fun k h1 h2=>by
        have e:=Uvq (l:=spL l) (i:=k) (by rw [Uak]; exact h2)
        have e2:l[k]=(vt (spL l))[k]'(by rw [Uak]; exact h2):=by congr 1
        rw [e2,e]
       have e3:=this (l.length - 1) hlast (by omega)
       rw [e3]
       congr 2
       simp only [hls]
      have hlL:=hl.1
      have ei:(l.length:Int) - 1=((l.length - 1:Nat):Int):=by omega
      by_cases h4:w.length<hiC (spL l)
      · rw [if_pos h4]
        have h5:(l[l.length - 1]).1≥(w.length:Int):=by rw [eg]; omega
        simp (disch:=(first | omega | (simp only [JlE]; omega))) only [↓JlH,JlF,Ua,Uac,ei,Jji,Uas hlast]
      · rw [if_neg h4]
        have h5:¬ (l[l.length - 1]).1≥(w.length:Int):=by rw [eg]; omega
        simp (disch:=(first | omega | (simp only [JlE]; omega))) only [↓JlH,JlF,Ua,Uac,ei,Jji,Uas hlast]
        exact g (by omega) k0
    · have e:spL l=[]:=List.eq_nil_of_length_eq_zero (by omega)
      have h4:¬ w.length<hiC (spL l):=by rw [e,UB3]; omega
      rw [if_neg h4]
      simp (disch:=(first | omega | (simp only [JlE]; omega))) only [↓JlH,JlF,Ua]
      exact g (by omega) k0
 · have e0:(UoZ l c != 0)=true:=by simp [h0]
   rw [e0,Uay,if_pos h0]; rfl
theorem UoF (n:Nat) (hn:10 ^ 1000≤n) {cols:Int} (hc:cols≤2048) {r:RowT} (hr:okR cols r=true) {m:List UInt8} (hm:qb m=true) (h0:rq m≠0) {s:DnR} (hs:s.1.length≤2048∧UaJ s)
 (kb:Option R) (K:List PV→Bool→List PV→Bool→List PV→Option R) :
 (p68 n (qs (dnR r).1) (sg (dnR r).2.num) (II (dnR r).2.num.natAbs) false (II (dnR r).2.den) (sg (rq m).num) (II (rq m).num.natAbs) false (II (rq m).den) fun y61 y62 y63 y64 y65=>p25 n y61 y62 y63 y64 y65 fun y66 y67 y68=>bif (y68 != 0) then kb else
   p70 n (qs s.1) (sg s.2.num) (II s.2.num.natAbs) false (II s.2.den) y61 y62 y63 y64 y65 fun y69 y70 y71 y72 y73=>p25 n y69 y70 y71 y72 y73 fun y74 y75 y76=>bif (y76 != 0) then kb else
    K y69 y70 y71 y72 y73)=UDJ kb (fun d=>K (qs d.1) (sg d.2.num) (II d.2.num.natAbs) false (II d.2.den)) (Ubg (rq m) (dnR r) s):=by
 obtain ⟨m1,m2⟩:=UjX hm
 obtain ⟨d1,d2,d3,d4⟩:=Ugn hc hr
 rw [UuY n hn d4 d2 m1,UoO n (Uat hn) _ (by rw [Uju]; exact d2)]
 unfold Uvr
 by_cases h1:UaJ (scD (rq m) (dnR r))
 · rw [if_pos h1]
   dsimp only
   rw [UgQ,Uaf,Uzv n hn hs.2 h1 hs.1 (by rw [Uju]; exact d2),UoO n (Uat hn) _ (by rw [Uph,Uju]; omega)]
   unfold Uvr
   by_cases h2:UaJ (adD s (scD (rq m) (dnR r)))
   · rw [if_pos h2]
     dsimp only
     rw [UgQ,Uaf]
     have e:Ubg (rq m) (dnR r) s=some (adD s (scD (rq m) (dnR r))):=by unfold Ubg; rw [if_neg h0,if_pos h1,if_pos h2]
     rw [e]; rfl
   · have e:Ubg (rq m) (dnR r) s=none:=by unfold Ubg; rw [if_neg h0,if_pos h1,if_neg h2]
     rw [if_neg h2,e]; rfl
 · have e:Ubg (rq m) (dnR r) s=none:=by unfold Ubg; rw [if_neg h0,if_neg h1]
   rw [if_neg h1,e]; rfl
section
variable (n:Nat) (hn:10 ^ 1000≤n) (cols:Int) (rows:List RowT) (mult:List (List UInt8)) (h:okRM cols rows mult) (k0:List PV→Bool→List PV→Bool→List PV→Int→Option R)
noncomputable def stX (s:DnR) (x:RowT × List UInt8):Option DnR:=Ubg (rq x.2) (dnR x.1) s
include hn h
theorem UB5:∀ (d m i:Nat) (s:DnR),d + i=(rows.zip mult).length→d<m→(s.1.length≤2048∧UaJ s) →
 Ube n m (sl mult) cols (rws rows) false false (qs s.1) (sg s.2.num) (II s.2.num.natAbs) false (II s.2.den) (i:Int) (fun y22 y23 y24 y25 y26 y27 y28 y29 y30 y31 y32=>k0 y22 y23 y24 y25 y26 y27) (fun y33 y34 y35 y36 y37 y38 y39=>k0 y35 y36 y37 y38 y39 0) =
  UDG k0 (Uan stX s ((rows.zip mult).drop i)):=by
 have hN:=Ual (Uat hn)
 have hlen:(rows.zip mult).length=rows.length:=by rw [List.length_zip,h.len]; omega
 have hf:=h.few
 have hl:=h.len
 intro d m i s e1 e2 e3
 have H:=UbL (R:=R) (l:=rows.zip mult) (step:=stX) (kerr:=k0 [] false [] false [] 5) (kend:=fun d=>k0 (qs d.1) (sg d.2.num) (II d.2.num.natAbs) false (II d.2.den) 0) (Inv:=fun i s=>s.1.length≤2048∧UaJ s)
  (fun m s i=>Ube n m (sl mult) cols (rws rows) false false (qs s.1) (sg s.2.num) (II s.2.num.natAbs) false (II s.2.den) (i:Int) (fun y22 y23 y24 y25 y26 y27 y28 y29 y30 y31 y32=>k0 y22 y23 y24 y25 y26 y27) (fun y33 y34 y35 y36 y37 y38 y39=>k0 y35 y36 y37 y38 y39 0))
  (fun m s hs=>by
    simp only [Ube,UdP]
    rw [hlen]
    simp (disch:=(first | omega | (simp only [JlE]; omega))) only [↓JlH,JlF,Uac])
  (fun s s' i hi hs he=>by
    have hr:=h.hr _ (List.of_mem_zip (List.getElem_mem hi)).1
    exact Ujv (Ugn h.hc hr).2.1 hs he)
  (fun m s i hi hs=>by
    have hi1:i<rows.length:=by omega
    have hi2:i<mult.length:=by omega
    have e0:(rows.zip mult)[i]=(rows[i],mult[i]):=List.getElem_zip
    rw [e0]
    have hr:=h.hr rows[i] (List.getElem_mem hi1)
    have hq:=h.hm mult[i] (List.getElem_mem hi2)
    obtain ⟨m1,m2⟩:=UjX hq
    simp only [Ube,UdP,Ucy]
    show _=UDJ _ _ (Ubg (rq mult[i]) (dnR rows[i]) s)
    by_cases h0:rq mult[i]=0
    · have e3:(mult[i] == [48])=true:=Uj1 (by rw [m2,h0,Ufq])
      have e4:Ubg (rq mult[i]) (dnR rows[i]) s=some s:=by unfold Ubg; rw [if_pos h0]
      rw [e4]
      simp (disch:=(first | omega | (simp only [JlE]; omega))) only [↓JlH,JlF,Uab,Uac,Jji,UaO hi2,i1,e3]
      rfl
    · have e3:(mult[i] == [48])=false:=Ugi (by rw [m2]; exact fun q=>h0 (Ufi.1 q))
      have g1:∀ k:List PV→Bool→List PV→Bool→List PV→Int→Option R,p46 n (bs (rows[i]).c) (tms (rows[i]).tm) k=_:=fun k=>Ujr n hn h.hc hr k
      have g2:∀ k:Bool→List PV→Bool→List PV→Option R,p69 n (bs mult[i]) k=k (sg (rq mult[i]).num) (II (rq mult[i]).num.natAbs) false (II (rq mult[i]).den):=fun k=>by
       have:=UdX (R:=R) n (Uat hn) m1 k
       rwa [←m2] at this
      simp (disch:=(first | omega | (simp only [JlE]; omega))) only [↓JlH,JlF,Uab,Uac,Jji,UaO hi2,Uau hi1,i1,e3,g1,g2]
      exact UoF n hn h.hc hr hq h0 hs _ _) d m i s e1 e2 e3
 refine Eq.trans H ?_
 cases Uan stX s ((rows.zip mult).drop i) <;> rfl
theorem UKj:∀ (d m i:Nat),d + i=(rows.zip mult).length→d<m →
 Uef n m (sl mult) cols (rws rows) false false (qs []) (sg (0:Rat).num) (II (0:Rat).num.natAbs) false (II (0:Rat).den) (i:Int) (fun y11 y12 y13 y14 y15 y16 y17 y18 y19 y20 y21=>k0 y11 y12 y13 y14 y15 y16) (fun y22 y23 y24 y25 y26 y27 y28 y29 y30 y31 y32=>k0 y22 y23 y24 y25 y26 y27)
  (fun y33 y34 y35 y36 y37 y38 y39=>k0 y35 y36 y37 y38 y39 0) (fun y40 y41 y42 y43 y44 y45 y46=>k0 y42 y43 y44 y45 y46 0) =
  UDG k0 (Uan stX ([],0) ((rows.zip mult).drop i)):=by
 have hN:=Ual (Uat hn)
 have hlen:(rows.zip mult).length=rows.length:=by rw [List.length_zip,h.len]; omega
 have hf:=h.few
 have hl:=h.len
 have hz:(([],0):DnR).1.length≤2048∧UaJ ([],0):=⟨by simp,⟨by simp,UbV⟩⟩
 intro d
 induction d with
 | zero =>
  intro m i e1 e2
  obtain ⟨m,rfl⟩:∃ m',m=m' + 1:=⟨m - 1,by omega⟩
  simp only [Uef,UiN]
  rw [List.drop_eq_nil_of_le (by omega)]
  simp (disch:=(first | omega | (simp only [JlE]; omega))) only [↓JlH,JlF,Uac]
  rfl
 | succ d ih =>
  intro m i e1 e2
  obtain ⟨m,rfl⟩:∃ m',m=m' + 1:=⟨m - 1,by omega⟩
  have hi:i<(rows.zip mult).length:=by omega
  have hi1:i<rows.length:=by omega
  have hi2:i<mult.length:=by omega
  have e0:(rows.zip mult)[i]=(rows[i],mult[i]):=List.getElem_zip
  have hr:=h.hr rows[i] (List.getElem_mem hi1)
  have hq:=h.hm mult[i] (List.getElem_mem hi2)
  obtain ⟨m1,m2⟩:=UjX hq
  rw [Uaz hi,e0]
  simp only [Uef,UiN,Uup,Ucy]
  show _=UDG k0 ((Ubg (rq mult[i]) (dnR rows[i]) ([],0)).bind fun s'=>Uan stX s' ((rows.zip mult).drop (i + 1)))
  by_cases h0:rq mult[i]=0
  · have e3:(mult[i] == [48])=true:=Uj1 (by rw [m2,h0,Ufq])
    have e4:Ubg (rq mult[i]) (dnR rows[i]) ([],0)=some ([],0):=by unfold Ubg; rw [if_pos h0]
    rw [e4,Option.bind_some,←ih m (i + 1) (by omega) (by omega)]
    simp (disch:=(first | omega | (simp only [JlE]; omega))) only [↓JlH,JlF,Uab,Uac,Jji,UaO hi2,i1,e3]
  · have e3:(mult[i] == [48])=false:=Ugi (by rw [m2]; exact fun q=>h0 (Ufi.1 q))
    have g1:∀ k:List PV→Bool→List PV→Bool→List PV→Int→Option R,p46 n (bs (rows[i]).c) (tms (rows[i]).tm) k=_:=fun k=>Ujr n hn h.hc hr k
    have g2:∀ k:Bool→List PV→Bool→List PV→Option R,p69 n (bs mult[i]) k=k (sg (rq mult[i]).num) (II (rq mult[i]).num.natAbs) false (II (rq mult[i]).den):=fun k=>by
     have:=UdX (R:=R) n (Uat hn) m1 k
     rwa [←m2] at this
    simp (disch:=(first | omega | (simp only [JlE]; omega))) only [↓JlH,JlF,Uab,Uac,Jji,UaO hi2,Uau hi1,i1,e3,g1,g2]
    refine Eq.trans (UoF n hn h.hc hr hq h0 hz _ _) ?_
    cases hst:Ubg (rq mult[i]) (dnR rows[i]) ([],0) with
    | none=>rfl
    | some s =>
     have hs:=Ujv (Ugn h.hc hr).2.1 hz hst
     exact UB5 n hn cols rows mult h k0 d m (i + 1) s (by omega) (by omega) hs
end
theorem UlP (n:Nat) (hn:10 ^ 1000≤n) (cols:Int) (rows:List RowT) (mult:List (List UInt8)) (h:okRM cols rows mult) (k0:List PV→Bool→List PV→Bool→List PV→Int→Option R) :
 Uos n (sl mult) cols (rws rows) false false k0=UDG k0 (Ufn (zsD rows mult) ([],0)):=by
 have hN:=Ual (Uat hn)
 have hlen:(rows.zip mult).length=rows.length:=by rw [List.length_zip,h.len]; omega
 have hf:=h.few
 have hl:=h.len
 have ez:=UjV (R:=R) n (Uat hn) 0 (by omega)
 have e3:((mult.length:Int) != (rows.length:Int))=false:=by simp [h.len]
 have ez':∀ k:List PV→Bool→List PV→Bool→List PV→Option R,p67 n 0 k=k (qs []) (sg (0:Rat).num) (II (0:Rat).num.natAbs) false (II (0:Rat).den):=ez
 unfold Uos UyP
 rw [Uac,Uab,e3,Uaf,ez']
 have H:=UKj (R:=R) n hn cols rows mult h k0 rows.length n 0 (by omega) (by omega)
 rw [List.drop_zero] at H
 have hc:Uan stX ([],0) (rows.zip mult)=Ufn (zsD rows mult) ([],0):=by
  rw [Ud7,zsD,←Ugp]; rfl
 rw [hc] at H
 exact H
theorem UDn (n:Nat) (hn:10 ^ 1000≤n) (cols:Int) (rows:List RowT) (mult:List (List UInt8)) (h:okRM cols rows mult) (k0:Bool→Option R) :
 p33 n cols (rws rows) (sl mult) k0=k0 (adm rows mult):=by
 have hN:=Ual (Uat hn)
 have hlen:(rows.zip mult).length=rows.length:=by rw [List.length_zip,h.len]; omega
 have hf:=h.few
 have hl:=h.len
 unfold p33 UyW
 have H:=Uaj (R:=R) (l:=rows.zip mult) (ok:=Uzw) (kbad:=k0 false) (kend:=k0 true)
  (fun m i=>Uem n m (sl mult) cols (rws rows) (i:Int) (fun y4=>k0 y4) (k0 true))
  (fun m=>by
    simp only [Uem,UiU]
    rw [hlen]
    simp (disch:=(first | omega | (simp only [JlE]; omega))) only [↓JlH,JlF,Uac])
  (fun m i hi=>by
    have hi1:i<rows.length:=by omega
    have hi2:i<mult.length:=by omega
    have e0:(rows.zip mult)[i]=(rows[i],mult[i]):=List.getElem_zip
    rw [e0]
    obtain ⟨m1,m2⟩:=UjX (h.hm mult[i] (List.getElem_mem hi2))
    have g2:∀ k:Bool→List PV→Bool→List PV→Option R,p69 n (bs mult[i]) k=k (sg (rq mult[i]).num) (II (rq mult[i]).num.natAbs) false (II (rq mult[i]).den):=fun k=>by
     have:=UdX (R:=R) n (Uat hn) m1 k
     rwa [←m2] at this
    have g3:=fun k=>Ujt (R:=R) n (rq mult[i]) k
    simp only [Uem,UiU,Uzw]
    rcases Bool.eq_false_or_eq_true (rows[i]).eq with he | he
    · simp (disch:=(first | omega | (simp only [JlE]; omega))) only [↓JlH,JlF,Uab,Uac,Jji,UaO hi2,Uau hi1,i1,he]
      simp [he]
    · rcases tri (rq mult[i]) 0 with h0 | h0 | h0
      · have hz:rq mult[i]≠0:=fun q=>by rw [q] at h0; exact absurd h0 (by decide)
        rw [if_neg hz,if_pos h0] at g3
        simp (disch:=(first | omega | (simp only [JlE]; omega))) only [↓JlH,JlF,Uab,Uac,Jji,UaO hi2,Uau hi1,i1,he,g2,g3]
        simp [h0]
      · rw [if_pos h0] at g3
        simp (disch:=(first | omega | (simp only [JlE]; omega))) only [↓JlH,JlF,Uab,Uac,Jji,UaO hi2,Uau hi1,i1,he,g2,g3]
        simp [h0]
      · have hz:rq mult[i]≠0:=fun q=>by rw [q] at h0; exact absurd h0 (by decide)
        have hz2:¬ rq mult[i]<0:=Rat.not_lt.2 (Rat.le_of_lt h0)
        rw [if_neg hz,if_neg hz2] at g3
        simp (disch:=(first | omega | (simp only [JlE]; omega))) only [↓JlH,JlF,Uab,Uac,Jji,UaO hi2,Uau hi1,i1,he,g2,g3]
        simp [hz2]) rows.length n 0 (by omega) (by omega)
 rw [List.drop_zero] at H
 refine Eq.trans H ?_
 unfold adm
 cases (rows.zip mult).all Uzw <;> rfl
theorem UIp {q:Rat}:((if q=0 then 0 else if q<0 then -1 else 1:Int)≥0)↔¬ q<0:=by
 rcases tri q 0 with h0 | h0 | h0
 · have hz:q≠0:=fun e=>by rw [e] at h0; exact absurd h0 (by decide)
   rw [if_neg hz,if_pos h0]; simp [h0]
 · rw [if_pos h0,h0]; decide
 · have hz:q≠0:=fun e=>by rw [e] at h0; exact absurd h0 (by decide)
   have hz2:¬ q<0:=Rat.not_lt.2 (Rat.le_of_lt h0)
   rw [if_neg hz,if_neg hz2]; simp [hz2]
end Go.Proofs.YtmgfmlhdnadglaaGreatDoor
set_option linter.unusedVariables false
set_option maxRecDepth 100000
namespace Go.Proofs.YtmgfmlhdnadglaaGreatDoor
open Go Th Go.Proofs
noncomputable section
variable {R:Type}
def Ugd:Ann:={ loops:=[(3,ids [1,2,4,5,6],ids [4,5])],cuts:=[],frz:=[],rm:=[.id] }
abbrev Ur (n:Nat):Env:=eC 108 (Uv2 n) (eC 91 (UGw n) (eC 69 (UDN n) eN))
theorem UnI (n:Nat):EnvOK Tryz.prog GI (Ur n):=.cons (.cons (.cons (.nil) (UG2 n)) (UI9 n)) (UCf n)
def UfV (n:Nat) (l0:LP→LP→ByteArray→Bool→Int→Bool→Bool→Bool→LP→Bool→LP→Int→O R) (x1 x2:LP) (x3:ByteArray) (x4:Bool) (x5:Int) (x6 x7 x8:Bool) (x9:LP) (x10:Bool) (x11:LP) (x12:Int) (k0:Bool→Bool→Bool→LP→Bool→LP→O R):O R :=
 bif (decide (x12<((x2).length:Int))) then (bif (inR x12 ((x2).length)) then (Jh2 ((x2).getD ((x12:Int).toNat) (.v (.bool false))) fun a13=>JdT a13 fun h14 t15=>Jj .i64 h14 fun e16=>JdT t15 fun h17 t18=>Jj3 h17 fun e19=>Ji2 t18 (p69 n e19 (fun y20 y21 y22 y23=>bif (inR x12 ((x2).length)) then (Jh2 ((x2).getD ((x12:Int).toNat) (.v (.bool false))) fun a24=>JdT a24 fun h25 t26=>Jj .i64 h25 fun e27=>JdT t26 fun h28 t29=>Jj3 h28 fun e30=>Ji2 t29 (bif (inR e27 ((x1).length)) then (Jj3 ((x1).getD ((e27:Int).toNat) (.v (.bool false))) fun e31=>p69 n e31 (fun y32 y33 y34 y35=>UyH n y20 y21 y22 y23 y32 y33 y34 y35 (fun y36 y37 y38 y39=>p91 n x8 x9 x10 x11 y36 y37 y38 y39 (fun y40 y41 y42 y43=>l0 x1 x2 x3 x4 x5 x6 x7 y40 y41 y42 y43 (IntKind.i64.wrap (x12 + 1)))))) else none)) else none))) else none) else (k0 x6 x7 x8 x9 x10 x11)
def Ucw (n:Nat):Nat→LP→LP→ByteArray→Bool→Int→Bool→Bool→Bool→LP→Bool→LP→Int→(Bool→Bool→Bool→LP→Bool→LP→O R)→O R
 | 0,_,_,_,_,_,_,_,_,_,_,_,_,_=>none
 | m + 1,x1,x2,x3,x4,x5,x6,x7,x8,x9,x10,x11,x12,k0=>UfV n (fun x1 x2 x3 x4 x5 x6 x7 x8 x9 x10 x11 x12=>Ucw n m x1 x2 x3 x4 x5 x6 x7 x8 x9 x10 x11 x12 k0) x1 x2 x3 x4 x5 x6 x7 x8 x9 x10 x11 x12 k0
def Uum (n:Nat) (x1 x2:LP) (x3:ByteArray) (x4:Bool) (x5:Int) (x6 x7 x8:Bool) (x9:LP) (x10:Bool) (x11:LP) (x12:Int) (k0:Bool→Bool→Bool→LP→Bool→LP→O R):O R:=Ucw n n x1 x2 x3 x4 x5 x6 x7 x8 x9 x10 x11 x12 k0
def UJi (n:Nat) (x1:LP) (x2:ByteArray) (x3:Bool) (x4:Int) (x5:LP) (k0:Bool→LP→Bool→LP→O R):O R :=
 p69 n x2 (fun y6 y7 y8 y9=>Uum n x5 x1 x2 x3 x4 false false y6 y7 y8 y9 0 (fun y10 y11 y12 y13 y14 y15=>k0 y12 y13 y14 y15))
abbrev UPq (n:Nat):Code→Fr→Kc R→O R:=evC Tryz.prog (Ur n) Ugd n (38,[])
noncomputable def Uqi:Code:=Jj4 (Jll Tryz.f170) [1,1,0,1,0,0]
abbrev Ue6:Sl (List SV):=(cH (.c (sBx 70 (cH (cS (cB (cI .n))))) (.c (sBx 57 (cB (.c sNl (cB (.c sNl .n))))) (.c (sBx 57 (cB (cH (cB (cH .n))))) (cI .n)))))
abbrev Ull (n m:Nat) (K:Kc R):Ue6.T (O R):=fun x1 x2 x3 x4 x5 x6 x7 x8 x9 x10 x11 x12=>Ucw n m x1 x2 x3 x4 x5 x6 x7 x8 x9 x10 x11 x12 (fun y1 y2 y3 y4 y5 y6=>xL Ugd 3 K (.exit 0) [.bx 57 [vB y1,.nl,vB y2,.nl],.bx 57 [vB y3,vH y4,vB y5,vH y6]])
abbrev UAC (n:Nat) (K:Kc R) (l0:Ue6.T (O R)):Ue6.T (O R):=fun x1 x2 x3 x4 x5 x6 x7 x8 x9 x10 x11 x12=>UfV n l0 x1 x2 x3 x4 x5 x6 x7 x8 x9 x10 x11 x12 (fun y1 y2 y3 y4 y5 y6=>xL Ugd 3 K (.exit 0) [.bx 57 [vB y1,.nl,vB y2,.nl],.bx 57 [vB y3,vH y4,vB y5,vH y6]])
abbrev UGL (n:Nat):Orc R:=oL Ugd (UPq n) n 3 Uqi Ue6 (Ull n n) oN
abbrev UEY (n:Nat):Orc R:=oN
abbrev UNd (R:Type) (n:Nat):=JcH (R:=R) Tryz.prog (Ur n) Ugd n (38,[]) (UGL n) (UEY n)
theorem UC5 (n:Nat):UNd R n (false,3,Uqi):=JkF (lo:=UGL n) (cu:=UEY n) (pO pN (by kernel_rfl)) Ue6 (Ull n n) (JiE (F:=Ull n) Ue6 (UAC n) (fun K _ _ _ _ _ _ _ _ _ _ _ _=>rfl) (fun _ _=>rfl) (fun L K _ _ _ _ _ _ _ _ _ _ _ _=>by show _=_; kernel_rfl) n) fun _ _=>rfl
theorem UMa (n:Nat):Je6 (UNd R n) (JaJ Ugd (Jll Tryz.f170)):=pO (pC (UC5 n) pN) (by kernel_rfl)
abbrev UMK:Sl (List SV):=(.c (sP (JlI (.c sSh (.c Jly (.c Jlf (.c (Jlv .i64) .n)))))) (cH .n))
abbrev f170 (n:Nat) (K:List SV→O R):UMK.T (O R):=fun x1 x2 x3 x4 x5=>UJi n x1 x2 x3 x4 x5 (fun y1 y2 y3 y4=>K [.p (.agg [.v (.bool y1),.sh y2,.v (.bool y3),.sh y4])])
abbrev UGm (n:Nat):FS:=fT [false,false] UMK (f170 n)
theorem ULd (n:Nat):FSound Tryz.prog GI 170 (UGm n):=gd Ugd n (UnI n) Tryz.func170 (.cons (UnI n) UMK (f170 n) (fun K _ _ _ _ _=>(Jkq (c:=Jll Tryz.f170) (by kernel_rfl) (UMa n) K).trans (by kernel_rfl)) .nil) (by kernel_rfl)
def Upu:Ann:={ loops:=[],cuts:=[],frz:=[],rm:=[.id] }
abbrev Ux8 (n:Nat):Env:=eC 170 (UGm n) (eC 34 (UIO n) eN)
theorem UnB (n:Nat):EnvOK Tryz.prog GI (Ux8 n):=.cons (.cons (.nil) (ULj n)) (ULd n)
def UJf (n:Nat) (x1:LP) (x2:ByteArray) (x3:Bool) (x4:Int) (x5:LP) (k0:Bool→O R):O R :=
 UJi n x1 x2 x3 x4 x5 (fun y6 y7 y8 y9=>p34 n y6 y7 y8 y9 (fun y10=>bif (y10 == 0) then (k0 true) else (bif (decide (y10>0)) then (k0 (bif false then true else (bif true then (!x3) else false))) else (k0 false))))
abbrev UKv (n:Nat):Orc R:=oN
abbrev UJI (n:Nat):Orc R:=oN
abbrev UPC (R:Type) (n:Nat):=JcH (R:=R) Tryz.prog (Ux8 n) Upu n (21,[]) (UKv n) (UJI n)
theorem UL4 (n:Nat):Je6 (UPC R n) (JaJ Upu (Jll Tryz.f142)):=pO pN (by kernel_rfl)
abbrev UMG:Sl (List SV):=(.c (sP (JlI (.c sSh (.c Jly (.c Jlf (.c (Jlv .i64) .n)))))) (cH .n))
abbrev f142 (n:Nat) (K:List SV→O R):UMG.T (O R):=fun x1 x2 x3 x4 x5=>UJf n x1 x2 x3 x4 x5 (fun y1=>K [vB y1])
abbrev UGh (n:Nat):FS:=fT [false,false] UMG (f142 n)
theorem UK9 (n:Nat):FSound Tryz.prog GI 142 (UGh n):=gd Upu n (UnB n) Tryz.func142 (.cons (UnB n) UMG (f142 n) (fun K _ _ _ _ _=>(Jkq (c:=Jll Tryz.f142) (by kernel_rfl) (UL4 n) K).trans (by kernel_rfl)) .nil) (by kernel_rfl)
def Udj:Ann:={ loops:=[(6,ids [1,2,7,9],ids [4,5])],cuts:=[],frz:=[],rm:=[.id,.id] }
abbrev UqZ (n:Nat):Env:=eC 142 (UGh n) (eC 119 (UBS n) (eC 87 (UKd n) (eC 86 (UKc n) (eC 46 (UDL n) eN))))
theorem Unp (n:Nat):EnvOK Tryz.prog GI (UqZ n):=.cons (.cons (.cons (.cons (.cons (.nil) (UG0 n)) (UO4 n)) (UO5 n)) (UGT n)) (UK9 n)
def UfM (n:Nat) (l0:LP→Int→LP→LP→Int→O R) (x1:LP) (x2:Int) (x3 x4:LP) (x5:Int) (k0:Int→Int→O R) (k1:O R):O R :=
 bif (decide (x5<((x3).length:Int))) then (bif (inR x5 ((x3).length)) then (Jh2 ((x3).getD ((x5:Int).toNat) (.v (.bool false))) fun a6=>JdT a6 fun h7 t8=>Jkr h7 fun e9=>JdT t8 fun h10 t11=>Jj3 h10 fun e12=>JdT t11 fun h13 t14=>Jj2 h13 fun e15=>JdT t14 fun h16 t17=>Jj .i64 h16 fun e18=>Ji2 t17 (bif (inR x5 ((x3).length)) then (Jh2 ((x3).getD ((x5:Int).toNat) (.v (.bool false))) fun a19=>JdT a19 fun h20 t21=>Jkr h20 fun e22=>JdT t21 fun h23 t24=>Jj3 h23 fun e25=>JdT t24 fun h26 t27=>Jj2 h26 fun e28=>JdT t27 fun h29 t30=>Jj .i64 h29 fun e31=>Ji2 t30 (p46 n e12 e22 (fun y32 y33 y34 y35 y36 y37=>p87 n y32 y33 y34 y35 y36 x4 (fun y38 y39 y40 y41 y42=>bif (!y42) then (k0 0 5) else (bif (inR x5 ((x3).length)) then (Jh2 ((x3).getD ((x5:Int).toNat) (.v (.bool false))) fun a43=>JdT a43 fun h44 t45=>Jkr h44 fun e46=>JdT t45 fun h47 t48=>Jj3 h47 fun e49=>JdT t48 fun h50 t51=>Jj2 h50 fun e52=>JdT t51 fun h53 t54=>Jj .i64 h53 fun e55=>Ji2 t54 (UJf n e46 e49 e52 e55 x1 (fun y56=>bif (!y56) then (k0 x5 0) else (l0 x1 x2 x3 x4 (IntKind.i64.wrap (x5 + 1)))))) else none))))) else none)) else none) else (k1)
def Uco (n:Nat):Nat→LP→Int→LP→LP→Int→(Int→Int→O R)→(O R)→O R
 | 0,_,_,_,_,_,_,_=>none
 | m + 1,x1,x2,x3,x4,x5,k0,k1=>UfM n (fun x1 x2 x3 x4 x5=>Uco n m x1 x2 x3 x4 x5 k0 k1) x1 x2 x3 x4 x5 k0 k1
def Uua (n:Nat) (x1:LP) (x2:Int) (x3 x4:LP) (x5:Int) (k0:Int→Int→O R) (k1:O R):O R:=Uco n n x1 x2 x3 x4 x5 k0 k1
def UDU (n:Nat) (x1:Int) (x2 x3:LP) (k0:Int→Int→O R):O R :=
 UG7 n x1 x2 x3 (fun y4=>bif (y4 != 0) then (k0 0 y4) else (p86 n x3 (fun y5 y6=>Uua n x3 x1 x2 y5 0 (fun y7 y8=>k0 y7 y8) (k0 (-1) 0))))
abbrev UPk (n:Nat):Code→Fr→Kc R→O R:=evC Tryz.prog (UqZ n) Udj n (65,[])
noncomputable def Up0:Code:=Jj4 (Jll Tryz.f120) [1,1,1,0,1,0,0]
abbrev UeV:Sl (List SV):=(cH (.c (sBx 24 (cI (cH .n))) (cH (cI .n))))
abbrev Ula (n m:Nat) (K:Kc R):UeV.T (O R):=fun x1 x2 x3 x4 x5=>Uco n m x1 x2 x3 x4 x5 (fun y1 y2=>xL Udj 6 K .ret [vI y1,vI y2]) (xL Udj 6 K (.exit 0) [dD,dD])
abbrev UAr (n:Nat) (K:Kc R) (l0:UeV.T (O R)):UeV.T (O R):=fun x1 x2 x3 x4 x5=>UfM n l0 x1 x2 x3 x4 x5 (fun y1 y2=>xL Udj 6 K .ret [vI y1,vI y2]) (xL Udj 6 K (.exit 0) [dD,dD])
abbrev UGE (n:Nat):Orc R:=oL Udj (UPk n) n 6 Up0 UeV (Ula n n) oN
abbrev UER (n:Nat):Orc R:=oN
abbrev UM8 (R:Type) (n:Nat):=JcH (R:=R) Tryz.prog (UqZ n) Udj n (65,[]) (UGE n) (UER n)
theorem UCN (n:Nat):UM8 R n (false,6,Up0):=JkF (lo:=UGE n) (cu:=UER n) (pO pN (by kernel_rfl)) UeV (Ula n n) (JiE (F:=Ula n) UeV (UAr n) (fun K _ _ _ _ _=>rfl) (fun _ _=>rfl) (fun L K _ _ _ _ _=>by show _=_; kernel_rfl) n) fun _ _=>rfl
theorem ULS (n:Nat):Je6 (UM8 R n) (JaJ Udj (Jll Tryz.f120)):=pO (pC (UCN n) pN) (by kernel_rfl)
abbrev UMw:Sl (List SV):=(.c (sP (JlI (.c (Jlv .i64) (.c sSh .n)))) (cH .n))
abbrev f120 (n:Nat) (K:List SV→O R):UMw.T (O R):=fun x1 x2 x3=>UDU n x1 x2 x3 (fun y1 y2=>K [vI y1,vI y2])
abbrev UF5 (n:Nat):FS:=fT [false,false] UMw (f120 n)
theorem UKW (n:Nat):FSound Tryz.prog GI 120 (UF5 n):=gd Udj n (Unp n) Tryz.func120 (.cons (Unp n) UMw (f120 n) (fun K _ _ _=>(Jkq (c:=Jll Tryz.f120) (by kernel_rfl) (ULS n) K).trans (by kernel_rfl)) .nil) (by kernel_rfl)
def Uh7:Ann:={ loops:=[(5,ids [1,2,7],ids [1,2,4,5])],cuts:=[],frz:=[],rm:=[.id,.id] }
abbrev UBE (n:Nat):Env:=eC 120 (UF5 n) (eC 119 (UBS n) (eC 69 (UDN n) (eC 34 (UIO n) eN)))
theorem Usj (n:Nat):EnvOK Tryz.prog GI (UBE n):=.cons (.cons (.cons (.cons (.nil) (ULj n)) (UG2 n)) (UGT n)) (UKW n)
def Ujf (n:Nat) (l0:LP→Int→LP→Int→O R) (x1:LP) (x2:Int) (x3:LP) (x4:Int) (k0:LP→Int→LP→Bool→Int→O R) (k1:LP→Int→LP→O R):O R :=
 bif (decide (x4<((x1).length:Int))) then (bif (inR x4 ((x1).length)) then (Jj3 ((x1).getD ((x4:Int).toNat) (.v (.bool false))) fun e5=>p69 n e5 (fun y6 y7 y8 y9=>p34 n y6 y7 y8 y9 (fun y10=>bif (decide (y10<0)) then (k0 x1 x2 x3 false 0) else (l0 x1 x2 x3 (IntKind.i64.wrap (x4 + 1)))))) else none) else (k1 x1 x2 x3)
def UeC (n:Nat):Nat→LP→Int→LP→Int→(LP→Int→LP→Bool→Int→O R)→(LP→Int→LP→O R)→O R
 | 0,_,_,_,_,_,_=>none
 | m + 1,x1,x2,x3,x4,k0,k1=>Ujf n (fun x1 x2 x3 x4=>UeC n m x1 x2 x3 x4 k0 k1) x1 x2 x3 x4 k0 k1
def Uzc (n:Nat) (x1:LP) (x2:Int) (x3:LP) (x4:Int) (k0:LP→Int→LP→Bool→Int→O R) (k1:LP→Int→LP→O R):O R:=UeC n n x1 x2 x3 x4 k0 k1
def p85 (n:Nat) (x1:Int) (x2 x3:LP) (k0:Bool→Int→O R):O R :=
 UG7 n x1 x2 x3 (fun y4=>bif (y4 != 0) then (k0 false y4) else (Uzc n x3 x1 x2 0 (fun y5 y6 y7 y8 y9=>k0 y8 y9) (fun y10 y11 y12=>UDU n y11 y12 y10 (fun y13 y14=>bif (y14 == 0) then (k0 (bif true then (decide (y13<0)) else false) y14) else (k0 false y14)))))
abbrev E85 (n:Nat):Code→Fr→Kc R→O R:=evC Tryz.prog (UBE n) Uh7 n (42,[])
noncomputable def UxI:Code:=Jj4 (Jll Tryz.f85) [1,1,0,1,0,0]
abbrev UhJ:Sl (List SV):=(cH (.c (sBx 24 (cI (cH .n))) (cI .n)))
abbrev Utu (n m:Nat) (K:Kc R):UhJ.T (O R):=fun x1 x2 x3 x4=>UeC n m x1 x2 x3 x4 (fun y1 y2 y3 y4 y5=>xL Uh7 5 K .ret [vH y1,.bx 24 [vI y2,vH y3],vB y4,vI y5]) (fun y1 y2 y3=>xL Uh7 5 K (.exit 0) [vH y1,.bx 24 [vI y2,vH y3],dD,dD])
abbrev UEz (n:Nat) (K:Kc R) (l0:UhJ.T (O R)):UhJ.T (O R):=fun x1 x2 x3 x4=>Ujf n l0 x1 x2 x3 x4 (fun y1 y2 y3 y4 y5=>xL Uh7 5 K .ret [vH y1,.bx 24 [vI y2,vH y3],vB y4,vI y5]) (fun y1 y2 y3=>xL Uh7 5 K (.exit 0) [vH y1,.bx 24 [vI y2,vH y3],dD,dD])
abbrev UOL (n:Nat):Orc R:=oL Uh7 (E85 n) n 5 UxI UhJ (Utu n n) oN
abbrev UNw (n:Nat):Orc R:=oN
abbrev K85 (R:Type) (n:Nat):=JcH (R:=R) Tryz.prog (UBE n) Uh7 n (42,[]) (UOL n) (UNw n)
theorem UH2 (n:Nat):K85 R n (false,5,UxI):=JkF (lo:=UOL n) (cu:=UNw n) (pO pN (by kernel_rfl)) UhJ (Utu n n) (JiE (F:=Utu n) UhJ (UEz n) (fun K _ _ _ _=>rfl) (fun _ _=>rfl) (fun L K _ _ _ _=>by show _=_; kernel_rfl) n) fun _ _=>rfl
theorem US2 (n:Nat):Je6 (K85 R n) (JaJ Uh7 (Jll Tryz.f85)):=pO (pC (UH2 n) pN) (by kernel_rfl)
abbrev t85:Sl (List SV):=(.c (sP (JlI (.c (Jlv .i64) (.c sSh .n)))) (cH .n))
abbrev f85 (n:Nat) (K:List SV→O R):t85.T (O R):=fun x1 x2 x3=>p85 n x1 x2 x3 (fun y1 y2=>K [vB y1,vI y2])
abbrev UOn (n:Nat):FS:=fT [false,false] t85 (f85 n)
theorem URQ (n:Nat):FSound Tryz.prog GI 85 (UOn n):=gd Uh7 n (Usj n) Tryz.func85 (.cons (Usj n) t85 (f85 n) (fun K _ _ _=>(Jkq (c:=Jll Tryz.f85) (by kernel_rfl) (US2 n) K).trans (by kernel_rfl)) .nil) (by kernel_rfl)
def UzJ:Ann:={ loops:=[],cuts:=[],frz:=[],rm:=[.id] }
abbrev UFd (n:Nat):Env:=eC 85 (UOn n) eN
theorem UrG (n:Nat):EnvOK Tryz.prog GI (UFd n):=.cons (.nil) (URQ n)
def p42 (n:Nat) (x1:Int) (x2 x3:LP) (k0:Int→O R):O R :=
 p85 n x1 x2 x3 (fun y4 y5=>bif (y5 != 0) then (k0 y5) else (bif (!y4) then (k0 15) else (k0 0)))
abbrev UQF (n:Nat):Orc R:=oN
abbrev UPU (n:Nat):Orc R:=oN
abbrev K42 (R:Type) (n:Nat):=JcH (R:=R) Tryz.prog (UFd n) UzJ n (18,[]) (UQF n) (UPU n)
theorem USo (n:Nat):Je6 (K42 R n) (JaJ UzJ (Jll Tryz.f42)):=pO pN (by kernel_rfl)
abbrev t42:Sl (List SV):=(.c (sP (JlI (.c (Jlv .i64) (.c sSh .n)))) (cH .n))
abbrev f42 (n:Nat) (K:List SV→O R):t42.T (O R):=fun x1 x2 x3=>p42 n x1 x2 x3 (fun y1=>K [vI y1])
abbrev UN3 (n:Nat):FS:=fT [false,false] t42 (f42 n)
theorem URv (n:Nat):FSound Tryz.prog GI 42 (UN3 n):=gd UzJ n (UrG n) Tryz.func42 (.cons (UrG n) t42 (f42 n) (fun K _ _ _=>(Jkq (c:=Jll Tryz.f42) (by kernel_rfl) (USo n) K).trans (by kernel_rfl)) .nil) (by kernel_rfl)
end
end Go.Proofs.YtmgfmlhdnadglaaGreatDoor
set_option linter.unusedVariables false
set_option linter.unusedSimpArgs false
namespace Go.Proofs.YtmgfmlhdnadglaaGreatDoor
open Go Th Go.Proofs
variable {R:Type}
theorem Uke {n:Nat} (hn:10 ^ 2000≤n):10 ^ 1000≤n:=Nat.le_trans (by decide +kernel) hn
theorem ltk {a b i j n:Nat} (hn:10 ^ i * 10 ^ j≤n) (ha:ll a≤i) (hb:ll b≤j):a * b<n:=Nat.lt_of_lt_of_le (Nat.mul_lt_mul_of_lt_of_lt (UcY.1 ha) (UcY.1 hb)) hn
theorem UKI {n:Nat} (hn:10 ^ 2000≤n):10 ^ 400 * 10 ^ 800≤n:=Nat.le_trans (by decide +kernel) hn
theorem UwK (n:Nat) (hn:10 ^ 2000≤n) {p q:Rat} (hp:fits p) (h1:ll q.num.natAbs≤800) (h2:ll q.den≤800) (k0:Bool→List PV→Bool→List PV→Option R) :
 p91 n (sg p.num) (II p.num.natAbs) false (II p.den) (sg q.num) (II q.num.natAbs) false (II q.den) k0=k0 (sg (p + q).num) (II (p + q).num.natAbs) false (II (p + q).den):=by
 obtain ⟨a1,a2⟩:=UaR.1 hp
 have hN:=Ual (Uat (Uke hn))
 have hw:((p.den * q.den:Nat):Int)≠0:=by have:=Nat.mul_ne_zero p.den_nz q.den_nz; omega
 have m1:=fun k=>Ubf (R:=R) n p.num (q.den:Int) (by omega) (by rw [Uap]; omega) hN k
 have m2:=fun k=>Ubf (R:=R) n q.num (p.den:Int) (by omega) (by rw [Uap]; omega) hN k
 have m3:=fun k=>Ubf (R:=R) n (p.den:Int) (q.den:Int) (by rw [Uap]; omega) (by rw [Uap]; omega) hN k
 have l1:ll (p.num * (q.den:Int)).natAbs≤1200:=Ub3 a1 (by rw [Uap]; exact h2)
 have l2:ll (q.num * (p.den:Int)).natAbs≤1200:=Ub3 h1 (by rw [Uap]; exact a2)
 have l3:=UtN l1 l2
 have l4:ll ((p.den * q.den:Nat):Int).natAbs≤1200:=by rw [Uap]; exact Nat.le_trans (Ug1 _ _) (by omega)
 have m4:=fun k=>UlO (R:=R) n (p.num * (q.den:Int)) (q.num * (p.den:Int)) (by omega) (by omega) hN k
 have m5:=fun k=>Uol (R:=R) n (p.num * (q.den:Int) + q.num * (p.den:Int)) ((p.den * q.den:Nat):Int) hw (by omega) (by omega) hN (by rw [Int.natAbs_natCast]; exact ltk (UKI hn) a2 h2) k
 rw [UgV] at m5
 have e:(p.den:Int) * (q.den:Int)=((p.den * q.den:Nat):Int):=by rw [Int.natCast_mul]
 rw [e] at m3
 simp only [Ubr,Int.natAbs_natCast] at m1 m2 m3 m5
 simp only [p91,m1,m2,m3,m4,m5]
noncomputable def dvK (kf:Option R) (K:Bool→List PV→Bool→List PV→Bool→Option R):Option Rat→Option R
 | none=>kf
 | some x=>K (sg x.num) (II x.num.natAbs) false (II x.den) true
theorem Uw1 {a b:List Rat} {i:Nat} (h:i<(a.zip b).length) (h1:i<a.length) (h2:i<b.length):(a.zip b)[i]=(a[i],b[i]):=List.getElem_zip
theorem UmZ (n:Nat) (hn2:10 ^ 2000≤n) {d:DnR} (hd:UaJ d) (hl:d.1.length≤2048) {v:List Rat} (hv:∀ x∈v,fits x) (hvl:v.length<2 ^ 17) (K:Bool→List PV→Bool→List PV→Bool→Option R) (kf:Option R) (hK:∀ a b c e,K a b c e false=kf) :
 p87 n (qs d.1) (sg d.2.num) (II d.2.num.natAbs) false (II d.2.den) (qs v) K=dvK kf K (Uan edS d.2 (d.1.zip v)):=by
 have hn:=Uke hn2
 have hN:=Ual (Uat hn)
 have hz:(d.1.zip v).length=min d.1.length v.length:=List.length_zip
 unfold p87 Uze
 have H:=UbL (R:=R) (l:=d.1.zip v) (step:=edS) (kerr:=kf) (kend:=fun x=>K (sg x.num) (II x.num.natAbs) false (II x.den) true) (Inv:=fun _ x=>fits x)
  (fun m x i=>UeE n m (qs v) (qs d.1) (sg d.2.num) (II d.2.num.natAbs) false (II d.2.den) false false (sg x.num) (II x.num.natAbs) false (II x.den) (i:Int) (fun y7 y8 y9 y10 y11 y12 y13 y14 y15=>K y7 y8 y9 y10 y11) (fun y16 y17 y18 y19 y20 y21=>K y18 y19 y20 y21 true))
  (fun m x hx=>by
    simp only [UeE,Ujh]
    rw [hz]
    by_cases h1:d.1.length≤v.length
    · rw [show min d.1.length v.length=d.1.length from by omega]
      simp (disch:=(first | omega | (simp only [JlE]; omega))) only [↓JlH,JlF,UaA]
    · rw [show min d.1.length v.length=v.length from by omega]
      simp (disch:=(first | omega | (simp only [JlE]; omega))) only [↓JlH,JlF,UaA])
  (fun x x' i hi hx he=>by
    unfold edS at he
    split at he
    · simp only [Option.some.injEq] at he; rwa [←he]
    · exact (Udd he).2)
  (fun m x i hi hx=>by
    have h1:i<d.1.length:=by omega
    have h2:i<v.length:=by omega
    rw [Uw1 hi h1 h2]
    have f1:fits (d.1[i]):=hd.1 _ (List.getElem_mem h1)
    have f2:fits (v[i]):=hv _ (List.getElem_mem h2)
    have g1:=fun k=>UoH (R:=R) n (d.1[i]) k
    simp only [UeE,Ujh,Uuz,Uox,edS]
    by_cases hz0:d.1[i]=0
    · have e3:decide (d.1[i]=0)=true:=decide_eq_true hz0
      rw [if_pos hz0]
      simp (disch:=(first | omega | (simp only [JlE]; omega))) only [↓JlH,JlF,UaA,Jji,UbW h1,g1,e3,i1]
      rfl
    · have e3:decide (d.1[i]=0)=false:=decide_eq_false hz0
      have g2:=fun k=>UdW (R:=R) n hn (d.1[i]) (v[i]) f1 f2 k
      rw [if_neg hz0]
      unfold Upi
      by_cases h3:fits (d.1[i] * v[i])
      · have g3:=fun k=>Uc (R:=R) n hn x (d.1[i] * v[i]) hx h3 k
        have g4:=fun k=>Ukd (R:=R) n h3 k
        rw [if_pos h3]
        by_cases h4:fits (x + d.1[i] * v[i])
        · have g5:=fun k=>Ukd (R:=R) n h4 k
          rw [if_pos h4]
          simp (disch:=(first | omega | (simp only [JlE]; omega))) only [↓JlH,JlF,UaA,Jji,UbW h1,UbW h2,g1,e3,g2,g3,g4,g5,i1]
          rfl
        · have g5:=fun k=>Ukc (R:=R) n h4 k
          rw [if_neg h4]
          simp (disch:=(first | omega | (simp only [JlE]; omega))) only [↓JlH,JlF,UaA,Jji,UbW h1,UbW h2,g1,e3,g2,g3,g4,g5,i1,hK]
          rfl
      · have hm:=UGO _ _ f1 f2
        have g3:=fun k=>UwK (R:=R) n hn2 hx hm.1 hm.2 k
        have g4:=fun k=>Ukc (R:=R) n h3 k
        rw [if_neg h3]
        simp (disch:=(first | omega | (simp only [JlE]; omega))) only [↓JlH,JlF,UaA,Jji,UbW h1,UbW h2,g1,e3,g2,g3,g4,i1,hK]
        rfl) (d.1.zip v).length n 0 d.2 (by omega) (by omega) hd.2
 rw [List.drop_zero] at H
 refine Eq.trans H ?_
 cases Uan edS d.2 (d.1.zip v) <;> rfl
theorem UkC (n:Nat) (hn:10 ^ 400≤n) {w:List (List UInt8)} (hw:Ude w=true) (hl:smS w) (k0:List PV→Bool→Option R):p86 n (sl w) k0=k0 (qs (vq w)) true:=by
 have hN:=Ual hn
 have hL:=hl.1
 unfold p86 Uzd
 refine UaW (R:=R) (N:=w.length) (Inv:=fun i v=>v=vq (w.take i))
  (fun m v i=>UeD n m (sl w) (qs v) (i:Int) (fun y2 y3=>k0 [] y2) (fun y4=>k0 y4 true)) (fun m v hv=>?_) (fun m v i hi hv=>?_) w.length n 0 [] (by omega) (by omega) rfl
 · subst hv
   rw [List.take_length]
   simp only [UeD,Ujg]
   simp (disch:=(first | omega | (simp only [JlE]; omega))) only [↓JlH,JlF,Uac]
 · subst hv
   have hq:=UjX (List.all_eq_true.1 hw _ (List.getElem_mem hi))
   have g1:∀ k:Bool→List PV→Bool→List PV→Bool→Option R,Uvv n (bs w[i]) k=k (sg (rq w[i]).num) (II (rq w[i]).num.natAbs) false (II (rq w[i]).den) true:=fun k=>by
    have:=Ujs (R:=R) n hn (rq w[i]) hq.1 k
    rw [←hq.2] at this
    exact this
   have hl2:(vq (w.take i)).length=i:=by rw [UkE,List.length_take]; omega
   refine .inr ⟨vq (w.take i)++[rq w[i]],?_,?_⟩
   · unfold vq
     rw [List.take_succ_eq_append_getElem hi,List.map_append]; rfl
   · simp only [UeD,Ujg]
     simp (disch:=(first | omega | (simp only [JlE]; omega))) only [↓JlH,JlF,Uac,Jji,UaO hi,g1,UaA,hl2,UIe,i1]
theorem Uzr {w:List (List UInt8)} (h:Ude w=true):∀ x∈vq w,fits x:=fun x hx=>by
 obtain ⟨s,hs,rfl⟩:=List.mem_map.1 hx
 exact (UjX (List.all_eq_true.1 h _ hs)).1
theorem UE0 {s:SpR} {d:DnR} {cols:Int} (hs:okF cols s) (hd:UaJ d) (h:same s d) {v:List Rat} (hl:d.1.length≤v.length):Uan edS d.2 (d.1.zip v)=Uan (evS v) s.2 s.1:=by
 have:=UE1 v d.1 0 d.2 (by omega)
 rw [List.drop_zero] at this
 rw [this,UDC hs hd.1 h,h.1]
theorem UA2 {cols:Int} (hc:0≤cols∧cols≤2048) {r:RowT} (h:okR cols r=true):((dnR r).1.length:Int)≤cols:=by
 obtain ⟨o1,o2,o3⟩:=Ub4 h
 obtain ⟨d,e1,e2,e3⟩:=UuL (s:=spL r.tm) o1.1
 have ed:(dnR r).1=d:=by show (rdD (spL r.tm)).getD []=d; rw [e1]; rfl
 have:=Ugr (s:=spL r.tm) (b:=cols.toNat) fun t ht=>by
  have:=(o1.1.2 t ht).2.2
  omega
 rw [ed,e2]
 omega
noncomputable def Uvw (v:List Rat) (r:RowT):Option Rat:=Uan (evS v) (rq r.c) (spL r.tm)
open Classical in
noncomputable def Uvu (r:RowT) (x:Rat):Bool:=decide (x<0∨(0<x∧r.eq=true))
noncomputable def Upa (v:List Rat):List RowT→Option Bool
 | []=>some true
 | r::rs=>match Uvw v r with
  | none=>none
  | some x=>if Uvu r x=true then some false else Upa v rs
noncomputable def UDz (k0:Bool→Int→Option R):Option Bool→Option R
 | none=>k0 false 5
 | some b=>k0 b 0
structure okSV (cols:Int) (rows:List RowT) (w:List (List UInt8)):Prop where
 hc:0≤cols∧cols≤2048
 few:rows.length≤2048
 hr:∀ r∈rows,okR cols r=true
 hw:Ude w=true
 len:(w.length:Int)=cols
 sm:smS w
theorem UIm (n:Nat) (hn:10 ^ 1000≤n) {cols:Int} {rows:List RowT} {w:List (List UInt8)} (h:okSV cols rows w) {r:RowT} (hr:r∈rows) (k0:ByteArray→Int→Option R) :
 p18 n (tms r.tm) (bs r.c) (sl w) k0=evK k0 (Uvw (vq w) r):=by
 have h1:=h.hr r hr
 obtain ⟨o1,o2,o3⟩:=Ub4 h1
 have o1':=Ucg h.hc.2 o1
 have hl:=UaZ o1'.1
 unfold okR at h1
 rw [Bool.and_eq_true] at h1
 have e0:UoZ r.tm r.c=0:=Ug0.2 ⟨by rw [o2]; exact Ukg o1'.1.1 o1'.1.2,h1.2⟩
 have e1:¬ w.length<hiC (spL r.tm):=by
  have:=Ugr (s:=spL r.tm) (b:=cols.toNat) fun t ht=>by
   have:=(o1.1.2 t ht).2.2
   omega
  have:=h.len
  omega
 rw [Usx n hn r.tm r.c w (by rw [o2]; exact UDB o1'.1.2 (Nat.lt_of_le_of_lt hl (by decide))) (by rw [o3]; exact UgH o1.2) h.sm]
 unfold evA
 rw [if_neg (by simp [e0]),if_neg (by simp [h.hw]),if_neg e1]; rfl
theorem UuS {cols:Int} {r:RowT} (h:okR cols r=true) {v:List Rat} {x:Rat} (hx:Uvw v r=some x):fits x:=UkZ v (Ub4 h).1.2 hx
theorem UpE {r:RowT} {x:Rat}:Uvu r x=true↔(Ud2 x 0<0∨(Ud2 x 0>0∧r.eq=true)):=by
 unfold Uvu
 rw [decide_eq_true_iff,Ud6,UqB]
theorem UDA (n:Nat) (hn:10 ^ 1000≤n) {cols:Int} {rows:List RowT} {w:List (List UInt8)} (h:okSV cols rows w) (k0:Bool→Int→Option R) :
 (p51 n cols (rws rows) (sl w) fun y6 y7=>bif (y7 == 0) then (k0 (bif true then (decide (y6<0)) else false) y7) else (k0 false y7))=UDz k0 (Upa (vq w) rows):=by
 have hN:=Ual (Uat hn)
 have hf:=h.few
 unfold p51 Uy0
 refine UaW (R:=R) (N:=rows.length) (σ:=Unit) (Inv:=fun i _=>Upa (vq w) (rows.drop i)=Upa (vq w) rows)
  (fun m _ i=>Ueq n m (sl w) (rws rows) ((rws rows).length:Int) (i:Int) _ _) (fun m _ hi=>?_) (fun m _ i hi hv=>?_) rows.length n 0 () (by omega) (by omega) rfl
 · rw [List.drop_length] at hi
   rw [←hi]
   simp only [Ueq,Ui0]
   simp (disch:=(first | omega | (simp only [JlE]; omega))) only [↓JlH,JlF,Uab]
   rfl
 · rw [Uaz hi] at hv
   have g1:=fun k=>UIm (R:=R) n hn h (List.getElem_mem hi) k
   simp only [Ueq,Ui0]
   have hv':(match Uvw (vq w) rows[i] with | none=>none | some x=>if Uvu rows[i] x=true then some false else Upa (vq w) (rows.drop (i + 1)))=Upa (vq w) rows:=hv
   cases hx:Uvw (vq w) rows[i] with
   | none =>
    rw [hx] at hv' g1
    dsimp only at hv'
    left
    rw [←hv']
    simp (disch:=(first | omega | (simp only [JlE]; omega))) only [↓JlH,JlF,Uab,Jji,Uau hi,g1,evK,UGP]
    rfl
   | some x =>
    rw [hx] at hv' g1
    dsimp only at hv'
    have hfx:=UuS (h.hr _ (List.getElem_mem hi)) hx
    have g2:=fun k=>UJw (R:=R) n hn x hfx k
    have hb:=UpE (r:=rows[i]) (x:=x)
    have hi0:¬ (i:Int)<0:=by omega
    by_cases h1:Ud2 x 0<0
    · left
      rw [←hv',if_pos (hb.2 (.inl h1))]
      simp (disch:=(first | omega | (simp only [JlE]; omega))) only [↓JlH,JlF,Uab,Jji,Uau hi,g1,evK,UgQ,g2]
      rfl
    · by_cases h2:Ud2 x 0>0
      · rcases Bool.eq_false_or_eq_true (rows[i]).eq with h3 | h3
        · left
          rw [←hv',if_pos (hb.2 (.inr ⟨h2,h3⟩))]
          simp (disch:=(first | omega | (simp only [JlE]; omega))) only [↓JlH,JlF,Uab,Jji,Uau hi,g1,evK,UgQ,g2,h3]
          rfl
        · right
          rw [if_neg (fun q=>by rcases hb.1 q with q | q; exact h1 q; rw [h3] at q; cases q.2)] at hv'
          refine ⟨(),hv',?_⟩
          simp (disch:=(first | omega | (simp only [JlE]; omega))) only [↓JlH,JlF,Uab,Jji,Uau hi,g1,evK,UgQ,g2,h3,i1]
      · right
        rw [if_neg (fun q=>by rcases hb.1 q with q | q; exact h1 q; exact h2 q.1)] at hv'
        refine ⟨(),hv',?_⟩
        simp (disch:=(first | omega | (simp only [JlE]; omega))) only [↓JlH,JlF,Uab,Jji,Uau hi,g1,evK,UgQ,g2,i1]
open Classical in
noncomputable def ltB (x:Rat):Bool:=decide (x<0)
noncomputable def hM (rows:List RowT) (w:List (List UInt8)):Option Bool:=if w.any (fun s=>ltB (rq s))=true then some false else Upa (vq w) rows
theorem UtW {cols:Int} {rows:List RowT} {w:List (List UInt8)} (hs:smS w) (h:UkG cols rows w=0):okSV cols rows w:=by
 unfold UkG at h
 by_cases h1:Ufj cols rows=0
 · rw [if_neg (by simp [h1])] at h
   by_cases h2:(w.length:Int)=cols
   · rw [if_neg (by simp [h2])] at h
     cases h3:Ude w with
     | false=>rw [h3] at h; cases h
     | true =>
      obtain ⟨a,b,c,d⟩:=Ujw h1
      exact ⟨⟨a,b⟩,c,d,h3,h2,hs⟩
   · rw [if_pos h2] at h; cases h
 · rw [if_pos h1] at h; cases h
theorem UkP {cols:Int} {rows:List RowT} {w:List (List UInt8)} (h1:Ufj cols rows=0) (h2:(w.length:Int)=cols) (h3:Ude w=true):UkG cols rows w=0:=by
 unfold UkG
 rw [if_neg (by simp [h1]),if_neg (by simp [h2]),if_pos h3]
theorem UGN {x:Rat}:ltB x=decide (Ud2 x 0<0):=by
 unfold ltB
 rw [Bool.eq_iff_iff,decide_eq_true_iff,decide_eq_true_iff,Ud6]
theorem Upz {α:Type} (l:List α) (p:α→Bool):l.any p=!(l.all fun x=>!p x):=by rw [List.not_all_eq_any_not]; simp
theorem UGQ (n:Nat) (hn:10 ^ 1000≤n) {w:List (List UInt8)} (hw:Ude w=true) (hl:w.length<2 ^ 17) (k0:Bool→Option R):Uwk n (sl w) k0=k0 (w.any fun s=>ltB (rq s)):=by
 have hN:=Ual (Uat hn)
 unfold Uwk UCo Uoy
 have h:=Uaj (R:=R) (l:=w) (ok:=fun s=>!ltB (rq s)) (kbad:=k0 true) (kend:=k0 false)
  (fun m i=>Ubp n m (sl w) ((sl w).length:Int) (i:Int) (fun y2=>k0 (decide (y2≥0))) (k0 (decide ((-1:Int)≥0))))
  (fun m=>by simp only [Ubp,UdT]; simp (disch:=(first | omega | (simp only [JlE]; omega))) only [↓JlH,JlF,Uac])
  (fun m i hi=>by
    have hq:=UjX (List.all_eq_true.1 hw _ (List.getElem_mem hi))
    have g1:∀ k,p19 n (bs w[i]) (bs [48]) k=k (Ud2 (rq w[i]) 0):=fun k=>by
     have:=UJw (R:=R) n hn (rq w[i]) hq.1 k
     rw [←hq.2] at this
     exact this
    have e:=UGN (x:=rq w[i])
    simp only [Ubp,UdT,p50]
    by_cases h0:Ud2 (rq w[i]) 0<0
    · rw [decide_eq_true h0] at e
      simp (disch:=(first | omega | (simp only [JlE]; omega))) only [↓JlH,JlF,Uac,Jji,UaO hi,g1,i1]
      simp [e]
    · rw [decide_eq_false h0] at e
      simp (disch:=(first | omega | (simp only [JlE]; omega))) only [↓JlH,JlF,Uac,Jji,UaO hi,g1,i1]
      simp [e]) w.length n 0 (by omega) (by omega)
 rw [List.drop_zero] at h
 refine Eq.trans h ?_
 rw [Upz]
 cases (w.all fun s=>!ltB (rq s)) <;> rfl
noncomputable def UoY (cols:Int) (rows:List RowT) (w:List (List UInt8)) (k0:Bool→Int→Option R):Option R:=if UkG cols rows w≠0 then k0 false (UkG cols rows w) else UDz k0 (hM rows w)
theorem Uv5 (n:Nat) (hn:10 ^ 1000≤n) (cols:Int) (rows:List RowT) (w:List (List UInt8)) (hr:smA rows) (hw:smS w) (k0:Bool→Int→Option R):p17 n cols (rws rows) (sl w) k0=UoY cols rows w k0:=by
 unfold p17 UoY
 rw [UD7 n (Uat hn) cols rows hr w hw]
 by_cases h1:UkG cols rows w=0
 · have e1:(UkG cols rows w != 0)=false:=by rw [h1]; rfl
   have h:=UtW hw h1
   rw [e1,Uaf,if_neg (by simp [h1]),UGQ n hn h.hw hw.1]
   unfold hM
   cases h2:w.any fun s=>ltB (rq s) with
   | true=>rfl
   | false =>
    rw [Uaf,if_neg (by decide)]
    exact UDA n hn h k0
 · have e1:(UkG cols rows w != 0)=true:=by simp [h1]
   rw [e1,Uay,if_pos h1]
theorem UuW (n:Nat) (hn:10 ^ 1000≤n) {cols:Int} {rows:List RowT} {w:List (List UInt8)} (h:okSV cols rows w) {r:RowT} (hr:r∈rows) {x:Rat} (hx:Uvw (vq w) r=some x) (k0:Bool→List PV→Bool→List PV→Option R) :
 UJi n (tms r.tm) (bs r.c) r.eq r.mark (sl w) k0=k0 (sg x.num) (II x.num.natAbs) false (II x.den):=by
 have hN:=Ual (Uat hn)
 obtain ⟨o1,o2,o3⟩:=Ub4 (h.hr r hr)
 have hL:(spL r.tm).length≤2048:=UaZ (Ucg h.hc.2 o1).1
 have g0:∀ k:Bool→List PV→Bool→List PV→Option R,p69 n (bs r.c) k=k (sg (rq r.c).num) (II (rq r.c).num.natAbs) false (II (rq r.c).den):=fun k=>by
  have:=UdX (R:=R) n (Uat hn) (q:=rq r.c) o1.2 k
  rw [←show r.c=Uae (rq r.c) from o3] at this
  exact this
 unfold UJi Uum
 rw [g0]
 have ht:r.tm=vt (spL r.tm):=o2
 rw [ht]
 refine UaW (R:=R) (N:=(spL r.tm).length) (Inv:=fun i s=>Uan (evS (vq w)) s ((spL r.tm).drop i)=some x∧fits s)
  (fun m s i=>Ucw n m (sl w) (tms (vt (spL r.tm))) (bs r.c) r.eq r.mark false false (sg s.num) (II s.num.natAbs) false (II s.den) (i:Int) (fun y10 y11 y12 y13 y14 y15=>k0 y12 y13 y14 y15))
  (fun m s hs=>?_) (fun m s i hi hs=>?_) (spL r.tm).length n 0 (rq r.c) (by omega) (by omega) ⟨by rw [List.drop_zero]; exact hx,o1.2⟩
 · obtain ⟨h1,h2⟩:=hs
   rw [List.drop_length] at h1
   simp only [Uan,Option.some.injEq] at h1
   subst h1
   simp only [Ucw,UfV]
   simp (disch:=(first | omega | (simp only [JlE]; omega))) only [↓JlH,JlF,Ua,Uak]
 · obtain ⟨h1,h2⟩:=hs
   rw [Uaz hi] at h1
   obtain ⟨s',e1,e2⟩:=Option.bind_eq_some_iff.1 h1
   have hm:=List.getElem_mem hi
   have hk:=(o1.1.2 _ hm)
   have htw:((spL r.tm)[i]).1<w.length:=by have:=h.len; have:=hk.2.2; omega
   have hq:=UjX (List.all_eq_true.1 h.hw _ (List.getElem_mem htw))
   have hin:inR (((spL r.tm)[i]).1:Int) w.length=true:=Jku (by omega) (by omega)
   have g1:=fun k=>UdX (R:=R) n (Uat hn) hk.2.1 k
   have g2:∀ k:Bool→List PV→Bool→List PV→Option R,p69 n (bs (w[((spL r.tm)[i]).1])) k=k (sg (rq (w[((spL r.tm)[i]).1])).num) (II (rq (w[((spL r.tm)[i]).1])).num.natAbs) false (II (rq (w[((spL r.tm)[i]).1])).den):=fun k=>by
    have:=UdX (R:=R) n (Uat hn) hq.1 k
    rw [←hq.2] at this
    exact this
   unfold evS at e1
   rw [Uzs htw] at e1
   have g3:=fun k=>UdW (R:=R) n hn ((spL r.tm)[i]).2 (rq (w[((spL r.tm)[i]).1])) hk.2.1 hq.1 k
   have f1:fits (((spL r.tm)[i]).2 * rq (w[((spL r.tm)[i]).1])):=by
    unfold Upi at e1
    split at e1
    · rename_i hf; exact hf
    · cases e1
   have g4:=fun k=>Uc (R:=R) n hn s (((spL r.tm)[i]).2 * rq (w[((spL r.tm)[i]).1])) h2 f1 k
   obtain ⟨e3,e4⟩:=Udd e1
   refine .inr ⟨s',⟨e2,e4⟩,?_⟩
   simp only [Ucw,UfV]
   simp (disch:=(first | omega | (simp only [JlE]; omega))) only [↓JlH,JlF,Ua,Uak,Jji,Uax hi,g1,Uac,hin,UaO htw,g2,g3,g4,i1]
   rw [e3]
theorem UDv (n:Nat) (hn:10 ^ 1000≤n) {cols:Int} {rows:List RowT} {w:List (List UInt8)} (h:okSV cols rows w) {r:RowT} (hr:r∈rows) {x:Rat} (hx:Uvw (vq w) r=some x) (k0:Bool→Option R) :
 UJf n (tms r.tm) (bs r.c) r.eq r.mark (sl w) k0=k0 (!Uvu r x):=by
 have hb:=UpE (r:=r) (x:=x)
 unfold UJf
 rw [UuW n hn h hr hx,Ujt]
 rcases tri x 0 with h0 | h0 | h0
 · have hz:x≠0:=fun e=>by rw [e] at h0; exact absurd h0 (by decide)
   have e:Uvu r x=true:=hb.2 (.inl (Ud6.2 h0))
   rw [if_neg hz,if_pos h0,e]; rfl
 · have e:Uvu r x=false:=by
    rw [Bool.eq_false_iff]
    intro q
    rcases hb.1 q with q | q
    · rw [h0,Ubn] at q; exact absurd q (by decide)
    · rw [h0,Ubn] at q; exact absurd q.1 (by decide)
   rw [if_pos h0,e]; rfl
 · have hz:x≠0:=fun e=>by rw [e] at h0; exact absurd h0 (by decide)
   have hz2:¬ x<0:=Rat.not_lt.2 (Rat.le_of_lt h0)
   have e:Uvu r x=r.eq:=by
    rw [Bool.eq_iff_iff,hb]
    exact ⟨fun q=>by rcases q with q | q; exact absurd (Ud6.1 q) hz2; exact q.2,fun q=>.inr ⟨UqB.2 h0,q⟩⟩
   rw [if_neg hz,if_neg hz2,e]
   cases r.eq <;> rfl
theorem UwU (n:Nat) (hn2:10 ^ 2000≤n) {cols:Int} {rows:List RowT} {w:List (List UInt8)} (h:okSV cols rows w) (hr:smA rows) (k0:Bool→Int→Option R) :
 (UDU n cols (rws rows) (sl w) fun y13 y14=>bif (y14 == 0) then (k0 (bif true then (decide (y13<0)) else false) y14) else (k0 false y14))=UDz k0 (Upa (vq w) rows):=by
 have hn:=Uke hn2
 have hN:=Ual (Uat hn)
 have hf:=h.few
 have hs:Ufj cols rows=0:=by
  unfold Ufj
  rw [if_neg (by have:=h.hc; omega),if_neg (by have:=h.hc; omega),if_neg (by omega),if_pos (List.all_eq_true.2 h.hr)]
 have ha:=UkP (w:=w) hs h.len h.hw
 unfold UDU
 rw [UuH n (Uat hn) cols rows hr w h.sm,ha]
 rw [show ((0:Int) != 0)=false from rfl,Uaf,UkC n (Uat hn) h.hw h.sm]
 unfold Uua
 refine UaW (R:=R) (N:=rows.length) (σ:=Unit) (Inv:=fun i _=>Upa (vq w) (rows.drop i)=Upa (vq w) rows)
  (fun m _ i=>Uco n m (sl w) cols (rws rows) (qs (vq w)) (i:Int) _ _) (fun m _ hi=>?_) (fun m _ i hi hv=>?_) rows.length n 0 () (by omega) (by omega) rfl
 · rw [List.drop_length] at hi
   rw [←hi]
   simp only [Uco,UfM]
   simp (disch:=(first | omega | (simp only [JlE]; omega))) only [↓JlH,JlF,Uab]
   rfl
 · rw [Uaz hi] at hv
   have hm:=List.getElem_mem hi
   have hrow:=h.hr _ hm
   obtain ⟨o1,o2,o3⟩:=Ub4 hrow
   obtain ⟨d1,d2,d3,d4⟩:=Ugn h.hc.2 hrow
   have g0:=fun k=>Ujr (R:=R) n hn h.hc.2 hrow k
   have hdl:(dnR rows[i]).1.length≤(vq w).length:=by have:=UA2 h.hc hrow; have:=h.len; rw [UkE]; omega
   have g1:=fun K kf hK=>UmZ (R:=R) n hn2 d4 d2 (v:=vq w) (Uzr h.hw) (by rw [UkE]; exact h.sm.1) K kf hK
   have ev:Uan edS (dnR rows[i]).2 ((dnR rows[i]).1.zip (vq w))=Uvw (vq w) rows[i]:=UE0 o1 d4 d3 hdl
   rw [ev] at g1
   simp only [Uco,UfM]
   have hv':(match Uvw (vq w) rows[i] with | none=>none | some x=>if Uvu rows[i] x=true then some false else Upa (vq w) (rows.drop (i + 1)))=Upa (vq w) rows:=hv
   have hi0:¬ (i:Int)<0:=by omega
   cases hx:Uvw (vq w) rows[i] with
   | none =>
    rw [hx] at hv' g1
    dsimp only at hv'
    left
    rw [←hv']
    simp (disch:=(first | omega | (simp only [JlE]; omega))) only [↓JlH,JlF,Uab,Jji,Uau hi,g0]
    exact g1 _ _ (fun _ _ _ _=>rfl)
   | some x =>
    rw [hx] at hv' g1
    dsimp only at hv'
    have g2:=fun k=>UDv (R:=R) n hn h hm hx k
    cases hb:Uvu rows[i] x with
    | true =>
     left
     rw [hb,if_pos rfl] at hv'
     rw [←hv']
     simp (disch:=(first | omega | (simp only [JlE]; omega))) only [↓JlH,JlF,Uab,Jji,Uau hi,g0]
     refine Eq.trans (g1 _ _ (fun _ _ _ _=>rfl)) ?_
     simp only [dvK,g2,hb,Bool.not_true,Uaf,Bool.not_false,Uay]
     rfl
    | false =>
     right
     rw [hb,if_neg (by decide)] at hv'
     refine ⟨(),hv',?_⟩
     simp (disch:=(first | omega | (simp only [JlE]; omega))) only [↓JlH,JlF,Uab,Jji,Uau hi,g0]
     refine Eq.trans (g1 _ _ (fun _ _ _ _=>rfl)) ?_
     simp only [dvK,g2,hb,Bool.not_true,Uaf,Bool.not_false]
     simp (disch:=(first | omega | (simp only [JlE]; omega))) only [↓JlH,JlF,i1]
theorem UuO (n:Nat) (hn2:10 ^ 2000≤n) (cols:Int) (rows:List RowT) (w:List (List UInt8)) (hr:smA rows) (hw:smS w) (k0:Bool→Int→Option R):p85 n cols (rws rows) (sl w) k0=UoY cols rows w k0:=by
 have hn:=Uke hn2
 have hN:=Ual (Uat hn)
 have hL:=hw.1
 unfold p85 UoY
 rw [UuH n (Uat hn) cols rows hr w hw]
 by_cases h1:UkG cols rows w=0
 · have e1:(UkG cols rows w != 0)=false:=by rw [h1]; rfl
   have h:=UtW hw h1
   rw [e1,Uaf,if_neg (by simp [h1])]
   have H:=Uaj (R:=R) (l:=w) (ok:=fun s=>!ltB (rq s)) (kbad:=k0 false 0) (kend:=UDU n cols (rws rows) (sl w) fun y13 y14=>bif (y14 == 0) then (k0 (bif true then (decide (y13<0)) else false) y14) else (k0 false y14))
    (fun m i=>UeC n m (sl w) cols (rws rows) (i:Int) (fun y5 y6 y7 y8 y9=>k0 y8 y9) (fun y10 y11 y12=>UDU n y11 y12 y10 (fun y13 y14=>bif (y14 == 0) then (k0 (bif true then (decide (y13<0)) else false) y14) else (k0 false y14))))
    (fun m=>by simp only [UeC,Ujf]; simp (disch:=(first | omega | (simp only [JlE]; omega))) only [↓JlH,JlF,Uac])
    (fun m i hi=>by
      have hq:=UjX (List.all_eq_true.1 h.hw _ (List.getElem_mem hi))
      have g1:∀ k:Bool→List PV→Bool→List PV→Option R,p69 n (bs w[i]) k=k (sg (rq w[i]).num) (II (rq w[i]).num.natAbs) false (II (rq w[i]).den):=fun k=>by
       have:=UdX (R:=R) n (Uat hn) hq.1 k
       rw [←hq.2] at this
       exact this
      have g2:=fun k=>Ujt (R:=R) n (rq w[i]) k
      have hs:=UIp (q:=rq w[i])
      simp only [UeC,Ujf]
      by_cases h0:rq w[i]<0
      · have h0':(if rq w[i]=0 then 0 else if rq w[i]<0 then -1 else 1:Int)<0:=by
         apply Int.not_le.1
         intro q; exact hs.1 q h0
        have e:ltB (rq w[i])=true:=by unfold ltB; exact decide_eq_true h0
        simp (disch:=(first | omega | (simp only [JlE]; omega))) only [↓JlH,JlF,Uac,Jji,UaO hi,g1,g2,i1]
        simp [e]
      · have h0':¬ (if rq w[i]=0 then 0 else if rq w[i]<0 then -1 else 1:Int)<0:=by
         have:=hs.2 h0
         omega
        have e:ltB (rq w[i])=false:=by unfold ltB; exact decide_eq_false h0
        simp (disch:=(first | omega | (simp only [JlE]; omega))) only [↓JlH,JlF,Uac,Jji,UaO hi,g1,g2,i1]
        simp [e]) w.length n 0 (by omega) (by omega)
   rw [List.drop_zero] at H
   unfold Uzc
   refine Eq.trans H ?_
   unfold hM
   rw [Upz]
   cases h2:(w.all fun s=>!ltB (rq s)) with
   | false=>rfl
   | true =>
    rw [if_pos rfl,if_neg (by decide)]
    exact UwU n hn2 h hr k0
 · have e1:(UkG cols rows w != 0)=true:=by simp [h1]
   rw [e1,Uay,if_pos h1]
end Go.Proofs.YtmgfmlhdnadglaaGreatDoor
set_option linter.unusedVariables false
set_option maxRecDepth 100000
namespace Go.Proofs.YtmgfmlhdnadglaaGreatDoor
open Go Th Go.Proofs
noncomputable section
variable {R:Type}
def Ugg:Ann:={ loops:=[(5,ids [1,7],ids [4])],cuts:=[(4,ids [1],ids [4])],frz:=[],rm:=[.id] }
abbrev UBD (n:Nat):Env:=eC 46 (UDL n) eN
theorem Ush (n:Nat):EnvOK Tryz.prog GI (UBD n):=.cons (.nil) (UG0 n)
def Uje (n:Nat) (l0:LP→Int→O R) (x1:LP) (x2:Int) (k0:Int→O R) (k1:O R):O R :=
 bif (decide (x2<((x1).length:Int))) then (bif (inR x2 ((x1).length)) then (Jh2 ((x1).getD ((x2:Int).toNat) (.v (.bool false))) fun a3=>JdT a3 fun h4 t5=>Jj .i64 h4 fun e6=>JdT t5 fun h7 t8=>Jj3 h7 fun e9=>Ji2 t8 (bif (eqS e9 (⟨#[48]⟩:ByteArray)) then (k0 3) else (bif (decide (x2>0)) then (bif (inR x2 ((x1).length)) then (Jh2 ((x1).getD ((x2:Int).toNat) (.v (.bool false))) fun a10=>JdT a10 fun h11 t12=>Jj .i64 h11 fun e13=>JdT t12 fun h14 t15=>Jj3 h14 fun e16=>Ji2 t15 (bif (inR (IntKind.i64.wrap (x2 - 1)) ((x1).length)) then (Jh2 ((x1).getD ((IntKind.i64.wrap (x2 - 1):Int).toNat) (.v (.bool false))) fun a17=>JdT a17 fun h18 t19=>Jj .i64 h18 fun e20=>JdT t19 fun h21 t22=>Jj3 h21 fun e23=>Ji2 t22 (bif (bif false then true else (bif true then (decide (e13≤e20)) else false)) then (k0 3) else (l0 x1 (IntKind.i64.wrap (x2 + 1))))) else none)) else none) else (l0 x1 (IntKind.i64.wrap (x2 + 1)))))) else none) else (k1)
def UeB (n:Nat):Nat→LP→Int→(Int→O R)→(O R)→O R
 | 0,_,_,_,_=>none
 | m + 1,x1,x2,k0,k1=>Uje n (fun x1 x2=>UeB n m x1 x2 k0 k1) x1 x2 k0 k1
def Uzb (n:Nat) (x1:LP) (x2:Int) (k0:Int→O R) (k1:O R):O R:=UeB n n x1 x2 k0 k1
def Ufh (n:Nat) (x1:LP) (k0:Int→O R):O R :=
 Uzb n x1 0 (fun y2=>k0 y2) (k0 0)
def p83 (n:Nat) (x1:ByteArray) (x2:LP) (k0:Int→O R):O R :=
 p46 n x1 x2 (fun y3 y4 y5 y6 y7 y8=>bif (y8 != 0) then (bif (bif true then (y8 != 5) else false) then (k0 y8) else (Ufh n x2 (fun y9=>k0 y9))) else (Ufh n x2 (fun y10=>k0 y10)))
abbrev E83 (n:Nat):Code→Fr→Kc R→O R:=evC Tryz.prog (UBD n) Ugg n (51,[])
noncomputable def UxG:Code:=Jj4 (Jll Tryz.f83) [1,1]
abbrev Uvb:Sl (List SV):=(cH .n)
abbrev Uyq (n:Nat) (K:Kc R):Uvb.T (O R):=fun x1=>Ufh n x1 (fun y1=>xC Ugg 4 K .ret [vI y1])
noncomputable def UxH:Code:=Jj4 (Jll Tryz.f83) [1,1,0,1,0,0]
abbrev UhI:Sl (List SV):=(cH (cI .n))
abbrev Utt (n m:Nat) (K:Kc R):UhI.T (O R):=fun x1 x2=>UeB n m x1 x2 (fun y1=>xL Ugg 5 K .ret [vI y1]) (xL Ugg 5 K (.exit 0) [dD])
abbrev UEy (n:Nat) (K:Kc R) (l0:UhI.T (O R)):UhI.T (O R):=fun x1 x2=>Uje n l0 x1 x2 (fun y1=>xL Ugg 5 K .ret [vI y1]) (xL Ugg 5 K (.exit 0) [dD])
abbrev UKH (n:Nat):Orc R:=oL Ugg (E83 n) n 5 UxH UhI (Utt n n) oN
abbrev UJU (n:Nat):Orc R:=oC Ugg (E83 n) 4 UxG Uvb (Uyq n) oN
abbrev K83 (R:Type) (n:Nat):=JcH (R:=R) Tryz.prog (UBD n) Ugg n (51,[]) (UKH n) (UJU n)
theorem UH1 (n:Nat):K83 R n (false,5,UxH):=JkF (lo:=UKH n) (cu:=UJU n) (pO pN (by kernel_rfl)) UhI (Utt n n) (JiE (F:=Utt n) UhI (UEy n) (fun K _ _=>rfl) (fun _ _=>rfl) (fun L K _ _=>by show _=_; kernel_rfl) n) fun _ _=>rfl
theorem UH0 (n:Nat):K83 R n (true,4,UxG):=JkW (lo:=UKH n) (cu:=UJU n) (pO (pC (UH1 n) pN) (by kernel_rfl)) Uvb (Uyq n) (fun K _=>by show _=_; kernel_rfl) fun _ _=>rfl
theorem US0 (n:Nat):Je6 (K83 R n) (JaJ Ugg (Jll Tryz.f83)):=pO (pC (UH0 n) pN) (by kernel_rfl)
abbrev t83:Sl (List SV):=(cS (cH .n))
abbrev f83 (n:Nat) (K:List SV→O R):t83.T (O R):=fun x1 x2=>p83 n x1 x2 (fun y1=>K [vI y1])
abbrev UOm (n:Nat):FS:=fT [false,false] t83 (f83 n)
theorem URP (n:Nat):FSound Tryz.prog GI 83 (UOm n):=gd Ugg n (Ush n) Tryz.func83 (.cons (Ush n) t83 (f83 n) (fun K _ _=>(Jkq (c:=Jll Tryz.f83) (by kernel_rfl) (US0 n) K).trans (by kernel_rfl)) .nil) (by kernel_rfl)
def UzI:Ann:={ loops:=[],cuts:=[],frz:=[],rm:=[.id] }
abbrev UFc (n:Nat):Env:=eC 83 (UOm n) eN
theorem UrE (n:Nat):EnvOK Tryz.prog GI (UFc n):=.cons (.nil) (URP n)
def p40 (n:Nat) (x1:Int) (x2:LP) (k0:Bool→O R):O R :=
 p83 n ⟨#[48]⟩ x2 (fun y3=>bif (y3 != 0) then (k0 false) else (bif (((x2).length:Int) == 0) then (k0 true) else (let v4:=IntKind.i64.wrap (((x2).length:Int) - 1); bif (inR v4 ((x2).length)) then (Jh2 ((x2).getD ((v4:Int).toNat) (.v (.bool false))) fun a5=>JdT a5 fun h6 t7=>Jj .i64 h6 fun e8=>JdT t7 fun h9 t10=>Jj3 h9 fun e11=>Ji2 t10 (k0 (bif false then true else (decide (e8<x1))))) else none)))
abbrev UQE (n:Nat):Orc R:=oN
abbrev UPT (n:Nat):Orc R:=oN
abbrev K40 (R:Type) (n:Nat):=JcH (R:=R) Tryz.prog (UFc n) UzI n (22,[]) (UQE n) (UPT n)
theorem USm (n:Nat):Je6 (K40 R n) (JaJ UzI (Jll Tryz.f40)):=pO pN (by kernel_rfl)
abbrev t40:Sl (List SV):=(cI (cH .n))
abbrev f40 (n:Nat) (K:List SV→O R):t40.T (O R):=fun x1 x2=>p40 n x1 x2 (fun y1=>K [vB y1])
abbrev UN2 (n:Nat):FS:=fT [false,false] t40 (f40 n)
theorem URu (n:Nat):FSound Tryz.prog GI 40 (UN2 n):=gd UzI n (UrE n) Tryz.func40 (.cons (UrE n) t40 (f40 n) (fun K _ _=>(Jkq (c:=Jll Tryz.f40) (by kernel_rfl) (USm n) K).trans (by kernel_rfl)) .nil) (by kernel_rfl)
end
end Go.Proofs.YtmgfmlhdnadglaaGreatDoor
set_option linter.unusedVariables false
set_option linter.unusedSimpArgs false
namespace Go.Proofs.YtmgfmlhdnadglaaGreatDoor
open Go Th Go.Proofs
variable {R:Type}
def aP:List TermT→Bool
 | []=>true
 | [t]=>decide (t.2≠[48])
 | t::u::r=>decide (t.2≠[48])&&(decide (t.1<u.1)&&aP (u::r))
theorem UD5:∀ (l:List TermT) (last:Int),(∀ t∈l.head?,last<t.1)→aO last l=aP l
 | [],last,_=>rfl
 | [t],last,h=>by
  have h1:=h t rfl
  simp only [aO,aP]
  by_cases h2:t.2=[48]
  · simp [h2]
  · rw [if_neg h2,if_neg (by omega)]; simp [h2]
 | t::u::r,last,h=>by
  have h1:=h t rfl
  rw [aO,aP]
  by_cases h2:t.2=[48]
  · simp [h2]
  · rw [if_neg h2,if_neg (by omega)]
    by_cases h3:t.1<u.1
    · rw [UD5 (u::r) t.1 (fun x hx=>by simp at hx; rw [←hx]; exact h3)]
      simp [h2,h3]
    · have:aO t.1 (u::r)=false:=by
       rw [aO]
       by_cases h4:u.2=[48]
       · rw [if_pos h4]
       · rw [if_neg h4,if_pos (by omega)]
      rw [this]
      simp [h2,h3]
def UdB (l:List TermT) (i:Nat):Bool:=decide ((l.getD i (0,[])).2≠[48])&&(decide (i=0)||decide ((l.getD (i - 1) (0,[])).1<(l.getD i (0,[])).1))
theorem UD6:∀ (l:List TermT),aP l=(List.range l.length).all (UdB l)
 | []=>rfl
 | [t]=>by simp [aP,UdB,List.range_succ]
 | t::u::r=>by
  have ih:=UD6 (u::r)
  have e0:UdB (t::u::r) 0=decide (t.2≠[48]):=by simp [UdB]
  have e1:UdB (t::u::r) 1=(decide (u.2≠[48])&&decide (t.1<u.1)):=by simp [UdB]
  have e2:∀ i,((UdB (u::r)) ∘ Nat.succ) i=((UdB (t::u::r) ∘ Nat.succ) ∘ Nat.succ) i:=fun i=>by simp [UdB]
  have e3:(UdB (u::r)) 0=decide (u.2≠[48]):=by simp [UdB]
  have l1:(List.range (u::r).length).all (UdB (u::r))=(UdB (u::r) 0&&(List.range r.length).all ((UdB (u::r)) ∘ Nat.succ)):=by
   rw [List.length_cons,List.range_succ_eq_map,List.all_cons,List.all_map]
  have l2:(List.range (t::u::r).length).all (UdB (t::u::r))=(UdB (t::u::r) 0&&(UdB (t::u::r) 1&&(List.range r.length).all (((UdB (t::u::r)) ∘ Nat.succ) ∘ Nat.succ))):=by
   rw [List.length_cons,List.range_succ_eq_map,List.all_cons,List.all_map,List.length_cons,List.range_succ_eq_map,List.all_cons,List.all_map]; rfl
  rw [aP,ih,l1,l2,e0,e1,e3,show ((UdB (u::r)) ∘ Nat.succ)=(((UdB (t::u::r)) ∘ Nat.succ) ∘ Nat.succ) from funext e2]
  cases decide (t.1<u.1) <;> cases decide (u.2≠[48]) <;> simp
theorem Ufd {l:List TermT} {i:Nat} {d:PV} (h:i<l.length) (K:Int→ByteArray→Option R) :
 (Jh2 ((tms l).getD i d) fun a=>JdT a fun h1 t1=>Jj .i64 h1 fun e1=>JdT t1 fun h2 t2=>Jj3 h2 fun e2=>Ji2 t2 (K e1 e2))=K (l.getD i (0,[])).1 (bs (l.getD i (0,[])).2):=by
 rw [Uas h,List.getD_eq_getElem?_getD,List.getElem?_eq_getElem h]; rfl
theorem UuR (n:Nat) (l:List TermT) (hn:l.length<n) (hl:l.length<2 ^ 17) (k0:Int→Option R):Ufh n (tms l) k0=if aP l=true then k0 0 else k0 3:=by
 unfold Ufh Uzb
 have hr:(List.range l.length).length=l.length:=List.length_range
 have H:=Uaj (R:=R) (l:=List.range l.length) (ok:=UdB l) (kbad:=k0 3) (kend:=k0 0) (fun m i=>UeB n m (tms l) (i:Int) (fun y2=>k0 y2) (k0 0))
  (fun m=>by simp only [UeB,Uje]; rw [hr]; simp (disch:=(first | omega | (simp only [JlE]; omega))) only [↓JlH,JlF,Ua])
  (fun m i hi=>by
    have hi':i<l.length:=by omega
    rw [List.getElem_range]
    simp only [UeB,Uje]
    by_cases h1:(l.getD i (0,[])).2=[48]
    · have e:UdB l i=false:=by unfold UdB; rw [decide_eq_false (fun q=>q h1)]; rfl
      simp (disch:=(first | omega | (simp only [JlE]; omega))) only [↓JlH,JlF,Ua,Jji,Ufd hi',Uj1 h1] <;> simp [e]
    · by_cases h2:i=0
      · have e:UdB l i=true:=by unfold UdB; rw [decide_eq_true h1,decide_eq_true h2]; rfl
        have h2':¬ (i:Int)>0:=by omega
        simp (disch:=(first | omega | (simp only [JlE]; omega))) only [↓JlH,JlF,Ua,Jji,Ufd hi',Ugi h1,i1] <;> simp [e]
      · have h2':(i:Int)>0:=by omega
        have h3':i - 1<l.length:=by omega
        have ei:(i:Int) - 1=((i - 1:Nat):Int):=by omega
        by_cases h3:(l.getD i (0,[])).1≤(l.getD (i - 1) (0,[])).1
        · have e:UdB l i=false:=by
           have:¬ (l.getD (i - 1) (0,[])).1<(l.getD i (0,[])).1:=by omega
           unfold UdB; rw [decide_eq_false this,decide_eq_false h2]; simp
          simp (disch:=(first | omega | (simp only [JlE]; omega))) only [↓JlH,JlF,Ua,Jji,Ufd hi',Ugi h1,ei,Ufd h3',i1] <;> simp [e]
        · have e:UdB l i=true:=by
           have:(l.getD (i - 1) (0,[])).1<(l.getD i (0,[])).1:=by omega
           unfold UdB; rw [decide_eq_true this,decide_eq_true h1]; simp
          simp (disch:=(first | omega | (simp only [JlE]; omega))) only [↓JlH,JlF,Ua,Jji,Ufd hi',Ugi h1,ei,Ufd h3',i1] <;> simp [e]) l.length n 0 (by omega) (by omega)
 rw [List.drop_zero,←UD6] at H
 exact H
theorem UuI (n:Nat) (hn:10 ^ 1000≤n) (l:List TermT) (hl:smT l) (k0:Int→Option R):∃ e:Int,p83 n (bs [48]) (tms l) k0=k0 e∧(e=0↔okT 2048 (-1) l=true):=by
 have hN:=Ual (Uat hn)
 have hL:=hl.1
 have ho:=UuR (R:=R) n l (by omega) hL k0
 rw [Ub5 (by omega)]
 unfold p83
 rw [UlQ n hn l [48] hl (by decide)]
 unfold Uo7
 rw [if_pos UMf]
 cases h1:aQ l with
 | false=>exact ⟨3,rfl,by simp⟩
 | true =>
  cases h2:aC l with
  | false=>exact ⟨2,rfl,by simp⟩
  | true =>
   rw [if_pos rfl,if_pos rfl]
   have hh:aO (-1) l=aP l:=UD5 l (-1) fun t ht=>by
    have hm:t∈l:=List.mem_of_mem_head? ht
    have:=List.all_eq_true.1 h2 t hm
    unfold inC at this
    simp only [Bool.and_eq_true,decide_eq_true_iff] at this
    omega
   rw [hh]
   have e:(UwN (rq [48]) (fun y3 y4 y5 y6 y7 y8=>bif (y8 != 0) then (bif (bif true then (y8 != 5) else false) then (k0 y8) else (Ufh n (tms l) (fun y9=>k0 y9))) else (Ufh n (tms l) (fun y10=>k0 y10))) (rdD (spL l)):Option R)=Ufh n (tms l) k0:=by
    cases rdD (spL l) <;> rfl
   rw [e,ho]
   cases aP l with
   | false=>exact ⟨3,rfl,by simp⟩
   | true=>exact ⟨0,rfl,by simp⟩
theorem UuK (n:Nat) (hn:10 ^ 1000≤n) (cols:Int) (hc:cols≤2048) (l:List TermT) (hl:smT l) (k0:Bool→Option R):p40 n cols (tms l) k0=k0 (Udr cols l):=by
 have hN:=Ual (Uat hn)
 have hL:=hl.1
 unfold p40
 obtain ⟨e,h1,h2⟩:=UuI (R:=R) n hn l hl (fun y3=>bif (y3 != 0) then (k0 false) else (bif (((tms l).length:Int) == 0) then (k0 true) else (let v4:=IntKind.i64.wrap (((tms l).length:Int) - 1); bif (inR v4 ((tms l).length)) then (Jh2 ((tms l).getD ((v4:Int).toNat) (.v (.bool false))) fun a5=>JdT a5 fun h6 t7=>Jj .i64 h6 fun e8=>JdT t7 fun h9 t10=>Jj3 h9 fun e11=>Ji2 t10 (k0 (bif false then true else (decide (e8<cols))))) else none)))
 refine Eq.trans h1 ?_
 have hcb:∀ b:Bool,(b=true↔((l.all fun t=>decide (t.1<cols))=true∧okT 2048 (-1) l=true))→Udr cols l=b:=fun b hb=>by
  unfold Udr
  rw [Bool.eq_iff_iff,Uiw hc,hb]
 by_cases h3:e=0
 · have h4:=h2.1 h3
   obtain ⟨s1,s2⟩:=Uom h4
   subst h3
   rw [show ((0:Int) != 0)=false from rfl,Uaf,Ua]
   by_cases h5:l.length=0
   · have e5:(((l.length:Nat):Int) == 0)=true:=by simp [h5]
     have:l=[]:=List.eq_nil_of_length_eq_zero h5
     rw [e5,Uay,hcb true ⟨fun _=>⟨by rw [this]; rfl,h4⟩,fun _=>rfl⟩]
   · have e5:(((l.length:Nat):Int) == 0)=false:=beq_eq_false_iff_ne.2 (by omega)
     have hlast:l.length - 1<l.length:=by omega
     have ei:(l.length:Int) - 1=((l.length - 1:Nat):Int):=by omega
     rw [e5,Uaf]
     simp (disch:=(first | omega | (simp only [JlE]; omega))) only [↓JlH,JlF,Ua,ei,Jji,Uas hlast]
     congr 1
     symm
     refine hcb _ ⟨fun h6=>⟨?_,h4⟩,fun h6=>?_⟩
     · rw [decide_eq_true_iff] at h6
       rw [List.all_eq_true]
       intro t ht
       rw [decide_eq_true_iff]
       have hls:l.length=(spL l).length:=(UlT l).symm
       obtain ⟨k,hk,rfl⟩:=List.getElem_of_mem ht
       have key:∀ (k:Nat) (h1:k<l.length) (h2:k<(spL l).length),(l[k]).1=(((spL l)[k]).1:Int):=fun k h1 h2=>by
        have e:=Uvq (l:=spL l) (i:=k) (by rw [Uak]; exact h2)
        have e2:l[k]=(vt (spL l))[k]'(by rw [Uak]; exact h2):=by congr 1
        rw [e2,e]
       have a1:=key k hk (by omega)
       have a2:=key (l.length - 1) hlast (by omega)
       have a3:=Uw3 s1.1 (by omega)
       have a4:=Uoc ((spL l)[k]'(by omega)) (List.getElem_mem _)
       rw [a2] at h6
       rw [a1]
       have a5:((spL l)[l.length - 1]'(by omega)).1=((spL l)[(spL l).length - 1]'(by omega)).1:=by congr 2; omega
       omega
     · have:=List.all_eq_true.1 h6.1 _ (List.getElem_mem hlast)
       exact this
 · have e3:(e != 0)=true:=by simp [h3]
   rw [e3,Uay,hcb false ⟨fun q=>(by cases q),fun q=>absurd (h2.2 q.2) h3⟩]
end Go.Proofs.YtmgfmlhdnadglaaGreatDoor
set_option linter.unusedVariables false
set_option maxRecDepth 100000
namespace Go.Proofs.YtmgfmlhdnadglaaGreatDoor
open Go Th Go.Proofs
noncomputable section
variable {R:Type}
def Uzz:Ann:={ loops:=[],cuts:=[],frz:=[],rm:=[.id] }
abbrev UE4 (n:Nat):Env:=eC 32 (UIN n) eN
theorem Urh (n:Nat):EnvOK Tryz.prog GI (UE4 n):=.cons (.nil) (ULi n)
def p15 (n:Nat) (x1:Int) (x2 x3 x4 x5:LP) (k0:Int→O R):O R :=
 UCn n x1 x2 x3 ([.sh x4]:LP) x5 true x1 x2 x5 x3 x4 (fun y6=>k0 y6)
abbrev UQv (n:Nat):Orc R:=oN
abbrev UPK (n:Nat):Orc R:=oN
abbrev K15 (R:Type) (n:Nat):=JcH (R:=R) Tryz.prog (UE4 n) Uzz n (17,[]) (UQv n) (UPK n)
theorem UR0 (n:Nat):Je6 (K15 R n) (JaJ Uzz (Jll Tryz.f15)):=pO pN (by kernel_rfl)
abbrev t15:Sl (List SV):=(.c (sP (JlI (.c (Jlv .i64) (.c sSh .n)))) (cH (cH (cH .n))))
abbrev f15 (n:Nat) (K:List SV→O R):t15.T (O R):=fun x1 x2 x3 x4 x5=>p15 n x1 x2 x3 x4 x5 (fun y1=>K [vI y1])
abbrev UJX (n:Nat):FS:=fT [false,false,false,false] t15 (f15 n)
theorem UOO (n:Nat):FSound Tryz.prog GI 15 (UJX n):=gd Uzz n (Urh n) Tryz.func15 (.cons (Urh n) t15 (f15 n) (fun K _ _ _ _ _=>(Jkq (c:=Jll Tryz.f15) (by kernel_rfl) (UR0 n) K).trans (by kernel_rfl)) .nil) (by kernel_rfl)
end
end Go.Proofs.YtmgfmlhdnadglaaGreatDoor
set_option linter.unusedVariables false
set_option linter.unusedSimpArgs false
namespace Go.Proofs.YtmgfmlhdnadglaaGreatDoor
open Go Th Go.Proofs
variable {R:Type}
theorem Umv:∀ {s:List SpT} {last:Int},asc last s→∀ (j k:Nat) (hj:j<k) (hk:k<s.length),(s[j]'(by omega)).1<(s[k]).1
 | t::s,last,h,0,k + 1,_,hk=>by
  have:=Ugh h.2 (s[k]'(by simpa using hk)) (List.getElem_mem _)
  show t.1<(s[k]'(by simpa using hk)).1
  omega
 | t::s,last,h,j + 1,k + 1,hj,hk=>Umv h.2 j k (by omega) (by simpa using hk)
theorem UB1 {a b:Nat} (h:a + b≤4096):Int.fdiv (IntKind.u64.wrap (IntKind.i64.wrap ((a:Int) + (b:Int)))) (2 ^ (min ((1:Int)).toNat IntKind.u64.bits))=(((a + b) / 2:Nat):Int):=by
 have e1:IntKind.i64.wrap ((a:Int) + (b:Int))=((a + b:Nat):Int):=by rw [w64 (by omega) (by omega)]; omega
 have e2:IntKind.u64.wrap ((a + b:Nat):Int)=((a + b:Nat):Int):=IntWalk.u64_in _ (by omega)
 have e3:(2:Int) ^ (min ((1:Int)).toNat IntKind.u64.bits)=2:=by decide
 rw [e1,e2,e3,Int.fdiv_eq_ediv_of_nonneg _ (by decide)]
 omega
theorem Uc6 (n:Nat) (hn:200000≤n) {s:List SpT} (hs:okS 2048 s) (c:Nat) (hc:c<2048) (x3:Int) (K:List PV→Int→Int→Int→Option R):∀ (d m lo hi:Nat),hi - lo≤d→lo≤hi→hi≤s.length→d<m →
 (∀ j (h:j<s.length),j<lo→(s[j]).1<c)→(∀ j (h:j<s.length),hi≤j→c≤(s[j]).1) →
 ∃ i:Nat,i≤s.length∧(∀ j (h:j<s.length),j<i→(s[j]).1<c)∧(∀ j (h:j<s.length),i≤j→c≤(s[j]).1)∧UbD n m (tms (vt s)) (c:Int) x3 (lo:Int) (hi:Int) K=K (tms (vt s)) (c:Int) x3 (i:Int)
 | d,0,lo,hi,h1,h2,h3,h4,h5,h6=>by omega
 | d,m + 1,lo,hi,h1,h2,h3,h4,h5,h6=>by
  have hL:=UaZ hs
  by_cases h:lo<hi
  · have hm:(lo + hi) / 2<s.length:=by omega
    have e:=UB1 (a:=lo) (b:=hi) (by omega)
    have e2:IntKind.i64.wrap ((((lo + hi) / 2:Nat)):Int)=(((lo + hi) / 2:Nat):Int):=w64 (by omega) (by omega)
    have hk:=(hs.2 _ (List.getElem_mem hm)).2.2
    by_cases h7:(s[(lo + hi) / 2]).1<c
    · obtain ⟨i,i1',i2,i3,i4⟩:=Uc6 n hn hs c hc x3 K (hi - ((lo + hi) / 2 + 1)) m ((lo + hi) / 2 + 1) hi (by omega) (by omega) h3 (by omega) (fun j hj hlt=>by
       by_cases q:j=(lo + hi) / 2
       · subst q; exact h7
       · have:=Umv hs.1 j ((lo + hi) / 2) (by omega) hm; omega) h6
      refine ⟨i,i1',i2,i3,?_⟩
      rw [←i4]
      simp only [UbD,UdM,UyJ,e,e2]
      have e5:IntKind.i64.wrap ((((s[(lo + hi) / 2]).1:Nat):Int) - (c:Int))=(((s[(lo + hi) / 2]).1:Nat):Int) - (c:Int):=w64 (by omega) (by omega)
      have e6:((((lo + hi) / 2:Nat)):Int) + 1=(((lo + hi) / 2 + 1:Nat):Int):=by omega
      simp (disch:=(first | omega | (simp only [JlE]; omega))) only [↓JlH,JlF,Ua,Uak,Jji,Uax hm,e5,e6]
    · obtain ⟨i,i1',i2,i3,i4⟩:=Uc6 n hn hs c hc x3 K ((lo + hi) / 2 - lo) m lo ((lo + hi) / 2) (by omega) (by omega) (by omega) (by omega) h5 (fun j hj hge=>by
       by_cases q:j=(lo + hi) / 2
       · subst q; omega
       · have:=Umv hs.1 ((lo + hi) / 2) j (by omega) hj; omega)
      refine ⟨i,i1',i2,i3,?_⟩
      rw [←i4]
      simp only [UbD,UdM,UyJ,e,e2]
      have e5:IntKind.i64.wrap ((((s[(lo + hi) / 2]).1:Nat):Int) - (c:Int))=(((s[(lo + hi) / 2]).1:Nat):Int) - (c:Int):=w64 (by omega) (by omega)
      simp (disch:=(first | omega | (simp only [JlE]; omega))) only [↓JlH,JlF,Ua,Uak,Jji,Uax hm,e5]
  · have e:lo=hi:=by omega
    subst e
    refine ⟨lo,h3,h5,h6,?_⟩
    simp only [UbD,UdM]
    simp (disch:=(first | omega | (simp only [JlE]; omega))) only [↓JlH,JlF]
theorem UmU (n:Nat) (hn:10 ^ 1000≤n) {r:SpR} (hr:okF 2048 r) (c:Nat) (hc:c<2048) (k0:ByteArray→Option R):p38 n (tms (vt r.1)) (bs (Uae r.2)) (c:Int) k0=k0 (bs (Uae (cf r.1 c))):=by
 have hN:=Ual (Uat hn)
 have hL:=UaZ hr.1
 unfold p38
 have hin:inC (c:Int)=true:=by unfold inC; rw [decide_eq_true (by omega:(0:Int)≤(c:Int)),decide_eq_true (by omega:(c:Int)<2048)]; rfl
 rw [Udq n (Uat hn) hr,UgQ,Uaf,Uz,hin]
 unfold Uuu p81 ULs Ut9
 simp only [Ua,Uak]
 obtain ⟨i,i1',i2,i3,i4⟩:=Uc6 (R:=R) n hN hr.1 c hc ((r.1.length:Nat):Int) (fun y3 y4 y5 y6=>bif (decide (y6<y5)) then (bif (inR y6 ((y3).length)) then (Jh2 ((y3).getD ((y6:Int).toNat) (.v (.bool false))) fun a7=>JdT a7 fun h8 t9=>Jj .i64 h8 fun e10=>JdT t9 fun h11 t12=>Jj3 h11 fun e13=>Ji2 t12 (UyJ n e10 e13 y4 (fun y14=>(fun y4 y5=>bif y5 then (bif (inR y4 (r.1.length)) then (Jh2 ((tms (vt r.1)).getD ((y4:Int).toNat) (.v (.bool false))) fun a6=>JdT a6 fun h7 t8=>Jj .i64 h7 fun e9=>JdT t8 fun h10 t11=>Jj3 h10 fun e12=>Ji2 t11 (k0 e12)) else none) else (k0 ⟨#[48]⟩)) y6 (bif true then (y14 == 0) else false)))) else none) else ((fun y4 y5=>bif y5 then (bif (inR y4 (r.1.length)) then (Jh2 ((tms (vt r.1)).getD ((y4:Int).toNat) (.v (.bool false))) fun a6=>JdT a6 fun h7 t8=>Jj .i64 h7 fun e9=>JdT t8 fun h10 t11=>Jj3 h10 fun e12=>Ji2 t11 (k0 e12)) else none) else (k0 ⟨#[48]⟩)) y6 false)) r.1.length n 0 r.1.length (by omega) (by omega) (by omega) (by omega) (fun j hj h=>by omega) (fun j hj h=>by omega)
 refine Eq.trans i4 ?_
 dsimp only
 by_cases h1:i<r.1.length
 · have hk:=(hr.1.2 _ (List.getElem_mem h1)).2.2
   have hge:=i3 i h1 (Nat.le_refl _)
   have e5:IntKind.i64.wrap ((((r.1[i]).1:Nat):Int) - (c:Int))=(((r.1[i]).1:Nat):Int) - (c:Int):=w64 (by omega) (by omega)
   by_cases h2:(r.1[i]).1=c
   · have e6:((((r.1[i]).1:Nat):Int) - (c:Int) == 0)=true:=by simp; omega
     have e7:cf r.1 c=(r.1[i]).2:=by rw [←h2]; exact Ugk hr.1.1 _ (List.getElem_mem h1)
     simp (disch:=(first | omega | (simp only [JlE]; omega))) only [↓JlH,JlF,Ua,Uak,Jji,Uax h1,UyJ,e5,e6]
     rw [e7]
   · have e6:((((r.1[i]).1:Nat):Int) - (c:Int) == 0)=false:=beq_eq_false_iff_ne.2 (by omega)
     have e7:cf r.1 c=0:=Ui fun t ht e=>by
      obtain ⟨j,hj,rfl⟩:=List.getElem_of_mem ht
      by_cases q:j<i
      · have:=i2 j hj q; omega
      · by_cases q2:j=i
        · subst q2; exact h2 e
        · have:=Umv hr.1.1 i j (by omega) hj; omega
     simp (disch:=(first | omega | (simp only [JlE]; omega))) only [↓JlH,JlF,Ua,Uak,Jji,Uax h1,UyJ,e5,e6]
     rw [e7,Ufq]
 · have e7:cf r.1 c=0:=Ui fun t ht e=>by
    obtain ⟨j,hj,rfl⟩:=List.getElem_of_mem ht
    have:=i2 j hj (by omega); omega
   simp (disch:=(first | omega | (simp only [JlE]; omega))) only [↓JlH,JlF,Ua,Uak]
   rw [e7,Ufq]
theorem UmV {cols:Int} (hc:cols≤2048) {cost:List TermT} (h:Udr cols cost=true):okF 2048 (spL cost,0)∧okF cols (spL cost,0)∧cost=vt (spL cost)∧UoZ cost [48]=0:=by
 obtain ⟨s1,s2⟩:=Uom (cols:=cols) h
 have s1':okS 2048 (spL cost):=⟨s1.1,UfB hc s1.2⟩
 refine ⟨⟨s1',UbV⟩,⟨s1,UbV⟩,s2,Ug0.2 ⟨?_,UMf⟩⟩
 rw [s2]; exact Ukg s1'.1 s1'.2
theorem UPd:rq [48]=0:=by rw [←Ufq]; exact UuT UbV
theorem UAW (n:Nat) (hn:10 ^ 1000≤n) {cols:Int} (hc:cols≤2048) {cost:List TermT} (hcb:Udr cols cost=true) (hsm:smT cost) {w:List (List UInt8)} (hw:Ude w=true) (hl:(w.length:Int)=cols) (hs:smS w) (k0:ByteArray→Int→Option R) :
 p18 n (tms cost) (bs [48]) (sl w) k0=evK k0 (Uan (evS (vq w)) 0 (spL cost)):=by
 obtain ⟨f1,f2,f3,f4⟩:=UmV hc hcb
 have e1:¬ w.length<hiC (spL cost):=by
  have:=Ugr (s:=spL cost) (b:=cols.toNat) fun t ht=>by
   have:=(f2.1.2 t ht).2.2
   omega
  omega
 rw [Usx n hn cost [48] w hsm (by decide) hs]
 unfold evA
 rw [if_neg (by simp [f4]),if_neg (by simp [hw]),if_neg e1,UPd]
noncomputable def leB (cols:Int) (a b:List SpT):Bool:=(List.range cols.toNat).all fun i=>decide (cf a i≤cf b i)
noncomputable def UtL (cols:Int) (rows:List RowT) (mult:List (List UInt8)) (cost:List TermT) (x:SpR) (y:Rat):Bool:=(adm rows mult&&decide (y=-x.2))&&leB cols x.1 (spL cost)
noncomputable def Ukb (cols:Int) (rows:List RowT) (mult:List (List UInt8)) (cost:List TermT) (w:List (List UInt8)):Option SpR→Option Bool
 | none=>none
 | some x=>match Uan (evS (vq w)) 0 (spL cost) with
  | none=>none
  | some y=>some (UtL cols rows mult cost x y)
theorem UxU {p q:Rat}:Ud2 p q≤0↔p≤q:=by
 rcases tri p q with h | h | h
 · rw [Uic h]; exact ⟨fun _=>Rat.le_of_lt h,fun _=>by decide⟩
 · rw [h,Ubn]; exact ⟨fun _=>Rat.le_refl,fun _=>by decide⟩
 · rw [Uib h]; exact ⟨fun e=>absurd e (by decide),fun e=>absurd h (Rat.not_lt.2 e)⟩
theorem UtK (n:Nat) (hn:10 ^ 1000≤n) {cols:Int} (hc:0≤cols∧cols≤2048) {x:SpR} (hx:okF 2048 x) {cost:List TermT} (hcb:Udr cols cost=true) (b:Bool) (k0:Bool→Int→Option R) :
 Uut n (tms cost) (tms (vt x.1)) (bs (Uae x.2)) b cols 0 (fun y7=>k0 y7 0)=k0 (b&&leB cols x.1 (spL cost)) 0:=by
 have hN:=Ual (Uat hn)
 obtain ⟨f1,f2,f3,f4⟩:=UmV hc.2 hcb
 obtain ⟨N,rfl⟩:∃ N:Nat,cols=(N:Int):=⟨cols.toNat,by omega⟩
 unfold Uut
 refine UaW (R:=R) (N:=N) (Inv:=fun i c=>c=(b&&(List.range i).all fun i=>decide (cf x.1 i≤cf (spL cost) i)))
  (fun m c i=>Uen n m (tms cost) (tms (vt x.1)) (bs (Uae x.2)) c (N:Int) (i:Int) (fun y7=>k0 y7 0)) (fun m c hi=>?_) (fun m c i hi hv=>?_) N n 0 b (by omega) (by omega) (by simp)
 · subst hi
   simp only [Uen,UiV]
   simp (disch:=(first | omega | (simp only [JlE]; omega))) only [↓JlH,JlF]
   unfold leB
   rw [Int.toNat_natCast]
 · subst hv
   refine .inr ⟨_,rfl,?_⟩
   have g1:=fun k=>UmU (R:=R) n hn hx i (by omega) k
   have g2:∀ k:ByteArray→Option R,p38 n (tms cost) (bs [48]) (i:Int) k=k (bs (Uae (cf (spL cost) i))):=fun k=>by
    have:=UmU (R:=R) n hn f1 i (by omega) k
    dsimp only at this
    rw [←f3,Ufq] at this
    exact this
   have g3:=fun k=>Upc (R:=R) n hn (cf x.1 i) (cf (spL cost) i) (Ud5 hx.1.2 i) (Ud5 f1.1.2 i) k
   rw [List.range_succ,List.all_append]
   simp only [Uen,UiV]
   generalize ((List.range i).all fun i=>decide (cf x.1 i≤cf (spL cost) i))=q
   cases hb:(b&&q) with
   | false =>
    have e:(b&&(q&&([i].all fun i=>decide (cf x.1 i≤cf (spL cost) i))))=false:=by rw [←Bool.and_assoc,hb,Bool.false_and]
    rw [e]
    simp (disch:=(first | omega | (simp only [JlE]; omega))) only [↓JlH,JlF,i1]
   | true =>
    have e:(b&&(q&&([i].all fun i=>decide (cf x.1 i≤cf (spL cost) i))))=decide (cf x.1 i≤cf (spL cost) i):=by rw [←Bool.and_assoc,hb]; simp
    have e2:decide (Ud2 (cf x.1 i) (cf (spL cost) i)≤0)=decide (cf x.1 i≤cf (spL cost) i):=by rw [Bool.eq_iff_iff,decide_eq_true_iff,decide_eq_true_iff,UxU]
    rw [e]
    simp (disch:=(first | omega | (simp only [JlE]; omega))) only [↓JlH,JlF,i1,g1,g2,g3,e2]
noncomputable def URc (k0:Bool→Int→Option R):Option Bool→Option R
 | none=>k0 false 5
 | some b=>k0 b 0
theorem UtM (n:Nat) (hn:10 ^ 1000≤n) {cols:Int} {rows:List RowT} {mult:List (List UInt8)} (h:okRM cols rows mult) (hc0:0≤cols) {cost:List TermT} (hcb:Udr cols cost=true) (hsm:smT cost) {w:List (List UInt8)} (hw:Ude w=true) (hl:(w.length:Int)=cols) (hs:smS w) (k0:Bool→Int→Option R) :
 p35 n cols (rws rows) (sl mult) (tms cost) (sl w) k0=URc k0 (Ukb cols rows mult cost w (Ub1 (zsR rows mult) ([],0))):=by
 unfold p35
 rw [UoS n hn cols rows mult h]
 cases hx:Ub1 (zsR rows mult) ([],0) with
 | none=>rfl
 | some x =>
  have ox:okF 2048 x:=UAV (fun y hy=>Ucg h.hc (UMW h y hy)) Umt hx
  simp only [Uvx,UgQ,Uaf]
  unfold p36
  have g1:∀ k:ByteArray→Int→Option R,p18 n (tms cost) (⟨#[48]⟩:ByteArray) (sl w) k=evK k (Uan (evS (vq w)) 0 (spL cost)):=fun k=>UAW n hn h.hc hcb hsm hw hl hs k
  rw [g1]
  unfold Ukb
  cases hy:Uan (evS (vq w)) 0 (spL cost) with
  | none=>rfl
  | some y =>
   have fy:fits y:=UkZ (vq w) UbV hy
   have g2:=fun k=>UhT (R:=R) n hn cols rows mult h k
   have g3:=fun k=>UD4 (R:=R) n hn x.2 ox.2 k
   simp only [evK,UgQ,Uaf,g2]
   unfold UtL
   cases ha:adm rows mult with
   | false =>
    simp only [Ukj,Uaf]
    rw [UtK n hn ⟨hc0,h.hc⟩ ox hcb]; rfl
   | true =>
    have e:eqS (bs (Uae y)) (bs (Uae (-x.2)))=decide (y=-x.2):=by rw [Ji7]; exact UwT y (-x.2)
    simp only [Ukj,Uay,g3,e]
    rw [UtK n hn ⟨hc0,h.hc⟩ ox hcb]; rfl
noncomputable def UgZ (cols:Int) (rows:List RowT) (cost:List TermT) (w mult:List (List UInt8)):Int :=
 if Ufj cols rows≠0 then 3 else if Udr cols cost=false then 3 else if Ude mult=false then 3 else if Ude w=false then 3 else if (w.length:Int)≠cols then 6 else if mult.length≠rows.length then 6 else
  match hM rows w with
  | none=>5
  | some false=>15
  | some true=>match Ukb cols rows mult cost w (Ub1 (zsR rows mult) ([],0)) with
   | none=>5
   | some false=>16
   | some true=>0
theorem Uv7 (n:Nat) (hn:10 ^ 1000≤n) (cols:Int) (rows:List RowT) (cost:List TermT) (w mult:List (List UInt8)) (hr:smA rows) (hcs:smT cost) (hw:smS w) (hm:smS mult) (k0:Int→Option R) :
 p15 n cols (rws rows) (tms cost) (sl w) (sl mult) k0=k0 (UgZ cols rows cost w mult):=by
 have hN:=Ual (Uat hn)
 have hL:=hw.1
 unfold p15 UCn UgZ
 rw [Uzn n (Uat hn) cols rows hr]
 by_cases h1:Ufj cols rows=0
 · obtain ⟨a,b,c,d⟩:=Ujw h1
   have e1:(Ufj cols rows != 0)=false:=by rw [h1]; rfl
   rw [e1,if_neg (by simp [h1]),Uaf,UvN n (Uat hn) cols b cost hcs]
   cases h2:Udr cols cost with
   | false=>rfl
   | true =>
    rw [if_neg (by decide)]
    simp only [Bool.not_true,Uaf,Ug5 n (Uat hn) mult hm]
    cases h3:Ude mult with
    | false=>rfl
    | true =>
     rw [if_neg (by decide)]
     unfold UiS Uow Ukh
     obtain ⟨m,rfl⟩:∃ m,n=m + 1 + 1:=⟨n - 2,by omega⟩
     have gd:(([.sh (sl w)]:List PV).getD ((0:Int).toNat) (.v (.bool false)))=.sh (sl w):=rfl
     have gl:∀ (K:List PV→Option R),Jkr (.sh (sl w)) K=K (sl w):=fun K=>rfl
     have g4:=fun k=>Ug5 (R:=R) (m + 1 + 1) (Uat hn) w hw k
     simp only [UdS,UgB]
     cases h4:Ude w with
     | false =>
      rw [h4] at g4
      simp (disch:=(first | omega | (simp only [JlE]; omega))) only [↓JlH,JlF,gd,gl,g4]
     | true =>
      rw [h4] at g4
      rw [if_neg (by decide)]
      simp only [Ucz,Uek]
      by_cases h5:(w.length:Int)=cols
      · have e5:((w.length:Int) != cols)=false:=by simp [h5]
        rw [if_neg (by simp [h5])]
        by_cases h6:mult.length=rows.length
        · have e6:((mult.length:Int) != (rows.length:Int))=false:=by simp [h6]
          have hrm:=UtV h1 h3 h6
          have ha:=UkP h1 h5 h4
          have g7:∀ k:Bool→Int→Option R,p17 (m + 1 + 1) cols (rws rows) (sl w) k=UDz k (hM rows w):=fun k=>by
           rw [Uv5 (m + 1 + 1) hn cols rows w hr hw]
           unfold UoY
           rw [if_neg (by simp [ha])]
          have g8:=fun k=>UtM (R:=R) (m + 1 + 1) hn hrm a h2 hcs h4 h5 hw k
          rw [if_neg (by simp [h6])]
          simp (disch:=(first | omega | (simp only [JlE]; omega))) only [↓JlH,JlF,gd,gl,g4,Uac,Uab,e5,e6,UdQ,UdR,g7,g8]
          cases hM rows w with
          | none=>rfl
          | some b =>
           cases b with
           | false=>rfl
           | true =>
            simp only [UDz,UgQ,Uaf,Bool.not_true]
            cases Ukb cols rows mult cost w (Ub1 (zsR rows mult) ([],0)) with
            | none=>rfl
            | some b=>cases b <;> rfl
        · have e6:((mult.length:Int) != (rows.length:Int))=true:=by simp; omega
          rw [if_pos h6]
          simp (disch:=(first | omega | (simp only [JlE]; omega))) only [↓JlH,JlF,gd,gl,g4,Uac,Uab,e5,e6]
      · have e5:((w.length:Int) != cols)=true:=by simp [h5]
        rw [if_pos h5]
        simp (disch:=(first | omega | (simp only [JlE]; omega))) only [↓JlH,JlF,gd,gl,g4,Uac,e5]
 · have e1:(Ufj cols rows != 0)=true:=by simp [h1]
   rw [e1,if_pos h1]; rfl
end Go.Proofs.YtmgfmlhdnadglaaGreatDoor
set_option linter.unusedVariables false
set_option maxRecDepth 100000
namespace Go.Proofs.YtmgfmlhdnadglaaGreatDoor
open Go Th Go.Proofs
noncomputable section
variable {R:Type}
def UbZ:Ann:={ loops:=[(4,ids [1,2,5],ids [4]),(9,ids [1,2,5,6],ids [1,2,4,5])],cuts:=[(8,ids [1,2,5],ids [1,2,4,5])],frz:=[],rm:=[.id] }
abbrev UBf (n:Nat):Env:=eN
theorem Urs (n:Nat):EnvOK Tryz.prog GI (UBf n):=.nil
def UiP (n:Nat) (l0:Int→Int→LP→Int→Int→O R) (x1 x2:Int) (x3:LP) (x4 x5:Int) (k0:Int→Int→LP→Bool→Int→O R) (k1:Int→Int→LP→Int→O R):O R :=
 bif (inR x4 ((x3).length)) then (Jh2 ((x3).getD ((x4:Int).toNat) (.v (.bool false))) fun a6=>JdT a6 fun h7 t8=>Jkr h7 fun e9=>JdT t8 fun h10 t11=>Jj3 h10 fun e12=>JdT t11 fun h13 t14=>Jj2 h13 fun e15=>JdT t14 fun h16 t17=>Jj .i64 h16 fun e18=>Ji2 t17 (bif (decide (x5<((e9).length:Int))) then (bif (inR x4 ((x3).length)) then (Jh2 ((x3).getD ((x4:Int).toNat) (.v (.bool false))) fun a19=>JdT a19 fun h20 t21=>Jkr h20 fun e22=>JdT t21 fun h23 t24=>Jj3 h23 fun e25=>JdT t24 fun h26 t27=>Jj2 h26 fun e28=>JdT t27 fun h29 t30=>Jj .i64 h29 fun e31=>Ji2 t30 (bif (inR x5 ((e22).length)) then (Jh2 ((e22).getD ((x5:Int).toNat) (.v (.bool false))) fun a32=>JdT a32 fun h33 t34=>Jj .i64 h33 fun e35=>JdT t34 fun h36 t37=>Jj3 h36 fun e38=>Ji2 t37 (bif (decide (((e38).size:Int)>x1)) then (k0 x1 x2 x3 false x4) else (l0 x1 x2 x3 x4 (IntKind.i64.wrap (x5 + 1))))) else none)) else none) else (k1 x1 x2 x3 x4))) else none
def Ueh (n:Nat):Nat→Int→Int→LP→Int→Int→(Int→Int→LP→Bool→Int→O R)→(Int→Int→LP→Int→O R)→O R
 | 0,_,_,_,_,_,_,_=>none
 | m + 1,x1,x2,x3,x4,x5,k0,k1=>UiP n (fun x1 x2 x3 x4 x5=>Ueh n m x1 x2 x3 x4 x5 k0 k1) x1 x2 x3 x4 x5 k0 k1
def UyS (n:Nat) (x1 x2:Int) (x3:LP) (x4 x5:Int) (k0:Int→Int→LP→Bool→Int→O R) (k1:Int→Int→LP→Int→O R):O R:=Ueh n n x1 x2 x3 x4 x5 k0 k1
def Uot (n:Nat) (x1 x2:Int) (x3:LP) (x4:Int) (k0:Int→Int→LP→Bool→Int→O R) (k1:Int→Int→LP→Int→O R):O R :=
 UyS n x1 x2 x3 x4 0 (fun y5 y6 y7 y8 y9=>k0 y5 y6 y7 y8 y9) (fun y10 y11 y12 y13=>k1 y10 y11 y12 y13)
def UiO (n:Nat) (l0:Int→Int→LP→Int→O R) (x1 x2:Int) (x3:LP) (x4:Int) (k0:Bool→O R) (k1:O R):O R :=
 bif (decide (x4<((x3).length:Int))) then (bif (inR x4 ((x3).length)) then (Jh2 ((x3).getD ((x4:Int).toNat) (.v (.bool false))) fun a5=>JdT a5 fun h6 t7=>Jkr h6 fun e8=>JdT t7 fun h9 t10=>Jj3 h9 fun e11=>JdT t10 fun h12 t13=>Jj2 h12 fun e14=>JdT t13 fun h15 t16=>Jj .i64 h15 fun e17=>Ji2 t16 (bif (decide (((e8).length:Int)>12)) then (k0 false) else (bif (inR x4 ((x3).length)) then (Jh2 ((x3).getD ((x4:Int).toNat) (.v (.bool false))) fun a18=>JdT a18 fun h19 t20=>Jkr h19 fun e21=>JdT t20 fun h22 t23=>Jj3 h22 fun e24=>JdT t23 fun h25 t26=>Jj2 h25 fun e27=>JdT t26 fun h28 t29=>Jj .i64 h28 fun e30=>Ji2 t29 (bif (bif false then true else (decide (((e24).size:Int)>x1))) then (k0 false) else (Uot n x1 x2 x3 x4 (fun y31 y32 y33 y34 y35=>k0 y34) (fun y36 y37 y38 y39=>l0 y36 y37 y38 (IntKind.i64.wrap (y39 + 1)))))) else none))) else none) else (k1)
def Uc1 (n:Nat):Nat→Int→Int→LP→Int→(Bool→O R)→(O R)→O R
 | 0,_,_,_,_,_,_=>none
 | m + 1,x1,x2,x3,x4,k0,k1=>UiO n (fun x1 x2 x3 x4=>Uc1 n m x1 x2 x3 x4 k0 k1) x1 x2 x3 x4 k0 k1
def UyR (n:Nat) (x1 x2:Int) (x3:LP) (x4:Int) (k0:Bool→O R) (k1:O R):O R:=Uc1 n n x1 x2 x3 x4 k0 k1
def p27 (n:Nat) (x1:Int) (x2:LP) (x3:Int) (k0:Bool→O R):O R :=
 bif (decide (((x2).length:Int)>16)) then (k0 false) else (UyR n x3 x1 x2 0 (fun y4=>k0 y4) (k0 true))
abbrev E27 (n:Nat):Code→Fr→Kc R→O R:=evC Tryz.prog (UBf n) UbZ n (61,[])
noncomputable def Uxd:Code:=Jj4 (Jll Tryz.f27) [1,1,0,1,0,0,1,0,0,1]
abbrev Uu6:Sl (List SV):=(cI (.c (sBx 24 (cI (cH .n))) (cI .n)))
abbrev Uyk (n:Nat) (K:Kc R):Uu6.T (O R):=fun x1 x2 x3 x4=>Uot n x1 x2 x3 x4 (fun y1 y2 y3 y4 y5=>xC UbZ 8 K .ret [vI y1,.bx 24 [vI y2,vH y3],vB y4,vI y5]) (fun y1 y2 y3 y4=>xC UbZ 8 K .normal [vI y1,.bx 24 [vI y2,vH y3],dD,vI y4])
noncomputable def Uxe:Code:=Jj4 (Jll Tryz.f27) [1,1,0,1,0,0]
abbrev Uhl:Sl (List SV):=(cI (.c (sBx 24 (cI (cH .n))) (cI .n)))
abbrev UsY (n m:Nat) (K:Kc R):Uhl.T (O R):=fun x1 x2 x3 x4=>Uc1 n m x1 x2 x3 x4 (fun y1=>xL UbZ 4 K .ret [vB y1]) (xL UbZ 4 K (.exit 0) [dD])
abbrev UEb (n:Nat) (K:Kc R) (l0:Uhl.T (O R)):Uhl.T (O R):=fun x1 x2 x3 x4=>UiO n l0 x1 x2 x3 x4 (fun y1=>xL UbZ 4 K .ret [vB y1]) (xL UbZ 4 K (.exit 0) [dD])
noncomputable def Uxf:Code:=Jj4 (Jll Tryz.f27) [1,1,0,1,0,0,1,0,0,1,1,0,0]
abbrev Uhm:Sl (List SV):=(cI (.c (sBx 24 (cI (cH .n))) (cI (cI .n))))
abbrev UsZ (n m:Nat) (K:Kc R):Uhm.T (O R):=fun x1 x2 x3 x4 x5=>Ueh n m x1 x2 x3 x4 x5 (fun y1 y2 y3 y4 y5=>xL UbZ 9 K .ret [vI y1,.bx 24 [vI y2,vH y3],vB y4,vI y5]) (fun y1 y2 y3 y4=>xL UbZ 9 K (.exit 2) [vI y1,.bx 24 [vI y2,vH y3],dD,vI y4])
abbrev UEc (n:Nat) (K:Kc R) (l0:Uhm.T (O R)):Uhm.T (O R):=fun x1 x2 x3 x4 x5=>UiP n l0 x1 x2 x3 x4 x5 (fun y1 y2 y3 y4 y5=>xL UbZ 9 K .ret [vI y1,.bx 24 [vI y2,vH y3],vB y4,vI y5]) (fun y1 y2 y3 y4=>xL UbZ 9 K (.exit 2) [vI y1,.bx 24 [vI y2,vH y3],dD,vI y4])
abbrev UIW (n:Nat):Orc R:=oL UbZ (E27 n) n 9 Uxf Uhm (UsZ n n) (oL UbZ (E27 n) n 4 Uxe Uhl (UsY n n) oN)
abbrev UIH (n:Nat):Orc R:=oC UbZ (E27 n) 8 Uxd Uu6 (Uyk n) oN
abbrev K27 (R:Type) (n:Nat):=JcH (R:=R) Tryz.prog (UBf n) UbZ n (61,[]) (UIW n) (UIH n)
theorem UHw (n:Nat):K27 R n (false,9,Uxf):=JkF (lo:=UIW n) (cu:=UIH n) (pO pN (by kernel_rfl)) Uhm (UsZ n n) (JiE (F:=UsZ n) Uhm (UEc n) (fun K _ _ _ _ _=>rfl) (fun _ _=>rfl) (fun L K _ _ _ _ _=>by show _=_; kernel_rfl) n) fun _ _=>rfl
theorem UHu (n:Nat):K27 R n (true,8,Uxd):=JkW (lo:=UIW n) (cu:=UIH n) (pO (pC (UHw n) pN) (by kernel_rfl)) Uu6 (Uyk n) (fun K _ _ _ _=>by show _=_; kernel_rfl) fun _ _=>rfl
theorem UHv (n:Nat):K27 R n (false,4,Uxe):=JkF (lo:=UIW n) (cu:=UIH n) (pO (pC (UHu n) pN) (by kernel_rfl)) Uhl (UsY n n) (JiE (F:=UsY n) Uhl (UEb n) (fun K _ _ _ _=>rfl) (fun _ _=>rfl) (fun L K _ _ _ _=>by show _=_; kernel_rfl) n) fun _ _=>rfl
theorem USa (n:Nat):Je6 (K27 R n) (JaJ UbZ (Jll Tryz.f27)):=pO (pC (UHv n) pN) (by kernel_rfl)
abbrev t27:Sl (List SV):=(.c (sP (JlI (.c (Jlv .i64) (.c sSh .n)))) (cI .n))
abbrev f27 (n:Nat) (K:List SV→O R):t27.T (O R):=fun x1 x2 x3=>p27 n x1 x2 x3 (fun y1=>K [vB y1])
abbrev UNV (n:Nat):FS:=fT [false,false] t27 (f27 n)
theorem URn (n:Nat):FSound Tryz.prog GI 27 (UNV n):=gd UbZ n (Urs n) Tryz.func27 (.cons (Urs n) t27 (f27 n) (fun K _ _ _=>(Jkq (c:=Jll Tryz.f27) (by kernel_rfl) (USa n) K).trans (by kernel_rfl)) .nil) (by kernel_rfl)
def UJu:Ann:={ loops:=[],cuts:=[],frz:=[],rm:=[.id] }
abbrev UNB (n:Nat):Env:=eC 27 (UNV n) eN
theorem Uyd (n:Nat):EnvOK Tryz.prog GI (UNB n):=.cons (.nil) (URn n)
def p9 (n:Nat) (x1:Int) (x2:LP) (k0:Bool→O R):O R :=
 p27 n x1 x2 14 (fun y3=>k0 y3)
abbrev lo9 (n:Nat):Orc R:=oN
abbrev cu9 (n:Nat):Orc R:=oN
abbrev K9 (R:Type) (n:Nat):=JcH (R:=R) Tryz.prog (UNB n) UJu n (5,[]) (lo9 n) (cu9 n)
theorem pa9 (n:Nat):Je6 (K9 R n) (JaJ UJu (Jll Tryz.f9)):=pO pN (by kernel_rfl)
abbrev t9:Sl (List SV):=(.c (sP (JlI (.c (Jlv .i64) (.c sSh .n)))) .n)
abbrev f9 (n:Nat) (K:List SV→O R):t9.T (O R):=fun x1 x2=>p9 n x1 x2 (fun y1=>K [vB y1])
abbrev fs9 (n:Nat):FS:=fT [false] t9 (f9 n)
theorem ok9 (n:Nat):FSound Tryz.prog GI 9 (fs9 n):=gd UJu n (Uyd n) Tryz.func9 (.cons (Uyd n) t9 (f9 n) (fun K _ _=>(Jkq (c:=Jll Tryz.f9) (by kernel_rfl) (pa9 n) K).trans (by kernel_rfl)) .nil) (by kernel_rfl)
def UhU:Ann:={ loops:=[(2,ids [0,3],ids [0,2])],cuts:=[],frz:=[],rm:=[.id] }
abbrev UA9 (n:Nat):Env:=eN
theorem Urd (n:Nat):EnvOK Tryz.prog GI (UA9 n):=.nil
def Uiz (n:Nat) (l0:LP→Int→O R) (x1:LP) (x2:Int) (k0:LP→Bool→O R) (k1:LP→O R):O R :=
 bif (decide (x2<((x1).length:Int))) then (bif (bif true then (decide (x2<20)) else false) then (bif (inR x2 ((x1).length)) then (Jj3 ((x1).getD ((x2:Int).toNat) (.v (.bool false))) fun e3=>bif (decide (((e3).size:Int)>14)) then (k0 x1 false) else (l0 x1 (IntKind.i64.wrap (x2 + 1)))) else none) else (k1 x1)) else (k1 x1)
def Uea (n:Nat):Nat→LP→Int→(LP→Bool→O R)→(LP→O R)→O R
 | 0,_,_,_,_=>none
 | m + 1,x1,x2,k0,k1=>Uiz n (fun x1 x2=>Uea n m x1 x2 k0 k1) x1 x2 k0 k1
def UyI (n:Nat) (x1:LP) (x2:Int) (k0:LP→Bool→O R) (k1:LP→O R):O R:=Uea n n x1 x2 k0 k1
def p10 (n:Nat) (x1:LP) (k0:Bool→O R):O R :=
 UyI n x1 0 (fun y2 y3=>k0 y3) (fun y4=>k0 (decide (((y4).length:Int)≤16)))
abbrev E10 (n:Nat):Code→Fr→Kc R→O R:=evC Tryz.prog (UA9 n) UhU n (23,[])
noncomputable def Uw4:Code:=Jj4 (Jll Tryz.f10) [1,0,1,0,0]
abbrev Uhh:Sl (List SV):=(cH (cI .n))
abbrev UsB (n m:Nat) (K:Kc R):Uhh.T (O R):=fun x1 x2=>Uea n m x1 x2 (fun y1 y2=>xL UhU 2 K .ret [vH y1,vB y2]) (fun y1=>xL UhU 2 K (.exit 0) [vH y1,dD])
abbrev UD8 (n:Nat) (K:Kc R) (l0:Uhh.T (O R)):Uhh.T (O R):=fun x1 x2=>Uiz n l0 x1 x2 (fun y1 y2=>xL UhU 2 K .ret [vH y1,vB y2]) (fun y1=>xL UhU 2 K (.exit 0) [vH y1,dD])
abbrev UOt (n:Nat):Orc R:=oL UhU (E10 n) n 2 Uw4 Uhh (UsB n n) oN
abbrev UNe (n:Nat):Orc R:=oN
abbrev K10 (R:Type) (n:Nat):=JcH (R:=R) Tryz.prog (UA9 n) UhU n (23,[]) (UOt n) (UNe n)
theorem UHi (n:Nat):K10 R n (false,2,Uw4):=JkF (lo:=UOt n) (cu:=UNe n) (pO pN (by kernel_rfl)) Uhh (UsB n n) (JiE (F:=UsB n) Uhh (UD8 n) (fun K _ _=>rfl) (fun _ _=>rfl) (fun L K _ _=>by show _=_; kernel_rfl) n) fun _ _=>rfl
theorem URW (n:Nat):Je6 (K10 R n) (JaJ UhU (Jll Tryz.f10)):=pO (pC (UHi n) pN) (by kernel_rfl)
abbrev t10:Sl (List SV):=(cH .n)
abbrev f10 (n:Nat) (K:List SV→O R):t10.T (O R):=fun x1=>p10 n x1 (fun y1=>K [vB y1])
abbrev UNL (n:Nat):FS:=fT [false] t10 (f10 n)
theorem URd (n:Nat):FSound Tryz.prog GI 10 (UNL n):=gd UhU n (Urd n) Tryz.func10 (.cons (Urd n) t10 (f10 n) (fun K _=>(Jkq (c:=Jll Tryz.f10) (by kernel_rfl) (URW n) K).trans (by kernel_rfl)) .nil) (by kernel_rfl)
end
end Go.Proofs.YtmgfmlhdnadglaaGreatDoor
set_option linter.unusedVariables false
set_option linter.unusedSimpArgs false
namespace Go.Proofs.YtmgfmlhdnadglaaGreatDoor
open Go Th Go.Proofs
variable {R:Type}
def UFP (r:RowT):Bool:=decide (r.tm.length≤12)&&(decide (r.c.length≤14)&&r.tm.all fun t=>decide (t.2.length≤14))
def UBN (rows:List RowT):Bool:=decide (rows.length≤16)&&rows.all UFP
def UcT (l:List (List UInt8)):Bool:=((l.take 20).all fun s=>decide (s.length≤14))&&decide (l.length≤16)
theorem UFS {rows:List RowT} (h:UBN rows=true):smA rows:=by
 unfold UBN at h
 simp only [Bool.and_eq_true,decide_eq_true_iff,List.all_eq_true] at h
 refine ⟨by omega,fun r hr=>?_⟩
 have:=h.2 r hr
 unfold UFP at this
 simp only [Bool.and_eq_true,decide_eq_true_iff,List.all_eq_true] at this
 refine ⟨⟨by omega,fun t ht=>?_⟩,by omega⟩
 have:=this.2.2 t ht
 omega
theorem UoJ {l:List (List UInt8)} (h:UcT l=true):smS l:=by
 unfold UcT at h
 simp only [Bool.and_eq_true,decide_eq_true_iff,List.all_eq_true] at h
 rw [List.take_of_length_le (by omega)] at h
 refine ⟨by omega,fun s hs=>?_⟩
 have:=h.1 s hs
 omega
theorem UFR (n:Nat) (hn:200000≤n) (cols:Int) (rows:List RowT) (i:Nat) (hi:i<rows.length) (hl:(rows[i]).tm.length≤12) (k0:Int→Int→List PV→Bool→Int→Option R) (k1:Int→Int→List PV→Int→Option R) :
 Uot n 14 cols (rws rows) (i:Int) k0 k1=if ((rows[i]).tm.all fun t=>decide (t.2.length≤14))=true then k1 14 cols (rws rows) (i:Int) else k0 14 cols (rws rows) false (i:Int):=by
 unfold Uot UyS
 have h:=Uaj (R:=R) (l:=(rows[i]).tm) (ok:=fun t=>decide (t.2.length≤14)) (kbad:=k0 14 cols (rws rows) false (i:Int)) (kend:=k1 14 cols (rws rows) (i:Int))
  (fun m j=>Ueh n m 14 cols (rws rows) (i:Int) (j:Int) (fun y5 y6 y7 y8 y9=>k0 y5 y6 y7 y8 y9) (fun y10 y11 y12 y13=>k1 y10 y11 y12 y13))
  (fun m=>by
    simp only [Ueh,UiP]
    simp (disch:=(first | omega | (simp only [JlE]; omega))) only [↓JlH,JlF,Uab,Jji,Uau hi,Ua])
  (fun m j hj=>by
    simp only [Ueh,UiP]
    by_cases h1:((rows[i]).tm[j]).2.length≤14
    · simp (disch:=(first | omega | (simp only [JlE]; omega))) only [↓JlH,JlF,Uab,Jji,Uau hi,Ua,Uas hj,i1]
    · simp (disch:=(first | omega | (simp only [JlE]; omega))) only [↓JlH,JlF,Uab,Jji,Uau hi,Ua,Uas hj,i1]
      simp [h1]) (rows[i]).tm.length n 0 (by omega) (by omega)
 rw [List.drop_zero] at h
 exact h
theorem UFQ (n:Nat) (hn:200000≤n) (cols:Int) (rows:List RowT) (k0:Bool→Option R):p9 n cols (rws rows) k0=k0 (UBN rows):=by
 unfold p9 p27 UBN
 by_cases h0:rows.length≤16
 · have h:=Uaj (R:=R) (l:=rows) (ok:=UFP) (kbad:=k0 false) (kend:=k0 true) (fun m i=>Uc1 n m 14 cols (rws rows) (i:Int) (fun y4=>k0 y4) (k0 true))
    (fun m=>by simp only [Uc1,UiO]; simp (disch:=(first | omega | (simp only [JlE]; omega))) only [↓JlH,JlF,Uab])
    (fun m i hi=>by
      simp only [Uc1,UiO,UFP]
      by_cases h1:(rows[i]).tm.length≤12
      · by_cases h2:(rows[i]).c.length≤14
        · simp (disch:=(first | omega | (simp only [JlE]; omega))) only [↓JlH,JlF,Uab,Jji,Uau hi,Ua,i1,UFR n hn cols rows i hi h1]
        · simp (disch:=(first | omega | (simp only [JlE]; omega))) only [↓JlH,JlF,Uab,Jji,Uau hi,Ua,i1]
          simp [h2]
      · simp (disch:=(first | omega | (simp only [JlE]; omega))) only [↓JlH,JlF,Uab,Jji,Uau hi,Ua,i1]
        simp [h1]) rows.length n 0 (by omega) (by omega)
   rw [List.drop_zero] at h
   have h':Uc1 n n 14 cols (rws rows) 0 (fun y4=>k0 y4) (k0 true)=_:=h
   unfold UyR
   simp (disch:=(first | omega | (simp only [JlE]; omega))) only [↓JlH,JlF,Uab,h']
   cases rows.all UFP <;> rfl
 · simp (disch:=(first | omega | (simp only [JlE]; omega))) only [↓JlH,JlF,Uab]
theorem Ukv (n:Nat) (hn:200000≤n) (l:List (List UInt8)) (k0:Bool→Option R):p10 n (sl l) k0=k0 (UcT l):=by
 unfold p10 UyI
 have hg:∀ (i:Nat) (h:i<(l.take 20).length),(l.take 20)[i]=l[i]'(by rw [List.length_take] at h; omega):=fun i h=>List.getElem_take
 have hlen:(l.take 20).length=min 20 l.length:=List.length_take
 have h:=Uaj (R:=R) (l:=l.take 20) (ok:=fun s=>decide (s.length≤14)) (kbad:=k0 false) (kend:=k0 (decide (l.length≤16)))
  (fun m i=>Uea n m (sl l) (i:Int) (fun y2 y3=>k0 y3) (fun y4=>k0 (decide (((y4).length:Int)≤16))))
  (fun m=>by
    have e:decide (((l.length:Nat):Int)≤16)=decide (l.length≤16):=by rw [Bool.eq_iff_iff]; simp; omega
    simp only [Uea,Uiz]
    rw [hlen]
    by_cases h1:l.length<20
    · rw [show min 20 l.length=l.length from by omega]
      simp (disch:=(first | omega | (simp only [JlE]; omega))) only [↓JlH,JlF,Uac,e]
    · by_cases h2:l.length=20
      · rw [show min 20 l.length=20 from by omega]
        simp (disch:=(first | omega | (simp only [JlE]; omega))) only [↓JlH,JlF,Uac,e]
      · rw [show min 20 l.length=20 from by omega]
        simp (disch:=(first | omega | (simp only [JlE]; omega))) only [↓JlH,JlF,Uac,e])
  (fun m i hi=>by
    have hi':i<l.length:=by omega
    have hi2:i<20:=by omega
    rw [hg i hi]
    simp only [Uea,Uiz]
    by_cases h1:(l[i]).length≤14
    · simp (disch:=(first | omega | (simp only [JlE]; omega))) only [↓JlH,JlF,Uac,Jji,UaO hi',i1]
    · simp (disch:=(first | omega | (simp only [JlE]; omega))) only [↓JlH,JlF,Uac,Jji,UaO hi',i1]
      simp [h1]) (l.take 20).length n 0 (by omega) (by omega)
 rw [List.drop_zero] at h
 refine Eq.trans h ?_
 unfold UcT
 cases ((l.take 20).all fun s=>decide (s.length≤14)) <;> rfl
end Go.Proofs.YtmgfmlhdnadglaaGreatDoor
set_option linter.unusedVariables false
set_option maxRecDepth 100000
namespace Go.Proofs.YtmgfmlhdnadglaaGreatDoor
open Go Th Go.Proofs
noncomputable section
variable {R:Type}
def UcU:Ann:={ loops:=[(18,ids [4,10,14,16],ids [8])],cuts:=[(3,ids [1,2,3,4],ids [8]),(5,ids [1,2,3,4],ids [8]),(16,ids [1,4,10],ids [8])],frz:=[],rm:=[.id] }
abbrev UBa (n:Nat):Env:=eC 47 (UJ4 n) (eC 46 (UDL n) (eC 45 (UN6 n) (eC 44 (UN5 n) (eC 43 (UN4 n) (eC 42 (UN3 n) (eC 41 (UJ3 n) (eC 40 (UN2 n) (eC 39 (UIP n) (eC 33 (UNY n) (eC 24 (UNT n) eN))))))))))
theorem Uri (n:Nat):EnvOK Tryz.prog GI (UBa n):=.cons (.cons (.cons (.cons (.cons (.cons (.cons (.cons (.cons (.cons (.cons (.nil) (URl n)) (URq n)) (ULk n)) (URu n)) (UOU n)) (URv n)) (URw n)) (URx n)) (URy n)) (UG0 n)) (UOV n)
def UfU (n:Nat) (l0:Int→LP→LP→Bool→LP→Bool→LP→LP→Bool→LP→Bool→LP→Int→O R) (x1:Int) (x2 x3:LP) (x4:Bool) (x5:LP) (x6:Bool) (x7 x8:LP) (x9:Bool) (x10:LP) (x11:Bool) (x12:LP) (x13:Int) (k0:Int→O R) (k1:O R):O R :=
 bif (decide (x13<x1)) then (p47 n x3 x4 x5 x6 x7 x13 (fun y14 y15 y16 y17=>p47 n x8 x9 x10 x11 x12 x13 (fun y18 y19 y20 y21=>p44 n y14 y15 y16 y17 y18 y19 y20 y21 (fun y22=>bif (decide (y22>0)) then (k0 16) else (l0 x1 x2 x3 x4 x5 x6 x7 x8 x9 x10 x11 x12 (IntKind.i64.wrap (x13 + 1))))))) else (k1)
def Ucv (n:Nat):Nat→Int→LP→LP→Bool→LP→Bool→LP→LP→Bool→LP→Bool→LP→Int→(Int→O R)→(O R)→O R
 | 0,_,_,_,_,_,_,_,_,_,_,_,_,_,_,_=>none
 | m + 1,x1,x2,x3,x4,x5,x6,x7,x8,x9,x10,x11,x12,x13,k0,k1=>UfU n (fun x1 x2 x3 x4 x5 x6 x7 x8 x9 x10 x11 x12 x13=>Ucv n m x1 x2 x3 x4 x5 x6 x7 x8 x9 x10 x11 x12 x13 k0 k1) x1 x2 x3 x4 x5 x6 x7 x8 x9 x10 x11 x12 x13 k0 k1
def UlC (n:Nat) (x1:Int) (x2 x3:LP) (x4:Bool) (x5:LP) (x6:Bool) (x7 x8:LP) (x9:Bool) (x10:LP) (x11:Bool) (x12:LP) (x13:Int) (k0:Int→O R) (k1:O R):O R:=Ucv n n x1 x2 x3 x4 x5 x6 x7 x8 x9 x10 x11 x12 x13 k0 k1
def UlB (n:Nat) (x1:LP) (x2:Int) (x3 x4:LP) (x5:Bool) (x6:LP) (x7:Bool) (x8:LP) (k0:Int→O R):O R :=
 p46 n ⟨#[48]⟩ x1 (fun y9 y10 y11 y12 y13 y14=>UlC n x2 x3 x4 x5 x6 x7 x8 y9 y10 y11 y12 y13 0 (fun y15=>k0 y15) (k0 0))
def Uul (n:Nat) (x1 x2 x3:LP) (x4:Int) (x5:LP) (k0:Int→O R):O R :=
 p42 n x4 x5 x2 (fun y6=>bif (y6 != 0) then (k0 y6) else (p24 n x4 x5 x3 (fun y7 y8 y9 y10 y11 y12=>bif (y12 != 0) then (k0 y12) else (p43 n x1 x2 (fun y13 y14 y15 y16 y17=>bif (!y17) then (k0 5) else (p33 n x4 x5 x3 (fun y18=>bif (!y18) then (k0 16) else (p45 n y8 y9 y10 y11 (fun y19 y20 y21 y22=>p44 n y13 y14 y15 y16 y19 y20 y21 y22 (fun y23=>bif (bif false then true else (y23 != 0)) then (k0 16) else (UlB n x1 x4 x5 y7 y8 y9 y10 y11 (fun y24=>k0 y24))))))))))))
def Uuk (n:Nat) (x1 x2 x3:LP) (x4:Int) (x5:LP) (k0:Int→O R):O R :=
 bif (((x2).length:Int) != x4) then (k0 6) else (bif (bif false then true else (((x3).length:Int) != ((x5).length:Int))) then (k0 6) else (Uul n x1 x2 x3 x4 x5 (fun y6=>k0 y6)))
def p16 (n:Nat) (x1:Int) (x2 x3 x4 x5:LP) (k0:Int→O R):O R :=
 p39 n x1 x2 (fun y6=>bif (y6 != 0) then (k0 3) else (p40 n x1 x3 (fun y7=>bif (bif false then true else (!y7)) then (k0 3) else (p41 n x4 (fun y8=>bif (bif false then true else (!y8)) then (k0 3) else (p41 n x5 (fun y9=>bif (bif false then true else (!y9)) then (k0 3) else (Uuk n x3 x4 x5 x1 x2 (fun y10=>k0 y10)))))))))
abbrev E16 (n:Nat):Code→Fr→Kc R→O R:=evC Tryz.prog (UBa n) UcU n (104,[])
noncomputable def Uw6:Code:=Jj4 (Jll Tryz.f16) [1,1]
abbrev Uu0:Sl (List SV):=(cH (cH (cH (.c (sBx 24 (cI (cH .n))) .n))))
abbrev Uye (n:Nat) (K:Kc R):Uu0.T (O R):=fun x1 x2 x3 x4 x5=>Uuk n x1 x2 x3 x4 x5 (fun y1=>xC UcU 3 K .ret [vI y1])
noncomputable def Uw7:Code:=Jj4 (Jll Tryz.f16) [1,1,1]
abbrev Uu1:Sl (List SV):=(cH (cH (cH (.c (sBx 24 (cI (cH .n))) .n))))
abbrev Uyf (n:Nat) (K:Kc R):Uu1.T (O R):=fun x1 x2 x3 x4 x5=>Uul n x1 x2 x3 x4 x5 (fun y1=>xC UcU 5 K .ret [vI y1])
noncomputable def Uqg:Code:=Jj4 (Jll Tryz.f16) [1,1,1,1,1,1,1,1,1]
abbrev Uma:Sl (List SV):=(cH (.c (sBx 24 (cI (cH .n))) (.c (sBx 59 (cH (cB (cH (cB (cH .n)))))) .n)))
abbrev UsQ (n:Nat) (K:Kc R):Uma.T (O R):=fun x1 x2 x3 x4 x5 x6 x7 x8=>UlB n x1 x2 x3 x4 x5 x6 x7 x8 (fun y1=>xC UcU 16 K .ret [vI y1])
noncomputable def Uqh:Code:=Jj4 (Jll Tryz.f16) [1,1,1,1,1,1,1,1,1,1,0,1,0,0]
abbrev Ue5:Sl (List SV):=(.c (sBx 24 (cI (cH .n))) (.c (sBx 59 (cH (cB (cH (cB (cH .n)))))) (.c (sBx 59 (cH (cB (cH (cB (cH .n)))))) (cI .n))))
abbrev Ulk (n m:Nat) (K:Kc R):Ue5.T (O R):=fun x1 x2 x3 x4 x5 x6 x7 x8 x9 x10 x11 x12 x13=>Ucv n m x1 x2 x3 x4 x5 x6 x7 x8 x9 x10 x11 x12 x13 (fun y1=>xL UcU 18 K .ret [vI y1]) (xL UcU 18 K (.exit 0) [dD])
abbrev UAB (n:Nat) (K:Kc R) (l0:Ue5.T (O R)):Ue5.T (O R):=fun x1 x2 x3 x4 x5 x6 x7 x8 x9 x10 x11 x12 x13=>UfU n l0 x1 x2 x3 x4 x5 x6 x7 x8 x9 x10 x11 x12 x13 (fun y1=>xL UcU 18 K .ret [vI y1]) (xL UcU 18 K (.exit 0) [dD])
abbrev UGK (n:Nat):Orc R:=oL UcU (E16 n) n 18 Uqh Ue5 (Ulk n n) oN
abbrev UEX (n:Nat):Orc R:=oC UcU (E16 n) 16 Uqg Uma (UsQ n) (oC UcU (E16 n) 5 Uw7 Uu1 (Uyf n) (oC UcU (E16 n) 3 Uw6 Uu0 (Uye n) oN))
abbrev K16 (R:Type) (n:Nat):=JcH (R:=R) Tryz.prog (UBa n) UcU n (104,[]) (UGK n) (UEX n)
theorem UC4 (n:Nat):K16 R n (false,18,Uqh):=JkF (lo:=UGK n) (cu:=UEX n) (pO pN (by kernel_rfl)) Ue5 (Ulk n n) (JiE (F:=Ulk n) Ue5 (UAB n) (fun K _ _ _ _ _ _ _ _ _ _ _ _ _=>rfl) (fun _ _=>rfl) (fun L K _ _ _ _ _ _ _ _ _ _ _ _ _=>by show _=_; kernel_rfl) n) fun _ _=>rfl
theorem UC3 (n:Nat):K16 R n (true,16,Uqg):=JkW (lo:=UGK n) (cu:=UEX n) (pO (pC (UC4 n) pN) (by kernel_rfl)) Uma (UsQ n) (fun K _ _ _ _ _ _ _ _=>by show _=_; kernel_rfl) fun _ _=>rfl
theorem UHl (n:Nat):K16 R n (true,5,Uw7):=JkW (lo:=UGK n) (cu:=UEX n) (pO (pC (UC3 n) pN) (by kernel_rfl)) Uu1 (Uyf n) (fun K _ _ _ _ _=>by show _=_; kernel_rfl) fun _ _=>rfl
theorem UHk (n:Nat):K16 R n (true,3,Uw6):=JkW (lo:=UGK n) (cu:=UEX n) (pO (pC (UHl n) pN) (by kernel_rfl)) Uu0 (Uye n) (fun K _ _ _ _ _=>by show _=_; kernel_rfl) fun _ _=>rfl
theorem UR1 (n:Nat):Je6 (K16 R n) (JaJ UcU (Jll Tryz.f16)):=pO (pC (UHk n) pN) (by kernel_rfl)
abbrev t16:Sl (List SV):=(.c (sP (JlI (.c (Jlv .i64) (.c sSh .n)))) (cH (cH (cH .n))))
abbrev f16 (n:Nat) (K:List SV→O R):t16.T (O R):=fun x1 x2 x3 x4 x5=>p16 n x1 x2 x3 x4 x5 (fun y1=>K [vI y1])
abbrev UNP (n:Nat):FS:=fT [false,false,false,false] t16 (f16 n)
theorem URh (n:Nat):FSound Tryz.prog GI 16 (UNP n):=gd UcU n (Uri n) Tryz.func16 (.cons (Uri n) t16 (f16 n) (fun K _ _ _ _ _=>(Jkq (c:=Jll Tryz.f16) (by kernel_rfl) (UR1 n) K).trans (by kernel_rfl)) .nil) (by kernel_rfl)
def UhV:Ann:={ loops:=[(2,ids [1,6,7,8],ids [1,2])],cuts:=[],frz:=[],rm:=[.id] }
abbrev UB (n:Nat):Env:=eC 10 (UNL n) (eC 9 (fs9 n) eN)
theorem Urg (n:Nat):EnvOK Tryz.prog GI (UB n):=.cons (.cons (.nil) (ok9 n)) (URd n)
def UiK (n:Nat) (l0:Int→LP→LP→LP→LP→LP→Int→Int→O R) (x1:Int) (x2 x3 x4 x5 x6:LP) (x7 x8:Int) (k0:Int→LP→LP→LP→LP→Bool→O R) (k1:Int→LP→LP→LP→LP→O R):O R :=
 bif (decide (x8<x7)) then (bif (inR x8 ((x6).length)) then (Jh2 ((x6).getD ((x8:Int).toNat) (.v (.bool false))) fun a9=>JdT a9 fun h10 t11=>Jj .i64 h10 fun e12=>JdT t11 fun h13 t14=>Jj3 h13 fun e15=>Ji2 t14 (bif (decide (((e15).size:Int)>60)) then (k0 x1 x2 x3 x4 x5 false) else (l0 x1 x2 x3 x4 x5 x6 x7 (IntKind.i64.wrap (x8 + 1))))) else none) else (k1 x1 x2 x3 x4 x5)
def Uec (n:Nat):Nat→Int→LP→LP→LP→LP→LP→Int→Int→(Int→LP→LP→LP→LP→Bool→O R)→(Int→LP→LP→LP→LP→O R)→O R
 | 0,_,_,_,_,_,_,_,_,_,_=>none
 | m + 1,x1,x2,x3,x4,x5,x6,x7,x8,k0,k1=>UiK n (fun x1 x2 x3 x4 x5 x6 x7 x8=>Uec n m x1 x2 x3 x4 x5 x6 x7 x8 k0 k1) x1 x2 x3 x4 x5 x6 x7 x8 k0 k1
def UyM (n:Nat) (x1:Int) (x2 x3 x4 x5 x6:LP) (x7 x8:Int) (k0:Int→LP→LP→LP→LP→Bool→O R) (k1:Int→LP→LP→LP→LP→O R):O R:=Uec n n x1 x2 x3 x4 x5 x6 x7 x8 k0 k1
def p14 (n:Nat) (x1:Int) (x2 x3 x4 x5:LP) (k0:Bool→O R):O R :=
 UyM n x1 x2 x3 x4 x5 x3 ((x3).length:Int) 0 (fun y6 y7 y8 y9 y10 y11=>k0 y11) (fun y12 y13 y14 y15 y16=>p9 n y12 y13 (fun y17=>bif y17 then (bif (bif true then (decide (((y14).length:Int)≤10)) else false) then (p10 n y15 (fun y18=>bif (bif true then y18 else false) then (p10 n y16 (fun y19=>k0 (bif true then y19 else false))) else (k0 false))) else (k0 false)) else (k0 false)))
abbrev E14 (n:Nat):Code→Fr→Kc R→O R:=evC Tryz.prog (UB n) UhV n (36,[])
noncomputable def Uw5:Code:=Jj4 (Jll Tryz.f14) [1,0,1,0,0]
abbrev Uhi:Sl (List SV):=(.c (sBx 35 (cI (cH (cH (cH (cH .n)))))) (cH (cI (cI .n))))
abbrev UsP (n m:Nat) (K:Kc R):Uhi.T (O R):=fun x1 x2 x3 x4 x5 x6 x7 x8=>Uec n m x1 x2 x3 x4 x5 x6 x7 x8 (fun y1 y2 y3 y4 y5 y6=>xL UhV 2 K .ret [.bx 35 [vI y1,vH y2,vH y3,vH y4,vH y5],vB y6]) (fun y1 y2 y3 y4 y5=>xL UhV 2 K (.exit 0) [.bx 35 [vI y1,vH y2,vH y3,vH y4,vH y5],dD])
abbrev UD9 (n:Nat) (K:Kc R) (l0:Uhi.T (O R)):Uhi.T (O R):=fun x1 x2 x3 x4 x5 x6 x7 x8=>UiK n l0 x1 x2 x3 x4 x5 x6 x7 x8 (fun y1 y2 y3 y4 y5 y6=>xL UhV 2 K .ret [.bx 35 [vI y1,vH y2,vH y3,vH y4,vH y5],vB y6]) (fun y1 y2 y3 y4 y5=>xL UhV 2 K (.exit 0) [.bx 35 [vI y1,vH y2,vH y3,vH y4,vH y5],dD])
abbrev UOu (n:Nat):Orc R:=oL UhV (E14 n) n 2 Uw5 Uhi (UsP n n) oN
abbrev UNf (n:Nat):Orc R:=oN
abbrev K14 (R:Type) (n:Nat):=JcH (R:=R) Tryz.prog (UB n) UhV n (36,[]) (UOu n) (UNf n)
theorem UHj (n:Nat):K14 R n (false,2,Uw5):=JkF (lo:=UOu n) (cu:=UNf n) (pO pN (by kernel_rfl)) Uhi (UsP n n) (JiE (F:=UsP n) Uhi (UD9 n) (fun K _ _ _ _ _ _ _ _=>rfl) (fun _ _=>rfl) (fun L K _ _ _ _ _ _ _ _=>by show _=_; kernel_rfl) n) fun _ _=>rfl
theorem URZ (n:Nat):Je6 (K14 R n) (JaJ UhV (Jll Tryz.f14)):=pO (pC (UHj n) pN) (by kernel_rfl)
abbrev t14:Sl (List SV):=(.c (sP (JlI (.c (Jlv .i64) (.c sSh (.c sSh (.c sSh (.c sSh .n))))))) .n)
abbrev f14 (n:Nat) (K:List SV→O R):t14.T (O R):=fun x1 x2 x3 x4 x5=>p14 n x1 x2 x3 x4 x5 (fun y1=>K [vB y1])
abbrev UNO (n:Nat):FS:=fT [false] t14 (f14 n)
theorem URg (n:Nat):FSound Tryz.prog GI 14 (UNO n):=gd UhV n (Urg n) Tryz.func14 (.cons (Urg n) t14 (f14 n) (fun K _ _ _ _ _=>(Jkq (c:=Jll Tryz.f14) (by kernel_rfl) (URZ n) K).trans (by kernel_rfl)) .nil) (by kernel_rfl)
end
end Go.Proofs.YtmgfmlhdnadglaaGreatDoor
