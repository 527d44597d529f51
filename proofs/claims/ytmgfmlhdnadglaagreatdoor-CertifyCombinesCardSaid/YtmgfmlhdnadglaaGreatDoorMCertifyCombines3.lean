/- Proved: the law CertifyCombines returns true at all its arguments (no further conditions): the row and what it stands on. -/
import Derived.Test.YtmgfmlhdnadglaaGreatDoorMCertifyCombines0
import Derived.Test.YtmgfmlhdnadglaaGreatDoorMCertifyCombines2
import Derived.Test.YtmgfmlhdnadglaaGreatDoorMCertifyCombines1
import Derived.Test.YtmgfmlhdnadglaaGreatDoorT2
import Derived.Test.YtmgfmlhdnadglaaGreatDoorT1
import Derived.Test.YtmgfmlhdnadglaaGreatDoorRows
import Derived.WalkKit
import Derived.ProofKit
import Derived.LaidMore
import Derived.Lay
import Derived.Lib.LaidTab
import Derived.Test.YtmgfmlhdnadglaaGreatDoorCards
import Derived.Test.YtmgfmlhdnadglaaGreatDoorTie
import Derived.OpenShut
import Derived.ShutString
import Derived.ChangeOld
import Derived.Below
import Derived.SizedLaws
import Derived.SevenTiedAt
import Derived.Stop.Joined
import Derived.Deep.Strs
import Derived.Carry
set_option linter.unusedVariables false
set_option maxRecDepth 100000
namespace Go.Proofs.YtmgfmlhdnadglaaGreatDoor
open Go Th Go.Proofs
noncomputable section
variable {R:Type}
def Ui8:Ann:={ loops:=[(3,ids [2,3,4,5,6],ids [2,3,4,5])],cuts:=[],frz:=[],rm:=[.id] }
abbrev UxU (n:Nat):Env:=eC 91 (UFB n) (eC 67 (UCg n) (eC 47 (UJ n) eN))
theorem UpM (n:Nat):EnvOK Tryz.prog GI (UxU n):=.cons (.cons (.cons (.nil) (UMd n)) (UEE n)) (UJ6 n)
def UhH (n:Nat) (l0:LP→Bool→LP→Bool→LP→LP→Bool→LP→Bool→LP→Bool→Bool→LP→Bool→LP→Bool→LP→Int→O R) (x1:LP) (x2:Bool) (x3:LP) (x4:Bool) (x5 x6:LP) (x7:Bool) (x8:LP) (x9:Bool) (x10:LP) (x11 x12:Bool) (x13:LP) (x14:Bool) (x15:LP) (x16:Bool) (x17:LP) (x18:Int) (k0:LP→Bool→LP→Bool→LP→LP→Bool→LP→Bool→LP→Bool→Bool→LP→Bool→LP→Bool→LP→O R):O R :=
 bif (decide (x18<((x13).length:Int))) then (p47 n x1 x2 x3 x4 x5 x18 (fun y19 y20 y21 y22=>p47 n x6 x7 x8 x9 x10 x18 (fun y23 y24 y25 y26=>p91 n y19 y20 y21 y22 y23 y24 y25 y26 (fun y27 y28 y29 y30=>bif (inR x18 ((x13).length)) then (Jh2 ((x13).getD ((x18:Int).toNat) (.v (.bool false))) fun a31=>JdT a31 fun h32 t33=>Jj2 h32 fun e34=>JdT t33 fun h35 t36=>Jkr h35 fun e37=>JdT t36 fun h38 t39=>Jj2 h38 fun e40=>JdT t39 fun h41 t42=>Jkr h41 fun e43=>Ji2 t42 (l0 x1 x2 x3 x4 x5 x6 x7 x8 x9 x10 x11 x12 ((x13).set ((x18:Int).toNat) (.agg [.v (.bool y27),.sh y28,.v (.bool y29),.sh y30])) x14 x15 x16 x17 (IntKind.i64.wrap (x18 + 1)))) else none)))) else (k0 x1 x2 x3 x4 x5 x6 x7 x8 x9 x10 x11 x12 x13 x14 x15 x16 x17)
def UdG (n:Nat):Nat→LP→Bool→LP→Bool→LP→LP→Bool→LP→Bool→LP→Bool→Bool→LP→Bool→LP→Bool→LP→Int→(LP→Bool→LP→Bool→LP→LP→Bool→LP→Bool→LP→Bool→Bool→LP→Bool→LP→Bool→LP→O R)→O R
 | 0,_,_,_,_,_,_,_,_,_,_,_,_,_,_,_,_,_,_,_=>none
 | m + 1,x1,x2,x3,x4,x5,x6,x7,x8,x9,x10,x11,x12,x13,x14,x15,x16,x17,x18,k0=>UhH n (fun x1 x2 x3 x4 x5 x6 x7 x8 x9 x10 x11 x12 x13 x14 x15 x16 x17 x18=>UdG n m x1 x2 x3 x4 x5 x6 x7 x8 x9 x10 x11 x12 x13 x14 x15 x16 x17 x18 k0) x1 x2 x3 x4 x5 x6 x7 x8 x9 x10 x11 x12 x13 x14 x15 x16 x17 x18 k0
def UvS (n:Nat) (x1:LP) (x2:Bool) (x3:LP) (x4:Bool) (x5 x6:LP) (x7:Bool) (x8:LP) (x9:Bool) (x10:LP) (x11 x12:Bool) (x13:LP) (x14:Bool) (x15:LP) (x16:Bool) (x17:LP) (x18:Int) (k0:LP→Bool→LP→Bool→LP→LP→Bool→LP→Bool→LP→Bool→Bool→LP→Bool→LP→Bool→LP→O R):O R:=UdG n n x1 x2 x3 x4 x5 x6 x7 x8 x9 x10 x11 x12 x13 x14 x15 x16 x17 x18 k0
def p70 (n:Nat) (x1:LP) (x2:Bool) (x3:LP) (x4:Bool) (x5 x6:LP) (x7:Bool) (x8:LP) (x9:Bool) (x10:LP) (k0:LP→Bool→LP→Bool→LP→O R):O R :=
 let v11:=JkU ((x1).length:Int) ((x6).length:Int); p67 n v11 (fun y12 y13 y14 y15 y16=>UvS n x1 x2 x3 x4 x5 x6 x7 x8 x9 x10 false false y12 y13 y14 y15 y16 0 (fun y17 y18 y19 y20 y21 y22 y23 y24 y25 y26 y27 y28 y29 y30 y31 y32 y33=>p91 n y18 y19 y20 y21 y23 y24 y25 y26 (fun y34 y35 y36 y37=>k0 y29 y34 y35 y36 y37)))
abbrev E70 (n:Nat):Code→Fr→Kc R→O R:=evC Tryz.prog (UxU n) Ui8 n (40,[])
noncomputable def Uuy:Code:=Jj4 (Jll Tryz.f70) [1,1,0,1,0,0]
abbrev Ugt:Sl (List SV):=(.c (sBx 59 (cH (cB (cH (cB (cH .n)))))) (.c (sBx 59 (cH (cB (cH (cB (cH .n)))))) (.c (sBx 59 (.c sNl (cB (.c sNl (cB (.c sNl .n)))))) (.c (sBx 59 (cO 57 (cB (cH (cB (cH .n)))))) (cI .n)))))
abbrev UqZ (n m:Nat) (K:Kc R):Ugt.T (O R):=fun x1 x2 x3 x4 x5 x6 x7 x8 x9 x10 x11 x12 x13 x14 x15 x16 x17 x18=>UdG n m x1 x2 x3 x4 x5 x6 x7 x8 x9 x10 x11 x12 x13 x14 x15 x16 x17 x18 (fun y1 y2 y3 y4 y5 y6 y7 y8 y9 y10 y11 y12 y13 y14 y15 y16 y17=>xL Ui8 3 K (.exit 0) [.bx 59 [vH y1,vB y2,vH y3,vB y4,vH y5],.bx 59 [vH y6,vB y7,vH y8,vB y9,vH y10],.bx 59 [.nl,vB y11,.nl,vB y12,.nl],.bx 59 [.own 57 y13,vB y14,vH y15,vB y16,vH y17]])
abbrev UAz (n:Nat) (K:Kc R) (l0:Ugt.T (O R)):Ugt.T (O R):=fun x1 x2 x3 x4 x5 x6 x7 x8 x9 x10 x11 x12 x13 x14 x15 x16 x17 x18=>UhH n l0 x1 x2 x3 x4 x5 x6 x7 x8 x9 x10 x11 x12 x13 x14 x15 x16 x17 x18 (fun y1 y2 y3 y4 y5 y6 y7 y8 y9 y10 y11 y12 y13 y14 y15 y16 y17=>xL Ui8 3 K (.exit 0) [.bx 59 [vH y1,vB y2,vH y3,vB y4,vH y5],.bx 59 [vH y6,vB y7,vH y8,vB y9,vH y10],.bx 59 [.nl,vB y11,.nl,vB y12,.nl],.bx 59 [.own 57 y13,vB y14,vH y15,vB y16,vH y17]])
abbrev UJL (n:Nat):Orc R:=oL Ui8 (E70 n) n 3 Uuy Ugt (UqZ n n) oN
abbrev UID (n:Nat):Orc R:=oN
abbrev K70 (R:Type) (n:Nat):=JcH (R:=R) Tryz.prog (UxU n) Ui8 n (40,[]) (UJL n) (UID n)
theorem UDD (n:Nat):K70 R n (false,3,Uuy):=JkF (lo:=UJL n) (cu:=UID n) (pO pN (by kernel_rfl)) Ugt (UqZ n n) (JiE (F:=UqZ n) Ugt (UAz n) (fun K _ _ _ _ _ _ _ _ _ _ _ _ _ _ _ _ _ _=>rfl) (fun _ _=>rfl) (fun L K _ _ _ _ _ _ _ _ _ _ _ _ _ _ _ _ _ _=>by show _=_; kernel_rfl) n) fun _ _=>rfl
theorem UNk (n:Nat):Je6 (K70 R n) (JaJ Ui8 (Jll Tryz.f70)):=pO (pC (UDD n) pN) (by kernel_rfl)
abbrev t70:Sl (List SV):=(.c (sP (JlI (.c sSh (.c Jlf (.c sSh (.c Jlf (.c sSh .n))))))) (.c (sP (JlI (.c sSh (.c Jlf (.c sSh (.c Jlf (.c sSh .n))))))) .n))
abbrev f70 (n:Nat) (K:List SV→O R):t70.T (O R):=fun x1 x2 x3 x4 x5 x6 x7 x8 x9 x10=>p70 n x1 x2 x3 x4 x5 x6 x7 x8 x9 x10 (fun y1 y2 y3 y4 y5=>K [.p (.agg [.sh y1,.v (.bool y2),.sh y3,.v (.bool y4),.sh y5])])
abbrev UJj (n:Nat):FS:=fT [false,false] t70 (f70 n)
theorem UMn (n:Nat):FSound Tryz.prog GI 70 (UJj n):=gd Ui8 n (UpM n) Tryz.func70 (.cons (UpM n) t70 (f70 n) (fun K _ _ _ _ _ _ _ _ _ _=>(Jkq (c:=Jll Tryz.f70) (by kernel_rfl) (UNk n) K).trans (by kernel_rfl)) .nil) (by kernel_rfl)
def UaB:Ann:={ loops:=[(7,ids [1,2,4,6,7],ids [4,5,6])],cuts:=[(3,ids [1,2,4],ids [4,5]),(8,ids [1,2,4,6,7],ids [1,2,4,5,6,7])],frz:=[],rm:=[.id,.id] }
abbrev Uo1 (n:Nat):Env:=eC 70 (UJj n) (eC 69 (UFv n) (eC 68 (UJi n) (eC 67 (UCg n) (eC 46 (UI9 n) (eC 41 (UI8 n) (eC 39 (UI7 n) (eC 25 (UFo n) eN)))))))
theorem Upd (n:Nat):EnvOK Tryz.prog GI (Uo1 n):=.cons (.cons (.cons (.cons (.cons (.cons (.cons (.cons (.nil) (UJT n)) (UMa n)) (UMb n)) (UMc n)) (UEE n)) (UMm n)) (UJ0 n)) (UMn n)
def UrO (n:Nat) (x1:LP) (x2:Int) (x3:LP) (x4 x5:Bool) (x6:LP) (x7:Bool) (x8:LP) (x9:Bool) (x10:LP) (x11:Int) (k0:LP→Int→LP→Bool→Bool→LP→Bool→LP→Bool→LP→Int→O R):O R :=
 k0 x1 x2 x3 x4 x5 x6 x7 x8 x9 x10 (IntKind.i64.wrap (x11 + 1))
def Ub9 (n:Nat) (x1:LP) (x2:Int) (x3:LP) (x4 x5:Bool) (x6:LP) (x7:Bool) (x8:LP) (x9:Bool) (x10:LP) (x11:Int) (k0:LP→Int→LP→Bool→Bool→LP→Bool→LP→Bool→LP→Int→O R):O R :=
 k0 x1 x2 x3 x4 x5 x6 x7 x8 x9 x10 (IntKind.i64.wrap (x11 + 1))
def Uc7 (n:Nat) (l0:LP→Int→LP→Bool→Bool→LP→Bool→LP→Bool→LP→Int→O R) (x1:LP) (x2:Int) (x3:LP) (x4 x5:Bool) (x6:LP) (x7:Bool) (x8:LP) (x9:Bool) (x10:LP) (x11:Int) (k0:LP→Bool→LP→Bool→LP→Int→LP→Bool→LP→Bool→LP→O R) (k1:Bool→Bool→LP→Bool→LP→Bool→LP→O R):O R :=
 bif (decide (x11<((x1).length:Int))) then (bif (inR x11 ((x1).length)) then (Jj3 ((x1).getD ((x11:Int).toNat) (.v (.bool false))) fun e12=>bif (eqS e12 (⟨#[48]⟩:ByteArray)) then (Ub9 n x1 x2 x3 x4 x5 x6 x7 x8 x9 x10 x11 (fun y13 y14 y15 y16 y17 y18 y19 y20 y21 y22 y23=>l0 y13 y14 y15 y16 y17 y18 y19 y20 y21 y22 y23)) else (bif (inR x11 ((x3).length)) then (Jh2 ((x3).getD ((x11:Int).toNat) (.v (.bool false))) fun a24=>JdT a24 fun h25 t26=>Jkr h25 fun e27=>JdT t26 fun h28 t29=>Jj3 h28 fun e30=>JdT t29 fun h31 t32=>Jj2 h31 fun e33=>JdT t32 fun h34 t35=>Jj .i64 h34 fun e36=>Ji2 t35 (bif (inR x11 ((x3).length)) then (Jh2 ((x3).getD ((x11:Int).toNat) (.v (.bool false))) fun a37=>JdT a37 fun h38 t39=>Jkr h38 fun e40=>JdT t39 fun h41 t42=>Jj3 h41 fun e43=>JdT t42 fun h44 t45=>Jj2 h44 fun e46=>JdT t45 fun h47 t48=>Jj .i64 h47 fun e49=>Ji2 t48 (p46 n e30 e40 (fun y50 y51 y52 y53 y54 y55=>bif (inR x11 ((x1).length)) then (Jj3 ((x1).getD ((x11:Int).toNat) (.v (.bool false))) fun e56=>p69 n e56 (fun y57 y58 y59 y60=>p68 n y50 y51 y52 y53 y54 y57 y58 y59 y60 (fun y61 y62 y63 y64 y65=>p25 n y61 y62 y63 y64 y65 (fun y66 y67 y68=>bif (y68 != 0) then (k0 [] false [] false [] 5 x6 x7 x8 x9 x10) else (p70 n x6 x7 x8 x9 x10 y61 y62 y63 y64 y65 (fun y69 y70 y71 y72 y73=>p25 n y69 y70 y71 y72 y73 (fun y74 y75 y76=>bif (y76 != 0) then (k0 [] false [] false [] 5 y69 y70 y71 y72 y73) else (Ub9 n x1 x2 x3 x4 x5 y69 y70 y71 y72 y73 x11 (fun y77 y78 y79 y80 y81 y82 y83 y84 y85 y86 y87=>l0 y77 y78 y79 y80 y81 y82 y83 y84 y85 y86 y87))))))))) else none))) else none)) else none)) else none) else (k1 x4 x5 x6 x7 x8 x9 x10)
def Ua4 (n:Nat):Nat→LP→Int→LP→Bool→Bool→LP→Bool→LP→Bool→LP→Int→(LP→Bool→LP→Bool→LP→Int→LP→Bool→LP→Bool→LP→O R)→(Bool→Bool→LP→Bool→LP→Bool→LP→O R)→O R
 | 0,_,_,_,_,_,_,_,_,_,_,_,_,_=>none
 | m + 1,x1,x2,x3,x4,x5,x6,x7,x8,x9,x10,x11,k0,k1=>Uc7 n (fun x1 x2 x3 x4 x5 x6 x7 x8 x9 x10 x11=>Ua4 n m x1 x2 x3 x4 x5 x6 x7 x8 x9 x10 x11 k0 k1) x1 x2 x3 x4 x5 x6 x7 x8 x9 x10 x11 k0 k1
def Uho (n:Nat) (l0:LP→Int→LP→Bool→Bool→LP→Bool→LP→Bool→LP→Int→O R) (l1:LP→Int→LP→Bool→Bool→LP→Bool→LP→Bool→LP→Int→O R) (x1:LP) (x2:Int) (x3:LP) (x4 x5:Bool) (x6:LP) (x7:Bool) (x8:LP) (x9:Bool) (x10:LP) (x11:Int) (k0:LP→Bool→LP→Bool→LP→Int→LP→Bool→LP→Bool→LP→O R) (k1:LP→Bool→LP→Bool→LP→Int→LP→Bool→LP→Bool→LP→O R) (k2:Bool→Bool→LP→Bool→LP→Bool→LP→O R) (k3:Bool→Bool→LP→Bool→LP→Bool→LP→O R):O R :=
 bif (decide (x11<((x1).length:Int))) then (bif (inR x11 ((x1).length)) then (Jj3 ((x1).getD ((x11:Int).toNat) (.v (.bool false))) fun e12=>bif (eqS e12 (⟨#[48]⟩:ByteArray)) then (UrO n x1 x2 x3 x4 x5 x6 x7 x8 x9 x10 x11 (fun y13 y14 y15 y16 y17 y18 y19 y20 y21 y22 y23=>l0 y13 y14 y15 y16 y17 y18 y19 y20 y21 y22 y23)) else (bif (inR x11 ((x3).length)) then (Jh2 ((x3).getD ((x11:Int).toNat) (.v (.bool false))) fun a24=>JdT a24 fun h25 t26=>Jkr h25 fun e27=>JdT t26 fun h28 t29=>Jj3 h28 fun e30=>JdT t29 fun h31 t32=>Jj2 h31 fun e33=>JdT t32 fun h34 t35=>Jj .i64 h34 fun e36=>Ji2 t35 (bif (inR x11 ((x3).length)) then (Jh2 ((x3).getD ((x11:Int).toNat) (.v (.bool false))) fun a37=>JdT a37 fun h38 t39=>Jkr h38 fun e40=>JdT t39 fun h41 t42=>Jj3 h41 fun e43=>JdT t42 fun h44 t45=>Jj2 h44 fun e46=>JdT t45 fun h47 t48=>Jj .i64 h47 fun e49=>Ji2 t48 (p46 n e30 e40 (fun y50 y51 y52 y53 y54 y55=>bif (inR x11 ((x1).length)) then (Jj3 ((x1).getD ((x11:Int).toNat) (.v (.bool false))) fun e56=>p69 n e56 (fun y57 y58 y59 y60=>p68 n y50 y51 y52 y53 y54 y57 y58 y59 y60 (fun y61 y62 y63 y64 y65=>p25 n y61 y62 y63 y64 y65 (fun y66 y67 y68=>bif (y68 != 0) then (k0 [] false [] false [] 5 x6 x7 x8 x9 x10) else (p70 n x6 x7 x8 x9 x10 y61 y62 y63 y64 y65 (fun y69 y70 y71 y72 y73=>p25 n y69 y70 y71 y72 y73 (fun y74 y75 y76=>bif (y76 != 0) then (k1 [] false [] false [] 5 y69 y70 y71 y72 y73) else (Ub9 n x1 x2 x3 x4 x5 y69 y70 y71 y72 y73 x11 (fun y77 y78 y79 y80 y81 y82 y83 y84 y85 y86 y87=>l1 y77 y78 y79 y80 y81 y82 y83 y84 y85 y86 y87))))))))) else none))) else none)) else none)) else none) else (k3 x4 x5 x6 x7 x8 x9 x10)
def Udq (n:Nat):Nat→LP→Int→LP→Bool→Bool→LP→Bool→LP→Bool→LP→Int→(LP→Bool→LP→Bool→LP→Int→LP→Bool→LP→Bool→LP→O R)→(LP→Bool→LP→Bool→LP→Int→LP→Bool→LP→Bool→LP→O R)→(Bool→Bool→LP→Bool→LP→Bool→LP→O R)→(Bool→Bool→LP→Bool→LP→Bool→LP→O R)→O R
 | 0,_,_,_,_,_,_,_,_,_,_,_,_,_,_,_=>none
 | m + 1,x1,x2,x3,x4,x5,x6,x7,x8,x9,x10,x11,k0,k1,k2,k3=>Uho n (fun x1 x2 x3 x4 x5 x6 x7 x8 x9 x10 x11=>Udq n m x1 x2 x3 x4 x5 x6 x7 x8 x9 x10 x11 k0 k1 k2 k3) (fun x1 x2 x3 x4 x5 x6 x7 x8 x9 x10 x11=>Ua4 n m x1 x2 x3 x4 x5 x6 x7 x8 x9 x10 x11 k1 k2) x1 x2 x3 x4 x5 x6 x7 x8 x9 x10 x11 k0 k1 k2 k3
def UvA (n:Nat) (x1:LP) (x2:Int) (x3:LP) (x4 x5:Bool) (x6:LP) (x7:Bool) (x8:LP) (x9:Bool) (x10:LP) (x11:Int) (k0:LP→Bool→LP→Bool→LP→Int→LP→Bool→LP→Bool→LP→O R) (k1:LP→Bool→LP→Bool→LP→Int→LP→Bool→LP→Bool→LP→O R) (k2:Bool→Bool→LP→Bool→LP→Bool→LP→O R) (k3:Bool→Bool→LP→Bool→LP→Bool→LP→O R):O R:=Udq n n x1 x2 x3 x4 x5 x6 x7 x8 x9 x10 x11 k0 k1 k2 k3
def UiF (n:Nat) (x1:LP) (x2:Int) (x3:LP) (x4 x5:Bool) (k0:LP→Bool→LP→Bool→LP→Int→O R):O R :=
 bif (((x1).length:Int) != ((x3).length:Int)) then (k0 [] false [] false [] 6) else (p67 n 0 (fun y6 y7 y8 y9 y10=>UvA n x1 x2 x3 x4 x5 y6 y7 y8 y9 y10 0 (fun y11 y12 y13 y14 y15 y16 y17 y18 y19 y20 y21=>k0 y11 y12 y13 y14 y15 y16) (fun y22 y23 y24 y25 y26 y27 y28 y29 y30 y31 y32=>k0 y22 y23 y24 y25 y26 y27) (fun y33 y34 y35 y36 y37 y38 y39=>k0 y35 y36 y37 y38 y39 0) (fun y40 y41 y42 y43 y44 y45 y46=>k0 y42 y43 y44 y45 y46 0)))
def p24 (n:Nat) (x1:Int) (x2 x3:LP) (k0:LP→Bool→LP→Bool→LP→Int→O R):O R :=
 p39 n x1 x2 (fun y4=>bif (y4 != 0) then (k0 [] false [] false [] 3) else (p41 n x3 (fun y5=>bif (bif false then true else (!y5)) then (k0 [] false [] false [] 3) else (UiF n x3 x1 x2 false false (fun y6 y7 y8 y9 y10 y11=>k0 y6 y7 y8 y9 y10 y11)))))
abbrev E24 (n:Nat):Code→Fr→Kc R→O R:=evC Tryz.prog (Uo1 n) UaB n (89,[])
noncomputable def Ut8:Code:=Jj4 (Jll Tryz.f24) [1,1]
abbrev Usl:Sl (List SV):=(cH (.c (sBx 24 (cI (cH .n))) (.c (sBx 59 (.c sNl (cB (.c sNl (cB (.c sNl .n)))))) .n)))
abbrev Uu7 (n:Nat) (K:Kc R):Usl.T (O R):=fun x1 x2 x3 x4 x5=>UiF n x1 x2 x3 x4 x5 (fun y1 y2 y3 y4 y5 y6=>xC UaB 3 K .ret [.bx 59 [vH y1,vB y2,vH y3,vB y4,vH y5],vI y6])
noncomputable def Uoj:Code:=Jj4 (Jll Tryz.f24) [1,1,1,1,0,1,0,0,1,1]
abbrev Ukx:Sl (List SV):=(cH (.c (sBx 24 (cI (cH .n))) (.c (sBx 59 (.c sNl (cB (.c sNl (cB (.c sNl .n)))))) (.c (sBx 59 (cO 57 (cB (cH (cB (cH .n)))))) (cI .n)))))
abbrev Uky:Sl (List SV):=(cH (.c (sBx 24 (cI (cH .n))) (.c (sBx 59 (.c sNl (cB (.c sNl (cB (.c sNl .n)))))) (.c (sBx 59 (cH (cB (cH (cB (cH .n)))))) (cI .n)))))
abbrev Uqw (n:Nat) (K:Kc R):Ukx.T (O R):=fun x1 x2 x3 x4 x5 x6 x7 x8 x9 x10 x11=>UrO n x1 x2 x3 x4 x5 x6 x7 x8 x9 x10 x11 (fun y1 y2 y3 y4 y5 y6 y7 y8 y9 y10 y11=>xC UaB 8 K .normal [vH y1,.bx 24 [vI y2,vH y3],.bx 59 [.nl,vB y4,.nl,vB y5,.nl],dD,.bx 59 [.own 57 y6,vB y7,vH y8,vB y9,vH y10],vI y11])
abbrev Uqx (n:Nat) (K:Kc R):Uky.T (O R):=fun x1 x2 x3 x4 x5 x6 x7 x8 x9 x10 x11=>Ub9 n x1 x2 x3 x4 x5 x6 x7 x8 x9 x10 x11 (fun y1 y2 y3 y4 y5 y6 y7 y8 y9 y10 y11=>xC UaB 8 K .normal [vH y1,.bx 24 [vI y2,vH y3],.bx 59 [.nl,vB y4,.nl,vB y5,.nl],dD,.bx 59 [vH y6,vB y7,vH y8,vB y9,vH y10],vI y11])
noncomputable def Uit:Code:=Jj4 (Jll Tryz.f24) [1,1,1,1,0,1,0,0]
abbrev Ubv:Sl (List SV):=(cH (.c (sBx 24 (cI (cH .n))) (.c (sBx 59 (.c sNl (cB (.c sNl (cB (.c sNl .n)))))) (.c (sBx 59 (cH (cB (cH (cB (cH .n)))))) (cI .n)))))
abbrev Ucz:Sl (List SV):=(cH (.c (sBx 24 (cI (cH .n))) (.c (sBx 59 (.c sNl (cB (.c sNl (cB (.c sNl .n)))))) (.c (sBx 59 (cO 57 (cB (cH (cB (cH .n)))))) (cI .n)))))
abbrev Ufa (n m:Nat) (K:Kc R):Ubv.T (O R):=fun x1 x2 x3 x4 x5 x6 x7 x8 x9 x10 x11=>Ua4 n m x1 x2 x3 x4 x5 x6 x7 x8 x9 x10 x11 (fun y1 y2 y3 y4 y5 y6 y7 y8 y9 y10 y11=>xL UaB 7 K .ret [.bx 59 [vH y1,vB y2,vH y3,vB y4,vH y5],vI y6,.bx 59 [vH y7,vB y8,vH y9,vB y10,vH y11]]) (fun y1 y2 y3 y4 y5 y6 y7=>xL UaB 7 K (.exit 0) [.bx 59 [.nl,vB y1,.nl,vB y2,.nl],dD,.bx 59 [vH y3,vB y4,vH y5,vB y6,vH y7]])
abbrev Uw6 (n:Nat) (K:Kc R) (l0:Ubv.T (O R)):Ubv.T (O R):=fun x1 x2 x3 x4 x5 x6 x7 x8 x9 x10 x11=>Uc7 n l0 x1 x2 x3 x4 x5 x6 x7 x8 x9 x10 x11 (fun y1 y2 y3 y4 y5 y6 y7 y8 y9 y10 y11=>xL UaB 7 K .ret [.bx 59 [vH y1,vB y2,vH y3,vB y4,vH y5],vI y6,.bx 59 [vH y7,vB y8,vH y9,vB y10,vH y11]]) (fun y1 y2 y3 y4 y5 y6 y7=>xL UaB 7 K (.exit 0) [.bx 59 [.nl,vB y1,.nl,vB y2,.nl],dD,.bx 59 [vH y3,vB y4,vH y5,vB y6,vH y7]])
abbrev UgY (n m:Nat) (K:Kc R):Ucz.T (O R):=fun x1 x2 x3 x4 x5 x6 x7 x8 x9 x10 x11=>Udq n m x1 x2 x3 x4 x5 x6 x7 x8 x9 x10 x11 (fun y1 y2 y3 y4 y5 y6 y7 y8 y9 y10 y11=>xL UaB 7 K .ret [.bx 59 [vH y1,vB y2,vH y3,vB y4,vH y5],vI y6,.bx 59 [.own 57 y7,vB y8,vH y9,vB y10,vH y11]]) (fun y1 y2 y3 y4 y5 y6 y7 y8 y9 y10 y11=>xL UaB 7 K .ret [.bx 59 [vH y1,vB y2,vH y3,vB y4,vH y5],vI y6,.bx 59 [vH y7,vB y8,vH y9,vB y10,vH y11]]) (fun y1 y2 y3 y4 y5 y6 y7=>xL UaB 7 K (.exit 0) [.bx 59 [.nl,vB y1,.nl,vB y2,.nl],dD,.bx 59 [vH y3,vB y4,vH y5,vB y6,vH y7]]) (fun y1 y2 y3 y4 y5 y6 y7=>xL UaB 7 K (.exit 0) [.bx 59 [.nl,vB y1,.nl,vB y2,.nl],dD,.bx 59 [.own 57 y3,vB y4,vH y5,vB y6,vH y7]])
abbrev Uw7 (n:Nat) (K:Kc R) (l0:Ucz.T (O R)) (l1:Ubv.T (O R)):Ucz.T (O R):=fun x1 x2 x3 x4 x5 x6 x7 x8 x9 x10 x11=>Uho n l0 l1 x1 x2 x3 x4 x5 x6 x7 x8 x9 x10 x11 (fun y1 y2 y3 y4 y5 y6 y7 y8 y9 y10 y11=>xL UaB 7 K .ret [.bx 59 [vH y1,vB y2,vH y3,vB y4,vH y5],vI y6,.bx 59 [.own 57 y7,vB y8,vH y9,vB y10,vH y11]]) (fun y1 y2 y3 y4 y5 y6 y7 y8 y9 y10 y11=>xL UaB 7 K .ret [.bx 59 [vH y1,vB y2,vH y3,vB y4,vH y5],vI y6,.bx 59 [vH y7,vB y8,vH y9,vB y10,vH y11]]) (fun y1 y2 y3 y4 y5 y6 y7=>xL UaB 7 K (.exit 0) [.bx 59 [.nl,vB y1,.nl,vB y2,.nl],dD,.bx 59 [vH y3,vB y4,vH y5,vB y6,vH y7]]) (fun y1 y2 y3 y4 y5 y6 y7=>xL UaB 7 K (.exit 0) [.bx 59 [.nl,vB y1,.nl,vB y2,.nl],dD,.bx 59 [.own 57 y3,vB y4,vH y5,vB y6,vH y7]])
abbrev Uvq (n:Nat):Orc R:=fun i vs K=>JfK (Nat.beq i 7) (Jjg (Ubv.ap vs (Ufa n n K)) (Jjg (Ucz.ap vs (UgY n n K)) (JcB UaB 7 (E24 n Uit) n vs K))) (oN i vs K)
abbrev UuL (n:Nat):Orc R:=fun i vs K=>JfK (Nat.beq i 8) (Jjg (Ukx.ap vs (Uqw n K)) (Jjg (Uky.ap vs (Uqx n K)) (Jki UaB 8 (E24 n Uoj) vs K))) ((oC UaB (E24 n) 3 Ut8 Usl (Uu7 n) oN) i vs K)
abbrev K24 (R:Type) (n:Nat):=JcH (R:=R) Tryz.prog (Uo1 n) UaB n (89,[]) (Uvq n) (UuL n)
theorem Ur4 (n:Nat):Je6 (K24 R n) (JaJ UaB Uoj):=pO pN (by kernel_rfl)
theorem UC9 (n:Nat):K24 R n (true,8,Uoj):=JkW (lo:=Uvq n) (cu:=UuL n) (Ur4 n) Ukx (Uqw n) (fun K _ _ _ _ _ _ _ _ _ _ _=>by show _=_; kernel_rfl) (JkW (lo:=Uvq n) (cu:=UuL n) (Ur4 n) Uky (Uqx n) (fun K _ _ _ _ _ _ _ _ _ _ _=>by show _=_; kernel_rfl) fun _ _=>rfl)
theorem Ur5 (n:Nat):Je6 (K24 R n) (JaJ UaB Uit):=pO (pC (UC9 n) pN) (by kernel_rfl)
theorem UoE (n:Nat):∀ m (K:Kc R),Ubv.all (fun vs r=>JcB UaB 7 (JcU Tryz.prog (Uo1 n) UaB (89,[]) (Uvq n) (UuL n) Uit) m vs K=r) (Ufa n m K):=JiE (F:=Ufa n) Ubv (Uw6 n) (fun K _ _ _ _ _ _ _ _ _ _ _=>rfl) (fun _ _=>rfl) (fun L K _ _ _ _ _ _ _ _ _ _ _=>by show _=_; kernel_rfl)
theorem Uxp (n:Nat):∀ m (K:Kc R),Ucz.all (fun vs r=>JcB UaB 7 (JcU Tryz.prog (Uo1 n) UaB (89,[]) (Uvq n) (UuL n) Uit) m vs K=r) (UgY n m K):=Jhw (F1:=Ufa n) (F:=UgY n) Ucz Ubv (Uw7 n) (fun K _ _ _ _ _ _ _ _ _ _ _=>rfl) (fun _ _=>rfl) (UoE n) (fun L K _ _ _ _ _ _ _ _ _ _ _=>by show _=_; kernel_rfl)
theorem UD (n:Nat):K24 R n (false,7,Uit):=JkF (lo:=Uvq n) (cu:=UuL n) (Ur5 n) Ubv (Ufa n n) (UoE n n) (JkF (lo:=Uvq n) (cu:=UuL n) (Ur5 n) Ucz (UgY n n) (Uxp n n) fun _ _=>rfl)
theorem UC8 (n:Nat):K24 R n (true,3,Ut8):=JkW (lo:=Uvq n) (cu:=UuL n) (pO (pC (UD n) pN) (by kernel_rfl)) Usl (Uu7 n) (fun K _ _ _ _ _=>by show _=_; kernel_rfl) fun _ _=>rfl
theorem UMM (n:Nat):Je6 (K24 R n) (JaJ UaB (Jll Tryz.f24)):=pO (pC (UC8 n) pN) (by kernel_rfl)
abbrev t24:Sl (List SV):=(.c (sP (JlI (.c (Jlv .i64) (.c sSh .n)))) (cH .n))
abbrev f24 (n:Nat) (K:List SV→O R):t24.T (O R):=fun x1 x2 x3=>p24 n x1 x2 x3 (fun y1 y2 y3 y4 y5 y6=>K [.p (.agg [.sh y1,.v (.bool y2),.sh y3,.v (.bool y4),.sh y5]),vI y6])
abbrev UIZ (n:Nat):FS:=fT [false,false] t24 (f24 n)
theorem UL3 (n:Nat):FSound Tryz.prog GI 24 (UIZ n):=gd UaB n (Upd n) Tryz.func24 (.cons (Upd n) t24 (f24 n) (fun K _ _ _=>(Jkq (c:=Jll Tryz.f24) (by kernel_rfl) (UMM n) K).trans (by kernel_rfl)) .nil) (by kernel_rfl)
abbrev t34:Sl (List SV):=(.c (sP (JlI (.c Jlf (.c sSh (.c Jlf (.c sSh .n)))))) .n)
end
end Go.Proofs.YtmgfmlhdnadglaaGreatDoor
set_option linter.unusedVariables false
set_option linter.unusedSimpArgs false
namespace Go.Proofs.YtmgfmlhdnadglaaGreatDoor
open Go Th Go.Proofs
variable {R:Type}
theorem Udb {N:Nat} {σ:Type} {Inv:Nat→σ→Prop} (L:Nat→σ→Nat→Option R) {r:Option R} (hend:∀ m s,Inv N s→L (m + 1) s N=r)
 (hstep:∀ m s i,i<N→Inv i s→L (m + 1) s i=r∨∃ s',Inv (i + 1) s'∧L (m + 1) s i=L m s' (i + 1)):∀ (d m i:Nat) (s:σ),d + i=N→d<m→Inv i s→L m s i=r
 | 0,m + 1,i,s,hd,hm,hs=>by
  have:i=N:=by omega
  subst this
  exact hend m s hs
 | d + 1,m + 1,i,s,hd,hm,hs=>by
  rcases hstep m s i (by omega) hs with h | ⟨s',h1,h2⟩
  · exact h
  · rw [h2]; exact Udb L hend hstep d m (i + 1) s' (by omega) (by omega) h1
theorem Urf (n:Nat) (hn:10 ^ 400≤n) (k0:Bool→List PV→Bool→List PV→Option R):p92 n k0=k0 (sg (0:Rat).num) (II (0:Rat).num.natAbs) false (II (0:Rat).den):=by
 have hN:=UaC hn
 have h1:=fun k=>Uth (R:=R) n 0 (by decide +kernel) hN k
 have e0:Lib.itoa 0=[48]:=by decide +kernel
 have e1:IntKind.i64.wrap (0 + 1)=1:=by decide
 have e2:(sg 0,II (0:Int).natAbs,II 1)=(sg (0:Rat).num,II (0:Rat).num.natAbs,II (0:Rat).den):=rfl
 simp only [Prod.mk.injEq] at e2
 rw [e0] at h1
 unfold p92 UGM
 simp only [Uam,e1]
 rw [show Je5 0 1 (⟨#[48,49,50,51,52,53,54,55,56,57]⟩:ByteArray).size=true from rfl,UaL]
 have h1':∀ k:Bool→List PV→Option R,Uvy n (ByteArray.extract (⟨#[48,49,50,51,52,53,54,55,56,57]⟩:ByteArray) (0:Int).toNat (1:Int).toNat) k=k (sg 0) (II (0:Int).natAbs):=h1
 rw [h1']
 unfold Utk Uvx p77 Utk
 rw [←Unj,Uap,show ll (0:Int).natAbs=0 from UbJ]
 rw [e2.1,e2.2.1,e2.2.2]
 rfl
theorem UHv (l:List Rat) (q:Rat):qs l++[.agg [.v (.bool (sg q.num)),.sh (II q.num.natAbs),.v (.bool false),.sh (II q.den)]]=qs (l++[q]):=UDR l q
theorem Uin (n:Nat) (hn:10 ^ 400≤n) (c:Nat) (hc:c≤2048) (k0:List PV→Bool→List PV→Bool→List PV→Option R) :
 p67 n (c:Int) k0=k0 (qs (List.replicate c 0)) (sg (0:Rat).num) (II (0:Rat).num.natAbs) false (II (0:Rat).den):=by
 have hN:=UaC hn
 have h0:=fun k=>Urf (R:=R) n hn k
 unfold p67 UvQ
 rw [h0]
 refine Udb (R:=R) (N:=c) (Inv:=fun i d=>d=List.replicate i 0)
  (fun m d i=>UdE n m (c:Int) false false (qs d) (sg (0:Rat).num) (II (0:Rat).num.natAbs) false (II (0:Rat).den) (i:Int) (fun y6 y7 y8 y9 y10 y11 y12=>k0 y8 y9 y10 y11 y12))
  (fun m d hd=>?_) (fun m d i hi hd=>?_) c n 0 [] (by omega) (by omega) rfl
 · subst hd
   simp only [UdE,UhF]
   simp (disch:=(first | omega | (simp only [JlE]; omega))) only [↓JlH,JlF]
 · subst hd
   refine .inr ⟨List.replicate i 0++[0],by rw [List.replicate_succ'],?_⟩
   simp only [UdE,UhF]
   simp (disch:=(first | omega | (simp only [JlE]; omega))) only [↓JlH,JlF,h0,UaP,List.length_replicate,i1,UHv]
theorem UmL (n:Nat) (hn:10 ^ 400≤n) {q:Rat} (hq:fits q) (k0:Bool→List PV→Bool→List PV→Option R):p69 n (bs (Uag q)) k0=k0 (sg q.num) (II q.num.natAbs) false (II q.den):=by
 unfold p69
 rw [UmN n hn q hq]; rfl
theorem Uri (n:Nat) (q:Rat) (k0:Bool→Option R):p71 n (sg q.num) (II q.num.natAbs) false (II q.den) k0=k0 (!decide (ll q.num.natAbs≤400∧ll q.den≤400)):=by
 unfold p71 UEH
 rw [Uap,Uap]
 by_cases h1:ll q.num.natAbs≤400
 · have e1:decide (((ll q.num.natAbs:Nat):Int)>400)=false:=by simp; omega
   by_cases h2:ll q.den≤400
   · have e2:decide (((ll q.den:Nat):Int)>400)=false:=by simp; omega
     rw [e1,e2,decide_eq_true ⟨h1,h2⟩]; rfl
   · have e2:decide (((ll q.den:Nat):Int)>400)=true:=by simp; omega
     rw [e1,e2,decide_eq_false (p:=ll q.num.natAbs≤400∧ll q.den≤400) (fun h=>h2 h.2)]; rfl
 · have e1:decide (((ll q.num.natAbs:Nat):Int)>400)=true:=by simp; omega
   rw [e1,decide_eq_false (p:=ll q.num.natAbs≤400∧ll q.den≤400) (fun h=>h1 h.1)]; rfl
theorem Urk (n:Nat) {q:Rat} (h:fits q) (k0:Bool→Option R):p71 n (sg q.num) (II q.num.natAbs) false (II q.den) k0=k0 false:=by
 rw [Uri,decide_eq_true (Ucr.1 h)]; rfl
theorem Urj (n:Nat) {q:Rat} (h:¬ fits q) (k0:Bool→Option R):p71 n (sg q.num) (II q.num.natAbs) false (II q.den) k0=k0 true:=by
 rw [Uri,decide_eq_false (fun q=>h (Ucr.2 q))]; rfl
theorem UtV (n:Nat) (q:Rat) (k0:Bool→Option R):p72 n (sg q.num) (II q.num.natAbs) false (II q.den) k0=k0 (decide (q=0)):=by
 unfold p72 p77
 rw [Uap]
 congr 1
 rw [Bool.eq_iff_iff,beq_iff_eq,decide_eq_true_iff,←Rat.num_eq_zero]
 have:=UcT (a:=q.num.natAbs)
 omega
def hiC (s:List SpT):Nat:=s.foldl (fun c t=>max c (t.1 + 1)) 0
theorem Ufd:∀ (s:List SpT) (c:Nat),c≤s.foldl (fun c t=>max c (t.1 + 1)) c∧(∀ t∈s,t.1<s.foldl (fun c t=>max c (t.1 + 1)) c)∧∀ b,c≤b→(∀ t∈s,t.1<b)→s.foldl (fun c t=>max c (t.1 + 1)) c≤b
 | [],c=>⟨Nat.le_refl _,(by intro t h; cases h),fun b h _=>h⟩
 | t::s,c=>by
  obtain ⟨h1,h2,h3⟩:=Ufd s (max c (t.1 + 1))
  rw [List.foldl_cons]
  refine ⟨by omega,fun x hx=>?_,fun b hb hx=>h3 b ?_ fun y hy=>hx y (List.mem_cons_of_mem _ hy)⟩
  · rcases List.mem_cons.1 hx with rfl | hx
    · omega
    · exact h2 x hx
  · have:=hx t (List.mem_cons_self ..)
    omega
theorem Uvj {s:List SpT}:∀ t∈s,t.1<hiC s:=(Ufd s 0).2.1
theorem Uvi {s:List SpT} {b:Nat} (h:∀ t∈s,t.1<b):hiC s≤b:=(Ufd s 0).2.2 b (Nat.zero_le _) h
theorem Uyq (c t:Nat):JkU (c:Int) ((t + 1:Nat):Int)=((max c (t + 1):Nat):Int):=by
 unfold JkU
 split <;> omega
def okC (s:List SpT):Prop:=∀ t∈s,fits t.2∧t.1<2048
noncomputable def Uzt (c:Rat) (k0:List PV→Bool→List PV→Bool→List PV→Int→Option R):Option (List Rat)→Option R
 | none=>k0 [] false [] false [] 5
 | some d=>k0 (qs d) (sg c.num) (II c.num.natAbs) false (II c.den) 0
noncomputable def rdD (s:List SpT):Option (List Rat):=UaH rdT (List.replicate (hiC s) 0) s
theorem UDT (n:Nat) (hn:10 ^ 1000≤n) {s:List SpT} (hs:okC s) (hl:s.length<2 ^ 17) (c:Rat) (k0:List PV→Bool→List PV→Bool→List PV→Int→Option R) :
 Ucx n (tms (vt s)) false false (qs (List.replicate (hiC s) 0)) (sg c.num) (II c.num.natAbs) false (II c.den) 0 (fun y39 y40 y41 y42 y43 y44 y45 y46 y47 y48 y49=>k0 y39 y40 y41 y42 y43 y44) (fun y50 y51 y52 y53 y54 y55 y56=>k0 y52 y53 y54 y55 y56 0)=Uzt c k0 (rdD s):=by
 have hN:=UaC (Ubb hn)
 have H:=Udc (R:=R) (l:=s) (step:=rdT) (kerr:=k0 [] false [] false [] 5) (kend:=fun d=>k0 (qs d) (sg c.num) (II c.num.natAbs) false (II c.den) 0) (Inv:=fun i d=>d.length=hiC s∧∀ x∈d,fits x)
  (fun m d i=>Uca n m (tms (vt s)) false false (qs d) (sg c.num) (II c.num.natAbs) false (II c.den) (i:Int) (fun y39 y40 y41 y42 y43 y44 y45 y46 y47 y48 y49=>k0 y39 y40 y41 y42 y43 y44) (fun y50 y51 y52 y53 y54 y55 y56=>k0 y52 y53 y54 y55 y56 0))
  (fun m d hd=>by
    simp only [Uca,UeP]
    simp (disch:=(first | omega | (simp only [JlE]; omega))) only [↓JlH,JlF,Ua,Uas])
  (fun d d' i hi hd he=>by
    unfold rdT at he
    split at he
    · rename_i hf
      simp only [Option.some.injEq] at he
      subst he
      refine ⟨by rw [List.length_set]; exact hd.1,fun x hx=>?_⟩
      rcases List.mem_or_eq_of_mem_set hx with h | h
      · exact hd.2 x h
      · rw [h]; exact hf
    · cases he)
  (fun m d i hi hd=>by
    have ht:=hs _ (List.getElem_mem hi)
    have hti:=Uvj _ (List.getElem_mem hi)
    rw [←hd.1] at hti
    have g1:=fun k=>UmL (R:=R) n (Ubb hn) ht.1 k
    have hfd:fits (d[(s[i]).1]):=hd.2 _ (List.getElem_mem hti)
    have g2:=fun k=>Ufx (R:=R) n hn (d[(s[i]).1]) (s[i]).2 hfd ht.1 k
    have eg:d.getD (s[i]).1 0=d[(s[i]).1]:=by rw [List.getD_eq_getElem?_getD,List.getElem?_eq_getElem hti]; rfl
    have hti':(s[i]).1<(d.set (s[i]).1 (d[(s[i]).1] + (s[i]).2)).length:=by rw [List.length_set]; exact hti
    have hin1:inR ((s[i]).1:Int) d.length=true:=Jku (by omega) (by omega)
    simp only [Uca,UeP,rdT,eg]
    by_cases hf:fits (d[(s[i]).1] + (s[i]).2)
    · have g3:=fun k=>Urk (R:=R) n hf k
      rw [if_pos hf]
      simp (disch:=(first | omega | (simp only [JlE]; omega))) only [↓JlH,JlF,Ua,Uas,Jji,UaQ hi,i1,UaP,hin1,Ufv hti,g1,g2,UmI,List.length_set,Ufv hti',List.getElem_set_self,g3]
      rfl
    · have g3:=fun k=>Urj (R:=R) n hf k
      rw [if_neg hf]
      simp (disch:=(first | omega | (simp only [JlE]; omega))) only [↓JlH,JlF,Ua,Uas,Jji,UaQ hi,i1,UaP,hin1,Ufv hti,g1,g2,UmI,List.length_set,Ufv hti',List.getElem_set_self,g3]
      rfl) s.length n 0 (List.replicate (hiC s) 0) (by omega) (by omega) ⟨List.length_replicate ..,fun x hx=>by rw [(List.mem_replicate.1 hx).2]; exact UfJ⟩
 rw [List.drop_zero] at H
 unfold Ucx
 refine Eq.trans H ?_
 unfold rdD
 cases UaH rdT (List.replicate (hiC s) 0) s <;> rfl
theorem UDZ {l:List TermT} (h1:aQ l=true) (h2:aC l=true):okC (spL l)∧l=vt (spL l):=by
 unfold aQ at h1
 unfold aC at h2
 rw [List.all_eq_true] at h1 h2
 refine ⟨fun t ht=>?_,?_⟩
 · obtain ⟨x,hx,rfl⟩:=List.mem_map.1 ht
   have a:=UtT (h1 x hx)
   have b:=h2 x hx
   unfold inC at b
   simp only [Bool.and_eq_true,decide_eq_true_iff] at b
   exact ⟨a.1,by show x.1.toNat<2048; omega⟩
 · unfold vt spL
   rw [List.map_map]
   conv=>lhs; rw [←List.map_id l]
   refine List.map_congr_left fun x hx=>?_
   have a:=UtT (h1 x hx)
   have b:=h2 x hx
   unfold inC at b
   simp only [Bool.and_eq_true,decide_eq_true_iff] at b
   simp only [Function.comp,id_eq]
   refine Prod.ext ?_ a.2
   show x.1=((x.1.toNat:Nat):Int)
   omega
theorem UzD (l:List TermT):(spL l).length=l.length:=by unfold spL; rw [List.length_map]
noncomputable def UtP (l:List TermT) (c:List UInt8) (k0:List PV→Bool→List PV→Bool→List PV→Int→Option R):Option R :=
 if qb c=true then (if aQ l=true then (if aC l=true then Uzt (rq c) k0 (rdD (spL l)) else k0 [] false [] false [] 2) else k0 [] false [] false [] 3) else k0 [] false [] false [] 3
theorem Uzy (n:Nat) (hn:10 ^ 1000≤n) (l:List TermT) (c:List UInt8) (hl:smT l) (hc:c.length<2 ^ 17) (k0:List PV→Bool→List PV→Bool→List PV→Int→Option R) :
 p46 n (bs c) (tms l) k0=UtP l c k0:=by
 have hN:=UaC (Ubb hn)
 have hL:=hl.1
 unfold p46 UtP
 rw [Ud n (Ubb hn) c hc]
 cases hqc:qb c with
 | false=>rfl
 | true =>
  rw [if_pos rfl,Bool.not_true,Uam]
  have H4:=Uau (R:=R) (l:=l) (ok:=fun t=>qb t.2) (kbad:=k0 [] false [] false [] 3) (kend:=Uhw n (bs c) (tms l) false false 0 0 (fun y16 y17 y18 y19 y20 y21 y22 y23 y24=>k0 y18 y19 y20 y21 y22 y23) (fun y25 y26 y27 y28 y29=>p67 n y29 (fun y30 y31 y32 y33 y34=>p69 n y25 (fun y35 y36 y37 y38=>Ucx n y26 y27 y28 y30 y35 y36 y37 y38 0 (fun y39 y40 y41 y42 y43 y44 y45 y46 y47 y48 y49=>k0 y39 y40 y41 y42 y43 y44) (fun y50 y51 y52 y53 y54 y55 y56=>k0 y52 y53 y54 y55 y56 0)))))
   (fun m i=>Udy n m (bs c) (tms l) false false (i:Int) (fun y4 y5 y6 y7 y8 y9 y10 y11=>k0 y6 y7 y8 y9 y10 y11) (fun y12 y13 y14 y15=>Uhw n y12 y13 y14 y15 0 0 (fun y16 y17 y18 y19 y20 y21 y22 y23 y24=>k0 y18 y19 y20 y21 y22 y23) (fun y25 y26 y27 y28 y29=>p67 n y29 (fun y30 y31 y32 y33 y34=>p69 n y25 (fun y35 y36 y37 y38=>Ucx n y26 y27 y28 y30 y35 y36 y37 y38 0 (fun y39 y40 y41 y42 y43 y44 y45 y46 y47 y48 y49=>k0 y39 y40 y41 y42 y43 y44) (fun y50 y51 y52 y53 y54 y55 y56=>k0 y52 y53 y54 y55 y56 0))))))
   (fun m=>by simp only [Udy,Uhx]; simp (disch:=(first | omega | (simp only [JlE]; omega))) only [↓JlH,JlF,Ua])
   (fun m i hi=>by
     have hv:=fun k=>Ud (R:=R) n (Ubb hn) (l[i]).2 (hl.2 _ (List.getElem_mem hi)) k
     simp only [Udy,Uhx]
     simp (disch:=(first | omega | (simp only [JlE]; omega))) only [↓JlH,JlF,Ua,Jji,Uar hi,i1,hv]
     cases qb (l[i]).2 <;> rfl) l.length n 0 (by omega) (by omega)
  rw [List.drop_zero] at H4
  unfold UvK
  refine Eq.trans H4 ?_
  cases haq:aQ l with
  | false =>
   have e:(l.all fun t=>qb t.2)=false:=haq
   rw [e]; rfl
  | true =>
   have e:(l.all fun t=>qb t.2)=true:=haq
   rw [e,if_pos rfl,if_pos rfl]
   have H10:=UfA (R:=R) (l:=l) (step:=fun (cc:Nat) (t:TermT) K=>if inC t.1=true then K (max cc (t.1.toNat + 1)) else k0 [] false [] false [] 2)
    (kend:=fun cc=>p67 n (cc:Int) (fun y30 y31 y32 y33 y34=>p69 n (bs c) (fun y35 y36 y37 y38=>Ucx n (tms l) false false y30 y35 y36 y37 y38 0 (fun y39 y40 y41 y42 y43 y44 y45 y46 y47 y48 y49=>k0 y39 y40 y41 y42 y43 y44) (fun y50 y51 y52 y53 y54 y55 y56=>k0 y52 y53 y54 y55 y56 0))))
    (fun m cc i=>Uc n m (bs c) (tms l) false false (cc:Int) (i:Int) (fun y16 y17 y18 y19 y20 y21 y22 y23 y24=>k0 y18 y19 y20 y21 y22 y23) (fun y25 y26 y27 y28 y29=>p67 n y29 (fun y30 y31 y32 y33 y34=>p69 n y25 (fun y35 y36 y37 y38=>Ucx n y26 y27 y28 y30 y35 y36 y37 y38 0 (fun y39 y40 y41 y42 y43 y44 y45 y46 y47 y48 y49=>k0 y39 y40 y41 y42 y43 y44) (fun y50 y51 y52 y53 y54 y55 y56=>k0 y52 y53 y54 y55 y56 0)))))
    (fun m cc=>by simp only [Uc,UeO]; simp (disch:=(first | omega | (simp only [JlE]; omega))) only [↓JlH,JlF,Ua])
    (fun m cc i hi=>by
      simp only [Uc,UeO,inC]
      by_cases h1:(l[i]).1<0
      · have e1:¬ 0≤(l[i]).1:=by omega
        simp (disch:=(first | omega | (simp only [JlE]; omega))) only [↓JlH,JlF,Ua,Jji,Uar hi,i1]
        simp [e1]
      · by_cases h2:(l[i]).1≥2048
        · have e1:¬ (l[i]).1<2048:=by omega
          simp (disch:=(first | omega | (simp only [JlE]; omega))) only [↓JlH,JlF,Ua,Jji,Uar hi,i1] <;> simp [e1]
        · have e1:(l[i]).1<2048:=by omega
          have e2:0≤(l[i]).1:=by omega
          obtain ⟨a,ha⟩:∃ a:Nat,(l[i]).1=(a:Int):=⟨(l[i]).1.toNat,by omega⟩
          rw [ha] at h1 h2 e1 e2
          simp (disch:=(first | omega | (simp only [JlE]; omega))) only [↓JlH,JlF,Ua,Jji,Uar hi,i1,ha,Uyq] <;> simp [e1,e2]) l.length n 0 0 (by omega) (by omega)
   rw [List.drop_zero] at H10
   unfold Uhw
   refine Eq.trans H10 ?_
   have key:∀ (kend:Nat→Option R) (r:List TermT) (cc:Nat),UvY (fun (cc:Nat) (t:TermT) K=>if inC t.1=true then K (max cc (t.1.toNat + 1)) else k0 [] false [] false [] 2) kend cc r =
    if aC r=true then kend ((spL r).foldl (fun c t=>max c (t.1 + 1)) cc) else k0 [] false [] false [] 2:=by
    intro kend r
    induction r with
    | nil=>intro cc; rfl
    | cons t r ih =>
     intro cc
     simp only [UvY,aC,List.all_cons] at ih ⊢
     rcases Bool.eq_false_or_eq_true (inC t.1) with h | h
     · have e9:(inC t.1&&r.all fun t=>inC t.1)=(r.all fun t=>inC t.1):=by rw [h,Bool.true_and]
       simp only [if_pos h,ih,e9]
       rfl
     · simp [h]
   rw [key]
   cases hac:aC l with
   | false=>rfl
   | true =>
    rw [if_pos rfl,if_pos rfl]
    obtain ⟨o1,o2⟩:=UDZ haq hac
    have o3:=UtT hqc
    have ez:=Uin (R:=R) n (Ubb hn) (hiC (spL l)) (Uvi fun t ht=>(o1 t ht).2)
    have eo:=fun k=>UmL (R:=R) n (Ubb hn) o3.1 k
    rw [←o3.2] at eo
    show p67 n ((hiC (spL l):Nat):Int) _=_
    rw [ez]
    simp only [eo]
    have e18:=UDT (R:=R) n hn o1 (by rw [UzD]; exact hL) (rq c) k0
    rw [←o2] at e18
    exact e18
end Go.Proofs.YtmgfmlhdnadglaaGreatDoor
set_option linter.unusedVariables false
set_option maxRecDepth 100000
namespace Go.Proofs.YtmgfmlhdnadglaaGreatDoor
open Go Th Go.Proofs
noncomputable section
variable {R:Type}
abbrev t33:Sl (List SV):=(.c (sP (JlI (.c (Jlv .i64) (.c sSh .n)))) (cH .n))
abbrev t13:Sl (List SV):=(.c (sP (JlI (.c (Jlv .i64) (.c sSh .n)))) (cH .n))
end
end Go.Proofs.YtmgfmlhdnadglaaGreatDoor
set_option linter.unusedVariables false
set_option linter.unusedSimpArgs false
namespace Go.Proofs.YtmgfmlhdnadglaaGreatDoor
open Go Th Go.Proofs
variable {R:Type}
theorem Ug5 {d:List Rat} {i:Nat} (h:i<d.length):d.getD i 0=d[i]:=by rw [List.getD_eq_getElem?_getD,List.getElem?_eq_getElem h]; rfl
theorem Us9 {d:List Rat} {i:Nat} (h:d.length≤i):d.getD i 0=0:=by rw [List.getD_eq_getElem?_getD,List.getElem?_eq_none h]; rfl
theorem UlW {a b:List Rat} (h:a.length=b.length) (hi:∀ i,i<a.length→a.getD i 0=b.getD i 0):a=b:=by
 refine List.ext_getElem h fun i h1 h2=>?_
 have:=hi i h1
 rwa [Ug5 h1,Ug5 h2] at this
theorem Uox (n:Nat) (hn:10 ^ 400≤n) (d:List Rat) (i:Nat) (x2:Bool) (x3:List PV) (x4:Bool) (x5:List PV) (k0:Bool→List PV→Bool→List PV→Option R) :
 p47 n (qs d) x2 x3 x4 x5 (i:Int) k0=k0 (sg (d.getD i 0).num) (II (d.getD i 0).num.natAbs) false (II (d.getD i 0).den):=by
 have h0:=fun k=>Urf (R:=R) n hn k
 unfold p47
 by_cases hi:i<d.length
 · rw [Ug5 hi]
   simp (disch:=(first | omega | (simp only [JlE]; omega))) only [↓JlH,JlF,UaP,Jji,Ufv hi]
 · rw [Us9 (by omega)]
   simp (disch:=(first | omega | (simp only [JlE]; omega))) only [↓JlH,JlF,UaP,h0]
theorem Usg (n:Nat) (hn:10 ^ 1000≤n) {d:DnR} (hd:UaM d) (hl:d.1.length≤2048) {q:Rat} (hq:fits q) (k0:List PV→Bool→List PV→Bool→List PV→Option R) :
 p68 n (qs d.1) (sg d.2.num) (II d.2.num.natAbs) false (II d.2.den) (sg q.num) (II q.num.natAbs) false (II q.den) k0 =
  k0 (qs (scD q d).1) (sg (scD q d).2.num) (II (scD q d).2.num.natAbs) false (II (scD q d).2.den):=by
 have hN:=UaC (Ubb hn)
 have ez:=Uin (R:=R) n (Ubb hn) d.1.length hl
 unfold p68
 rw [UaP,ez]
 unfold UvR
 refine Udb (R:=R) (N:=d.1.length) (Inv:=fun i e=>e.length=d.1.length∧∀ j,j<i→e.getD j 0=d.1.getD j 0 * q)
  (fun m e i=>UdF n m (qs d.1) (sg d.2.num) (II d.2.num.natAbs) false (II d.2.den) (sg q.num) (II q.num.natAbs) false (II q.den) false false (qs e) (sg (0:Rat).num) (II (0:Rat).num.natAbs) false (II (0:Rat).den) (i:Int)
    (fun y15 y16 y17 y18 y19 y20 y21 y22 y23 y24 y25 y26 y27 y28 y29 y30=>Uz2 n y16 y17 y18 y19 y20 y21 y22 y23 (fun y31 y32 y33 y34=>k0 y26 y31 y32 y33 y34)))
  (fun m e he=>?_) (fun m e i hi he=>?_) d.1.length n 0 (List.replicate d.1.length 0) (by omega) (by omega) ⟨List.length_replicate ..,fun j hj=>by omega⟩
 · have ee:e=(scD q d).1:=UlW (by show _=(d.1.map _).length; rw [List.length_map]; exact he.1) fun j hj=>by rw [UeW]; exact he.2 j (by rw [←he.1]; exact hj)
   have g1:=fun k=>UiS (R:=R) n hn d.2 q hd.2 hq k
   have hel:=he.1
   simp only [UdF,UhG]
   simp (disch:=(first | omega | (simp only [JlE]; omega))) only [↓JlH,JlF,UaP,g1]
   rw [ee]; rfl
 · have hfd:fits (d.1[i]):=hd.1 _ (List.getElem_mem hi)
   have g1:=fun k=>UiS (R:=R) n hn (d.1[i]) q hfd hq k
   have hel:=he.1
   have hie:i<e.length:=by omega
   refine .inr ⟨e.set i (d.1[i] * q),⟨by rw [List.length_set]; exact hel,fun j hj=>?_⟩,?_⟩
   · rw [Ug6 _ _ _ _ hie]
     by_cases h:i=j
     · subst h; rw [if_pos rfl,Ug5 hi]
     · rw [if_neg h]; exact he.2 j (by omega)
   · simp only [UdF,UhG]
     simp (disch:=(first | omega | (simp only [JlE]; omega))) only [↓JlH,JlF,UaP,Jji,Ufv hi,Ufv hie,i1,g1,UmI]
theorem Uv6 (n:Nat) (hn:10 ^ 1000≤n) {a b:DnR} (ha:UaM a) (hb:UaM b) (hl:a.1.length≤2048) (hl':b.1.length≤2048) (k0:List PV→Bool→List PV→Bool→List PV→Option R) :
 p70 n (qs a.1) (sg a.2.num) (II a.2.num.natAbs) false (II a.2.den) (qs b.1) (sg b.2.num) (II b.2.num.natAbs) false (II b.2.den) k0 =
  k0 (qs (adD a b).1) (sg (adD a b).2.num) (II (adD a b).2.num.natAbs) false (II (adD a b).2.den):=by
 have hN:=UaC (Ubb hn)
 have ez:=Uin (R:=R) n (Ubb hn) (max a.1.length b.1.length) (by omega)
 have em:JkU (a.1.length:Int) (b.1.length:Int)=((max a.1.length b.1.length:Nat):Int):=by unfold JkU; split <;> omega
 have hal:(adD a b).1.length=max a.1.length b.1.length:=by show ((List.range _).map _).length=_; rw [List.length_map,List.length_range]
 unfold p70
 simp only [UaP,em,ez]
 unfold UvS
 refine Udb (R:=R) (N:=max a.1.length b.1.length) (Inv:=fun i e=>e.length=max a.1.length b.1.length∧∀ j,j<i→e.getD j 0=a.1.getD j 0 + b.1.getD j 0)
  (fun m e i=>UdG n m (qs a.1) (sg a.2.num) (II a.2.num.natAbs) false (II a.2.den) (qs b.1) (sg b.2.num) (II b.2.num.natAbs) false (II b.2.den) false false (qs e) (sg (0:Rat).num) (II (0:Rat).num.natAbs) false (II (0:Rat).den) (i:Int) _)
  (fun m e he=>?_) (fun m e i hi he=>?_) (max a.1.length b.1.length) n 0 (List.replicate (max a.1.length b.1.length) 0) (by omega) (by omega) ⟨List.length_replicate ..,fun j hj=>by omega⟩
 · have ee:e=(adD a b).1:=UlW (by rw [hal]; exact he.1) fun j hj=>by rw [UgC]; exact he.2 j (by rw [←he.1]; exact hj)
   have g1:=fun k=>Ufx (R:=R) n hn a.2 b.2 ha.2 hb.2 k
   have hel:=he.1
   simp only [UdG,UhH]
   simp (disch:=(first | omega | (simp only [JlE]; omega))) only [↓JlH,JlF,UaP,g1]
   rw [ee]; rfl
 · have hfa:fits (a.1.getD i 0):=(UbH.1 ha).1 i
   have hfb:fits (b.1.getD i 0):=(UbH.1 hb).1 i
   have g1:=fun k=>Ufx (R:=R) n hn (a.1.getD i 0) (b.1.getD i 0) hfa hfb k
   have g2:=fun x2 x3 x4 x5 k=>Uox (R:=R) n (Ubb hn) a.1 i x2 x3 x4 x5 k
   have g3:=fun x2 x3 x4 x5 k=>Uox (R:=R) n (Ubb hn) b.1 i x2 x3 x4 x5 k
   have hel:=he.1
   have hie:i<e.length:=by omega
   refine .inr ⟨e.set i (a.1.getD i 0 + b.1.getD i 0),⟨by rw [List.length_set]; exact hel,fun j hj=>?_⟩,?_⟩
   · rw [Ug6 _ _ _ _ hie]
     by_cases h:i=j
     · subst h; rw [if_pos rfl]
     · rw [if_neg h]; exact he.2 j (by omega)
   · simp only [UdG,UhH]
     simp (disch:=(first | omega | (simp only [JlE]; omega))) only [↓JlH,JlF,UaP,Jji,g2,g3,Ufv hie,i1,g1,UmI]
theorem UkL:∀ (a b:List Rat) (k:Nat),wrD k (a++b)=wrD k a++wrD (k + a.length) b
 | [],b,k=>rfl
 | x::a,b,k=>by
  rw [List.cons_append,wrD,wrD,UkL a b (k + 1),List.length_cons,show k + 1 + a.length=k + (a.length + 1) from by omega]
  split <;> rfl
theorem UsC:∀ (a:List Rat) (k:Nat),(wrD k a).length≤a.length
 | [],k=>Nat.le_refl _
 | x::a,k=>by
  have:=UsC a (k + 1)
  rw [wrD]
  split <;> simp <;> omega
theorem UfC {d:List Rat} {i:Nat} (h:i<d.length):d.take (i + 1)=d.take i++[d[i]]:=by rw [List.take_succ_eq_append_getElem h]
open Classical in
noncomputable def Uni (k0:List PV→ByteArray→Int→Option R) (d:DnR):Option R:=if UaM d then k0 (tms (vt (wrD 0 d.1))) (bs (Uag d.2)) 0 else k0 [] (bs []) 5
theorem Uim (n:Nat) (hn:10 ^ 400≤n) (d:DnR) (hl:d.1.length≤2048) (k0:List PV→ByteArray→Int→Option R) :
 p25 n (qs d.1) (sg d.2.num) (II d.2.num.natAbs) false (II d.2.den) k0=Uni k0 d:=by
 have hN:=UaC hn
 have txt:∀ {q:Rat},fits q→∀ k:ByteArray→Option R,p73 n (sg q.num) (II q.num.natAbs) false (II q.den) k=k (bs (Uag q)):=fun {q} hq k=>by
  obtain ⟨h1,h2⟩:=Ucr.1 hq
  exact UiO n q (by omega) (by omega) hN k
 unfold p25 UvB
 refine Udb (R:=R) (N:=d.1.length) (Inv:=fun i (acc:List SpT)=>acc=wrD 0 (d.1.take i)∧∀ x∈d.1.take i,fits x)
  (fun m acc i=>UbO n m (qs d.1) (sg d.2.num) (II d.2.num.natAbs) false (II d.2.den) (tms (vt acc)) (i:Int) (fun y6 y7 y8 y9 y10 y11 y12 y13=>k0 [] y11 y12) (fun y14 y15 y16 y17 y18 y19=>p71 n y15 y16 y17 y18 (fun y20=>bif y20 then (k0 [] ⟨#[]⟩ 5) else (p73 n y15 y16 y17 y18 (fun y21=>k0 y19 y21 0)))))
  (fun m acc ha=>?_) (fun m acc i hi ha=>?_) d.1.length n 0 [] (by omega) (by omega) ⟨rfl,fun x hx=>by cases hx⟩
 · obtain ⟨h1,h2⟩:=ha
   rw [List.take_length] at h1 h2
   subst h1
   simp only [UbO,Udr]
   unfold Uni
   by_cases hf:fits d.2
   · have g1:=fun k=>Urk (R:=R) n hf k
     have g2:=fun k=>txt hf k
     rw [if_pos ⟨h2,hf⟩]
     simp (disch:=(first | omega | (simp only [JlE]; omega))) only [↓JlH,JlF,UaP,g1,g2]
   · have g1:=fun k=>Urj (R:=R) n hf k
     rw [if_neg (fun h=>hf h.2)]
     simp (disch:=(first | omega | (simp only [JlE]; omega))) only [↓JlH,JlF,UaP,g1]
 · obtain ⟨h1,h2⟩:=ha
   have hal:acc.length≤i:=by
    rw [h1]
    refine Nat.le_trans (UsC _ _) ?_
    rw [List.length_take]; omega
   by_cases hf:fits (d.1[i])
   · have g1:=fun k=>Urk (R:=R) n hf k
     have g2:=fun k=>txt hf k
     have g3:=fun k=>UtV (R:=R) n (d.1[i]) k
     have h3:∀ x∈d.1.take (i + 1),fits x:=fun x hx=>by
      rw [UfC hi] at hx
      rcases List.mem_append.1 hx with hx | hx
      · exact h2 x hx
      · rw [List.mem_singleton.1 hx]; exact hf
     have htl:(d.1.take i).length=i:=by rw [List.length_take]; omega
     by_cases hz:d.1[i]=0
     · have e3:decide (d.1[i]=0)=true:=decide_eq_true hz
       refine .inr ⟨acc,⟨?_,h3⟩,?_⟩
       · rw [UfC hi,UkL,htl,←h1,Nat.zero_add]
         show acc=acc++wrD i [d.1[i]]
         rw [wrD,if_pos hz]
         show acc=acc++[]
         rw [List.append_nil]
       · simp only [UbO,Udr,UfU]
         simp (disch:=(first | omega | (simp only [JlE]; omega))) only [↓JlH,JlF,UaP,Jji,Ufv hi,g1,g3,e3,i1]
     · have e3:decide (d.1[i]=0)=false:=decide_eq_false hz
       refine .inr ⟨acc++[(i,d.1[i])],⟨?_,h3⟩,?_⟩
       · rw [UfC hi,UkL,htl,←h1,Nat.zero_add]
         show _=acc++wrD i [d.1[i]]
         rw [wrD,if_neg hz]; rfl
       · simp only [UbO,Udr,UfU]
         simp (disch:=(first | omega | (simp only [JlE]; omega))) only [↓JlH,JlF,UaP,Jji,Ufv hi,g1,g3,e3,g2,Ua,Uas,Udd,i1]
   · have g1:=fun k=>Urj (R:=R) n hf k
     refine .inl ?_
     unfold Uni
     rw [if_neg (fun h=>hf (h.1 _ (List.getElem_mem hi)))]
     simp only [UbO,Udr,UfU]
     simp (disch:=(first | omega | (simp only [JlE]; omega))) only [↓JlH,JlF,UaP,Jji,Ufv hi,g1]
noncomputable def dnR (r:RowT):DnR:=((rdD (spL r.tm)).getD [],rq r.c)
theorem UDS {cols:Int} {s:List SpT} (h:okS cols s):∃ d,rdD s=some d∧d.length=hiC s∧∀ i,d.getD i 0=cf s i:=by
 have hz:∀ i,(List.replicate (hiC s) (0:Rat)).getD i 0=0:=fun i=>by
  rw [List.getD_eq_getElem?_getD]
  by_cases hi:i<(List.replicate (hiC s) (0:Rat)).length
  · rw [List.getElem?_eq_getElem hi,List.getElem_replicate]; rfl
  · rw [List.getElem?_eq_none (by omega)]; rfl
 obtain ⟨d,e1,e2⟩:=UDV (d:=List.replicate (hiC s) 0) h.1 h.2 (fun i _=>hz i) (fun t ht=>by rw [List.length_replicate]; exact Uvj t ht)
 refine ⟨d,e1,(UDU e1).trans (List.length_replicate ..),fun i=>?_⟩
 rw [e2 i,hz i,Rat.zero_add]
theorem UfR {cols:Int} (hc:cols≤2048) {r:RowT} (h:okR cols r=true):rdD (spL r.tm)=some (dnR r).1∧(dnR r).1.length≤2048∧same (spR r) (dnR r)∧UaM (dnR r):=by
 obtain ⟨o1,o2,o3⟩:=UiE h
 obtain ⟨d,e1,e2,e3⟩:=UDS (s:=spL r.tm) o1.1
 have ed:(dnR r).1=d:=by show (rdD (spL r.tm)).getD []=d; rw [e1]; rfl
 have hs:same (spR r) (dnR r):=⟨rfl,fun i=>by rw [ed]; exact e3 i⟩
 refine ⟨by rw [ed]; exact e1,?_,hs,UbH.2 ⟨fun i=>?_,o1.2⟩⟩
 · rw [ed,e2]
   refine Uvi fun t ht=>?_
   have:=(o1.1.2 t ht).2.2
   omega
 · rw [hs.2 i]; exact Ujd o1.1.2 i
theorem UmJ (n:Nat) (hn:10 ^ 1000≤n) {cols:Int} (hc:cols≤2048) {r:RowT} (h:okR cols r=true) (k0:List PV→Bool→List PV→Bool→List PV→Int→Option R) :
 p46 n (bs r.c) (tms r.tm) k0=k0 (qs (dnR r).1) (sg (dnR r).2.num) (II (dnR r).2.num.natAbs) false (II (dnR r).2.den) 0:=by
 obtain ⟨o1,o2,o3⟩:=UiE h
 obtain ⟨e1,_⟩:=UfR hc h
 have h':=h
 unfold okR at h'
 rw [Bool.and_eq_true] at h'
 have o1':=Uex hc o1
 have hl:=UbK o1'.1
 have a2:okT 2048 (-1) r.tm=true:=by rw [o2]; exact Urs o1'.1.1 o1'.1.2
 obtain ⟨b1,b2,b3⟩:=(Uff (by omega)).1 a2
 have e:(UtP r.tm r.c k0:Option R)=Uzt (rq r.c) k0 (rdD (spL r.tm)):=by
  unfold UtP
  rw [if_pos h'.2,if_pos b1,if_pos b2]
 rw [Uzy n hn r.tm r.c (by rw [o2]; exact UD7 o1'.1.2 (Nat.lt_of_le_of_lt hl (by decide))) (by rw [o3]; exact UhV o1.2),e,e1]; rfl
noncomputable def zsD (rows:List RowT) (mult:List (List UInt8)):List (DnR × Rat):=(rows.zip mult).map fun x=>(dnR x.1,rq x.2)
noncomputable def UzS (k0:List PV→Bool→List PV→Bool→List PV→Int→Option R):Option DnR→Option R
 | none=>k0 [] false [] false [] 5
 | some d=>k0 (qs d.1) (sg d.2.num) (II d.2.num.natAbs) false (II d.2.den) 0
theorem Unm {a b:DnR}:(adD a b).1.length=max a.1.length b.1.length:=by show ((List.range _).map _).length=_; rw [List.length_map,List.length_range]
theorem UhW {q:Rat} {d:DnR}:(scD q d).1.length=d.1.length:=by show (d.1.map _).length=_; rw [List.length_map]
theorem UhX {q:Rat} {r s x:DnR} (hr:r.1.length≤2048) (hs:s.1.length≤2048∧UaM s) (he:Ua5 q r s=some x):x.1.length≤2048∧UaM x:=by
 unfold Ua5 at he
 split at he
 · simp only [Option.some.injEq] at he; rwa [←he]
 · split at he
   · split at he
     · rename_i h3
       simp only [Option.some.injEq] at he
       subst he
       refine ⟨?_,h3⟩
       rw [Unm,UhW]; omega
     · cases he
   · cases he
theorem Udj:∀ (l:List (DnR × Rat)) (s:DnR),UgP l s=UaH (fun s x=>Ua5 x.2 x.1 s) s l
 | [],s=>rfl
 | x::l,s=>by
  rw [UgP,UaH]
  congr 1
  funext s'
  exact Udj l s'
theorem UmM (n:Nat) (hn:10 ^ 1000≤n) {cols:Int} (hc:cols≤2048) {r:RowT} (hr:okR cols r=true) {m:List UInt8} (hm:qb m=true) (h0:rq m≠0) {s:DnR} (hs:s.1.length≤2048∧UaM s)
 (kb:Option R) (K:List PV→Bool→List PV→Bool→List PV→Option R) :
 (p68 n (qs (dnR r).1) (sg (dnR r).2.num) (II (dnR r).2.num.natAbs) false (II (dnR r).2.den) (sg (rq m).num) (II (rq m).num.natAbs) false (II (rq m).den) fun y61 y62 y63 y64 y65=>p25 n y61 y62 y63 y64 y65 fun y66 y67 y68=>bif (y68 != 0) then kb else
   p70 n (qs s.1) (sg s.2.num) (II s.2.num.natAbs) false (II s.2.den) y61 y62 y63 y64 y65 fun y69 y70 y71 y72 y73=>p25 n y69 y70 y71 y72 y73 fun y74 y75 y76=>bif (y76 != 0) then kb else
    K y69 y70 y71 y72 y73)=UzW kb (fun d=>K (qs d.1) (sg d.2.num) (II d.2.num.natAbs) false (II d.2.den)) (Ua5 (rq m) (dnR r) s):=by
 obtain ⟨m1,m2⟩:=UtT hm
 obtain ⟨d1,d2,d3,d4⟩:=UfR hc hr
 rw [Usg n hn d4 d2 m1,Uim n (Ubb hn) _ (by rw [UhW]; exact d2)]
 unfold Uni
 by_cases h1:UaM (scD (rq m) (dnR r))
 · rw [if_pos h1]
   dsimp only
   rw [Uro,Uam,Uv6 n hn hs.2 h1 hs.1 (by rw [UhW]; exact d2),Uim n (Ubb hn) _ (by rw [Unm,UhW]; omega)]
   unfold Uni
   by_cases h2:UaM (adD s (scD (rq m) (dnR r)))
   · rw [if_pos h2]
     dsimp only
     rw [Uro,Uam]
     have e:Ua5 (rq m) (dnR r) s=some (adD s (scD (rq m) (dnR r))):=by unfold Ua5; rw [if_neg h0,if_pos h1,if_pos h2]
     rw [e]; rfl
   · have e:Ua5 (rq m) (dnR r) s=none:=by unfold Ua5; rw [if_neg h0,if_pos h1,if_neg h2]
     rw [if_neg h2,e]; rfl
 · have e:Ua5 (rq m) (dnR r) s=none:=by unfold Ua5; rw [if_neg h0,if_neg h1]
   rw [if_neg h1,e]; rfl
section
variable (n:Nat) (hn:10 ^ 1000≤n) (cols:Int) (rows:List RowT) (mult:List (List UInt8)) (h:okRM cols rows mult) (k0:List PV→Bool→List PV→Bool→List PV→Int→Option R)
noncomputable def stX (s:DnR) (x:RowT × List UInt8):Option DnR:=Ua5 (rq x.2) (dnR x.1) s
include hn h
theorem Uyf:∀ (d m i:Nat) (s:DnR),d + i=(rows.zip mult).length→d<m→(s.1.length≤2048∧UaM s) →
 Ua4 n m (sl mult) cols (rws rows) false false (qs s.1) (sg s.2.num) (II s.2.num.natAbs) false (II s.2.den) (i:Int) (fun y22 y23 y24 y25 y26 y27 y28 y29 y30 y31 y32=>k0 y22 y23 y24 y25 y26 y27) (fun y33 y34 y35 y36 y37 y38 y39=>k0 y35 y36 y37 y38 y39 0) =
  UzS k0 (UaH stX s ((rows.zip mult).drop i)):=by
 have hN:=UaC (Ubb hn)
 have hlen:(rows.zip mult).length=rows.length:=by rw [List.length_zip,h.len]; omega
 have hf:=h.few
 have hl:=h.len
 intro d m i s e1 e2 e3
 have H:=Udc (R:=R) (l:=rows.zip mult) (step:=stX) (kerr:=k0 [] false [] false [] 5) (kend:=fun d=>k0 (qs d.1) (sg d.2.num) (II d.2.num.natAbs) false (II d.2.den) 0) (Inv:=fun i s=>s.1.length≤2048∧UaM s)
  (fun m s i=>Ua4 n m (sl mult) cols (rws rows) false false (qs s.1) (sg s.2.num) (II s.2.num.natAbs) false (II s.2.den) (i:Int) (fun y22 y23 y24 y25 y26 y27 y28 y29 y30 y31 y32=>k0 y22 y23 y24 y25 y26 y27) (fun y33 y34 y35 y36 y37 y38 y39=>k0 y35 y36 y37 y38 y39 0))
  (fun m s hs=>by
    simp only [Ua4,Uc7]
    rw [hlen]
    simp (disch:=(first | omega | (simp only [JlE]; omega))) only [↓JlH,JlF,Uaw])
  (fun s s' i hi hs he=>by
    have hr:=h.hr _ (List.of_mem_zip (List.getElem_mem hi)).1
    exact UhX (UfR h.hc hr).2.1 hs he)
  (fun m s i hi hs=>by
    have hi1:i<rows.length:=by omega
    have hi2:i<mult.length:=by omega
    have e0:(rows.zip mult)[i]=(rows[i],mult[i]):=List.getElem_zip
    rw [e0]
    have hr:=h.hr rows[i] (List.getElem_mem hi1)
    have hq:=h.hm mult[i] (List.getElem_mem hi2)
    obtain ⟨m1,m2⟩:=UtT hq
    simp only [Ua4,Uc7,Ub9]
    show _=UzW _ _ (Ua5 (rq mult[i]) (dnR rows[i]) s)
    by_cases h0:rq mult[i]=0
    · have e3:(mult[i] == [48])=true:=Uja (by rw [m2,h0,Unf])
      have e4:Ua5 (rq mult[i]) (dnR rows[i]) s=some s:=by unfold Ua5; rw [if_pos h0]
      rw [e4]
      simp (disch:=(first | omega | (simp only [JlE]; omega))) only [↓JlH,JlF,Uaf,Uaw,Jji,UfL hi2,i1,e3]
      rfl
    · have e3:(mult[i] == [48])=false:=Uis (by rw [m2]; exact fun q=>h0 (Uei.1 q))
      have g1:∀ k:List PV→Bool→List PV→Bool→List PV→Int→Option R,p46 n (bs (rows[i]).c) (tms (rows[i]).tm) k=_:=fun k=>UmJ n hn h.hc hr k
      have g2:∀ k:Bool→List PV→Bool→List PV→Option R,p69 n (bs mult[i]) k=k (sg (rq mult[i]).num) (II (rq mult[i]).num.natAbs) false (II (rq mult[i]).den):=fun k=>by
       have:=UmL (R:=R) n (Ubb hn) m1 k
       rwa [←m2] at this
      simp (disch:=(first | omega | (simp only [JlE]; omega))) only [↓JlH,JlF,Uaf,Uaw,Jji,UfL hi2,UbP hi1,i1,e3,g1,g2]
      exact UmM n hn h.hc hr hq h0 hs _ _) d m i s e1 e2 e3
 refine Eq.trans H ?_
 cases UaH stX s ((rows.zip mult).drop i) <;> rfl
theorem UFG:∀ (d m i:Nat),d + i=(rows.zip mult).length→d<m →
 Udq n m (sl mult) cols (rws rows) false false (qs []) (sg (0:Rat).num) (II (0:Rat).num.natAbs) false (II (0:Rat).den) (i:Int) (fun y11 y12 y13 y14 y15 y16 y17 y18 y19 y20 y21=>k0 y11 y12 y13 y14 y15 y16) (fun y22 y23 y24 y25 y26 y27 y28 y29 y30 y31 y32=>k0 y22 y23 y24 y25 y26 y27)
  (fun y33 y34 y35 y36 y37 y38 y39=>k0 y35 y36 y37 y38 y39 0) (fun y40 y41 y42 y43 y44 y45 y46=>k0 y42 y43 y44 y45 y46 0) =
  UzS k0 (UaH stX ([],0) ((rows.zip mult).drop i)):=by
 have hN:=UaC (Ubb hn)
 have hlen:(rows.zip mult).length=rows.length:=by rw [List.length_zip,h.len]; omega
 have hf:=h.few
 have hl:=h.len
 have hz:(([],0):DnR).1.length≤2048∧UaM ([],0):=⟨by simp,⟨by simp,UfJ⟩⟩
 intro d
 induction d with
 | zero =>
  intro m i e1 e2
  obtain ⟨m,rfl⟩:∃ m',m=m' + 1:=⟨m - 1,by omega⟩
  simp only [Udq,Uho]
  rw [List.drop_eq_nil_of_le (by omega)]
  simp (disch:=(first | omega | (simp only [JlE]; omega))) only [↓JlH,JlF,Uaw]
  rfl
 | succ d ih =>
  intro m i e1 e2
  obtain ⟨m,rfl⟩:∃ m',m=m' + 1:=⟨m - 1,by omega⟩
  have hi:i<(rows.zip mult).length:=by omega
  have hi1:i<rows.length:=by omega
  have hi2:i<mult.length:=by omega
  have e0:(rows.zip mult)[i]=(rows[i],mult[i]):=List.getElem_zip
  have hr:=h.hr rows[i] (List.getElem_mem hi1)
  have hq:=h.hm mult[i] (List.getElem_mem hi2)
  obtain ⟨m1,m2⟩:=UtT hq
  rw [Ua0 hi,e0]
  simp only [Udq,Uho,UrO,Ub9]
  show _=UzS k0 ((Ua5 (rq mult[i]) (dnR rows[i]) ([],0)).bind fun s'=>UaH stX s' ((rows.zip mult).drop (i + 1)))
  by_cases h0:rq mult[i]=0
  · have e3:(mult[i] == [48])=true:=Uja (by rw [m2,h0,Unf])
    have e4:Ua5 (rq mult[i]) (dnR rows[i]) ([],0)=some ([],0):=by unfold Ua5; rw [if_pos h0]
    rw [e4,Option.bind_some,←ih m (i + 1) (by omega) (by omega)]
    simp (disch:=(first | omega | (simp only [JlE]; omega))) only [↓JlH,JlF,Uaf,Uaw,Jji,UfL hi2,i1,e3]
  · have e3:(mult[i] == [48])=false:=Uis (by rw [m2]; exact fun q=>h0 (Uei.1 q))
    have g1:∀ k:List PV→Bool→List PV→Bool→List PV→Int→Option R,p46 n (bs (rows[i]).c) (tms (rows[i]).tm) k=_:=fun k=>UmJ n hn h.hc hr k
    have g2:∀ k:Bool→List PV→Bool→List PV→Option R,p69 n (bs mult[i]) k=k (sg (rq mult[i]).num) (II (rq mult[i]).num.natAbs) false (II (rq mult[i]).den):=fun k=>by
     have:=UmL (R:=R) n (Ubb hn) m1 k
     rwa [←m2] at this
    simp (disch:=(first | omega | (simp only [JlE]; omega))) only [↓JlH,JlF,Uaf,Uaw,Jji,UfL hi2,UbP hi1,i1,e3,g1,g2]
    refine Eq.trans (UmM n hn h.hc hr hq h0 hz _ _) ?_
    cases hst:Ua5 (rq mult[i]) (dnR rows[i]) ([],0) with
    | none=>rfl
    | some s =>
     have hs:=UhX (UfR h.hc hr).2.1 hz hst
     exact Uyf n hn cols rows mult h k0 d m (i + 1) s (by omega) (by omega) hs
end
theorem Uka (n:Nat) (hn:10 ^ 1000≤n) (cols:Int) (rows:List RowT) (mult:List (List UInt8)) (h:okRM cols rows mult) (k0:List PV→Bool→List PV→Bool→List PV→Int→Option R) :
 UiF n (sl mult) cols (rws rows) false false k0=UzS k0 (UgP (zsD rows mult) ([],0)):=by
 have hN:=UaC (Ubb hn)
 have hlen:(rows.zip mult).length=rows.length:=by rw [List.length_zip,h.len]; omega
 have hf:=h.few
 have hl:=h.len
 have ez:=Uin (R:=R) n (Ubb hn) 0 (by omega)
 have e3:((mult.length:Int) != (rows.length:Int))=false:=by simp [h.len]
 have ez':∀ k:List PV→Bool→List PV→Bool→List PV→Option R,p67 n 0 k=k (qs []) (sg (0:Rat).num) (II (0:Rat).num.natAbs) false (II (0:Rat).den):=ez
 unfold UiF UvA
 rw [Uaw,Uaf,e3,Uam,ez']
 have H:=UFG (R:=R) n hn cols rows mult h k0 rows.length n 0 (by omega) (by omega)
 rw [List.drop_zero] at H
 have hc:UaH stX ([],0) (rows.zip mult)=UgP (zsD rows mult) ([],0):=by
  rw [Udj,zsD,←Ufc]; rfl
 rw [hc] at H
 exact H
end Go.Proofs.YtmgfmlhdnadglaaGreatDoor
set_option linter.unusedVariables false
set_option maxRecDepth 100000
namespace Go.Proofs.YtmgfmlhdnadglaaGreatDoor
open Go Th Go.Proofs
noncomputable section
variable {R:Type}
def UbF:Ann:={ loops:=[(4,ids [1,2,5],ids [4]),(9,ids [1,2,5,6],ids [1,2,4,5])],cuts:=[(8,ids [1,2,5],ids [1,2,4,5])],frz:=[],rm:=[.id] }
abbrev UxB (n:Nat):Env:=eN
theorem Upg (n:Nat):EnvOK Tryz.prog GI (UxB n):=.nil
def Uhr (n:Nat) (l0:Int→Int→LP→Int→Int→O R) (x1 x2:Int) (x3:LP) (x4 x5:Int) (k0:Int→Int→LP→Bool→Int→O R) (k1:Int→Int→LP→Int→O R):O R :=
 bif (inR x4 ((x3).length)) then (Jh2 ((x3).getD ((x4:Int).toNat) (.v (.bool false))) fun a6=>JdT a6 fun h7 t8=>Jkr h7 fun e9=>JdT t8 fun h10 t11=>Jj3 h10 fun e12=>JdT t11 fun h13 t14=>Jj2 h13 fun e15=>JdT t14 fun h16 t17=>Jj .i64 h16 fun e18=>Ji2 t17 (bif (decide (x5<((e9).length:Int))) then (bif (inR x4 ((x3).length)) then (Jh2 ((x3).getD ((x4:Int).toNat) (.v (.bool false))) fun a19=>JdT a19 fun h20 t21=>Jkr h20 fun e22=>JdT t21 fun h23 t24=>Jj3 h23 fun e25=>JdT t24 fun h26 t27=>Jj2 h26 fun e28=>JdT t27 fun h29 t30=>Jj .i64 h29 fun e31=>Ji2 t30 (bif (inR x5 ((e22).length)) then (Jh2 ((e22).getD ((x5:Int).toNat) (.v (.bool false))) fun a32=>JdT a32 fun h33 t34=>Jj .i64 h33 fun e35=>JdT t34 fun h36 t37=>Jj3 h36 fun e38=>Ji2 t37 (bif (decide (((e38).size:Int)>x1)) then (k0 x1 x2 x3 false x4) else (l0 x1 x2 x3 x4 (IntKind.i64.wrap (x5 + 1))))) else none)) else none) else (k1 x1 x2 x3 x4))) else none
def Udt (n:Nat):Nat→Int→Int→LP→Int→Int→(Int→Int→LP→Bool→Int→O R)→(Int→Int→LP→Int→O R)→O R
 | 0,_,_,_,_,_,_,_=>none
 | m + 1,x1,x2,x3,x4,x5,k0,k1=>Uhr n (fun x1 x2 x3 x4 x5=>Udt n m x1 x2 x3 x4 x5 k0 k1) x1 x2 x3 x4 x5 k0 k1
def UvE (n:Nat) (x1 x2:Int) (x3:LP) (x4 x5:Int) (k0:Int→Int→LP→Bool→Int→O R) (k1:Int→Int→LP→Int→O R):O R:=Udt n n x1 x2 x3 x4 x5 k0 k1
def UmC (n:Nat) (x1 x2:Int) (x3:LP) (x4:Int) (k0:Int→Int→LP→Bool→Int→O R) (k1:Int→Int→LP→Int→O R):O R :=
 UvE n x1 x2 x3 x4 0 (fun y5 y6 y7 y8 y9=>k0 y5 y6 y7 y8 y9) (fun y10 y11 y12 y13=>k1 y10 y11 y12 y13)
def Uhq (n:Nat) (l0:Int→Int→LP→Int→O R) (x1 x2:Int) (x3:LP) (x4:Int) (k0:Bool→O R) (k1:O R):O R :=
 bif (decide (x4<((x3).length:Int))) then (bif (inR x4 ((x3).length)) then (Jh2 ((x3).getD ((x4:Int).toNat) (.v (.bool false))) fun a5=>JdT a5 fun h6 t7=>Jkr h6 fun e8=>JdT t7 fun h9 t10=>Jj3 h9 fun e11=>JdT t10 fun h12 t13=>Jj2 h12 fun e14=>JdT t13 fun h15 t16=>Jj .i64 h15 fun e17=>Ji2 t16 (bif (decide (((e8).length:Int)>12)) then (k0 false) else (bif (inR x4 ((x3).length)) then (Jh2 ((x3).getD ((x4:Int).toNat) (.v (.bool false))) fun a18=>JdT a18 fun h19 t20=>Jkr h19 fun e21=>JdT t20 fun h22 t23=>Jj3 h22 fun e24=>JdT t23 fun h25 t26=>Jj2 h25 fun e27=>JdT t26 fun h28 t29=>Jj .i64 h28 fun e30=>Ji2 t29 (bif (bif false then true else (decide (((e24).size:Int)>x1))) then (k0 false) else (UmC n x1 x2 x3 x4 (fun y31 y32 y33 y34 y35=>k0 y34) (fun y36 y37 y38 y39=>l0 y36 y37 y38 (IntKind.i64.wrap (y39 + 1)))))) else none))) else none) else (k1)
def Ucv (n:Nat):Nat→Int→Int→LP→Int→(Bool→O R)→(O R)→O R
 | 0,_,_,_,_,_,_=>none
 | m + 1,x1,x2,x3,x4,k0,k1=>Uhq n (fun x1 x2 x3 x4=>Ucv n m x1 x2 x3 x4 k0 k1) x1 x2 x3 x4 k0 k1
def UvD (n:Nat) (x1 x2:Int) (x3:LP) (x4:Int) (k0:Bool→O R) (k1:O R):O R:=Ucv n n x1 x2 x3 x4 k0 k1
def p27 (n:Nat) (x1:Int) (x2:LP) (x3:Int) (k0:Bool→O R):O R :=
 bif (decide (((x2).length:Int)>16)) then (k0 false) else (UvD n x3 x1 x2 0 (fun y4=>k0 y4) (k0 true))
abbrev E27 (n:Nat):Code→Fr→Kc R→O R:=evC Tryz.prog (UxB n) UbF n (61,[])
noncomputable def Uub:Code:=Jj4 (Jll Tryz.f27) [1,1,0,1,0,0,1,0,0,1]
abbrev Usn:Sl (List SV):=(cI (.c (sBx 24 (cI (cH .n))) (cI .n)))
abbrev Uu9 (n:Nat) (K:Kc R):Usn.T (O R):=fun x1 x2 x3 x4=>UmC n x1 x2 x3 x4 (fun y1 y2 y3 y4 y5=>xC UbF 8 K .ret [vI y1,.bx 24 [vI y2,vH y3],vB y4,vI y5]) (fun y1 y2 y3 y4=>xC UbF 8 K .normal [vI y1,.bx 24 [vI y2,vH y3],dD,vI y4])
noncomputable def Uuc:Code:=Jj4 (Jll Tryz.f27) [1,1,0,1,0,0]
abbrev Uga:Sl (List SV):=(cI (.c (sBx 24 (cI (cH .n))) (cI .n)))
abbrev UqA (n m:Nat) (K:Kc R):Uga.T (O R):=fun x1 x2 x3 x4=>Ucv n m x1 x2 x3 x4 (fun y1=>xL UbF 4 K .ret [vB y1]) (xL UbF 4 K (.exit 0) [dD])
abbrev UAg (n:Nat) (K:Kc R) (l0:Uga.T (O R)):Uga.T (O R):=fun x1 x2 x3 x4=>Uhq n l0 x1 x2 x3 x4 (fun y1=>xL UbF 4 K .ret [vB y1]) (xL UbF 4 K (.exit 0) [dD])
noncomputable def Uud:Code:=Jj4 (Jll Tryz.f27) [1,1,0,1,0,0,1,0,0,1,1,0,0]
abbrev Ugb:Sl (List SV):=(cI (.c (sBx 24 (cI (cH .n))) (cI (cI .n))))
abbrev UqB (n m:Nat) (K:Kc R):Ugb.T (O R):=fun x1 x2 x3 x4 x5=>Udt n m x1 x2 x3 x4 x5 (fun y1 y2 y3 y4 y5=>xL UbF 9 K .ret [vI y1,.bx 24 [vI y2,vH y3],vB y4,vI y5]) (fun y1 y2 y3 y4=>xL UbF 9 K (.exit 2) [vI y1,.bx 24 [vI y2,vH y3],dD,vI y4])
abbrev UAh (n:Nat) (K:Kc R) (l0:Ugb.T (O R)):Ugb.T (O R):=fun x1 x2 x3 x4 x5=>Uhr n l0 x1 x2 x3 x4 x5 (fun y1 y2 y3 y4 y5=>xL UbF 9 K .ret [vI y1,.bx 24 [vI y2,vH y3],vB y4,vI y5]) (fun y1 y2 y3 y4=>xL UbF 9 K (.exit 2) [vI y1,.bx 24 [vI y2,vH y3],dD,vI y4])
abbrev UEx (n:Nat):Orc R:=oL UbF (E27 n) n 9 Uud Ugb (UqB n n) (oL UbF (E27 n) n 4 Uuc Uga (UqA n n) oN)
abbrev UEj (n:Nat):Orc R:=oC UbF (E27 n) 8 Uub Usn (Uu9 n) oN
abbrev K27 (R:Type) (n:Nat):=JcH (R:=R) Tryz.prog (UxB n) UbF n (61,[]) (UEx n) (UEj n)
theorem UDf (n:Nat):K27 R n (false,9,Uud):=JkF (lo:=UEx n) (cu:=UEj n) (pO pN (by kernel_rfl)) Ugb (UqB n n) (JiE (F:=UqB n) Ugb (UAh n) (fun K _ _ _ _ _=>rfl) (fun _ _=>rfl) (fun L K _ _ _ _ _=>by show _=_; kernel_rfl) n) fun _ _=>rfl
theorem UDd (n:Nat):K27 R n (true,8,Uub):=JkW (lo:=UEx n) (cu:=UEj n) (pO (pC (UDf n) pN) (by kernel_rfl)) Usn (Uu9 n) (fun K _ _ _ _=>by show _=_; kernel_rfl) fun _ _=>rfl
theorem UDe (n:Nat):K27 R n (false,4,Uuc):=JkF (lo:=UEx n) (cu:=UEj n) (pO (pC (UDd n) pN) (by kernel_rfl)) Uga (UqA n n) (JiE (F:=UqA n) Uga (UAg n) (fun K _ _ _ _=>rfl) (fun _ _=>rfl) (fun L K _ _ _ _=>by show _=_; kernel_rfl) n) fun _ _=>rfl
theorem UMP (n:Nat):Je6 (K27 R n) (JaJ UbF (Jll Tryz.f27)):=pO (pC (UDe n) pN) (by kernel_rfl)
abbrev t27:Sl (List SV):=(.c (sP (JlI (.c (Jlv .i64) (.c sSh .n)))) (cI .n))
abbrev f27 (n:Nat) (K:List SV→O R):t27.T (O R):=fun x1 x2 x3=>p27 n x1 x2 x3 (fun y1=>K [vB y1])
abbrev UI1 (n:Nat):FS:=fT [false,false] t27 (f27 n)
theorem UL5 (n:Nat):FSound Tryz.prog GI 27 (UI1 n):=gd UbF n (Upg n) Tryz.func27 (.cons (Upg n) t27 (f27 n) (fun K _ _ _=>(Jkq (c:=Jll Tryz.f27) (by kernel_rfl) (UMP n) K).trans (by kernel_rfl)) .nil) (by kernel_rfl)
def UEV:Ann:={ loops:=[],cuts:=[],frz:=[],rm:=[.id] }
abbrev UII (n:Nat):Env:=eC 27 (UI1 n) eN
theorem Uu4 (n:Nat):EnvOK Tryz.prog GI (UII n):=.cons (.nil) (UL5 n)
def p9 (n:Nat) (x1:Int) (x2:LP) (k0:Bool→O R):O R :=
 p27 n x1 x2 14 (fun y3=>k0 y3)
abbrev lo9 (n:Nat):Orc R:=oN
abbrev cu9 (n:Nat):Orc R:=oN
abbrev K9 (R:Type) (n:Nat):=JcH (R:=R) Tryz.prog (UII n) UEV n (5,[]) (lo9 n) (cu9 n)
theorem pa9 (n:Nat):Je6 (K9 R n) (JaJ UEV (Jll Tryz.f9)):=pO pN (by kernel_rfl)
abbrev t9:Sl (List SV):=(.c (sP (JlI (.c (Jlv .i64) (.c sSh .n)))) .n)
abbrev f9 (n:Nat) (K:List SV→O R):t9.T (O R):=fun x1 x2=>p9 n x1 x2 (fun y1=>K [vB y1])
abbrev fs9 (n:Nat):FS:=fT [false] t9 (f9 n)
theorem ok9 (n:Nat):FSound Tryz.prog GI 9 (fs9 n):=gd UEV n (Uu4 n) Tryz.func9 (.cons (Uu4 n) t9 (f9 n) (fun K _ _=>(Jkq (c:=Jll Tryz.f9) (by kernel_rfl) (pa9 n) K).trans (by kernel_rfl)) .nil) (by kernel_rfl)
def UgD:Ann:={ loops:=[(2,ids [0,3],ids [0,2])],cuts:=[],frz:=[],rm:=[.id] }
abbrev Uxv (n:Nat):Env:=eN
theorem Uo3 (n:Nat):EnvOK Tryz.prog GI (Uxv n):=.nil
def Uha (n:Nat) (l0:LP→Int→O R) (x1:LP) (x2:Int) (k0:LP→Bool→O R) (k1:LP→O R):O R :=
 bif (decide (x2<((x1).length:Int))) then (bif (bif true then (decide (x2<20)) else false) then (bif (inR x2 ((x1).length)) then (Jj3 ((x1).getD ((x2:Int).toNat) (.v (.bool false))) fun e3=>bif (decide (((e3).size:Int)>14)) then (k0 x1 false) else (l0 x1 (IntKind.i64.wrap (x2 + 1)))) else none) else (k1 x1)) else (k1 x1)
def Udo (n:Nat):Nat→LP→Int→(LP→Bool→O R)→(LP→O R)→O R
 | 0,_,_,_,_=>none
 | m + 1,x1,x2,k0,k1=>Uha n (fun x1 x2=>Udo n m x1 x2 k0 k1) x1 x2 k0 k1
def Uvw (n:Nat) (x1:LP) (x2:Int) (k0:LP→Bool→O R) (k1:LP→O R):O R:=Udo n n x1 x2 k0 k1
def p10 (n:Nat) (x1:LP) (k0:Bool→O R):O R :=
 Uvw n x1 0 (fun y2 y3=>k0 y3) (fun y4=>k0 (decide (((y4).length:Int)≤16)))
abbrev E10 (n:Nat):Code→Fr→Kc R→O R:=evC Tryz.prog (Uxv n) UgD n (23,[])
noncomputable def Ut4:Code:=Jj4 (Jll Tryz.f10) [1,0,1,0,0]
abbrev Uf7:Sl (List SV):=(cH (cI .n))
abbrev Uqe (n m:Nat) (K:Kc R):Uf7.T (O R):=fun x1 x2=>Udo n m x1 x2 (fun y1 y2=>xL UgD 2 K .ret [vH y1,vB y2]) (fun y1=>xL UgD 2 K (.exit 0) [vH y1,dD])
abbrev UAc (n:Nat) (K:Kc R) (l0:Uf7.T (O R)):Uf7.T (O R):=fun x1 x2=>Uha n l0 x1 x2 (fun y1 y2=>xL UgD 2 K .ret [vH y1,vB y2]) (fun y1=>xL UgD 2 K (.exit 0) [vH y1,dD])
abbrev UJx (n:Nat):Orc R:=oL UgD (E10 n) n 2 Ut4 Uf7 (Uqe n n) oN
abbrev UIp (n:Nat):Orc R:=oN
abbrev K10 (R:Type) (n:Nat):=JcH (R:=R) Tryz.prog (Uxv n) UgD n (23,[]) (UJx n) (UIp n)
theorem UC4 (n:Nat):K10 R n (false,2,Ut4):=JkF (lo:=UJx n) (cu:=UIp n) (pO pN (by kernel_rfl)) Uf7 (Uqe n n) (JiE (F:=Uqe n) Uf7 (UAc n) (fun K _ _=>rfl) (fun _ _=>rfl) (fun L K _ _=>by show _=_; kernel_rfl) n) fun _ _=>rfl
theorem UMB (n:Nat):Je6 (K10 R n) (JaJ UgD (Jll Tryz.f10)):=pO (pC (UC4 n) pN) (by kernel_rfl)
abbrev t10:Sl (List SV):=(cH .n)
abbrev f10 (n:Nat) (K:List SV→O R):t10.T (O R):=fun x1=>p10 n x1 (fun y1=>K [vB y1])
abbrev UIT (n:Nat):FS:=fT [false] t10 (f10 n)
theorem ULX (n:Nat):FSound Tryz.prog GI 10 (UIT n):=gd UgD n (Uo3 n) Tryz.func10 (.cons (Uo3 n) t10 (f10 n) (fun K _=>(Jkq (c:=Jll Tryz.f10) (by kernel_rfl) (UMB n) K).trans (by kernel_rfl)) .nil) (by kernel_rfl)
end
end Go.Proofs.YtmgfmlhdnadglaaGreatDoor
set_option linter.unusedVariables false
set_option linter.unusedSimpArgs false
namespace Go.Proofs.YtmgfmlhdnadglaaGreatDoor
open Go Th Go.Proofs
variable {R:Type}
def UBE (r:RowT):Bool:=decide (r.tm.length≤12)&&(decide (r.c.length≤14)&&r.tm.all fun t=>decide (t.2.length≤14))
def UBD (rows:List RowT):Bool:=decide (rows.length≤16)&&rows.all UBE
def UiT (l:List (List UInt8)):Bool:=((l.take 20).all fun s=>decide (s.length≤14))&&decide (l.length≤16)
theorem UBH {rows:List RowT} (h:UBD rows=true):smA rows:=by
 unfold UBD at h
 simp only [Bool.and_eq_true,decide_eq_true_iff,List.all_eq_true] at h
 refine ⟨by omega,fun r hr=>?_⟩
 have:=h.2 r hr
 unfold UBE at this
 simp only [Bool.and_eq_true,decide_eq_true_iff,List.all_eq_true] at this
 refine ⟨⟨by omega,fun t ht=>?_⟩,by omega⟩
 have:=this.2.2 t ht
 omega
theorem UtW {l:List (List UInt8)} (h:UiT l=true):smS l:=by
 unfold UiT at h
 simp only [Bool.and_eq_true,decide_eq_true_iff,List.all_eq_true] at h
 rw [List.take_of_length_le (by omega)] at h
 refine ⟨by omega,fun s hs=>?_⟩
 have:=h.1 s hs
 omega
theorem UBG (n:Nat) (hn:200000≤n) (cols:Int) (rows:List RowT) (i:Nat) (hi:i<rows.length) (hl:(rows[i]).tm.length≤12) (k0:Int→Int→List PV→Bool→Int→Option R) (k1:Int→Int→List PV→Int→Option R) :
 UmC n 14 cols (rws rows) (i:Int) k0 k1=if ((rows[i]).tm.all fun t=>decide (t.2.length≤14))=true then k1 14 cols (rws rows) (i:Int) else k0 14 cols (rws rows) false (i:Int):=by
 unfold UmC UvE
 have h:=Uau (R:=R) (l:=(rows[i]).tm) (ok:=fun t=>decide (t.2.length≤14)) (kbad:=k0 14 cols (rws rows) false (i:Int)) (kend:=k1 14 cols (rws rows) (i:Int))
  (fun m j=>Udt n m 14 cols (rws rows) (i:Int) (j:Int) (fun y5 y6 y7 y8 y9=>k0 y5 y6 y7 y8 y9) (fun y10 y11 y12 y13=>k1 y10 y11 y12 y13))
  (fun m=>by
    simp only [Udt,Uhr]
    simp (disch:=(first | omega | (simp only [JlE]; omega))) only [↓JlH,JlF,Uaf,Jji,UbP hi,Ua])
  (fun m j hj=>by
    simp only [Udt,Uhr]
    by_cases h1:((rows[i]).tm[j]).2.length≤14
    · simp (disch:=(first | omega | (simp only [JlE]; omega))) only [↓JlH,JlF,Uaf,Jji,UbP hi,Ua,Uar hj,i1]
    · simp (disch:=(first | omega | (simp only [JlE]; omega))) only [↓JlH,JlF,Uaf,Jji,UbP hi,Ua,Uar hj,i1]
      simp [h1]) (rows[i]).tm.length n 0 (by omega) (by omega)
 rw [List.drop_zero] at h
 exact h
theorem UBF (n:Nat) (hn:200000≤n) (cols:Int) (rows:List RowT) (k0:Bool→Option R):p9 n cols (rws rows) k0=k0 (UBD rows):=by
 unfold p9 p27 UBD
 by_cases h0:rows.length≤16
 · have h:=Uau (R:=R) (l:=rows) (ok:=UBE) (kbad:=k0 false) (kend:=k0 true) (fun m i=>Ucv n m 14 cols (rws rows) (i:Int) (fun y4=>k0 y4) (k0 true))
    (fun m=>by simp only [Ucv,Uhq]; simp (disch:=(first | omega | (simp only [JlE]; omega))) only [↓JlH,JlF,Uaf])
    (fun m i hi=>by
      simp only [Ucv,Uhq,UBE]
      by_cases h1:(rows[i]).tm.length≤12
      · by_cases h2:(rows[i]).c.length≤14
        · simp (disch:=(first | omega | (simp only [JlE]; omega))) only [↓JlH,JlF,Uaf,Jji,UbP hi,Ua,i1,UBG n hn cols rows i hi h1]
        · simp (disch:=(first | omega | (simp only [JlE]; omega))) only [↓JlH,JlF,Uaf,Jji,UbP hi,Ua,i1]
          simp [h2]
      · simp (disch:=(first | omega | (simp only [JlE]; omega))) only [↓JlH,JlF,Uaf,Jji,UbP hi,Ua,i1]
        simp [h1]) rows.length n 0 (by omega) (by omega)
   rw [List.drop_zero] at h
   have h':Ucv n n 14 cols (rws rows) 0 (fun y4=>k0 y4) (k0 true)=_:=h
   unfold UvD
   simp (disch:=(first | omega | (simp only [JlE]; omega))) only [↓JlH,JlF,Uaf,h']
   cases rows.all UBE <;> rfl
 · simp (disch:=(first | omega | (simp only [JlE]; omega))) only [↓JlH,JlF,Uaf]
theorem Ush (n:Nat) (hn:200000≤n) (l:List (List UInt8)) (k0:Bool→Option R):p10 n (sl l) k0=k0 (UiT l):=by
 unfold p10 Uvw
 have hg:∀ (i:Nat) (h:i<(l.take 20).length),(l.take 20)[i]=l[i]'(by rw [List.length_take] at h; omega):=fun i h=>List.getElem_take
 have hlen:(l.take 20).length=min 20 l.length:=List.length_take
 have h:=Uau (R:=R) (l:=l.take 20) (ok:=fun s=>decide (s.length≤14)) (kbad:=k0 false) (kend:=k0 (decide (l.length≤16)))
  (fun m i=>Udo n m (sl l) (i:Int) (fun y2 y3=>k0 y3) (fun y4=>k0 (decide (((y4).length:Int)≤16))))
  (fun m=>by
    have e:decide (((l.length:Nat):Int)≤16)=decide (l.length≤16):=by rw [Bool.eq_iff_iff]; simp; omega
    simp only [Udo,Uha]
    rw [hlen]
    by_cases h1:l.length<20
    · rw [show min 20 l.length=l.length from by omega]
      simp (disch:=(first | omega | (simp only [JlE]; omega))) only [↓JlH,JlF,Uaw,e]
    · by_cases h2:l.length=20
      · rw [show min 20 l.length=20 from by omega]
        simp (disch:=(first | omega | (simp only [JlE]; omega))) only [↓JlH,JlF,Uaw,e]
      · rw [show min 20 l.length=20 from by omega]
        simp (disch:=(first | omega | (simp only [JlE]; omega))) only [↓JlH,JlF,Uaw,e])
  (fun m i hi=>by
    have hi':i<l.length:=by omega
    have hi2:i<20:=by omega
    rw [hg i hi]
    simp only [Udo,Uha]
    by_cases h1:(l[i]).length≤14
    · simp (disch:=(first | omega | (simp only [JlE]; omega))) only [↓JlH,JlF,Uaw,Jji,UfL hi',i1]
    · simp (disch:=(first | omega | (simp only [JlE]; omega))) only [↓JlH,JlF,Uaw,Jji,UfL hi',i1]
      simp [h1]) (l.take 20).length n 0 (by omega) (by omega)
 rw [List.drop_zero] at h
 refine Eq.trans h ?_
 unfold UiT
 cases ((l.take 20).all fun s=>decide (s.length≤14)) <;> rfl
end Go.Proofs.YtmgfmlhdnadglaaGreatDoor
set_option linter.unusedVariables false
set_option maxRecDepth 100000
namespace Go.Proofs.YtmgfmlhdnadglaaGreatDoor
open Go Th Go.Proofs
noncomputable section
variable {R:Type}
def Uv9:Ann:={ loops:=[],cuts:=[],frz:=[],rm:=[.id] }
abbrev UAZ (n:Nat):Env:=eC 32 (UEo n) eN
theorem Uo6 (n:Nat):EnvOK Tryz.prog GI (UAZ n):=.cons (.nil) (UGC n)
def p15 (n:Nat) (x1:Int) (x2 x3 x4 x5:LP) (k0:Int→O R):O R :=
 UCS n x1 x2 x3 ([.sh x4]:LP) x5 true x1 x2 x5 x3 x4 (fun y6=>k0 y6)
abbrev ULl (n:Nat):Orc R:=oN
abbrev UKG (n:Nat):Orc R:=oN
abbrev K15 (R:Type) (n:Nat):=JcH (R:=R) Tryz.prog (UAZ n) Uv9 n (17,[]) (ULl n) (UKG n)
theorem UME (n:Nat):Je6 (K15 R n) (JaJ Uv9 (Jll Tryz.f15)):=pO pN (by kernel_rfl)
abbrev t15:Sl (List SV):=(.c (sP (JlI (.c (Jlv .i64) (.c sSh .n)))) (cH (cH (cH .n))))
abbrev f15 (n:Nat) (K:List SV→O R):t15.T (O R):=fun x1 x2 x3 x4 x5=>p15 n x1 x2 x3 x4 x5 (fun y1=>K [vI y1])
abbrev UIW (n:Nat):FS:=fT [false,false,false,false] t15 (f15 n)
theorem UL0 (n:Nat):FSound Tryz.prog GI 15 (UIW n):=gd Uv9 n (Uo6 n) Tryz.func15 (.cons (Uo6 n) t15 (f15 n) (fun K _ _ _ _ _=>(Jkq (c:=Jll Tryz.f15) (by kernel_rfl) (UME n) K).trans (by kernel_rfl)) .nil) (by kernel_rfl)
def Uwa:Ann:={ loops:=[],cuts:=[],frz:=[],rm:=[.id] }
abbrev UA1 (n:Nat):Env:=eC 32 (UEo n) eN
theorem Up (n:Nat):EnvOK Tryz.prog GI (UA1 n):=.cons (.nil) (UGC n)
def p20 (n:Nat) (x1:Int) (x2 x3 x4 x5:LP) (k0:Int→O R):O R :=
 UCT n x1 x2 x3 ([.sh x4,.sh x5]:LP) [] false x5 x1 x2 x3 (fun y6=>k0 y6)
abbrev ULn (n:Nat):Orc R:=oN
abbrev UKI (n:Nat):Orc R:=oN
abbrev K20 (R:Type) (n:Nat):=JcH (R:=R) Tryz.prog (UA1 n) Uwa n (17,[]) (ULn n) (UKI n)
theorem UMI (n:Nat):Je6 (K20 R n) (JaJ Uwa (Jll Tryz.f20)):=pO pN (by kernel_rfl)
abbrev t20:Sl (List SV):=(.c (sP (JlI (.c (Jlv .i64) (.c sSh .n)))) (cH (cH (cH .n))))
abbrev f20 (n:Nat) (K:List SV→O R):t20.T (O R):=fun x1 x2 x3 x4 x5=>p20 n x1 x2 x3 x4 x5 (fun y1=>K [vI y1])
abbrev UIY (n:Nat):FS:=fT [false,false,false,false] t20 (f20 n)
theorem UL2 (n:Nat):FSound Tryz.prog GI 20 (UIY n):=gd Uwa n (Up n) Tryz.func20 (.cons (Up n) t20 (f20 n) (fun K _ _ _ _ _=>(Jkq (c:=Jll Tryz.f20) (by kernel_rfl) (UMI n) K).trans (by kernel_rfl)) .nil) (by kernel_rfl)
def Uwd:Ann:={ loops:=[],cuts:=[],frz:=[],rm:=[.id] }
abbrev UA4 (n:Nat):Env:=eN
theorem Uph (n:Nat):EnvOK Tryz.prog GI (UA4 n):=.nil
def p28 (n:Nat) (x1:Int) (x2:ByteArray) (k0:Int→ByteArray→O R):O R :=
 k0 x1 x2
abbrev ULq (n:Nat):Orc R:=oN
abbrev UKL (n:Nat):Orc R:=oN
abbrev K28 (R:Type) (n:Nat):=JcH (R:=R) Tryz.prog (UA4 n) Uwd n (8,[]) (ULq n) (UKL n)
theorem UMQ (n:Nat):Je6 (K28 R n) (JaJ Uwd (Jll Tryz.f28)):=pO pN (by kernel_rfl)
abbrev t28:Sl (List SV):=(cI (cS .n))
abbrev f28 (n:Nat) (K:List SV→O R):t28.T (O R):=fun x1 x2=>p28 n x1 x2 (fun y1 y2=>K [.p (.agg [.v (.int .i64 y1),.v (.string y2)])])
abbrev UI2 (n:Nat):FS:=fT [false,false] t28 (f28 n)
theorem UL6 (n:Nat):FSound Tryz.prog GI 28 (UI2 n):=gd Uwd n (Uph n) Tryz.func28 (.cons (Uph n) t28 (f28 n) (fun K _ _=>(Jkq (c:=Jll Tryz.f28) (by kernel_rfl) (UMQ n) K).trans (by kernel_rfl)) .nil) (by kernel_rfl)
def Uv7:Ann:={ loops:=[],cuts:=[],frz:=[],rm:=[.id] }
abbrev UAX (n:Nat):Env:=eC 28 (UI2 n) (eC 23 (UFn n) (eC 20 (UIY n) (eC 15 (UIW n) (eC 12 (UIV n) eN))))
theorem Uo4 (n:Nat):EnvOK Tryz.prog GI (UAX n):=.cons (.cons (.cons (.cons (.cons (.nil) (ULZ n)) (UL0 n)) (UL2 n)) (UJS n)) (UL6 n)
def p11 (n:Nat)  (k0:Bool→O R):O R :=
 p28 n 0 ⟨#[49]⟩ (fun y1 y2=>p28 n 0 ⟨#[45,49]⟩ (fun y3 y4=>p23 n 1 ([.agg [.sh ([.agg [.v (.int .i64 y1),.v (.string y2)]]:LP),.v (.string ⟨#[45,51]⟩),.v (.bool false),.v (.int .i64 0)],.agg [.sh ([.agg [.v (.int .i64 y3),.v (.string y4)]]:LP),.v (.string ⟨#[50]⟩),.v (.bool false),.v (.int .i64 0)]]:LP) ([.v (.string ⟨#[49]⟩),.v (.string ⟨#[49]⟩)]:LP) (fun y5 y6 y7=>p28 n 0 ⟨#[49]⟩ (fun y8 y9=>p28 n 1 ⟨#[49]⟩ (fun y10 y11=>bif (y7 == 0) then (bif true then (bif true then (bif true then (bif (bif true then (((y5).length:Int) == 0) else false) then (bif true then (bif true then (bif (bif true then eqS y6 (⟨#[45,49]⟩:ByteArray) else false) then (bif true then (bif true then (p12 n 1 ([.agg [.sh ([.agg [.v (.int .i64 y1),.v (.string y2)]]:LP),.v (.string ⟨#[45,51]⟩),.v (.bool false),.v (.int .i64 0)],.agg [.sh ([.agg [.v (.int .i64 y3),.v (.string y4)]]:LP),.v (.string ⟨#[50]⟩),.v (.bool false),.v (.int .i64 0)]]:LP) ([.v (.string ⟨#[49]⟩),.v (.string ⟨#[49]⟩)]:LP) (fun y12=>bif true then (bif (bif true then (y12 == 0) else false) then (bif true then (bif true then (p12 n 1 ([.agg [.sh ([.agg [.v (.int .i64 y1),.v (.string y2)]]:LP),.v (.string ⟨#[45,51]⟩),.v (.bool false),.v (.int .i64 0)],.agg [.sh ([.agg [.v (.int .i64 y3),.v (.string y4)]]:LP),.v (.string ⟨#[50]⟩),.v (.bool false),.v (.int .i64 0)]]:LP) ([.v (.string ⟨#[49]⟩),.v (.string ⟨#[48]⟩)]:LP) (fun y13=>bif true then (bif (bif true then (y13 == 16) else false) then (bif true then (p28 n 0 ⟨#[50]⟩ (fun y14 y15=>bif true then (p28 n 1 ⟨#[51]⟩ (fun y16 y17=>bif true then (bif true then (bif true then (bif true then (p15 n 2 ([.agg [.sh ([.agg [.v (.int .i64 y8),.v (.string y9)],.agg [.v (.int .i64 y10),.v (.string y11)]]:LP),.v (.string ⟨#[45,50]⟩),.v (.bool false),.v (.int .i64 0)]]:LP) ([.agg [.v (.int .i64 y14),.v (.string y15)],.agg [.v (.int .i64 y16),.v (.string y17)]]:LP) ([.v (.string ⟨#[50]⟩),.v (.string ⟨#[48]⟩)]:LP) ([.v (.string ⟨#[50]⟩)]:LP) (fun y18=>bif true then (bif (bif true then (y18 == 0) else false) then (bif true then (p28 n 1 ⟨#[45,49]⟩ (fun y19 y20=>bif true then (bif true then (bif true then (bif true then (p20 n 2 ([.agg [.sh ([.agg [.v (.int .i64 y8),.v (.string y9)],.agg [.v (.int .i64 y10),.v (.string y11)]]:LP),.v (.string ⟨#[45,50]⟩),.v (.bool false),.v (.int .i64 0)]]:LP) ([.agg [.v (.int .i64 y19),.v (.string y20)]]:LP) ([.v (.string ⟨#[50]⟩),.v (.string ⟨#[48]⟩)]:LP) ([.v (.string ⟨#[48]⟩),.v (.string ⟨#[49]⟩)]:LP) (fun y21=>bif true then (k0 (bif true then (y21 == 0) else false)) else none)) else none) else none) else none) else none)) else none) else (bif false then none else (bif false then none else (bif false then none else (bif false then none else (bif false then none else (bif false then none else (bif false then none else (k0 false))))))))) else none)) else none) else none) else none) else none)) else none)) else none) else (bif false then none else (bif false then none else (bif false then none else (bif false then none else (bif false then none else (bif false then none else (bif false then none else (bif false then none else (bif false then none else (bif false then none else (bif false then none else (bif false then none else (bif false then none else (bif false then none else (bif false then none else (bif false then none else (k0 false)))))))))))))))))) else none)) else none) else none) else (bif false then none else (bif false then none else (bif false then none else (bif false then none else (bif false then none else (bif false then none else (bif false then none else (bif false then none else (bif false then none else (bif false then none else (bif false then none else (bif false then none else (bif false then none else (bif false then none else (bif false then none else (bif false then none else (bif false then none else (bif false then none else (bif false then none else (bif false then none else (bif false then none else (k0 false))))))))))))))))))))))) else none)) else none) else none) else (bif false then none else (bif false then none else (bif false then none else (bif false then none else (bif false then none else (bif false then none else (bif false then none else (bif false then none else (bif false then none else (bif false then none else (bif false then none else (bif false then none else (bif false then none else (bif false then none else (bif false then none else (bif false then none else (bif false then none else (bif false then none else (bif false then none else (bif false then none else (bif false then none else (bif false then none else (bif false then none else (bif false then none else (bif false then none else (bif false then none else (k0 false)))))))))))))))))))))))))))) else none) else none) else (bif false then none else (bif false then none else (bif false then none else (bif false then none else (bif false then none else (bif false then none else (bif false then none else (bif false then none else (bif false then none else (bif false then none else (bif false then none else (bif false then none else (bif false then none else (bif false then none else (bif false then none else (bif false then none else (bif false then none else (bif false then none else (bif false then none else (bif false then none else (bif false then none else (bif false then none else (bif false then none else (bif false then none else (bif false then none else (bif false then none else (bif false then none else (bif false then none else (bif false then none else (bif false then none else (k0 false)))))))))))))))))))))))))))))))) else none) else none) else none) else (bif false then none else (bif false then none else (bif false then none else (bif false then none else (bif false then none else (bif false then none else (bif false then none else (bif false then none else (bif false then none else (bif false then none else (bif false then none else (bif false then none else (bif false then none else (bif false then none else (bif false then none else (bif false then none else (bif false then none else (bif false then none else (bif false then none else (bif false then none else (bif false then none else (bif false then none else (bif false then none else (bif false then none else (bif false then none else (bif false then none else (bif false then none else (bif false then none else (bif false then none else (bif false then none else (bif false then none else (bif false then none else (bif false then none else (bif false then none else (bif false then none else (k0 false)))))))))))))))))))))))))))))))))))))))))
abbrev ULj (n:Nat):Orc R:=oN
abbrev UKE (n:Nat):Orc R:=oN
abbrev K11 (R:Type) (n:Nat):=JcH (R:=R) Tryz.prog (UAX n) Uv7 n (69,[]) (ULj n) (UKE n)
theorem UMC (n:Nat):Je6 (K11 R n) (JaJ Uv7 (Jll Tryz.f11)):=pO pN (by kernel_rfl)
abbrev t11:Sl (List SV):=.n
abbrev f11 (n:Nat) (K:List SV→O R):t11.T (O R):=p11 n  (fun y1=>K [vB y1])
abbrev UIU (n:Nat):FS:=fT [] t11 (f11 n)
theorem ULY (n:Nat):FSound Tryz.prog GI 11 (UIU n):=gd Uv7 n (Uo4 n) Tryz.func11 (.cons (Uo4 n) t11 (f11 n) (fun K=>(Jkq (c:=Jll Tryz.f11) (by kernel_rfl) (UMC n) K).trans (by kernel_rfl)) .nil) (by kernel_rfl)
end
end Go.Proofs.YtmgfmlhdnadglaaGreatDoor
namespace Go.Proofs.YtmgfmlhdnadglaaGreatDoor
open Go Th Go.Proofs
theorem UCI {R:Type} (m:Nat) (k0:Bool→Option R):p11 (m + 40) k0=k0 true:=by kernel_rfl
theorem Uyt {R:Type} (n:Nat) (h:40≤n) (k0:Bool→Option R):p11 n k0=k0 true:=by
 rw [show n=(n - 40) + 40 from by omega]; exact UCI _ k0
end Go.Proofs.YtmgfmlhdnadglaaGreatDoor
set_option linter.unusedVariables false
namespace Go.Proofs.YtmgfmlhdnadglaaGreatDoor
open Go Th Go.Proofs
abbrev UcS:List (String × DataW Unit):=[("math/bits.deBruijn32tab",Rows.laid_math_bits_deBruijn32tab),("math/bits.deBruijn64tab",Rows.laid_math_bits_deBruijn64tab),("internal/strconv.uint64pow10",Rows.laid_internal_strconv_uint64pow10),("unicode/utf8.acceptRanges",Rows.laid_unicode_utf8_acceptRanges),("strconv.ErrRange",Rows.laid_strconv_ErrRange),("strconv.ErrSyntax",Rows.laid_strconv_ErrSyntax),("unicode/utf8.first",Rows.laid_unicode_utf8_first)]
theorem UtX {W:World} (h:laidMetH Tryz.prog UcS W):Lib.TabIs Tryz.prog W "internal/strconv.uint64pow10" .u64 Lib.pow10Tab:=by
 rw [MakeChecks.laidMetH_plain _ _ _ (by kernel_rfl)] at h
 obtain ⟨ps,⟨_,_,_,_,_,_,_,_,_,_,⟨_,_,_,_,_,_,_,_,_,_,⟨g,t,cs,f,p,q,hg,ht,hv,hd,_,_⟩,_⟩,_⟩,_⟩:=h
 obtain rfl:=Option.some.inj ((show Tryz.prog.globalNamed "internal/strconv.uint64pow10" = some 0 by kernel_rfl).symm.trans hg)
 have e:(Rows.laid_internal_strconv_uint64pow10:DataW Unit)=Lib.tabData .u64 Lib.pow10Tab:=by kernel_rfl
 rw [e] at hd
 obtain rfl:=Option.some.inj ((show (Tryz.prog.globals[0]?).map (·.type)=some 199 by kernel_rfl).symm.trans ht)
 have hc:=Lib.cells_of_tab Tryz.underlying199 Tryz.underlying144 (by kernel_rfl) (by kernel_rfl) hd
 unfold Lib.TabIs
 rw [hv,←hc]
theorem UtY {P:Program} {W:World} {name:String} {k:IntKind} {zs:List Int} {g:Nat} (hg:P.globalNamed name=some g) (h:Lib.TabIs P W name k zs):g<W.heap.size:=by
 unfold Lib.TabIs World.var? at h
 rw [hg] at h
 simp only [Option.bind_some] at h
 split at h
 · rename_i hh
   exact (Array.getElem?_eq_some_iff.1 hh).1
 · cases h
abbrev Tab (W:World):Prop:=Lib.TabIs Tryz.prog W "internal/strconv.uint64pow10" .u64 Lib.pow10Tab
def Fp (ps:List MemPlace) (b:Nat):Prop:=b=0∨∃ x∈ps,x.block=b
theorem UBI {ps qs:List MemPlace} (h:∀ x∈qs,x∈ps):∀ x∈qs,Fp ps x.block:=fun x hx=>.inr ⟨x,h x hx,rfl⟩
theorem Ut {g:Nat} {fs:FS} (hf:FSound Tryz.prog GI g fs) {cargs:Array Value} {args:List PV} {W:World} (h:Tab W) (ps:List MemPlace) (hlt:∀ x∈ps,x.block<W.heap.size)
 (ha:RSs Tryz.prog (Fp ps) W (args.map SV.p) cargs.toList []) (hk:fs.run (args.map SV.p) JgZ=some true) :
 Calls Tryz.prog g cargs W fun e w'=>e=.returned (.bool true)∧RowKit.Below W.heap.size W w' :=
 Jjb hf W (Fp ps) (fun b hb=>by
  rcases hb with rfl | ⟨x,hx,rfl⟩
  · exact UtY (by kernel_rfl) h
  · exact hlt x hx) ⟨.inl rfl,h⟩ ha hk
theorem c3:Tryz.prog.cellsOf 3=1:=by kernel_rfl
theorem c4:Tryz.prog.cellsOf 4=1:=by kernel_rfl
theorem c9:Tryz.prog.cellsOf 9=1:=by kernel_rfl
theorem c22:Tryz.prog.cellsOf 22=1:=by kernel_rfl
theorem c24:Tryz.prog.cellsOf 24=2:=by kernel_rfl
theorem c25:Tryz.prog.cellsOf 25=1:=by kernel_rfl
theorem c33:Tryz.prog.cellsOf 33=1:=by kernel_rfl
theorem c66:Tryz.prog.cellsOf 66=2:=by kernel_rfl
theorem c70:Tryz.prog.cellsOf 70=4:=by kernel_rfl
section
variable {H:Type} {enc:TypeId × Value→H} {W:World} {spare:Nat→Bool} {held:Bool} {F:Nat→Prop}
abbrev UmU:=Int × ByteArray × Unit
abbrev UzP:=List UmU × ByteArray × Bool × Int × Unit
abbrev UIo:=Int × List UzP × Unit
def termC (y:UmU):List PV:=[.v (.int .i64 y.1)]++([.v (.string y.2.1)]++[])
def rowC (y:UzP):List PV:=[.sh (y.1.map fun t=>.agg (termC t))]++([.v (.string y.2.1)]++([.v (.bool y.2.2.1)]++([.v (.int .i64 y.2.2.2.1)]++[])))
def sysC (y:UIo):List PV:=[.v (.int .i64 y.1)]++([.sh (y.2.1.map fun r=>.agg (rowC r))]++[])
theorem Ux2 {f:Field} {fs:List Field} {off:Nat} {B:Type} {ok2:B→Prop} {cells2:B→List PV} {size:Nat} (ho:f.offset=off) (ht:f.type=3) (s:Fld enc Tryz.prog W spare held F fs (off + 1) B ok2 cells2 size) :
 Fld enc Tryz.prog W spare held F (f::fs) off (Int × B) (fun y=>(Lit.int .i64 y.1).wf=true∧ok2 y.2) (fun y=>[.v (.int .i64 y.1)]++cells2 y.2) (1 + size) :=
 JkR ho (by rw [ht]; exact c3) (by rw [ht]; exact Jlo Tryz.underlying3 c3) s
theorem UBC {f:Field} {fs:List Field} {off:Nat} {B:Type} {ok2:B→Prop} {cells2:B→List PV} {size:Nat} (ho:f.offset=off) (ht:f.type=9) (s:Fld enc Tryz.prog W spare held F fs (off + 1) B ok2 cells2 size) :
 Fld enc Tryz.prog W spare held F (f::fs) off (ByteArray × B) (fun y=>y.1.size≤maxLen∧ok2 y.2) (fun y=>[.v (.string y.1)]++cells2 y.2) (1 + size) :=
 JkR ho (by rw [ht]; exact c9) (by rw [ht]; exact Jlp Tryz.underlying9 c9) s
theorem UBB {f:Field} {fs:List Field} {off:Nat} {B:Type} {ok2:B→Prop} {cells2:B→List PV} {size:Nat} (ho:f.offset=off) (ht:f.type=4) (s:Fld enc Tryz.prog W spare held F fs (off + 1) B ok2 cells2 size) :
 Fld enc Tryz.prog W spare held F (f::fs) off (Bool × B) (fun y=>True∧ok2 y.2) (fun y=>[.v (.bool y.1)]++cells2 y.2) (1 + size) :=
 JkR ho (by rw [ht]; exact c4) (by rw [ht]; exact Jlc Tryz.underlying4 c4) s
theorem UIS {t k:Nat} {f:Field} {fs:List Field} {off:Nat} {A B:Type} {ok:A→Prop} {cells:A→List PV} {ok2:B→Prop} {cells2:B→List PV} {size:Nat} (ht:f.type=t) (hc:Tryz.prog.cellsOf t=k) (r:Rd enc Tryz.prog W spare held F t A ok cells) (ho:f.offset=off) (s:Fld enc Tryz.prog W spare held F fs (off + k) B ok2 cells2 size) :
 Fld enc Tryz.prog W spare held F (f::fs) off (A × B) (fun y=>ok y.1∧ok2 y.2) (fun y=>cells y.1++cells2 y.2) (k + size) :=
 JkR ho (by rw [ht]; exact hc) (by rw [ht]; exact r) s
theorem Uzw:∃ ok,Rd enc Tryz.prog W spare held F 66 UmU ok termC :=
 ⟨_,JkG Tryz.underlying66 c66 (Ux2 rfl rfl (UBC rfl rfl (Jk4 _)))⟩
theorem UtO:∃ ok,Rd enc Tryz.prog W spare held F 33 (List UmU) ok (fun l=>[.sh (l.map fun t=>.agg (termC t))]) :=
 let ⟨ok,h⟩:=Uzw
 ⟨_,JkY Tryz.underlying33 c33 (by rw [c66]; omega) (fun a=>rfl) h⟩
theorem UDW:∃ ok,Rd enc Tryz.prog W spare held F 70 UzP ok rowC :=
 let ⟨ok,h⟩:=UtO
 ⟨_,JkG Tryz.underlying70 c70 (UIS (t:=33) rfl c33 h rfl (UBC rfl rfl (UBB rfl rfl (Ux2 rfl rfl (Jk4 _)))))⟩
theorem Uzu:∃ ok,Rd enc Tryz.prog W spare held F 22 (List UzP) ok (fun l=>[.sh (l.map fun t=>.agg (rowC t))]) :=
 let ⟨ok,h⟩:=UDW
 ⟨_,JkY Tryz.underlying22 c22 (by rw [c70]; omega) (fun a=>rfl) h⟩
theorem UDX:∃ ok,Rd enc Tryz.prog W spare held F 24 UIo ok sysC :=
 let ⟨ok,h⟩:=Uzu
 ⟨_,JkG Tryz.underlying24 c24 (Ux2 rfl rfl (UIS (t:=22) rfl c22 h rfl (Jk4 _)))⟩
theorem Uzv:∃ ok,Rd enc Tryz.prog W spare held F 25 (List ByteArray) ok (fun l=>[.sh (l.map fun s=>.v (.string s))]) :=
 ⟨_,JkY Tryz.underlying25 c25 (by rw [c9]; omega) (fun a=>rfl) (Jlp Tryz.underlying9 c9)⟩
def UD4 (y:UmU):TermT:=(y.1,y.2.1.data.toList)
def UHw (y:UzP):RowT:=⟨y.1.map UD4,y.2.1.data.toList,y.2.2.1,y.2.2.2.1⟩
theorem UzI (l:List UmU):(l.map fun t=>PV.agg (termC t))=tms (l.map UD4):=by
 unfold tms; rw [List.map_map]; rfl
theorem UDY (l:List UzP):(l.map fun t=>PV.agg (rowC t))=rws (l.map UHw):=by
 unfold rws
 rw [List.map_map]
 refine List.map_congr_left fun r _=>?_
 show PV.agg ([.sh (r.1.map fun t=>.agg (termC t))]++_)=rPV (UHw r)
 rw [UzI]; rfl
theorem UD1 (l:List ByteArray):(l.map fun s=>PV.v (.string s))=sl (l.map fun s=>s.data.toList):=by
 unfold sl; rw [List.map_map]; rfl
theorem UwK {cs:Array Value} {d:DataW H} {p:List MemPlace} (h:DataW.Trod enc Tryz.prog W 0 spare held 24 (.agg cs) d p) (hF:∀ x∈p,F x.block):∃ cols rows,RP F W (.agg [.v (.int .i64 cols),.sh (rws rows)]) (.agg cs):=by
 obtain ⟨ok,r⟩:=UDX (enc:=enc) (W:=W) (spare:=spare) (held:=held) (F:=F)
 obtain ⟨a,_,h2⟩:=Jlq r h hF
 refine ⟨a.1,a.2.1.map UHw,?_⟩
 rw [←UDY]
 exact h2
theorem UsG {x:Option Addr} {len cap:Nat} {d:DataW H} {p:List MemPlace} (h:DataW.Trod enc Tryz.prog W 0 spare held 25 (.slice x len cap) d p) (hF:∀ x∈p,F x.block):∃ l,RP F W (.sh (sl l)) (.slice x len cap):=by
 obtain ⟨ok,r⟩:=Uzv (enc:=enc) (W:=W) (spare:=spare) (held:=held) (F:=F)
 obtain ⟨a,_,h2⟩:=Jlr r h hF
 refine ⟨a.map fun s=>s.data.toList,?_⟩
 rw [←UD1]
 exact h2
end
end Go.Proofs.YtmgfmlhdnadglaaGreatDoor
set_option linter.unusedVariables false
set_option maxRecDepth 100000
namespace Go.Proofs.YtmgfmlhdnadglaaGreatDoor
open Go Th Go.Proofs
noncomputable section
variable {R:Type}
def UgE:Ann:={ loops:=[(4,ids [0,1,12,13],ids [4])],cuts:=[],frz:=[],rm:=[.id] }
abbrev UxA (n:Nat):Env:=eN
theorem Upf (n:Nat):EnvOK Tryz.prog GI (UxA n):=.nil
def Uhp (n:Nat) (l0:LP→LP→Int→Int→O R) (x1 x2:LP) (x3 x4:Int) (k0:Bool→O R) (k1:O R):O R :=
 bif (decide (x4<x3)) then (bif (inR x4 ((x1).length)) then (Jh2 ((x1).getD ((x4:Int).toNat) (.v (.bool false))) fun a5=>JdT a5 fun h6 t7=>Jj .i64 h6 fun e8=>JdT t7 fun h9 t10=>Jj3 h9 fun e11=>Ji2 t10 (bif (inR x4 ((x2).length)) then (Jh2 ((x2).getD ((x4:Int).toNat) (.v (.bool false))) fun a12=>JdT a12 fun h13 t14=>Jj .i64 h13 fun e15=>JdT t14 fun h16 t17=>Jj3 h16 fun e18=>Ji2 t17 (bif (!Jbz ([.v (.int .i64 e8),.v (.string e11)]:LP) ([.v (.int .i64 e15),.v (.string e18)]:LP)) then (k0 false) else (l0 x1 x2 x3 (IntKind.i64.wrap (x4 + 1))))) else none)) else none) else (k1)
def Uds (n:Nat):Nat→LP→LP→Int→Int→(Bool→O R)→(O R)→O R
 | 0,_,_,_,_,_,_=>none
 | m + 1,x1,x2,x3,x4,k0,k1=>Uhp n (fun x1 x2 x3 x4=>Uds n m x1 x2 x3 x4 k0 k1) x1 x2 x3 x4 k0 k1
def UvC (n:Nat) (x1 x2:LP) (x3 x4:Int) (k0:Bool→O R) (k1:O R):O R:=Uds n n x1 x2 x3 x4 k0 k1
def p26 (n:Nat) (x1 x2:LP) (k0:Bool→O R):O R :=
 bif (((x1).length:Int) != ((x2).length:Int)) then (k0 false) else (UvC n x1 x2 ((x1).length:Int) 0 (fun y3=>k0 y3) (k0 true))
abbrev E26 (n:Nat):Code→Fr→Kc R→O R:=evC Tryz.prog (UxA n) UgE n (26,[])
noncomputable def Uua:Code:=Jj4 (Jll Tryz.f26) [1,1,0,1,0,0]
abbrev Ug:Sl (List SV):=(cH (cH (cI (cI .n))))
abbrev Uqz (n m:Nat) (K:Kc R):Ug.T (O R):=fun x1 x2 x3 x4=>Uds n m x1 x2 x3 x4 (fun y1=>xL UgE 4 K .ret [vB y1]) (xL UgE 4 K (.exit 0) [dD])
abbrev UAf (n:Nat) (K:Kc R) (l0:Ug.T (O R)):Ug.T (O R):=fun x1 x2 x3 x4=>Uhp n l0 x1 x2 x3 x4 (fun y1=>xL UgE 4 K .ret [vB y1]) (xL UgE 4 K (.exit 0) [dD])
abbrev UJz (n:Nat):Orc R:=oL UgE (E26 n) n 4 Uua Ug (Uqz n n) oN
abbrev UIr (n:Nat):Orc R:=oN
abbrev K26 (R:Type) (n:Nat):=JcH (R:=R) Tryz.prog (UxA n) UgE n (26,[]) (UJz n) (UIr n)
theorem UDc (n:Nat):K26 R n (false,4,Uua):=JkF (lo:=UJz n) (cu:=UIr n) (pO pN (by kernel_rfl)) Ug (Uqz n n) (JiE (F:=Uqz n) Ug (UAf n) (fun K _ _ _ _=>rfl) (fun _ _=>rfl) (fun L K _ _ _ _=>by show _=_; kernel_rfl) n) fun _ _=>rfl
theorem UMO (n:Nat):Je6 (K26 R n) (JaJ UgE (Jll Tryz.f26)):=pO (pC (UDc n) pN) (by kernel_rfl)
abbrev t26:Sl (List SV):=(cH (cH .n))
abbrev f26 (n:Nat) (K:List SV→O R):t26.T (O R):=fun x1 x2=>p26 n x1 x2 (fun y1=>K [vB y1])
abbrev UI0 (n:Nat):FS:=fT [false,false] t26 (f26 n)
theorem UL4 (n:Nat):FSound Tryz.prog GI 26 (UI0 n):=gd UgE n (Upf n) Tryz.func26 (.cons (Upf n) t26 (f26 n) (fun K _ _=>(Jkq (c:=Jll Tryz.f26) (by kernel_rfl) (UMO n) K).trans (by kernel_rfl)) .nil) (by kernel_rfl)
def UzR:Ann:={ loops:=[],cuts:=[(3,ids [1,2],ids [4])],frz:=[],rm:=[.id] }
abbrev UFj (n:Nat):Env:=eC 26 (UI0 n) (eC 25 (UFo n) (eC 24 (UIZ n) (eC 23 (UFn n) (eC 11 (UIU n) (eC 10 (UIT n) (eC 9 (fs9 n) eN))))))
theorem Uu3 (n:Nat):EnvOK Tryz.prog GI (UFj n):=.cons (.cons (.cons (.cons (.cons (.cons (.cons (.nil) (ok9 n)) (ULX n)) (ULY n)) (UJS n)) (UL3 n)) (UJT n)) (UL4 n)
def UyA (n:Nat) (x1:LP) (x2:Int) (x3:LP) (k0:Bool→O R):O R :=
 p23 n x2 x3 x1 (fun y4 y5 y6=>p24 n x2 x3 x1 (fun y7 y8 y9 y10 y11 y12=>bif (y12 != 0) then (bif (y6 == y12) then (bif (bif true then (((y4).length:Int) == 0) else false) then (bif (bif true then eqS y5 (⟨#[]⟩:ByteArray) else false) then (p11 n (fun y13=>k0 (bif true then y13 else false))) else (k0 false)) else (k0 false)) else (k0 false)) else (p25 n y7 y8 y9 y10 y11 (fun y14 y15 y16=>bif (y6 == 0) then (p26 n y4 y14 (fun y17=>bif (bif true then y17 else false) then (bif (bif true then eqS y5 y15 else false) then (p11 n (fun y18=>k0 (bif true then y18 else false))) else (k0 false)) else (k0 false))) else (k0 false)))))
def p8 (n:Nat) (x1:Int) (x2 x3:LP) (k0:Bool→O R):O R :=
 p9 n x1 x2 (fun y4=>bif (!y4) then (p11 n (fun y5=>k0 y5)) else (p10 n x3 (fun y6=>bif (bif false then true else (!y6)) then (p11 n (fun y7=>k0 y7)) else (UyA n x3 x1 x2 (fun y8=>k0 y8)))))
abbrev E8 (n:Nat):Code→Fr→Kc R→O R:=evC Tryz.prog (UFj n) UzR n (75,[])
noncomputable def UAH:Code:=Jj4 (Jll Tryz.f8) [1,1]
abbrev UzH:Sl (List SV):=(cH (.c (sBx 24 (cI (cH .n))) .n))
abbrev UBA (n:Nat) (K:Kc R):UzH.T (O R):=fun x1 x2 x3=>UyA n x1 x2 x3 (fun y1=>xC UzR 3 K .ret [vB y1])
abbrev lo8 (n:Nat):Orc R:=oN
abbrev cu8 (n:Nat):Orc R:=oC UzR (E8 n) 3 UAH UzH (UBA n) oN
abbrev K8 (R:Type) (n:Nat):=JcH (R:=R) Tryz.prog (UFj n) UzR n (75,[]) (lo8 n) (cu8 n)
theorem UHu (n:Nat):K8 R n (true,3,UAH):=JkW (lo:=lo8 n) (cu:=cu8 n) (pO pN (by kernel_rfl)) UzH (UBA n) (fun K _ _ _=>by show _=_; kernel_rfl) fun _ _=>rfl
theorem pa8 (n:Nat):Je6 (K8 R n) (JaJ UzR (Jll Tryz.f8)):=pO (pC (UHu n) pN) (by kernel_rfl)
abbrev t8:Sl (List SV):=(.c (sP (JlI (.c (Jlv .i64) (.c sSh .n)))) (cH .n))
abbrev f8 (n:Nat) (K:List SV→O R):t8.T (O R):=fun x1 x2 x3=>p8 n x1 x2 x3 (fun y1=>K [vB y1])
abbrev fs8 (n:Nat):FS:=fT [false,false] t8 (f8 n)
theorem ok8 (n:Nat):FSound Tryz.prog GI 8 (fs8 n):=gd UzR n (Uu3 n) Tryz.func8 (.cons (Uu3 n) t8 (f8 n) (fun K _ _ _=>(Jkq (c:=Jll Tryz.f8) (by kernel_rfl) (pa8 n) K).trans (by kernel_rfl)) .nil) (by kernel_rfl)
end
end Go.Proofs.YtmgfmlhdnadglaaGreatDoor
set_option linter.unusedVariables false
set_option linter.unusedSimpArgs false
namespace Go.Proofs.YtmgfmlhdnadglaaGreatDoor
open Go Th Go.Proofs
variable {R:Type}
theorem Us5 (a:Int) (s:ByteArray):Jbz ([.v (.int .i64 a),.v (.string s)]:List PV) ([.v (.int .i64 a),.v (.string s)]:List PV)=true:=by
 have e1:JfT (.v (.int .i64 a)) (.v (.int .i64 a))=true:=by simp [JfT]
 have e2:JfT (.v (.string s)) (.v (.string s))=true:=by show eqS s s=true; unfold eqS; exact beq_self_eq_true _
 simp [Jbz,e1,e2]
theorem Us6 (n:Nat) (l:List TermT) (hn:l.length<n) (hl:l.length<2 ^ 17) (k0:Bool→Option R):p26 n (tms l) (tms l) k0=k0 true:=by
 unfold p26 UvC
 have e:(((tms l).length:Int) != ((tms l).length:Int))=false:=by simp
 rw [e,Uam]
 have H:=Uau (R:=R) (l:=l) (ok:=fun _=>true) (kbad:=k0 false) (kend:=k0 true) (fun m i=>Uds n m (tms l) (tms l) ((tms l).length:Int) (i:Int) (fun y3=>k0 y3) (k0 true))
  (fun m=>by simp only [Uds,Uhp]; simp (disch:=(first | omega | (simp only [JlE]; omega))) only [↓JlH,JlF,Ua])
  (fun m i hi=>by
    simp only [Uds,Uhp]
    simp (disch:=(first | omega | (simp only [JlE]; omega))) only [↓JlH,JlF,Ua,Jji,Uar hi,Us5,i1]) l.length n 0 (by omega) (by omega)
 rw [List.drop_zero] at H
 refine Eq.trans H ?_
 simp
theorem Ucy (n:Nat) (hn:10 ^ 1000≤n) (cols:Int) (rows:List RowT) (mult:List (List UInt8)) (k:Bool→Option R):p8 n cols (rws rows) (sl mult) k=k true:=by
 have hN:=UaC (Ubb hn)
 have hA:=fun k=>Uyt (R:=R) n (Nat.le_trans (by decide) hN) k
 have h1:=fun k=>UBF (R:=R) n hN cols rows k
 have h2:=fun k=>Ush (R:=R) n hN mult k
 unfold p8
 rw [h1]
 cases h3:UBD rows with
 | false=>simp only [UF4,UaL,hA]
 | true =>
  simp only [UF5,Uam,h2]
  cases h4:UiT mult with
  | false=>simp only [UF4,UaL,hA]
  | true =>
   have hr:=UBH h3
   have hm:=UtW h4
   have eE:eqS (bs []) (⟨#[]⟩:ByteArray)=true:=rfl
   have eZ:((([]:List PV).length:Int) == 0)=true:=rfl
   have sy:=fun k=>UD3 (R:=R) n (Ubb hn) cols rows hr k
   have syR:=fun k=>UzG (R:=R) n (Ubb hn) cols rows hr k
   have nu:=fun k=>Um9 (R:=R) n (Ubb hn) mult hm k
   have nuR:=fun k=>Ukc (R:=R) n (Ubb hn) mult hm k
   simp only [UF5,Uam,UyA,p23,p24,sy,syR]
   by_cases h5:UsF cols rows=0
   · have e5:(UsF cols rows != 0)=false:=by rw [h5]; rfl
     simp only [e5,Uam,nu,nuR]
     cases h6:UzQ mult with
     | false=>simp only [UF4,UaL,Uam,JfF,eE,eZ,hA,show ((3:Int) != 0)=true from rfl,show ((3:Int) == 3)=true from rfl]
     | true =>
      simp only [UF5,Uam]
      by_cases h7:mult.length=rows.length
      · have h:=Uyr h5 h6 h7
        have e7:((mult.length:Int) != (rows.length:Int))=false:=by simp [h7]
        have g1:=fun k=>UmZ (R:=R) n hn cols rows mult h k
        have g2:=fun k=>Uka (R:=R) n hn cols rows mult h k
        simp only [UmB,Uaw,Uaf,e7,Uam,g1,g2]
        have hcs:=Uiw (cols:=cols) (l:=zsR rows mult) (ld:=zsD rows mult) (s:=([],0)) (sd:=([],0)) (by simp [zsR,zsD]) (fun i a b=>by
         have hr':=h.hr _ (List.of_mem_zip (List.getElem_mem (by simpa [zsR] using a))).1
         simp only [zsR,zsD,List.getElem_map]
         exact ⟨(UiE hr').1,(UfR h.hc hr').2.2.1,trivial⟩) UsD ⟨rfl,fun i=>by simp [cf]⟩
        rcases hcs with ⟨q1,q2⟩ | ⟨x,d,q1,q2,q3,q4⟩
        · rw [q1,q2]
          simp only [UsE,UzS,UF3,UaL,eE,eZ,hA,show ((5:Int) == 5)=true from rfl]
        · have hd:d.1.length≤2048∧UaM d:=by
           have:∀ (l:List (DnR × Rat)) (s:DnR),(∀ y∈l,y.1.1.length≤2048)→(s.1.length≤2048∧UaM s)→∀ x,UgP l s=some x→x.1.length≤2048∧UaM x:=fun l s hl hs x hx=>by
            rw [Udj] at hx
            exact Ufb (step:=fun s (x:DnR × Rat)=>Ua5 x.2 x.1 s) (P:=fun y=>y.1.1.length≤2048) (Inv:=fun s=>s.1.length≤2048∧UaM s) (fun s s' a ha hs he=>UhX ha hs he) hl hs hx
           refine this (zsD rows mult) ([],0) (fun y hy=>?_) ⟨by simp,⟨by simp,UfJ⟩⟩ d q2
           obtain ⟨z,hz,rfl⟩:=List.mem_map.1 hy
           exact (UfR h.hc (h.hr _ (List.of_mem_zip hz).1)).2.1
          have ox:=Uex h.hc q3
          have hL:=UbK ox.1
          have g3:=fun k=>Uim (R:=R) n (Ubb hn) d hd.1 k
          have e8:wrD 0 d.1=x.1:=UzL q3 hd.2.1 q4
          have g4:=fun k=>Us6 (R:=R) n (vt x.1) (by rw [Uas]; omega) (by rw [Uas]; omega) k
          have e9:eqS (bs (Uag x.2)) (bs (Uag x.2))=true:=by rw [Ji7]; exact beq_self_eq_true _
          rw [q1,q2]
          simp only [UsE,UzS,Uro,Uam,g3]
          unfold Uni
          rw [if_pos hd.2,e8,←q4.1]
          simp only [show ((0:Int) == 0)=true from rfl,UaL,g4,e9,hA]
      · have e7:((mult.length:Int) != (rows.length:Int))=true:=by simp; omega
        simp only [UmB,UiF,Uaw,Uaf,e7,UaL,JfF,eE,eZ,hA,show ((6:Int) != 0)=true from rfl,show ((6:Int) == 6)=true from rfl]
   · have e5:(UsF cols rows != 0)=true:=by simp [h5]
     simp only [e5,UaL,JfF,eE,eZ,hA,show ((3:Int) != 0)=true from rfl,show ((3:Int) == 3)=true from rfl]
theorem Ucs {H:Type} {enc:TypeId × Value→H} {spare:Nat→Bool} {held:Bool} (W:World) (h:Tab W) {c0:Array Value} {x1:Option Addr} {l1 p1:Nat} {d0 d1:DataW H} {q0 q1:List MemPlace}
 (h0:DataW.Trod enc Tryz.prog W 0 spare held 24 (.agg c0) d0 q0) (h1:DataW.Trod enc Tryz.prog W 0 spare held 25 (.slice x1 l1 p1) d1 q1) (hlt:∀ x∈q0++q1,x.block<W.heap.size) :
 Calls Tryz.prog 8 #[.agg c0,.slice x1 l1 p1] W fun e w'=>e=.returned (.bool true)∧RowKit.Below W.heap.size W w':=by
 obtain ⟨cols,rows,r0⟩:=UwK (F:=Fp (q0++q1)) h0 (UBI fun x hx=>List.mem_append_left _ hx)
 obtain ⟨mult,r1⟩:=UsG (F:=Fp (q0++q1)) h1 (UBI fun x hx=>List.mem_append_right _ hx)
 obtain ⟨n,hn⟩:∃ n:Nat,10 ^ 1000≤n:=⟨_,Nat.le_refl _⟩
 refine Ut (ok8 n) (args:=[.agg [.v (.int .i64 cols),.sh (rws rows)],.sh (sl mult)]) h (q0++q1) hlt (.cons (B:=[]) (.p r0) (.cons (B:=[]) (.p r1) .nil)) ?_
 show p8 n cols (rws rows) (sl mult) _=_
 rw [Ucy n hn cols rows mult]; rfl
end Go.Proofs.YtmgfmlhdnadglaaGreatDoor
namespace Go.Proofs.YtmgfmlhdnadglaaGreatDoor.certifyCombines
open Go.ChangeShapes Go.WideShapes Go.ChangeAt Go.RowKit
open Go.ChangeMaps (open_string shut_string)
theorem own:ownKnob Tryz.prog.godebug=none:=by kernel_rfl
theorem laidOut:laidOutB Tryz.prog=true:=by kernel_rfl
set_option maxRecDepth 100000 in
theorem lifted (os:Os) (started:os.Started) (H:Type) (enc:TypeId × Value→H) :
 ReturnsInHanded {} Tryz.checked os 8 .any (fun w args=>(Rows.certifyCombinesSpec.pre enc Tryz.prog Tryz.f8 Rows.certifyCombinesRow.domain false w args∧laidMetH Tryz.prog UcS w)∧sizedMet enc Tryz.prog Tryz.f8 (OpenSpec.ofChange Rows.certifyCombinesSpec) false w args)
  (Rows.certifyCombinesSpec.post enc Tryz.prog Tryz.f8 false true false false):=by
 refine returnsInHanded_of_change_and (C:=Tryz.checked) (X:=fun w _=>laidMetH Tryz.prog UcS w) (fun _ _ _ hh h=>h.of_heap hh) own started (by kernel_rfl) Tryz.func8
  (ChangeSpec.witness_shaped (enc:=enc) (C:=Tryz.checked) (os:=os) (X:=fun w _=>laidMetH Tryz.prog UcS w) false (World.laidAll Tryz.prog os UcS) #[.agg #[.int .i64 0,.slice none 0 0],.slice none 0 0] 8 (World.laidAll_os _ _ _)
    (World.shaped_of_ZipB (by kernel_rfl) (by kernel_rfl)) (by kernel_rfl) (by kernel_rfl) (by kernel_rfl)
    (by rw [MakeChecks.laidMetH_plain _ _ _ (by kernel_rfl)]; exact laidMet_laidAll _ (by kernel_rfl) (by kernel_rfl))) ?_
 intro W base args ds gs before hval0 hW hcnd hsz0 hL _
 have hval:∀ (j:Nat) t v,Tryz.f8.params[j]? = some t→args[j]? = some v→Value.okWide Tryz.prog W .any base t v:=hval0
 have hW':=hW
 obtain ⟨p,q,hA0,hV,rfl,hfz,hnd⟩:=hW
 have hA:DataW.TrodAll enc Tryz.prog W 0 (fun _=>true) true Tryz.f8.params.toList args.toList ds p:=hA0
 rw [Tryz.params8] at hA hval
 obtain ⟨v0,vs0,d0,ds0,p0,q0,hargs,rfl,rfl,h0,r0⟩:=trodAll_cons hA
 obtain ⟨v1,vs1,d1,ds1,p1,q1,rfl,rfl,rfl,h1,r1⟩:=trodAll_cons r0
 obtain ⟨rfl,rfl,rfl⟩:=trodAll_nil r1
 obtain rfl:args=#[v0,v1]:=by cases args; simp_all
 obtain ⟨rfl,rfl⟩:=trodVars_none hV
 obtain ⟨cs0,rfl,_⟩:=okWide_struct Tryz.underlying24 (hval 0 24 v0 rfl rfl)
 have h0k:=h0
 obtain ⟨sa1,sl1,sc1,rfl⟩:=okWide_slice Tryz.underlying25 (hval 1 25 v1 rfl rfl)
 have h1k:=h1
 have hlt:∀ x∈p0++p1,x.block<W.heap.size:=fun x hx=>by simpa using hW'.lt x (by simpa using hx)
 have hcall:=Ucs W (UtX hL) h0 h1 hlt
 clear hA0 hval0 hsz0
 refine hcall.mono fun e W' ⟨he,bel⟩=>?_
 subst he
 exact ⟨_,rfl,_,_,_,[],_,[],hW',trodAll_mk1 (shut_bool Tryz.underlying4 _),(trodAll_cons_mk (Below.trod laidOut (by kernel_rfl) (of_decide_eq_true (by kernel_rfl)) h0k bel (fun x hx=>hlt x (by simp [hx]))) (trodAll_cons_mk (Below.trod laidOut (by kernel_rfl) (of_decide_eq_true (by kernel_rfl)) h1k bel (fun x hx=>hlt x (by simp [hx]))) trodAll_mk0)),rfl,bel.frame _,fun h=>by cases h⟩
theorem over:Rows.CertifyCombinesSaid :=
 OpenClaim.holds_of_wide 8 Tryz.f8 rfl rfl rfl rfl rfl rfl rfl ⟨rfl,rfl,rfl,rfl,rfl⟩ rfl rfl rfl rfl rfl (by kernel_rfl) Tryz.func8 (by kernel_rfl)
  (of_decide_eq_true (by kernel_rfl)) (by unfold Func.isWrapper; first | (rw [if_pos (by decide +kernel)]; kernel_rfl) | (rw [if_neg (by decide +kernel)]; exact ⟨rfl,rfl⟩))
  (fun os started H enc _=>lifted os started H enc)
theorem proved:Rows.CertifyCombinesCardSaid :=
 Claim7.holds_tied_plain_at .later [] [.data,.data,.data,.data,.sentinel,.sentinel,.pinned] true (true, "f7700371c8b5fddb2e0cf9d5ff2e169200c13f28753ab1d3c19509a013739147") true over (fun _ h=>by cases h) (by kernel_rfl) (fun _ h=>by cases h) certifyCombines_row_tie rfl ⟨rfl,rfl⟩ (by kernel_rfl) rfl
  (fun f fn hf hfn=>by
    obtain rfl:f=8:=Option.some.inj ((show Tryz.prog.funcNamed "cellarer/cellarerlaw08.CertifyCombines" = some 8 by kernel_rfl).symm.trans hf) |>.symm
    obtain rfl:fn=Tryz.f8:=(Option.some.inj (Tryz.func8.symm.trans hfn)).symm
    exact ⟨by kernel_rfl,fun j t ht=>by
     rw [Tryz.params8] at ht
     have hm:t∈[24,25]:=by simpa using Array.mem_of_getElem? ht
     have hall:([24,25].all fun u=>!Tryz.prog.wantsStandIn u)=true:=by kernel_rfl
     exact (show Tryz.prog.wantsStandIn t=false by simpa using List.all_eq_true.1 hall t hm)⟩)
  (by kernel_rfl)
end Go.Proofs.YtmgfmlhdnadglaaGreatDoor.certifyCombines
namespace Go.Proofs.YtmgfmlhdnadglaaGreatDoor
theorem certifyCombines_holds:Rows.CertifyCombinesCardSaid:=certifyCombines.proved
end Go.Proofs.YtmgfmlhdnadglaaGreatDoor
