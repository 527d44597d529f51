/- Proved: the law CertifySound returns true at all its arguments (no further conditions): the row and what it stands on. -/
import Derived.Test.YtmgfmlhdnadglaaGreatDoorMCertifySound0
import Derived.Test.YtmgfmlhdnadglaaGreatDoorMCertifySound1
import Derived.Test.YtmgfmlhdnadglaaGreatDoorT2
import Derived.Test.YtmgfmlhdnadglaaGreatDoorT1
import Derived.Test.YtmgfmlhdnadglaaGreatDoorRows
import Derived.WalkKit
import Derived.ProofKit
import Derived.LaidMore
import Derived.Lay
import Derived.Lib.LaidTab
import Derived.Test.YtmgfmlhdnadglaaGreatDoorCards
import Derived.Test.YtmgfmlhdnadglaaGreatDoorTie
import Derived.OpenShut
import Derived.ShutString
import Derived.ChangeOld
import Derived.Below
import Derived.SizedLaws
import Derived.SevenTiedAt
import Derived.Stop.Joined
import Derived.Deep.Strs
import Derived.Carry
set_option linter.unusedVariables false
set_option maxRecDepth 100000
namespace Go.Proofs.YtmgfmlhdnadglaaGreatDoor
open Go Th Go.Proofs
noncomputable section
variable {R:Type}
def Uab:Ann:={ loops:=[(4,ids [1,31,32,33],ids [1,2]),(10,ids [1,42,43,44],ids [1,2])],cuts:=[(3,ids [1],ids [2]),(17,ids [1],ids [2]),(23,ids [1],ids [2])],frz:=[],rm:=[.id] }
abbrev UeI (n:Nat):Env:=eC 76 (Uyf n) (eC 66 (UvL n) (eC 65 (Uu6 n) (eC 59 (Uy n) (eC 35 (Ux3 n) (eC 29 (Ux2 n) (eC 17 (UvC n) eN))))))
theorem UeJ (n:Nat):EnvOK Tryz.prog GI (UeI n):=.cons (.cons (.cons (.cons (.cons (.cons (.cons (.nil) (UyB n)) (UAd n)) (UAe n)) (UAl n)) (Uwt n)) (UyK n)) (UAr n)
def UgX (n:Nat) (l0:Int→LP→LP→LP→LP→Bool→Int→LP→LP→LP→Int→Int→O R) (x1:Int) (x2 x3 x4 x5:LP) (x6:Bool) (x7:Int) (x8 x9 x10:LP) (x11 x12:Int) (k0:Int→LP→LP→LP→LP→Bool→Int→LP→LP→Int→O R) (k1:Int→LP→LP→LP→LP→Bool→Int→LP→LP→O R):O R :=
 bif (decide (x12<x11)) then (bif (inR x12 ((x10).length)) then (Jkr ((x10).getD ((x12:Int).toNat) (.v (.bool false))) fun e13=>p66 n e13 (fun y14=>bif (!y14) then (k0 x1 x2 x3 x4 x5 x6 x7 x8 x9 3) else (l0 x1 x2 x3 x4 x5 x6 x7 x8 x9 x10 x11 (IntKind.i64.wrap (x12 + 1))))) else none) else (k1 x1 x2 x3 x4 x5 x6 x7 x8 x9)
def Ufe (n:Nat):Nat→Int→LP→LP→LP→LP→Bool→Int→LP→LP→LP→Int→Int→(Int→LP→LP→LP→LP→Bool→Int→LP→LP→Int→O R)→(Int→LP→LP→LP→LP→Bool→Int→LP→LP→O R)→O R
 | 0,_,_,_,_,_,_,_,_,_,_,_,_,_,_=>none
 | m + 1,x1,x2,x3,x4,x5,x6,x7,x8,x9,x10,x11,x12,k0,k1=>UgX n (fun x1 x2 x3 x4 x5 x6 x7 x8 x9 x10 x11 x12=>Ufe n m x1 x2 x3 x4 x5 x6 x7 x8 x9 x10 x11 x12 k0 k1) x1 x2 x3 x4 x5 x6 x7 x8 x9 x10 x11 x12 k0 k1
def UoX (n:Nat) (x1:Int) (x2 x3 x4 x5:LP) (x6:Bool) (x7:Int) (x8 x9 x10:LP) (x11 x12:Int) (k0:Int→LP→LP→LP→LP→Bool→Int→LP→LP→Int→O R) (k1:Int→LP→LP→LP→LP→Bool→Int→LP→LP→O R):O R:=Ufe n n x1 x2 x3 x4 x5 x6 x7 x8 x9 x10 x11 x12 k0 k1
def Ufd (n:Nat) (l0:Int→LP→LP→LP→LP→Bool→Int→LP→LP→LP→Int→Int→O R) (x1:Int) (x2 x3 x4 x5:LP) (x6:Bool) (x7:Int) (x8 x9 x10:LP) (x11 x12:Int) (k0:Int→LP→LP→LP→LP→Bool→Int→LP→LP→Int→O R) (k1:Int→LP→LP→LP→LP→Bool→Int→LP→LP→O R):O R :=
 bif (decide (x12<x11)) then (bif (inR x12 ((x10).length)) then (Jkr ((x10).getD ((x12:Int).toNat) (.v (.bool false))) fun e13=>bif (((e13).length:Int) != x1) then (k0 x1 x2 x3 x4 x5 x6 x7 x8 x9 6) else (l0 x1 x2 x3 x4 x5 x6 x7 x8 x9 x10 x11 (IntKind.i64.wrap (x12 + 1)))) else none) else (k1 x1 x2 x3 x4 x5 x6 x7 x8 x9)
def Udp (n:Nat):Nat→Int→LP→LP→LP→LP→Bool→Int→LP→LP→LP→Int→Int→(Int→LP→LP→LP→LP→Bool→Int→LP→LP→Int→O R)→(Int→LP→LP→LP→LP→Bool→Int→LP→LP→O R)→O R
 | 0,_,_,_,_,_,_,_,_,_,_,_,_,_,_=>none
 | m + 1,x1,x2,x3,x4,x5,x6,x7,x8,x9,x10,x11,x12,k0,k1=>Ufd n (fun x1 x2 x3 x4 x5 x6 x7 x8 x9 x10 x11 x12=>Udp n m x1 x2 x3 x4 x5 x6 x7 x8 x9 x10 x11 x12 k0 k1) x1 x2 x3 x4 x5 x6 x7 x8 x9 x10 x11 x12 k0 k1
def Ul8 (n:Nat) (x1:Int) (x2 x3 x4 x5:LP) (x6:Bool) (x7:Int) (x8 x9 x10:LP) (x11 x12:Int) (k0:Int→LP→LP→LP→LP→Bool→Int→LP→LP→Int→O R) (k1:Int→LP→LP→LP→LP→Bool→Int→LP→LP→O R):O R:=Udp n n x1 x2 x3 x4 x5 x6 x7 x8 x9 x10 x11 x12 k0 k1
def Ufc (n:Nat) (x1:Int) (x2 x3 x4 x5:LP) (x6:Bool) (x7:Int) (x8 x9:LP) (k0:Int→O R):O R :=
 p29 n x7 x8 x9 (fun y10 y11=>bif (y11 != 0) then (k0 y11) else (bif (!y10) then (k0 16) else (k0 0)))
def Ufb (n:Nat) (x1:Int) (x2 x3 x4 x5:LP) (x6:Bool) (x7:Int) (x8 x9:LP) (k0:Int→O R):O R :=
 bif (decide (((x4).length:Int)>0)) then (bif (inR 0 ((x4).length)) then (Jkr ((x4).getD ((0:Int).toNat) (.v (.bool false))) fun e10=>p17 n x1 x2 e10 (fun y11 y12=>bif (y12 != 0) then (k0 y12) else (bif (!y11) then (k0 15) else (Ufc n x1 x2 x3 x4 x5 x6 x7 x8 x9 (fun y13=>k0 y13))))) else none) else (Ufc n x1 x2 x3 x4 x5 x6 x7 x8 x9 (fun y14=>k0 y14))
def Ul7 (n:Nat) (x1:Int) (x2 x3 x4 x5:LP) (x6:Bool) (x7:Int) (x8 x9:LP) (k0:Int→O R):O R :=
 UoX n x1 x2 x3 x4 x5 x6 x7 x8 x9 x4 ((x4).length:Int) 0 (fun y10 y11 y12 y13 y14 y15 y16 y17 y18 y19=>k0 y19) (fun y20 y21 y22 y23 y24 y25 y26 y27 y28=>Ul8 n y20 y21 y22 y23 y24 y25 y26 y27 y28 y23 ((y23).length:Int) 0 (fun y29 y30 y31 y32 y33 y34 y35 y36 y37 y38=>k0 y38) (fun y39 y40 y41 y42 y43 y44 y45 y46 y47=>bif y44 then (bif (bif true then (((y43).length:Int) != ((y40).length:Int)) else false) then (k0 6) else (Ufb n y39 y40 y41 y42 y43 y44 y45 y46 y47 (fun y48=>k0 y48))) else (Ufb n y39 y40 y41 y42 y43 y44 y45 y46 y47 (fun y49=>k0 y49))))
def p32 (n:Nat) (x1:Int) (x2 x3 x4 x5:LP) (x6:Bool) (x7:Int) (x8 x9:LP) (k0:Int→O R):O R :=
 p65 n x1 x2 (fun y10=>bif (y10 != 0) then (k0 3) else (p76 n x1 x3 (fun y11=>bif (bif false then true else (!y11)) then (k0 3) else (p66 n x5 (fun y12=>bif (bif false then true else (!y12)) then (k0 3) else (Ul7 n x1 x2 x3 x4 x5 x6 x7 x8 x9 (fun y13=>k0 y13)))))))
def Uf8 (n:Nat) (l0:Int→LP→LP→LP→LP→Bool→Int→LP→LP→LP→LP→LP→Int→Int→O R) (x1:Int) (x2 x3 x4 x5:LP) (x6:Bool) (x7:Int) (x8 x9 x10 x11 x12:LP) (x13 x14:Int) (k0:Int→LP→LP→LP→LP→Bool→Int→LP→LP→LP→LP→Int→O R) (k1:Int→LP→LP→LP→LP→Bool→Int→LP→LP→LP→LP→O R):O R :=
 bif (decide (x14<x13)) then (bif (inR x14 ((x12).length)) then (Jkr ((x12).getD ((x14:Int).toNat) (.v (.bool false))) fun e15=>p66 n e15 (fun y16=>bif (!y16) then (k0 x1 x2 x3 x4 x5 x6 x7 x8 x9 x10 x11 3) else (l0 x1 x2 x3 x4 x5 x6 x7 x8 x9 x10 x11 x12 x13 (IntKind.i64.wrap (x14 + 1))))) else none) else (k1 x1 x2 x3 x4 x5 x6 x7 x8 x9 x10 x11)
def UdL (n:Nat):Nat→Int→LP→LP→LP→LP→Bool→Int→LP→LP→LP→LP→LP→Int→Int→(Int→LP→LP→LP→LP→Bool→Int→LP→LP→LP→LP→Int→O R)→(Int→LP→LP→LP→LP→Bool→Int→LP→LP→LP→LP→O R)→O R
 | 0,_,_,_,_,_,_,_,_,_,_,_,_,_,_,_,_=>none
 | m + 1,x1,x2,x3,x4,x5,x6,x7,x8,x9,x10,x11,x12,x13,x14,k0,k1=>Uf8 n (fun x1 x2 x3 x4 x5 x6 x7 x8 x9 x10 x11 x12 x13 x14=>UdL n m x1 x2 x3 x4 x5 x6 x7 x8 x9 x10 x11 x12 x13 x14 k0 k1) x1 x2 x3 x4 x5 x6 x7 x8 x9 x10 x11 x12 x13 x14 k0 k1
def Uni (n:Nat) (x1:Int) (x2 x3 x4 x5:LP) (x6:Bool) (x7:Int) (x8 x9 x10 x11 x12:LP) (x13 x14:Int) (k0:Int→LP→LP→LP→LP→Bool→Int→LP→LP→LP→LP→Int→O R) (k1:Int→LP→LP→LP→LP→Bool→Int→LP→LP→LP→LP→O R):O R:=UdL n n x1 x2 x3 x4 x5 x6 x7 x8 x9 x10 x11 x12 x13 x14 k0 k1
def Ud2 (n:Nat) (l0:Int→LP→LP→LP→LP→Bool→Int→LP→LP→LP→LP→LP→Int→Int→O R) (x1:Int) (x2 x3 x4 x5:LP) (x6:Bool) (x7:Int) (x8 x9 x10 x11 x12:LP) (x13 x14:Int) (k0:Int→LP→LP→LP→LP→Bool→Int→LP→LP→LP→LP→Int→O R) (k1:Int→LP→LP→LP→LP→Bool→Int→LP→LP→LP→LP→O R):O R :=
 bif (decide (x14<x13)) then (bif (inR x14 ((x12).length)) then (Jkr ((x12).getD ((x14:Int).toNat) (.v (.bool false))) fun e15=>bif (((e15).length:Int) != x1) then (k0 x1 x2 x3 x4 x5 x6 x7 x8 x9 x10 x11 6) else (l0 x1 x2 x3 x4 x5 x6 x7 x8 x9 x10 x11 x12 x13 (IntKind.i64.wrap (x14 + 1)))) else none) else (k1 x1 x2 x3 x4 x5 x6 x7 x8 x9 x10 x11)
def UcC (n:Nat):Nat→Int→LP→LP→LP→LP→Bool→Int→LP→LP→LP→LP→LP→Int→Int→(Int→LP→LP→LP→LP→Bool→Int→LP→LP→LP→LP→Int→O R)→(Int→LP→LP→LP→LP→Bool→Int→LP→LP→LP→LP→O R)→O R
 | 0,_,_,_,_,_,_,_,_,_,_,_,_,_,_,_,_=>none
 | m + 1,x1,x2,x3,x4,x5,x6,x7,x8,x9,x10,x11,x12,x13,x14,k0,k1=>Ud2 n (fun x1 x2 x3 x4 x5 x6 x7 x8 x9 x10 x11 x12 x13 x14=>UcC n m x1 x2 x3 x4 x5 x6 x7 x8 x9 x10 x11 x12 x13 x14 k0 k1) x1 x2 x3 x4 x5 x6 x7 x8 x9 x10 x11 x12 x13 x14 k0 k1
def Ul9 (n:Nat) (x1:Int) (x2 x3 x4 x5:LP) (x6:Bool) (x7:Int) (x8 x9 x10 x11 x12:LP) (x13 x14:Int) (k0:Int→LP→LP→LP→LP→Bool→Int→LP→LP→LP→LP→Int→O R) (k1:Int→LP→LP→LP→LP→Bool→Int→LP→LP→LP→LP→O R):O R:=UcC n n x1 x2 x3 x4 x5 x6 x7 x8 x9 x10 x11 x12 x13 x14 k0 k1
def UdJ (n:Nat) (x1:Int) (x2 x3 x4 x5:LP) (x6:Bool) (x7:Int) (x8 x9 x10 x11:LP) (k0:Int→O R):O R :=
 p35 n x7 x8 x9 x10 x11 (fun y12 y13=>bif (y13 != 0) then (k0 y13) else (bif (!y12) then (k0 16) else (k0 0)))
def UdH (n:Nat) (x1:Int) (x2 x3 x4 x5:LP) (x6:Bool) (x7:Int) (x8 x9 x10 x11:LP) (k0:Int→O R):O R :=
 bif (decide (((x4).length:Int)>0)) then (bif (inR 0 ((x4).length)) then (Jkr ((x4).getD ((0:Int).toNat) (.v (.bool false))) fun e12=>p17 n x1 x2 e12 (fun y13 y14=>bif (y14 != 0) then (k0 y14) else (bif (!y13) then (k0 15) else (UdJ n x1 x2 x3 x4 x5 x6 x7 x8 x9 x10 x11 (fun y15=>k0 y15))))) else none) else (UdJ n x1 x2 x3 x4 x5 x6 x7 x8 x9 x10 x11 (fun y16=>k0 y16))
def UiK (n:Nat) (x1:Int) (x2 x3 x4 x5:LP) (x6:Bool) (x7:Int) (x8 x9 x10 x11:LP) (k0:Int→O R):O R :=
 Uni n x1 x2 x3 x4 x5 x6 x7 x8 x9 x10 x11 x4 ((x4).length:Int) 0 (fun y12 y13 y14 y15 y16 y17 y18 y19 y20 y21 y22 y23=>k0 y23) (fun y24 y25 y26 y27 y28 y29 y30 y31 y32 y33 y34=>Ul9 n y24 y25 y26 y27 y28 y29 y30 y31 y32 y33 y34 y27 ((y27).length:Int) 0 (fun y35 y36 y37 y38 y39 y40 y41 y42 y43 y44 y45 y46=>k0 y46) (fun y47 y48 y49 y50 y51 y52 y53 y54 y55 y56 y57=>bif y52 then (bif (bif true then (((y51).length:Int) != ((y48).length:Int)) else false) then (k0 6) else (UdH n y47 y48 y49 y50 y51 y52 y53 y54 y55 y56 y57 (fun y58=>k0 y58))) else (UdH n y47 y48 y49 y50 y51 y52 y53 y54 y55 y56 y57 (fun y59=>k0 y59))))
def Ut2 (n:Nat) (x1:Int) (x2 x3 x4 x5:LP) (x6:Bool) (x7:Int) (x8 x9 x10 x11:LP) (k0:Int→O R):O R :=
 p65 n x1 x2 (fun y12=>bif (y12 != 0) then (k0 3) else (p76 n x1 x3 (fun y13=>bif (bif false then true else (!y13)) then (k0 3) else (p66 n x5 (fun y14=>bif (bif false then true else (!y14)) then (k0 3) else (UiK n x1 x2 x3 x4 x5 x6 x7 x8 x9 x10 x11 (fun y15=>k0 y15)))))))
def Uf9 (n:Nat) (l0:Int→LP→LP→LP→LP→Bool→LP→Int→LP→LP→LP→Int→Int→O R) (x1:Int) (x2 x3 x4 x5:LP) (x6:Bool) (x7:LP) (x8:Int) (x9 x10 x11:LP) (x12 x13:Int) (k0:Int→LP→LP→LP→LP→Bool→LP→Int→LP→LP→Int→O R) (k1:Int→LP→LP→LP→LP→Bool→LP→Int→LP→LP→O R):O R :=
 bif (decide (x13<x12)) then (bif (inR x13 ((x11).length)) then (Jkr ((x11).getD ((x13:Int).toNat) (.v (.bool false))) fun e14=>p66 n e14 (fun y15=>bif (!y15) then (k0 x1 x2 x3 x4 x5 x6 x7 x8 x9 x10 3) else (l0 x1 x2 x3 x4 x5 x6 x7 x8 x9 x10 x11 x12 (IntKind.i64.wrap (x13 + 1))))) else none) else (k1 x1 x2 x3 x4 x5 x6 x7 x8 x9 x10)
def UdM (n:Nat):Nat→Int→LP→LP→LP→LP→Bool→LP→Int→LP→LP→LP→Int→Int→(Int→LP→LP→LP→LP→Bool→LP→Int→LP→LP→Int→O R)→(Int→LP→LP→LP→LP→Bool→LP→Int→LP→LP→O R)→O R
 | 0,_,_,_,_,_,_,_,_,_,_,_,_,_,_,_=>none
 | m + 1,x1,x2,x3,x4,x5,x6,x7,x8,x9,x10,x11,x12,x13,k0,k1=>Uf9 n (fun x1 x2 x3 x4 x5 x6 x7 x8 x9 x10 x11 x12 x13=>UdM n m x1 x2 x3 x4 x5 x6 x7 x8 x9 x10 x11 x12 x13 k0 k1) x1 x2 x3 x4 x5 x6 x7 x8 x9 x10 x11 x12 x13 k0 k1
def Unj (n:Nat) (x1:Int) (x2 x3 x4 x5:LP) (x6:Bool) (x7:LP) (x8:Int) (x9 x10 x11:LP) (x12 x13:Int) (k0:Int→LP→LP→LP→LP→Bool→LP→Int→LP→LP→Int→O R) (k1:Int→LP→LP→LP→LP→Bool→LP→Int→LP→LP→O R):O R:=UdM n n x1 x2 x3 x4 x5 x6 x7 x8 x9 x10 x11 x12 x13 k0 k1
def Ud3 (n:Nat) (l0:Int→LP→LP→LP→LP→Bool→LP→Int→LP→LP→LP→Int→Int→O R) (x1:Int) (x2 x3 x4 x5:LP) (x6:Bool) (x7:LP) (x8:Int) (x9 x10 x11:LP) (x12 x13:Int) (k0:Int→LP→LP→LP→LP→Bool→LP→Int→LP→LP→Int→O R) (k1:Int→LP→LP→LP→LP→Bool→LP→Int→LP→LP→O R):O R :=
 bif (decide (x13<x12)) then (bif (inR x13 ((x11).length)) then (Jkr ((x11).getD ((x13:Int).toNat) (.v (.bool false))) fun e14=>bif (((e14).length:Int) != x1) then (k0 x1 x2 x3 x4 x5 x6 x7 x8 x9 x10 6) else (l0 x1 x2 x3 x4 x5 x6 x7 x8 x9 x10 x11 x12 (IntKind.i64.wrap (x13 + 1)))) else none) else (k1 x1 x2 x3 x4 x5 x6 x7 x8 x9 x10)
def UcD (n:Nat):Nat→Int→LP→LP→LP→LP→Bool→LP→Int→LP→LP→LP→Int→Int→(Int→LP→LP→LP→LP→Bool→LP→Int→LP→LP→Int→O R)→(Int→LP→LP→LP→LP→Bool→LP→Int→LP→LP→O R)→O R
 | 0,_,_,_,_,_,_,_,_,_,_,_,_,_,_,_=>none
 | m + 1,x1,x2,x3,x4,x5,x6,x7,x8,x9,x10,x11,x12,x13,k0,k1=>Ud3 n (fun x1 x2 x3 x4 x5 x6 x7 x8 x9 x10 x11 x12 x13=>UcD n m x1 x2 x3 x4 x5 x6 x7 x8 x9 x10 x11 x12 x13 k0 k1) x1 x2 x3 x4 x5 x6 x7 x8 x9 x10 x11 x12 x13 k0 k1
def Um (n:Nat) (x1:Int) (x2 x3 x4 x5:LP) (x6:Bool) (x7:LP) (x8:Int) (x9 x10 x11:LP) (x12 x13:Int) (k0:Int→LP→LP→LP→LP→Bool→LP→Int→LP→LP→Int→O R) (k1:Int→LP→LP→LP→LP→Bool→LP→Int→LP→LP→O R):O R:=UcD n n x1 x2 x3 x4 x5 x6 x7 x8 x9 x10 x11 x12 x13 k0 k1
def UdK (n:Nat) (x1:Int) (x2 x3 x4 x5:LP) (x6:Bool) (x7:LP) (x8:Int) (x9 x10:LP) (k0:Int→O R):O R :=
 p59 n x7 x8 x9 x10 (fun y11 y12=>bif (y12 != 0) then (k0 y12) else (bif (!y11) then (k0 16) else (k0 0)))
def UdI (n:Nat) (x1:Int) (x2 x3 x4 x5:LP) (x6:Bool) (x7:LP) (x8:Int) (x9 x10:LP) (k0:Int→O R):O R :=
 bif (decide (((x4).length:Int)>0)) then (bif (inR 0 ((x4).length)) then (Jkr ((x4).getD ((0:Int).toNat) (.v (.bool false))) fun e11=>p17 n x1 x2 e11 (fun y12 y13=>bif (y13 != 0) then (k0 y13) else (bif (!y12) then (k0 15) else (UdK n x1 x2 x3 x4 x5 x6 x7 x8 x9 x10 (fun y14=>k0 y14))))) else none) else (UdK n x1 x2 x3 x4 x5 x6 x7 x8 x9 x10 (fun y15=>k0 y15))
def UiL (n:Nat) (x1:Int) (x2 x3 x4 x5:LP) (x6:Bool) (x7:LP) (x8:Int) (x9 x10:LP) (k0:Int→O R):O R :=
 Unj n x1 x2 x3 x4 x5 x6 x7 x8 x9 x10 x4 ((x4).length:Int) 0 (fun y11 y12 y13 y14 y15 y16 y17 y18 y19 y20 y21=>k0 y21) (fun y22 y23 y24 y25 y26 y27 y28 y29 y30 y31=>Um n y22 y23 y24 y25 y26 y27 y28 y29 y30 y31 y25 ((y25).length:Int) 0 (fun y32 y33 y34 y35 y36 y37 y38 y39 y40 y41 y42=>k0 y42) (fun y43 y44 y45 y46 y47 y48 y49 y50 y51 y52=>bif y48 then (bif (bif true then (((y47).length:Int) != ((y44).length:Int)) else false) then (k0 6) else (UdI n y43 y44 y45 y46 y47 y48 y49 y50 y51 y52 (fun y53=>k0 y53))) else (UdI n y43 y44 y45 y46 y47 y48 y49 y50 y51 y52 (fun y54=>k0 y54))))
def Ut3 (n:Nat) (x1:Int) (x2 x3 x4 x5:LP) (x6:Bool) (x7:LP) (x8:Int) (x9 x10:LP) (k0:Int→O R):O R :=
 p65 n x1 x2 (fun y11=>bif (y11 != 0) then (k0 3) else (p76 n x1 x3 (fun y12=>bif (bif false then true else (!y12)) then (k0 3) else (p66 n x5 (fun y13=>bif (bif false then true else (!y13)) then (k0 3) else (UiL n x1 x2 x3 x4 x5 x6 x7 x8 x9 x10 (fun y14=>k0 y14)))))))
abbrev E32 (n:Nat):Code→Fr→Kc R→O R:=evC Tryz.prog (UeI n) Uab n (97,[])
noncomputable def UjO:Code:=Jj4 (Jll Tryz.f32) [1,1]
abbrev Uhh:Sl (List SV):=(.c (sBx 74 (cI (cH (cH (cH (cH (cB (.c (sP (JlJ 29 (.c (sFb (.c (Jlv .i64) (.c sSh .n))) (.c (sFb (.c sSh .n)) .n)))) .n)))))))) .n)
abbrev Uhi:Sl (List SV):=(.c (sBx 74 (cI (cH (cH (cH (cH (cB (.c (sP (JlJ 35 (.c (sFb (.c (Jlv .i64) (.c sSh .n))) (.c (sFb (.c sSh .n)) (.c (sFb (.c sSh .n)) (.c (sFb (.c sSh .n)) .n)))))) .n)))))))) .n)
abbrev Uhj:Sl (List SV):=(.c (sBx 74 (cI (cH (cH (cH (cH (cB (.c (sP (JlJ 59 (.c (sFb (.c sSh .n)) (.c (sFb (.c (Jlv .i64) (.c sSh .n))) (.c (sFb (.c sSh .n)) .n))))) .n)))))))) .n)
abbrev Ull (n:Nat) (K:Kc R):Uhh.T (O R):=fun x1 x2 x3 x4 x5 x6 x7 x8 x9=>Ul7 n x1 x2 x3 x4 x5 x6 x7 x8 x9 (fun y1=>xC Uab 3 K .ret [vI y1])
abbrev Ulm (n:Nat) (K:Kc R):Uhi.T (O R):=fun x1 x2 x3 x4 x5 x6 x7 x8 x9 x10 x11=>UiK n x1 x2 x3 x4 x5 x6 x7 x8 x9 x10 x11 (fun y1=>xC Uab 3 K .ret [vI y1])
abbrev Uln (n:Nat) (K:Kc R):Uhj.T (O R):=fun x1 x2 x3 x4 x5 x6 x7 x8 x9 x10=>UiL n x1 x2 x3 x4 x5 x6 x7 x8 x9 x10 (fun y1=>xC Uab 3 K .ret [vI y1])
noncomputable def Ugv:Code:=Jj4 (Jll Tryz.f32) [1,1,1,1,1]
abbrev UfL:Sl (List SV):=(.c (sBx 74 (cI (cH (cH (cH (cH (cB (.c (sP (JlJ 29 (.c (sFb (.c (Jlv .i64) (.c sSh .n))) (.c (sFb (.c sSh .n)) .n)))) .n)))))))) .n)
abbrev UfM:Sl (List SV):=(.c (sBx 74 (cI (cH (cH (cH (cH (cB (.c (sP (JlJ 35 (.c (sFb (.c (Jlv .i64) (.c sSh .n))) (.c (sFb (.c sSh .n)) (.c (sFb (.c sSh .n)) (.c (sFb (.c sSh .n)) .n)))))) .n)))))))) .n)
abbrev UfN:Sl (List SV):=(.c (sBx 74 (cI (cH (cH (cH (cH (cB (.c (sP (JlJ 59 (.c (sFb (.c sSh .n)) (.c (sFb (.c (Jlv .i64) (.c sSh .n))) (.c (sFb (.c sSh .n)) .n))))) .n)))))))) .n)
abbrev Uip (n:Nat) (K:Kc R):UfL.T (O R):=fun x1 x2 x3 x4 x5 x6 x7 x8 x9=>Ufb n x1 x2 x3 x4 x5 x6 x7 x8 x9 (fun y1=>xC Uab 17 K .ret [vI y1])
abbrev Uiq (n:Nat) (K:Kc R):UfM.T (O R):=fun x1 x2 x3 x4 x5 x6 x7 x8 x9 x10 x11=>UdH n x1 x2 x3 x4 x5 x6 x7 x8 x9 x10 x11 (fun y1=>xC Uab 17 K .ret [vI y1])
abbrev Uir (n:Nat) (K:Kc R):UfN.T (O R):=fun x1 x2 x3 x4 x5 x6 x7 x8 x9 x10=>UdI n x1 x2 x3 x4 x5 x6 x7 x8 x9 x10 (fun y1=>xC Uab 17 K .ret [vI y1])
noncomputable def Ugw:Code:=Jj4 (Jll Tryz.f32) [1,1,1,1,1,1]
abbrev UfO:Sl (List SV):=(.c (sBx 74 (cI (cH (cH (cH (cH (cB (.c (sP (JlJ 29 (.c (sFb (.c (Jlv .i64) (.c sSh .n))) (.c (sFb (.c sSh .n)) .n)))) .n)))))))) .n)
abbrev UfP:Sl (List SV):=(.c (sBx 74 (cI (cH (cH (cH (cH (cB (.c (sP (JlJ 35 (.c (sFb (.c (Jlv .i64) (.c sSh .n))) (.c (sFb (.c sSh .n)) (.c (sFb (.c sSh .n)) (.c (sFb (.c sSh .n)) .n)))))) .n)))))))) .n)
abbrev UfQ:Sl (List SV):=(.c (sBx 74 (cI (cH (cH (cH (cH (cB (.c (sP (JlJ 59 (.c (sFb (.c sSh .n)) (.c (sFb (.c (Jlv .i64) (.c sSh .n))) (.c (sFb (.c sSh .n)) .n))))) .n)))))))) .n)
abbrev Uis (n:Nat) (K:Kc R):UfO.T (O R):=fun x1 x2 x3 x4 x5 x6 x7 x8 x9=>Ufc n x1 x2 x3 x4 x5 x6 x7 x8 x9 (fun y1=>xC Uab 23 K .ret [vI y1])
abbrev Uit (n:Nat) (K:Kc R):UfP.T (O R):=fun x1 x2 x3 x4 x5 x6 x7 x8 x9 x10 x11=>UdJ n x1 x2 x3 x4 x5 x6 x7 x8 x9 x10 x11 (fun y1=>xC Uab 23 K .ret [vI y1])
abbrev Uiu (n:Nat) (K:Kc R):UfQ.T (O R):=fun x1 x2 x3 x4 x5 x6 x7 x8 x9 x10=>UdK n x1 x2 x3 x4 x5 x6 x7 x8 x9 x10 (fun y1=>xC Uab 23 K .ret [vI y1])
noncomputable def UdX:Code:=Jj4 (Jll Tryz.f32) [1,1,0,1,0,0]
abbrev UbS:Sl (List SV):=(.c (sBx 74 (cI (cH (cH (cH (cH (cB (.c (sP (JlJ 29 (.c (sFb (.c (Jlv .i64) (.c sSh .n))) (.c (sFb (.c sSh .n)) .n)))) .n)))))))) (cH (cI (cI .n))))
abbrev UbT:Sl (List SV):=(.c (sBx 74 (cI (cH (cH (cH (cH (cB (.c (sP (JlJ 35 (.c (sFb (.c (Jlv .i64) (.c sSh .n))) (.c (sFb (.c sSh .n)) (.c (sFb (.c sSh .n)) (.c (sFb (.c sSh .n)) .n)))))) .n)))))))) (cH (cI (cI .n))))
abbrev UbU:Sl (List SV):=(.c (sBx 74 (cI (cH (cH (cH (cH (cB (.c (sP (JlJ 59 (.c (sFb (.c sSh .n)) (.c (sFb (.c (Jlv .i64) (.c sSh .n))) (.c (sFb (.c sSh .n)) .n))))) .n)))))))) (cH (cI (cI .n))))
abbrev UeO (n m:Nat) (K:Kc R):UbS.T (O R):=fun x1 x2 x3 x4 x5 x6 x7 x8 x9 x10 x11 x12=>Ufe n m x1 x2 x3 x4 x5 x6 x7 x8 x9 x10 x11 x12 (fun y1 y2 y3 y4 y5 y6 y7 y8 y9 y10=>xL Uab 4 K .ret [.bx 74 [vI y1,vH y2,vH y3,vH y4,vH y5,vB y6,.p (.clo 29 [.fb [.v (.int .i64 y7),.sh y8],.fb [.sh y9]])],vI y10]) (fun y1 y2 y3 y4 y5 y6 y7 y8 y9=>xL Uab 4 K (.exit 0) [.bx 74 [vI y1,vH y2,vH y3,vH y4,vH y5,vB y6,.p (.clo 29 [.fb [.v (.int .i64 y7),.sh y8],.fb [.sh y9]])],dD])
abbrev UpX (n:Nat) (K:Kc R) (l0:UbS.T (O R)):UbS.T (O R):=fun x1 x2 x3 x4 x5 x6 x7 x8 x9 x10 x11 x12=>UgX n l0 x1 x2 x3 x4 x5 x6 x7 x8 x9 x10 x11 x12 (fun y1 y2 y3 y4 y5 y6 y7 y8 y9 y10=>xL Uab 4 K .ret [.bx 74 [vI y1,vH y2,vH y3,vH y4,vH y5,vB y6,.p (.clo 29 [.fb [.v (.int .i64 y7),.sh y8],.fb [.sh y9]])],vI y10]) (fun y1 y2 y3 y4 y5 y6 y7 y8 y9=>xL Uab 4 K (.exit 0) [.bx 74 [vI y1,vH y2,vH y3,vH y4,vH y5,vB y6,.p (.clo 29 [.fb [.v (.int .i64 y7),.sh y8],.fb [.sh y9]])],dD])
abbrev UeP (n m:Nat) (K:Kc R):UbT.T (O R):=fun x1 x2 x3 x4 x5 x6 x7 x8 x9 x10 x11 x12 x13 x14=>UdL n m x1 x2 x3 x4 x5 x6 x7 x8 x9 x10 x11 x12 x13 x14 (fun y1 y2 y3 y4 y5 y6 y7 y8 y9 y10 y11 y12=>xL Uab 4 K .ret [.bx 74 [vI y1,vH y2,vH y3,vH y4,vH y5,vB y6,.p (.clo 35 [.fb [.v (.int .i64 y7),.sh y8],.fb [.sh y9],.fb [.sh y10],.fb [.sh y11]])],vI y12]) (fun y1 y2 y3 y4 y5 y6 y7 y8 y9 y10 y11=>xL Uab 4 K (.exit 0) [.bx 74 [vI y1,vH y2,vH y3,vH y4,vH y5,vB y6,.p (.clo 35 [.fb [.v (.int .i64 y7),.sh y8],.fb [.sh y9],.fb [.sh y10],.fb [.sh y11]])],dD])
abbrev UpY (n:Nat) (K:Kc R) (l0:UbT.T (O R)):UbT.T (O R):=fun x1 x2 x3 x4 x5 x6 x7 x8 x9 x10 x11 x12 x13 x14=>Uf8 n l0 x1 x2 x3 x4 x5 x6 x7 x8 x9 x10 x11 x12 x13 x14 (fun y1 y2 y3 y4 y5 y6 y7 y8 y9 y10 y11 y12=>xL Uab 4 K .ret [.bx 74 [vI y1,vH y2,vH y3,vH y4,vH y5,vB y6,.p (.clo 35 [.fb [.v (.int .i64 y7),.sh y8],.fb [.sh y9],.fb [.sh y10],.fb [.sh y11]])],vI y12]) (fun y1 y2 y3 y4 y5 y6 y7 y8 y9 y10 y11=>xL Uab 4 K (.exit 0) [.bx 74 [vI y1,vH y2,vH y3,vH y4,vH y5,vB y6,.p (.clo 35 [.fb [.v (.int .i64 y7),.sh y8],.fb [.sh y9],.fb [.sh y10],.fb [.sh y11]])],dD])
abbrev UeQ (n m:Nat) (K:Kc R):UbU.T (O R):=fun x1 x2 x3 x4 x5 x6 x7 x8 x9 x10 x11 x12 x13=>UdM n m x1 x2 x3 x4 x5 x6 x7 x8 x9 x10 x11 x12 x13 (fun y1 y2 y3 y4 y5 y6 y7 y8 y9 y10 y11=>xL Uab 4 K .ret [.bx 74 [vI y1,vH y2,vH y3,vH y4,vH y5,vB y6,.p (.clo 59 [.fb [.sh y7],.fb [.v (.int .i64 y8),.sh y9],.fb [.sh y10]])],vI y11]) (fun y1 y2 y3 y4 y5 y6 y7 y8 y9 y10=>xL Uab 4 K (.exit 0) [.bx 74 [vI y1,vH y2,vH y3,vH y4,vH y5,vB y6,.p (.clo 59 [.fb [.sh y7],.fb [.v (.int .i64 y8),.sh y9],.fb [.sh y10]])],dD])
abbrev UpZ (n:Nat) (K:Kc R) (l0:UbU.T (O R)):UbU.T (O R):=fun x1 x2 x3 x4 x5 x6 x7 x8 x9 x10 x11 x12 x13=>Uf9 n l0 x1 x2 x3 x4 x5 x6 x7 x8 x9 x10 x11 x12 x13 (fun y1 y2 y3 y4 y5 y6 y7 y8 y9 y10 y11=>xL Uab 4 K .ret [.bx 74 [vI y1,vH y2,vH y3,vH y4,vH y5,vB y6,.p (.clo 59 [.fb [.sh y7],.fb [.v (.int .i64 y8),.sh y9],.fb [.sh y10]])],vI y11]) (fun y1 y2 y3 y4 y5 y6 y7 y8 y9 y10=>xL Uab 4 K (.exit 0) [.bx 74 [vI y1,vH y2,vH y3,vH y4,vH y5,vB y6,.p (.clo 59 [.fb [.sh y7],.fb [.v (.int .i64 y8),.sh y9],.fb [.sh y10]])],dD])
noncomputable def Uco:Code:=Jj4 (Jll Tryz.f32) [1,1,1,0,1,0,0]
abbrev Ua6:Sl (List SV):=(.c (sBx 74 (cI (cH (cH (cH (cH (cB (.c (sP (JlJ 29 (.c (sFb (.c (Jlv .i64) (.c sSh .n))) (.c (sFb (.c sSh .n)) .n)))) .n)))))))) (cH (cI (cI .n))))
abbrev Ua7:Sl (List SV):=(.c (sBx 74 (cI (cH (cH (cH (cH (cB (.c (sP (JlJ 35 (.c (sFb (.c (Jlv .i64) (.c sSh .n))) (.c (sFb (.c sSh .n)) (.c (sFb (.c sSh .n)) (.c (sFb (.c sSh .n)) .n)))))) .n)))))))) (cH (cI (cI .n))))
abbrev Ua8:Sl (List SV):=(.c (sBx 74 (cI (cH (cH (cH (cH (cB (.c (sP (JlJ 59 (.c (sFb (.c sSh .n)) (.c (sFb (.c (Jlv .i64) (.c sSh .n))) (.c (sFb (.c sSh .n)) .n))))) .n)))))))) (cH (cI (cI .n))))
abbrev Uda (n m:Nat) (K:Kc R):Ua6.T (O R):=fun x1 x2 x3 x4 x5 x6 x7 x8 x9 x10 x11 x12=>Udp n m x1 x2 x3 x4 x5 x6 x7 x8 x9 x10 x11 x12 (fun y1 y2 y3 y4 y5 y6 y7 y8 y9 y10=>xL Uab 10 K .ret [.bx 74 [vI y1,vH y2,vH y3,vH y4,vH y5,vB y6,.p (.clo 29 [.fb [.v (.int .i64 y7),.sh y8],.fb [.sh y9]])],vI y10]) (fun y1 y2 y3 y4 y5 y6 y7 y8 y9=>xL Uab 10 K (.exit 2) [.bx 74 [vI y1,vH y2,vH y3,vH y4,vH y5,vB y6,.p (.clo 29 [.fb [.v (.int .i64 y7),.sh y8],.fb [.sh y9]])],dD])
abbrev UmQ (n:Nat) (K:Kc R) (l0:Ua6.T (O R)):Ua6.T (O R):=fun x1 x2 x3 x4 x5 x6 x7 x8 x9 x10 x11 x12=>Ufd n l0 x1 x2 x3 x4 x5 x6 x7 x8 x9 x10 x11 x12 (fun y1 y2 y3 y4 y5 y6 y7 y8 y9 y10=>xL Uab 10 K .ret [.bx 74 [vI y1,vH y2,vH y3,vH y4,vH y5,vB y6,.p (.clo 29 [.fb [.v (.int .i64 y7),.sh y8],.fb [.sh y9]])],vI y10]) (fun y1 y2 y3 y4 y5 y6 y7 y8 y9=>xL Uab 10 K (.exit 2) [.bx 74 [vI y1,vH y2,vH y3,vH y4,vH y5,vB y6,.p (.clo 29 [.fb [.v (.int .i64 y7),.sh y8],.fb [.sh y9]])],dD])
abbrev Udb (n m:Nat) (K:Kc R):Ua7.T (O R):=fun x1 x2 x3 x4 x5 x6 x7 x8 x9 x10 x11 x12 x13 x14=>UcC n m x1 x2 x3 x4 x5 x6 x7 x8 x9 x10 x11 x12 x13 x14 (fun y1 y2 y3 y4 y5 y6 y7 y8 y9 y10 y11 y12=>xL Uab 10 K .ret [.bx 74 [vI y1,vH y2,vH y3,vH y4,vH y5,vB y6,.p (.clo 35 [.fb [.v (.int .i64 y7),.sh y8],.fb [.sh y9],.fb [.sh y10],.fb [.sh y11]])],vI y12]) (fun y1 y2 y3 y4 y5 y6 y7 y8 y9 y10 y11=>xL Uab 10 K (.exit 2) [.bx 74 [vI y1,vH y2,vH y3,vH y4,vH y5,vB y6,.p (.clo 35 [.fb [.v (.int .i64 y7),.sh y8],.fb [.sh y9],.fb [.sh y10],.fb [.sh y11]])],dD])
abbrev UmR (n:Nat) (K:Kc R) (l0:Ua7.T (O R)):Ua7.T (O R):=fun x1 x2 x3 x4 x5 x6 x7 x8 x9 x10 x11 x12 x13 x14=>Ud2 n l0 x1 x2 x3 x4 x5 x6 x7 x8 x9 x10 x11 x12 x13 x14 (fun y1 y2 y3 y4 y5 y6 y7 y8 y9 y10 y11 y12=>xL Uab 10 K .ret [.bx 74 [vI y1,vH y2,vH y3,vH y4,vH y5,vB y6,.p (.clo 35 [.fb [.v (.int .i64 y7),.sh y8],.fb [.sh y9],.fb [.sh y10],.fb [.sh y11]])],vI y12]) (fun y1 y2 y3 y4 y5 y6 y7 y8 y9 y10 y11=>xL Uab 10 K (.exit 2) [.bx 74 [vI y1,vH y2,vH y3,vH y4,vH y5,vB y6,.p (.clo 35 [.fb [.v (.int .i64 y7),.sh y8],.fb [.sh y9],.fb [.sh y10],.fb [.sh y11]])],dD])
abbrev Udc (n m:Nat) (K:Kc R):Ua8.T (O R):=fun x1 x2 x3 x4 x5 x6 x7 x8 x9 x10 x11 x12 x13=>UcD n m x1 x2 x3 x4 x5 x6 x7 x8 x9 x10 x11 x12 x13 (fun y1 y2 y3 y4 y5 y6 y7 y8 y9 y10 y11=>xL Uab 10 K .ret [.bx 74 [vI y1,vH y2,vH y3,vH y4,vH y5,vB y6,.p (.clo 59 [.fb [.sh y7],.fb [.v (.int .i64 y8),.sh y9],.fb [.sh y10]])],vI y11]) (fun y1 y2 y3 y4 y5 y6 y7 y8 y9 y10=>xL Uab 10 K (.exit 2) [.bx 74 [vI y1,vH y2,vH y3,vH y4,vH y5,vB y6,.p (.clo 59 [.fb [.sh y7],.fb [.v (.int .i64 y8),.sh y9],.fb [.sh y10]])],dD])
abbrev UmS (n:Nat) (K:Kc R) (l0:Ua8.T (O R)):Ua8.T (O R):=fun x1 x2 x3 x4 x5 x6 x7 x8 x9 x10 x11 x12 x13=>Ud3 n l0 x1 x2 x3 x4 x5 x6 x7 x8 x9 x10 x11 x12 x13 (fun y1 y2 y3 y4 y5 y6 y7 y8 y9 y10 y11=>xL Uab 10 K .ret [.bx 74 [vI y1,vH y2,vH y3,vH y4,vH y5,vB y6,.p (.clo 59 [.fb [.sh y7],.fb [.v (.int .i64 y8),.sh y9],.fb [.sh y10]])],vI y11]) (fun y1 y2 y3 y4 y5 y6 y7 y8 y9 y10=>xL Uab 10 K (.exit 2) [.bx 74 [vI y1,vH y2,vH y3,vH y4,vH y5,vB y6,.p (.clo 59 [.fb [.sh y7],.fb [.v (.int .i64 y8),.sh y9],.fb [.sh y10]])],dD])
abbrev UdS (n:Nat):Orc R:=fun i vs K=>JfK (Nat.beq i 10) (Jjg (Ua6.ap vs (Uda n n K)) (Jjg (Ua7.ap vs (Udb n n K)) (Jjg (Ua8.ap vs (Udc n n K)) (JcB Uab 10 (E32 n Uco) n vs K)))) ((fun i vs K=>JfK (Nat.beq i 4) (Jjg (UbS.ap vs (UeO n n K)) (Jjg (UbT.ap vs (UeP n n K)) (Jjg (UbU.ap vs (UeQ n n K)) (JcB Uab 4 (E32 n UdX) n vs K)))) (oN i vs K)) i vs K)
abbrev UdR (n:Nat):Orc R:=fun i vs K=>JfK (Nat.beq i 23) (Jjg (UfO.ap vs (Uis n K)) (Jjg (UfP.ap vs (Uit n K)) (Jjg (UfQ.ap vs (Uiu n K)) (Jki Uab 23 (E32 n Ugw) vs K)))) ((fun i vs K=>JfK (Nat.beq i 17) (Jjg (UfL.ap vs (Uip n K)) (Jjg (UfM.ap vs (Uiq n K)) (Jjg (UfN.ap vs (Uir n K)) (Jki Uab 17 (E32 n Ugv) vs K)))) ((fun i vs K=>JfK (Nat.beq i 3) (Jjg (Uhh.ap vs (Ull n K)) (Jjg (Uhi.ap vs (Ulm n K)) (Jjg (Uhj.ap vs (Uln n K)) (Jki Uab 3 (E32 n UjO) vs K)))) (oN i vs K)) i vs K)) i vs K)
abbrev K32 (R:Type) (n:Nat):=JcH (R:=R) Tryz.prog (UeI n) Uab n (97,[]) (UdS n) (UdR n)
theorem Ug4 (n:Nat):Je6 (K32 R n) (JaJ Uab UdX):=pO pN (by kernel_rfl)
theorem Up9 (n:Nat):∀ m (K:Kc R),UbS.all (fun vs r=>JcB Uab 4 (JcU Tryz.prog (UeI n) Uab (97,[]) (UdS n) (UdR n) UdX) m vs K=r) (UeO n m K):=JiE (F:=UeO n) UbS (UpX n) (fun K _ _ _ _ _ _ _ _ _ _ _ _=>rfl) (fun _ _=>rfl) (fun L K _ _ _ _ _ _ _ _ _ _ _ _=>by show _=_; kernel_rfl)
theorem Uqa (n:Nat):∀ m (K:Kc R),UbT.all (fun vs r=>JcB Uab 4 (JcU Tryz.prog (UeI n) Uab (97,[]) (UdS n) (UdR n) UdX) m vs K=r) (UeP n m K):=JiE (F:=UeP n) UbT (UpY n) (fun K _ _ _ _ _ _ _ _ _ _ _ _ _ _=>rfl) (fun _ _=>rfl) (fun L K _ _ _ _ _ _ _ _ _ _ _ _ _ _=>by show _=_; kernel_rfl)
theorem Uqb (n:Nat):∀ m (K:Kc R),UbU.all (fun vs r=>JcB Uab 4 (JcU Tryz.prog (UeI n) Uab (97,[]) (UdS n) (UdR n) UdX) m vs K=r) (UeQ n m K):=JiE (F:=UeQ n) UbU (UpZ n) (fun K _ _ _ _ _ _ _ _ _ _ _ _ _=>rfl) (fun _ _=>rfl) (fun L K _ _ _ _ _ _ _ _ _ _ _ _ _=>by show _=_; kernel_rfl)
theorem Uui (n:Nat):K32 R n (false,4,UdX):=JkF (lo:=UdS n) (cu:=UdR n) (Ug4 n) UbS (UeO n n) (Up9 n n) (JkF (lo:=UdS n) (cu:=UdR n) (Ug4 n) UbT (UeP n n) (Uqa n n) (JkF (lo:=UdS n) (cu:=UdR n) (Ug4 n) UbU (UeQ n n) (Uqb n n) fun _ _=>rfl))
theorem Ufu (n:Nat):Je6 (K32 R n) (JaJ Uab Uco):=pO pN (by kernel_rfl)
theorem Um4 (n:Nat):∀ m (K:Kc R),Ua6.all (fun vs r=>JcB Uab 10 (JcU Tryz.prog (UeI n) Uab (97,[]) (UdS n) (UdR n) Uco) m vs K=r) (Uda n m K):=JiE (F:=Uda n) Ua6 (UmQ n) (fun K _ _ _ _ _ _ _ _ _ _ _ _=>rfl) (fun _ _=>rfl) (fun L K _ _ _ _ _ _ _ _ _ _ _ _=>by show _=_; kernel_rfl)
theorem Um5 (n:Nat):∀ m (K:Kc R),Ua7.all (fun vs r=>JcB Uab 10 (JcU Tryz.prog (UeI n) Uab (97,[]) (UdS n) (UdR n) Uco) m vs K=r) (Udb n m K):=JiE (F:=Udb n) Ua7 (UmR n) (fun K _ _ _ _ _ _ _ _ _ _ _ _ _ _=>rfl) (fun _ _=>rfl) (fun L K _ _ _ _ _ _ _ _ _ _ _ _ _ _=>by show _=_; kernel_rfl)
theorem Um6 (n:Nat):∀ m (K:Kc R),Ua8.all (fun vs r=>JcB Uab 10 (JcU Tryz.prog (UeI n) Uab (97,[]) (UdS n) (UdR n) Uco) m vs K=r) (Udc n m K):=JiE (F:=Udc n) Ua8 (UmS n) (fun K _ _ _ _ _ _ _ _ _ _ _ _ _=>rfl) (fun _ _=>rfl) (fun L K _ _ _ _ _ _ _ _ _ _ _ _ _=>by show _=_; kernel_rfl)
theorem Urp (n:Nat):K32 R n (false,10,Uco):=JkF (lo:=UdS n) (cu:=UdR n) (Ufu n) Ua6 (Uda n n) (Um4 n n) (JkF (lo:=UdS n) (cu:=UdR n) (Ufu n) Ua7 (Udb n n) (Um5 n n) (JkF (lo:=UdS n) (cu:=UdR n) (Ufu n) Ua8 (Udc n n) (Um6 n n) fun _ _=>rfl))
theorem Uft (n:Nat):Je6 (K32 R n) (JaJ Uab Ugw):=pO pN (by kernel_rfl)
theorem Uro (n:Nat):K32 R n (true,23,Ugw):=JkW (lo:=UdS n) (cu:=UdR n) (Uft n) UfO (Uis n) (fun K _ _ _ _ _ _ _ _ _=>by show _=_; kernel_rfl) (JkW (lo:=UdS n) (cu:=UdR n) (Uft n) UfP (Uit n) (fun K _ _ _ _ _ _ _ _ _ _ _=>by show _=_; kernel_rfl) (JkW (lo:=UdS n) (cu:=UdR n) (Uft n) UfQ (Uiu n) (fun K _ _ _ _ _ _ _ _ _ _=>by show _=_; kernel_rfl) fun _ _=>rfl))
theorem Ufs (n:Nat):Je6 (K32 R n) (JaJ Uab Ugv):=pO (pC (Uro n) pN) (by kernel_rfl)
theorem Urn (n:Nat):K32 R n (true,17,Ugv):=JkW (lo:=UdS n) (cu:=UdR n) (Ufs n) UfL (Uip n) (fun K _ _ _ _ _ _ _ _ _=>by show _=_; kernel_rfl) (JkW (lo:=UdS n) (cu:=UdR n) (Ufs n) UfM (Uiq n) (fun K _ _ _ _ _ _ _ _ _ _ _=>by show _=_; kernel_rfl) (JkW (lo:=UdS n) (cu:=UdR n) (Ufs n) UfN (Uir n) (fun K _ _ _ _ _ _ _ _ _ _=>by show _=_; kernel_rfl) fun _ _=>rfl))
theorem Ug3 (n:Nat):Je6 (K32 R n) (JaJ Uab UjO):=pO (pC (Uui n) (pC (Urp n) (pC (Urn n) pN))) (by kernel_rfl)
theorem Uuh (n:Nat):K32 R n (true,3,UjO):=JkW (lo:=UdS n) (cu:=UdR n) (Ug3 n) Uhh (Ull n) (fun K _ _ _ _ _ _ _ _ _=>by show _=_; kernel_rfl) (JkW (lo:=UdS n) (cu:=UdR n) (Ug3 n) Uhi (Ulm n) (fun K _ _ _ _ _ _ _ _ _ _ _=>by show _=_; kernel_rfl) (JkW (lo:=UdS n) (cu:=UdR n) (Ug3 n) Uhj (Uln n) (fun K _ _ _ _ _ _ _ _ _ _=>by show _=_; kernel_rfl) fun _ _=>rfl))
theorem UwU (n:Nat):Je6 (K32 R n) (JaJ Uab (Jll Tryz.f32)):=pO (pC (Uuh n) pN) (by kernel_rfl)
abbrev Uxd:Sl (List SV):=(.c (sP (JlI (.c (Jlv .i64) (.c sSh (.c sSh (.c sSh (.c sSh (.c Jlf (.c (JlJ 29 (.c (sFb (.c (Jlv .i64) (.c sSh .n))) (.c (sFb (.c sSh .n)) .n))) .n))))))))) .n)
abbrev UxL (n:Nat) (K:List SV→O R):Uxd.T (O R):=fun x1 x2 x3 x4 x5 x6 x7 x8 x9=>p32 n x1 x2 x3 x4 x5 x6 x7 x8 x9 (fun y1=>K [vI y1])
abbrev Uxe:Sl (List SV):=(.c (sP (JlI (.c (Jlv .i64) (.c sSh (.c sSh (.c sSh (.c sSh (.c Jlf (.c (JlJ 35 (.c (sFb (.c (Jlv .i64) (.c sSh .n))) (.c (sFb (.c sSh .n)) (.c (sFb (.c sSh .n)) (.c (sFb (.c sSh .n)) .n))))) .n))))))))) .n)
abbrev UxM (n:Nat) (K:List SV→O R):Uxe.T (O R):=fun x1 x2 x3 x4 x5 x6 x7 x8 x9 x10 x11=>Ut2 n x1 x2 x3 x4 x5 x6 x7 x8 x9 x10 x11 (fun y1=>K [vI y1])
abbrev Uxf:Sl (List SV):=(.c (sP (JlI (.c (Jlv .i64) (.c sSh (.c sSh (.c sSh (.c sSh (.c Jlf (.c (JlJ 59 (.c (sFb (.c sSh .n)) (.c (sFb (.c (Jlv .i64) (.c sSh .n))) (.c (sFb (.c sSh .n)) .n)))) .n))))))))) .n)
abbrev UxN (n:Nat) (K:List SV→O R):Uxf.T (O R):=fun x1 x2 x3 x4 x5 x6 x7 x8 x9 x10=>Ut3 n x1 x2 x3 x4 x5 x6 x7 x8 x9 x10 (fun y1=>K [vI y1])
abbrev Uu3 (n:Nat):FS:={ om:=[false],run:=fun args K=>Jjg (Uxd.ap args (UxL n K)) (Jjg (Uxe.ap args (UxM n K)) (Jjg (Uxf.ap args (UxN n K)) none)) }
theorem Uwq (n:Nat):FSound Tryz.prog GI 32 (Uu3 n):=gd Uab n (UeJ n) Tryz.func32 (.cons (UeJ n) Uxd (UxL n) (fun K _ _ _ _ _ _ _ _ _=>(Jkq (c:=Jll Tryz.f32) (by kernel_rfl) (UwU n) K).trans (by kernel_rfl)) (.cons (UeJ n) Uxe (UxM n) (fun K _ _ _ _ _ _ _ _ _ _ _=>(Jkq (c:=Jll Tryz.f32) (by kernel_rfl) (UwU n) K).trans (by kernel_rfl)) (.cons (UeJ n) Uxf (UxN n) (fun K _ _ _ _ _ _ _ _ _ _=>(Jkq (c:=Jll Tryz.f32) (by kernel_rfl) (UwU n) K).trans (by kernel_rfl)) .nil))) (by kernel_rfl)
def Upi:Ann:={ loops:=[],cuts:=[],frz:=[],rm:=[.id] }
abbrev UsH (n:Nat):Env:=eC 32 (Uu3 n) eN
theorem Ukk (n:Nat):EnvOK Tryz.prog GI (UsH n):=.cons (.nil) (Uwq n)
def p12 (n:Nat) (x1:Int) (x2 x3:LP) (k0:Int→O R):O R :=
 p32 n x1 x2 [] [] x3 true x1 x2 x3 (fun y4=>k0 y4)
abbrev UzF (n:Nat):Orc R:=oN
abbrev Uza (n:Nat):Orc R:=oN
abbrev K12 (R:Type) (n:Nat):=JcH (R:=R) Tryz.prog (UsH n) Upi n (10,[]) (UzF n) (Uza n)
theorem UAB (n:Nat):Je6 (K12 R n) (JaJ Upi (Jll Tryz.f12)):=pO pN (by kernel_rfl)
abbrev t12:Sl (List SV):=(.c (sP (JlI (.c (Jlv .i64) (.c sSh .n)))) (cH .n))
abbrev f12 (n:Nat) (K:List SV→O R):t12.T (O R):=fun x1 x2 x3=>p12 n x1 x2 x3 (fun y1=>K [vI y1])
abbrev UvB (n:Nat):FS:=fT [false,false] t12 (f12 n)
theorem UyA (n:Nat):FSound Tryz.prog GI 12 (UvB n):=gd Upi n (Ukk n) Tryz.func12 (.cons (Ukk n) t12 (f12 n) (fun K _ _ _=>(Jkq (c:=Jll Tryz.f12) (by kernel_rfl) (UAB n) K).trans (by kernel_rfl)) .nil) (by kernel_rfl)
end
end Go.Proofs.YtmgfmlhdnadglaaGreatDoor
set_option linter.unusedVariables false
set_option linter.unusedSimpArgs false
namespace Go.Proofs.YtmgfmlhdnadglaaGreatDoor
open Go Th Go.Proofs
variable {R:Type}
theorem Ucp {p:Rat}:UdU p 0<0↔p<0:=by
 rcases tri p 0 with h | h | h
 · rw [UjZ h]; exact ⟨fun _=>h,fun _=>by decide⟩
 · rw [h,UfW]; exact ⟨fun q=>absurd q (by decide),fun q=>absurd q (by decide)⟩
 · rw [UjY h]; exact ⟨fun q=>absurd q (by decide),fun q=>absurd (Rat.le_of_lt h) (Rat.not_le.2 q)⟩
theorem Ugx {p:Rat}:UdU p 0>0↔0<p:=by
 rcases tri p 0 with h | h | h
 · rw [UjZ h]; exact ⟨fun q=>absurd q (by decide),fun q=>absurd (Rat.le_of_lt h) (Rat.not_le.2 q)⟩
 · rw [h,UfW]; exact ⟨fun q=>absurd q (by decide),fun q=>absurd q (by decide)⟩
 · rw [UjY h]; exact ⟨fun _=>h,fun _=>by decide⟩
theorem Usv (n:Nat) (hn:10 ^ 1000≤n) (p:Rat) (hp:fits p) (k0:Int→Option R):p19 n (bs (Uaf p)) (bs [48]) k0=k0 (UdU p 0):=by
 rw [←Uja]; exact Upc n hn p 0 hp UqH k0
structure okRM (cols:Int) (rows:List RowT) (mult:List (List UInt8)):Prop where
 hc:cols≤2048
 few:rows.length≤2048
 len:mult.length=rows.length
 hr:∀ r∈rows,okR cols r=true
 hm:∀ m∈mult,qb m=true
noncomputable def zsR (rows:List RowT) (mult:List (List UInt8)):List (SpR × Rat):=(rows.zip mult).map fun x=>(spR x.1,rq x.2)
theorem Udf {a b:Int} (h:a≤b) {r:SpR} (hr:okF a r):okF b r:=⟨⟨hr.1.1,Unh h hr.1.2⟩,hr.2⟩
theorem UuS {cols:Int} {rows:List RowT} {mult:List (List UInt8)} (h:okRM cols rows mult):∀ y∈zsR rows mult,okF cols y.1:=by
 intro y hy
 obtain ⟨x,hx,rfl⟩:=List.mem_map.1 hy
 exact (Ud1 (h.hr _ (List.of_mem_zip hx).1)).1
theorem Uhs:∀ {cols:Int},okF cols ([],0):=fun {cols}=>⟨⟨trivial,fun t ht=>(by cases ht)⟩,UqH⟩
theorem Uf4 {α β σ:Type} (f:α→β) (step:σ→β→Option σ):∀ (l:List α) (s:σ),UaR (fun s a=>step s (f a)) s l=UaR step s (l.map f)
 | [],s=>rfl
 | a::l,s=>by
  rw [List.map_cons,UaR,UaR]
  congr 1
  funext s'
  exact Uf4 f step l s'
theorem UdZ:∀ (l:List (SpR × Rat)) (s:SpR),UaY l s=UaR (fun s x=>UdW x.2 x.1 s) s l
 | [],s=>rfl
 | x::l,s=>by
  rw [UaY,UaR]
  congr 1
  funext s'
  exact UdZ l s'
theorem UrF {cols:Int} {q:Rat} {r s x:SpR} (hr:okF cols r) (hs:okF cols s) (he:UdW q r s=some x):okF cols x:=by
 unfold UdW at he
 by_cases h0:q=0
 · rw [if_pos h0,Option.some.injEq] at he; rwa [←he]
 · rw [if_neg h0] at he
   obtain ⟨w,f1,f2⟩:=Option.bind_eq_some_iff.1 he
   exact (Uq0 hs (UnK h0 hr f1).1 f2).1
theorem Ui0 (n:Nat) (hn:10 ^ 1000≤n) (cols:Int) (rows:List RowT) (mult:List (List UInt8)) (h:okRM cols rows mult) (k0:List PV→ByteArray→Int→Option R) :
 p30 n cols (rws rows) (sl mult) k0=UmH k0 (UaY (zsR rows mult) ([],0)):=by
 have hN:=UaX (Ub9 hn)
 have hlen:(rows.zip mult).length=rows.length:=by rw [List.length_zip,h.len]; omega
 have hf:=h.few
 have hl:=h.len
 unfold p30 UoV
 have H:=Udu (R:=R) (l:=rows.zip mult) (step:=fun s x=>UdW (rq x.2) (spR x.1) s) (kerr:=k0 [] (bs []) 5) (kend:=fun s=>k0 (tms (vt s.1)) (bs (Uaf s.2)) 0) (Inv:=fun i s=>okF 2048 s)
  (fun m s i=>UcA n m (sl mult) cols (rws rows) ByteArray.empty (tms (vt s.1)) (bs (Uaf s.2)) ((rws rows).length:Int) (i:Int) (fun y4 y5 y6 y7 y8=>k0 y4 y5 y6) (fun y9 y10 y11=>k0 y10 y11 0))
  (fun m s hs=>by
    simp only [UcA,Uf]
    rw [hlen]
    simp (disch:=(first | omega | (simp only [JlE]; omega))) only [↓JlH,JlF,Uad])
  (fun s s' i hi hs he=>by
    have hr:=h.hr _ (List.of_mem_zip (List.getElem_mem hi)).1
    exact UrF (Udf h.hc (Ud1 hr).1) hs he)
  (fun m s i hi hs=>by
    have hi1:i<rows.length:=by omega
    have hi2:i<mult.length:=by omega
    have e0:(rows.zip mult)[i]=(rows[i],mult[i]):=List.getElem_zip
    rw [e0]
    have hr:=h.hr rows[i] (List.getElem_mem hi1)
    have hq:=h.hm mult[i] (List.getElem_mem hi2)
    obtain ⟨o1,o2,o3⟩:=Ud1 hr
    obtain ⟨m1,m2⟩:=UrD hq
    have o1':=Udf h.hc o1
    simp only [UcA,Uf]
    show _=Uu1 _ _ (UdW (rq mult[i]) (spR rows[i]) s)
    unfold UdW
    by_cases h0:rq mult[i]=0
    · have e3:(mult[i] == [48])=true:=UmT (by rw [m2,h0,Uja])
      rw [if_pos h0]
      simp (disch:=(first | omega | (simp only [JlE]; omega))) only [↓JlH,JlF,Uad,Uaj,Jji,UbR hi2,i1,e3]
      rfl
    · have e3:(mult[i] == [48])=false:=Ujs (by rw [m2]; exact fun q=>h0 (Ud8.1 q))
      have g1:∀ k:List PV→ByteArray→Int→Option R,p74 n (tms (rows[i]).tm) (bs (rows[i]).c) (bs mult[i]) k=UmH k (tmO (rq mult[i]) (spR rows[i])):=fun k=>by
       rw [o2,o3,m2]
       have:=UlI (R:=R) n hn o1' m1 h0 k
       rw [←m2,←o2,←o3] at this ⊢
       exact this
      rw [if_neg h0]
      simp (disch:=(first | omega | (simp only [JlE]; omega))) only [↓JlH,JlF,Uad,Uaj,Jji,UbR hi2,UaD hi1,i1,e3,g1]
      cases h1:tmO (rq mult[i]) (spR rows[i]) with
      | none=>rfl
      | some x =>
       have hx:=(UnK h0 o1' h1).1
       have g2:∀ k:List PV→ByteArray→Int→Option R,p75 n (tms (vt s.1)) (bs (Uaf s.2)) (tms (vt x.1)) (bs (Uaf x.2)) k=UmH k (plO s x):=fun k=>UqE n hn hs hx k
       simp only [UmH,Ugn,Uak,g2,Option.bind_some]
       cases plO s x <;> rfl) rows.length n 0 ([],0) (by omega) (by omega) Uhs
 rw [List.drop_zero,Uf4 (fun x:RowT × List UInt8=>(spR x.1,rq x.2)) (fun s x=>UdW x.2 x.1 s),←UdZ] at H
 have e48:(⟨#[48]⟩:ByteArray)=bs (Uaf 0):=by rw [Uja]; rfl
 rw [e48]
 refine Eq.trans H ?_
 unfold zsR
 cases UaY ((rows.zip mult).map fun x=>(spR x.1,rq x.2)) ([],0) <;> rfl
noncomputable def Ur6 (x:RowT × List UInt8):Bool:=x.1.eq||!decide (rq x.2<0)
noncomputable def adm (rows:List RowT) (mult:List (List UInt8)):Bool:=(rows.zip mult).all Ur6
theorem Ueu (n:Nat) (hn:10 ^ 1000≤n) (cols:Int) (rows:List RowT) (mult:List (List UInt8)) (h:okRM cols rows mult) (k0:Bool→Option R) :
 p31 n cols (rws rows) (sl mult) k0=k0 (adm rows mult):=by
 have hN:=UaX (Ub9 hn)
 have hlen:(rows.zip mult).length=rows.length:=by rw [List.length_zip,h.len]; omega
 have hf:=h.few
 have hl:=h.len
 unfold p31 UoW
 have H:=Ual (R:=R) (l:=rows.zip mult) (ok:=Ur6) (kbad:=k0 false) (kend:=k0 true)
  (fun m i=>UcB n m (sl mult) cols (rws rows) ((rws rows).length:Int) (i:Int) (fun y4=>k0 y4) (k0 true))
  (fun m=>by
    simp only [UcB,Ufa]
    rw [hlen]
    simp (disch:=(first | omega | (simp only [JlE]; omega))) only [↓JlH,JlF,Uad])
  (fun m i hi=>by
    have hi1:i<rows.length:=by omega
    have hi2:i<mult.length:=by omega
    have e0:(rows.zip mult)[i]=(rows[i],mult[i]):=List.getElem_zip
    rw [e0]
    obtain ⟨m1,m2⟩:=UrD (h.hm mult[i] (List.getElem_mem hi2))
    have g1:∀ k:Int→Option R,p19 n (bs mult[i]) (bs [48]) k=k (UdU (rq mult[i]) 0):=fun k=>by
     have:=Usv (R:=R) n hn (rq mult[i]) m1 k
     rw [←m2] at this
     exact this
    simp only [UcB,Ufa,Ur6]
    rcases Bool.eq_false_or_eq_true (rows[i]).eq with he | he
    · simp (disch:=(first | omega | (simp only [JlE]; omega))) only [↓JlH,JlF,Uad,Uaj,Jji,UbR hi2,UaD hi1,i1,he]
      simp [he]
    · by_cases h0:rq mult[i]<0
      · have h0':=Ucp.2 h0
        simp (disch:=(first | omega | (simp only [JlE]; omega))) only [↓JlH,JlF,Uad,Uaj,Jji,UbR hi2,UaD hi1,i1,he,g1]
        simp [h0]
      · have h0':¬ UdU (rq mult[i]) 0<0:=fun q=>h0 (Ucp.1 q)
        simp (disch:=(first | omega | (simp only [JlE]; omega))) only [↓JlH,JlF,Uad,Uaj,Jji,UbR hi2,UaD hi1,i1,he,g1]
        simp [h0]) rows.length n 0 (by omega) (by omega)
 rw [List.drop_zero] at H
 refine Eq.trans H ?_
 unfold adm
 cases (rows.zip mult).all Ur6 <;> rfl
noncomputable def Uf1 (rows:List RowT) (mult:List (List UInt8)) (x:SpR):Bool:=(x.1.all fun t=>decide (t.2≤0))&&(adm rows mult&&decide (x.2<0))
noncomputable def UqG (rows:List RowT) (mult:List (List UInt8)):Option SpR→Int
 | none=>5
 | some x=>if Uf1 rows mult x=true then 0 else 16
theorem Unn (n:Nat) (hn:10 ^ 1000≤n) (cols:Int) (rows:List RowT) (mult:List (List UInt8)) (h:okRM cols rows mult) (k0:Bool→Int→Option R) :
 p29 n cols (rws rows) (sl mult) k0=match UaY (zsR rows mult) ([],0) with
  | none=>k0 false 5
  | some x=>k0 (Uf1 rows mult x) 0:=by
 have hN:=UaX (Ub9 hn)
 unfold p29
 rw [Ui0 n hn cols rows mult h]
 cases hx:UaY (zsR rows mult) ([],0) with
 | none=>rfl
 | some x =>
  have ox:okF 2048 x:=Up8 (fun y hy=>Udf h.hc (UuS h y hy)) Uhs hx
  have hL:=Ua0 ox.1
  have g0:=fun k=>Ueu (R:=R) n hn cols rows mult h k
  have g1:=fun k=>Usv (R:=R) n hn x.2 ox.2 k
  simp only [UmH,Ugn,Uak]
  have H:=Ual (R:=R) (l:=x.1) (ok:=fun t=>decide (t.2≤0)) (kbad:=k0 false 0) (kend:=k0 (adm rows mult&&decide (x.2<0)) 0)
   (fun m i=>Ucz n m cols (rws rows) (sl mult) (tms (vt x.1)) (bs (Uaf x.2)) (tms (vt x.1)) ((tms (vt x.1)).length:Int) (i:Int) (fun y7 y8 y9 y10 y11 y12 y13=>k0 y10 y11)
     (fun y14 y15 y16 y17 y18=>p31 n y14 y15 y16 (fun y19=>bif y19 then (p19 n y18 ⟨#[48]⟩ (fun y20=>k0 (bif true then (decide (y20<0)) else false) 0)) else (k0 false 0))))
   (fun m=>by
     simp only [Ucz,Ue9]
     simp (disch:=(first | omega | (simp only [JlE]; omega))) only [↓JlH,JlF,Ua,Uan,g0]
     cases adm rows mult with
     | false=>rfl
     | true =>
      simp (disch:=(first | omega | (simp only [JlE]; omega))) only [↓JlH,JlF,g1]
      by_cases h0:x.2<0
      · have h0':=Ucp.2 h0
        simp [h0,h0']
      · have h0':¬ UdU x.2 0<0:=fun q=>h0 (Ucp.1 q)
        simp [h0,h0'])
   (fun m i hi=>by
     have g2:=fun k=>Usv (R:=R) n hn (x.1[i]).2 (ox.1.2 _ (List.getElem_mem hi)).2.1 k
     simp only [Ucz,Ue9]
     by_cases h0:0<(x.1[i]).2
     · have h0':=Ugx.2 h0
       have h1:¬ (x.1[i]).2≤0:=Rat.not_le.2 h0
       simp (disch:=(first | omega | (simp only [JlE]; omega))) only [↓JlH,JlF,Ua,Uan,Jji,Uay hi,i1,g2]
       simp [h1]
     · have h0':¬ UdU (x.1[i]).2 0>0:=fun q=>h0 (Ugx.1 q)
       have h1:(x.1[i]).2≤0:=Rat.not_lt.1 h0
       simp (disch:=(first | omega | (simp only [JlE]; omega))) only [↓JlH,JlF,Ua,Uan,Jji,Uay hi,i1,g2] <;> simp [h1]) x.1.length n 0 (by omega) (by omega)
  rw [List.drop_zero] at H
  unfold UoU
  refine Eq.trans H ?_
  unfold Uf1
  cases (x.1.all fun t=>decide (t.2≤0)) <;> rfl
noncomputable def UgQ (cols:Int) (rows:List RowT) (mult:List (List UInt8)):Int :=
 if Ugp cols rows≠0 then 3 else if Ugr mult=false then 3 else if mult.length≠rows.length then 6 else UqG rows mult (UaY (zsR rows mult) ([],0))
theorem Ug7 {cols:Int} {rows:List RowT} (h:Ugp cols rows=0):0≤cols∧cols≤2048∧rows.length≤2048∧∀ r∈rows,okR cols r=true:=by
 unfold Ugp at h
 by_cases h1:cols<0
 · rw [if_pos h1] at h; cases h
 rw [if_neg h1] at h
 by_cases h2:cols>2048
 · rw [if_pos h2] at h; cases h
 rw [if_neg h2] at h
 by_cases h3:rows.length>2048
 · rw [if_pos h3] at h; cases h
 rw [if_neg h3] at h
 cases h4:rows.all (okR cols) with
 | false=>rw [h4] at h; cases h
 | true=>exact ⟨by omega,by omega,by omega,fun r hr=>List.all_eq_true.1 h4 r hr⟩
theorem UlQ {cols:Int} {rows:List RowT} {mult:List (List UInt8)} (h:Ugp cols rows=0) (hm:Ugr mult=true) (hl:mult.length=rows.length):okRM cols rows mult:=by
 obtain ⟨a,b,c,d⟩:=Ug7 h
 exact ⟨b,c,hl,d,fun m hm'=>List.all_eq_true.1 hm m hm'⟩
theorem UlH (n:Nat) (hn:10 ^ 1000≤n) (cols:Int) (rows:List RowT) (mult:List (List UInt8)) (hr:smA rows) (hm:smS mult) (k0:Int→Option R) :
 p12 n cols (rws rows) (sl mult) k0=k0 (UgQ cols rows mult):=by
 have hN:=UaX (Ub9 hn)
 unfold p12 p32 UgQ
 rw [Up n (Ub9 hn) cols rows hr]
 by_cases h1:Ugp cols rows=0
 · obtain ⟨a,b,c,d⟩:=Ug7 h1
   have e1:(Ugp cols rows != 0)=false:=by rw [h1]; rfl
   have g1:∀ k:Bool→Option R,p76 n cols [] k=k true:=fun k=>by
    have:=UmY (R:=R) n (Ub9 hn) cols b [] ⟨by simp,by simp⟩ k
    exact this
   rw [e1,if_neg (by simp [h1])]
   simp only [Uak,g1,Bool.not_true,Ui6 n (Ub9 hn) mult hm]
   cases h2:Ugr mult with
   | false=>rfl
   | true =>
    rw [if_neg (by decide)]
    unfold Ul7 UoX Ul8
    obtain ⟨m,rfl⟩:∃ m,n=m + 1:=⟨n - 1,by omega⟩
    simp only [Ufe,UgX,Udp,Ufd]
    by_cases h3:mult.length=rows.length
    · have e3:((mult.length:Int) != (rows.length:Int))=false:=by simp [h3]
      simp (disch:=(first | omega | (simp only [JlE]; omega))) only [↓JlH,JlF,Uaj,Uad,e3,Ufb,Ufc,Unn (m + 1) hn cols rows mult (UlQ h1 h2 h3)]
      cases UaY (zsR rows mult) ([],0) with
      | none=>rfl
      | some x =>
       simp only [UqG]
       cases Uf1 rows mult x <;> rfl
    · have e3:((mult.length:Int) != (rows.length:Int))=true:=by simp; omega
      simp (disch:=(first | omega | (simp only [JlE]; omega))) only [↓JlH,JlF,Uaj,Uad,e3]
 · have e1:(Ugp cols rows != 0)=true:=by simp [h1]
   rw [e1,if_pos h1]; rfl
end Go.Proofs.YtmgfmlhdnadglaaGreatDoor
set_option linter.unusedVariables false
set_option maxRecDepth 100000
namespace Go.Proofs.YtmgfmlhdnadglaaGreatDoor
open Go Th Go.Proofs
noncomputable section
variable {R:Type}
abbrev t72:Sl (List SV):=(.c (sP (JlI (.c Jlf (.c sSh (.c Jlf (.c sSh .n)))))) .n)
end
end Go.Proofs.YtmgfmlhdnadglaaGreatDoor
set_option linter.unusedVariables false
set_option linter.unusedSimpArgs false
namespace Go.Proofs.YtmgfmlhdnadglaaGreatDoor
open Go Th Go.Proofs
variable {R:Type}
section
variable (n:Nat) (hn:10 ^ 1000≤n) (p q:Rat) (hp:fits p) (hq:fits q)
include hp hq
include hn
end
end Go.Proofs.YtmgfmlhdnadglaaGreatDoor
set_option linter.unusedVariables false
set_option maxRecDepth 100000
namespace Go.Proofs.YtmgfmlhdnadglaaGreatDoor
open Go Th Go.Proofs
noncomputable section
variable {R:Type}
abbrev t25:Sl (List SV):=(.c (sP (JlI (.c sSh (.c Jlf (.c sSh (.c Jlf (.c sSh .n))))))) .n)
abbrev t46:Sl (List SV):=(cS (cH .n))
abbrev t70:Sl (List SV):=(.c (sP (JlI (.c sSh (.c Jlf (.c sSh (.c Jlf (.c sSh .n))))))) (.c (sP (JlI (.c sSh (.c Jlf (.c sSh (.c Jlf (.c sSh .n))))))) .n))
abbrev t24:Sl (List SV):=(.c (sP (JlI (.c (Jlv .i64) (.c sSh .n)))) (cH .n))
abbrev t34:Sl (List SV):=(.c (sP (JlI (.c Jlf (.c sSh (.c Jlf (.c sSh .n)))))) .n)
end
end Go.Proofs.YtmgfmlhdnadglaaGreatDoor
set_option linter.unusedVariables false
set_option linter.unusedSimpArgs false
namespace Go.Proofs.YtmgfmlhdnadglaaGreatDoor
open Go Th Go.Proofs
variable {R:Type}
theorem UiR {N:Nat} {σ:Type} {Inv:Nat→σ→Prop} (L:Nat→σ→Nat→Option R) {r:Option R} (hend:∀ m s,Inv N s→L (m + 1) s N=r)
 (hstep:∀ m s i,i<N→Inv i s→L (m + 1) s i=r∨∃ s',Inv (i + 1) s'∧L (m + 1) s i=L m s' (i + 1)):∀ (d m i:Nat) (s:σ),d + i=N→d<m→Inv i s→L m s i=r
 | 0,m + 1,i,s,hd,hm,hs=>by
  have:i=N:=by omega
  subst this
  exact hend m s hs
 | d + 1,m + 1,i,s,hd,hm,hs=>by
  rcases hstep m s i (by omega) hs with h | ⟨s',h1,h2⟩
  · exact h
  · rw [h2]; exact UiR L hend hstep d m (i + 1) s' (by omega) (by omega) h1
def hiC (s:List SpT):Nat:=s.foldl (fun c t=>max c (t.1 + 1)) 0
theorem UdE:∀ (s:List SpT) (c:Nat),c≤s.foldl (fun c t=>max c (t.1 + 1)) c∧(∀ t∈s,t.1<s.foldl (fun c t=>max c (t.1 + 1)) c)∧∀ b,c≤b→(∀ t∈s,t.1<b)→s.foldl (fun c t=>max c (t.1 + 1)) c≤b
 | [],c=>⟨Nat.le_refl _,(by intro t h; cases h),fun b h _=>h⟩
 | t::s,c=>by
  obtain ⟨h1,h2,h3⟩:=UdE s (max c (t.1 + 1))
  rw [List.foldl_cons]
  refine ⟨by omega,fun x hx=>?_,fun b hb hx=>h3 b ?_ fun y hy=>hx y (List.mem_cons_of_mem _ hy)⟩
  · rcases List.mem_cons.1 hx with rfl | hx
    · omega
    · exact h2 x hx
  · have:=hx t (List.mem_cons_self ..)
    omega
theorem UtF {s:List SpT}:∀ t∈s,t.1<hiC s:=(UdE s 0).2.1
theorem UoI {s:List SpT} {b:Nat} (h:∀ t∈s,t.1<b):hiC s≤b:=(UdE s 0).2.2 b (Nat.zero_le _) h
theorem UrE (l:List TermT):(spL l).length=l.length:=by unfold spL; rw [List.length_map]
end Go.Proofs.YtmgfmlhdnadglaaGreatDoor
set_option linter.unusedVariables false
set_option maxRecDepth 100000
namespace Go.Proofs.YtmgfmlhdnadglaaGreatDoor
open Go Th Go.Proofs
noncomputable section
variable {R:Type}
abbrev t13:Sl (List SV):=(.c (sP (JlI (.c (Jlv .i64) (.c sSh .n)))) (cH .n))
end
end Go.Proofs.YtmgfmlhdnadglaaGreatDoor
set_option linter.unusedVariables false
set_option linter.unusedSimpArgs false
namespace Go.Proofs.YtmgfmlhdnadglaaGreatDoor
open Go Th Go.Proofs
variable {R:Type}
end Go.Proofs.YtmgfmlhdnadglaaGreatDoor
set_option linter.unusedVariables false
set_option maxRecDepth 100000
namespace Go.Proofs.YtmgfmlhdnadglaaGreatDoor
open Go Th Go.Proofs
noncomputable section
variable {R:Type}
end
end Go.Proofs.YtmgfmlhdnadglaaGreatDoor
set_option linter.unusedVariables false
set_option linter.unusedSimpArgs false
namespace Go.Proofs.YtmgfmlhdnadglaaGreatDoor
open Go Th Go.Proofs
variable {R:Type}
theorem UqO (a b:List SpT):hiC (a++b)=(b.foldl (fun c t=>max c (t.1 + 1)) (hiC a)):=by unfold hiC; rw [List.foldl_append]
theorem Ujo:∀ {a:List SpT} {t:SpT} {last:Int},asc last (a++[t])→∀ x∈a,x.1<t.1
 | y::a,t,last,h,x,hx=>by
  rcases List.mem_cons.1 hx with rfl | hx
  · have:=Ugt h.2 t (List.mem_append_right _ (List.mem_singleton.2 rfl)); omega
  · exact Ujo h.2 x hx
theorem Ur8 {s:List SpT} {last:Int} (h:asc last s) (hl:0<s.length):hiC s=(s[s.length - 1]'(by omega)).1 + 1:=by
 obtain ⟨a,t,rfl⟩:∃ a t,s=a++[t]:=⟨s.dropLast,s.getLast (by intro e; rw [e] at hl; simp at hl),(List.dropLast_concat_getLast _).symm⟩
 have h1:hiC a≤t.1:=UoI fun x hx=>Ujo h x hx
 have e:(a++[t])[(a++[t]).length - 1]'(by omega)=t:=by simp
 rw [e,UqO]
 simp only [List.foldl_cons,List.foldl_nil]
 omega
theorem UqP:hiC []=0:=rfl
noncomputable def evK (k0:ByteArray→Int→Option R):Option Rat→Option R
 | none=>k0 (bs []) 5
 | some x=>k0 (bs (Uaf x)) 0
noncomputable def vq (w:List (List UInt8)):List Rat:=w.map rq
theorem UuP (w:List (List UInt8)):(vq w).length=w.length:=by unfold vq; rw [List.length_map]
theorem UuO {w:List (List UInt8)} {i:Nat} (h:i<w.length):(vq w).getD i 0=rq w[i]:=by
 unfold vq; rw [Udd rq h]
theorem Um8 (n:Nat) (hn:10 ^ 1000≤n) {r:SpR} (hr:okF 2048 r) {w:List (List UInt8)} (hw:Ugr w=true) (hc:hiC r.1≤w.length) (k0:ByteArray→Int→Option R) :
 Ua3 n (sl w) (tms (vt r.1)) (bs (Uaf r.2)) k0=evK k0 (UaR (evS (vq w)) r.2 r.1):=by
 have hN:=UaX (Ub9 hn)
 have hL:=Ua0 hr.1
 have H:=Udu (R:=R) (l:=r.1) (step:=evS (vq w)) (kerr:=k0 (bs []) 5) (kend:=fun x=>k0 (bs (Uaf x)) 0) (Inv:=fun _ x=>fits x)
  (fun m x i=>Ubx n m (sl w) (bs (Uaf x)) (tms (vt r.1)) ((tms (vt r.1)).length:Int) (i:Int) (fun y4 y5 y6=>k0 y4 y5) (fun y7=>k0 y7 0))
  (fun m x hx=>by simp only [Ubx,Udo]; simp (disch:=(first | omega | (simp only [JlE]; omega))) only [↓JlH,JlF,Ua,Uan])
  (fun x x' i hi hx he=>(Udv he).2)
  (fun m x i hi hx=>by
    have ht:=(hr.1.2 _ (List.getElem_mem hi)).2.1
    have htw:(r.1[i]).1<w.length:=Nat.lt_of_lt_of_le (UtF _ (List.getElem_mem hi)) hc
    have hq:=UrD (List.all_eq_true.1 hw _ (List.getElem_mem htw))
    have hin:inR ((r.1[i]).1:Int) w.length=true:=Jku (by omega) (by omega)
    have g1:∀ k,p21 n (bs (Uaf (r.1[i]).2)) (bs (w[(r.1[i]).1])) k=Ugo ((r.1[i]).2 * rq (w[(r.1[i]).1])) k:=fun k=>by
     have:=UnP (R:=R) n hn (r.1[i]).2 (rq (w[(r.1[i]).1])) ht hq.1 k
     rw [←hq.2] at this
     exact this
    simp only [Ubx,Udo]
    unfold evS UuW
    rw [UuO htw]
    by_cases h1:fits ((r.1[i]).2 * rq (w[(r.1[i]).1]))
    · have g1':∀ k,p21 n (bs (Uaf (r.1[i]).2)) (bs (w[(r.1[i]).1])) k=k (bs (Uaf ((r.1[i]).2 * rq (w[(r.1[i]).1])))) 0:=fun k=>by rw [g1,UbA h1]
      have g2:=fun k=>Uje (R:=R) n hn x ((r.1[i]).2 * rq (w[(r.1[i]).1])) hx h1 k
      rw [if_pos h1]
      by_cases h2:fits (x + (r.1[i]).2 * rq (w[(r.1[i]).1]))
      · have g2':∀ k,p22 n (bs (Uaf x)) (bs (Uaf ((r.1[i]).2 * rq (w[(r.1[i]).1])))) k=k (bs (Uaf (x + (r.1[i]).2 * rq (w[(r.1[i]).1])))) 0:=fun k=>by rw [g2,UbA h2]
        rw [if_pos h2]
        simp (disch:=(first | omega | (simp only [JlE]; omega))) only [↓JlH,JlF,Ua,Uan,Jji,Uay hi,Uaj,hin,UbR htw,g1',Ugn,g2',i1]
        rfl
      · have g2':∀ k,p22 n (bs (Uaf x)) (bs (Uaf ((r.1[i]).2 * rq (w[(r.1[i]).1])))) k=k (bs []) 5:=fun k=>by rw [g2]; unfold Ugo; rw [if_neg h2]
        rw [if_neg h2]
        simp (disch:=(first | omega | (simp only [JlE]; omega))) only [↓JlH,JlF,Ua,Uan,Jji,Uay hi,Uaj,hin,UbR htw,g1',Ugn,g2',UrV,i1]
        rfl
    · have g1':∀ k,p21 n (bs (Uaf (r.1[i]).2)) (bs (w[(r.1[i]).1])) k=k (bs []) 5:=fun k=>by rw [g1]; unfold Ugo; rw [if_neg h1]
      rw [if_neg h1]
      simp (disch:=(first | omega | (simp only [JlE]; omega))) only [↓JlH,JlF,Ua,Uan,Jji,Uay hi,Uaj,hin,UbR htw,g1',UrV,i1]
      rfl) r.1.length n 0 r.2 (by omega) (by omega) hr.2
 rw [List.drop_zero] at H
 unfold Ua3 Ul5
 refine Eq.trans H ?_
 cases UaR (evS (vq w)) r.2 r.1 <;> rfl
noncomputable def evA (l:List TermT) (c:List UInt8) (w:List (List UInt8)) (k0:ByteArray→Int→Option R):Option R :=
 if Ujd l c≠0 then k0 (bs []) 3 else if Ugr w=false then k0 (bs []) 3 else if w.length<hiC (spL l) then k0 (bs []) 2 else evK k0 (UaR (evS (vq w)) (rq c) (spL l))
theorem UqC (n:Nat) (hn:10 ^ 1000≤n) (l:List TermT) (c:List UInt8) (w:List (List UInt8)) (hl:smT l) (hc:c.length<2 ^ 17) (hw:smS w) (k0:ByteArray→Int→Option R) :
 p18 n (tms l) (bs c) (sl w) k0=evA l c w k0:=by
 have hN:=UaX (Ub9 hn)
 have hL:=hw.1
 unfold p18 evA
 rw [UeF n (Ub9 hn) l c hl hc]
 by_cases h0:Ujd l c=0
 · have e0:(Ujd l c != 0)=false:=by rw [h0]; rfl
   rw [e0,Uak,if_neg (by simp [h0])]
   obtain ⟨o1,o2⟩:=UiC.1 h0
   obtain ⟨s1,s2⟩:=UoO o1
   have c1:=UrD o2
   have hr:okF 2048 (spL l,rq c):=⟨s1,c1.1⟩
   have h:=Ual (R:=R) (l:=w) (ok:=qb) (kbad:=k0 (bs []) 3) (kend:=(fun y10 y11 y12=>bif (decide (((y11).length:Int)>0)) then (let v13:=IntKind.i64.wrap (((y11).length:Int) - 1); bif (inR v13 ((y11).length)) then (Jh2 ((y11).getD ((v13:Int).toNat) (.v (.bool false))) fun a14=>JdT a14 fun h15 t16=>Jj .i64 h15 fun e17=>JdT t16 fun h18 t19=>Jj3 h18 fun e20=>Ji2 t19 (bif (bif true then (decide (e17≥((y10).length:Int))) else false) then (k0 ⟨#[]⟩ 2) else (Ua3 n y10 y11 y12 (fun y21 y22=>k0 y21 y22)))) else none) else (Ua3 n y10 y11 y12 (fun y23 y24=>k0 y23 y24))) (sl w) (tms l) (bs c))
    (fun m i=>Ucw n m (sl w) (tms l) (bs c) (sl w) ((sl w).length:Int) (i:Int) (fun y5 y6 y7 y8 y9=>k0 y8 y9) (fun y10 y11 y12=>bif (decide (((y11).length:Int)>0)) then (let v13:=IntKind.i64.wrap (((y11).length:Int) - 1); bif (inR v13 ((y11).length)) then (Jh2 ((y11).getD ((v13:Int).toNat) (.v (.bool false))) fun a14=>JdT a14 fun h15 t16=>Jj .i64 h15 fun e17=>JdT t16 fun h18 t19=>Jj3 h18 fun e20=>Ji2 t19 (bif (bif true then (decide (e17≥((y10).length:Int))) else false) then (k0 ⟨#[]⟩ 2) else (Ua3 n y10 y11 y12 (fun y21 y22=>k0 y21 y22)))) else none) else (Ua3 n y10 y11 y12 (fun y23 y24=>k0 y23 y24))))
    (fun m=>by simp only [Ucw,Ue6]; simp (disch:=(first | omega | (simp only [JlE]; omega))) only [↓JlH,JlF,Uaj])
    (fun m i hi=>by
      have hv:=fun k=>Ubo (R:=R) n (Ub9 hn) w[i] (hw.2 _ (List.getElem_mem hi)) k
      simp only [Ucw,Ue6]
      simp (disch:=(first | omega | (simp only [JlE]; omega))) only [↓JlH,JlF,Uaj,Jji,UbR hi,hv,i1]
      cases qb w[i] <;> rfl) w.length n 0 (by omega) (by omega)
   rw [List.drop_zero] at h
   unfold UoQ
   refine Eq.trans h ?_
   have ea:w.all qb=Ugr w:=rfl
   rw [ea]
   cases hq:Ugr w with
   | false=>rfl
   | true =>
    rw [if_pos rfl,if_neg (by decide)]
    have g:=fun h' k=>Um8 (R:=R) n hn hr (w:=w) hq h' k
    dsimp only at g
    rw [←s2,←c1.2] at g
    have hls:l.length=(spL l).length:=(UrE l).symm
    by_cases h3:0<(spL l).length
    · have hh:=Ur8 s1.1 h3
      have hlast:l.length - 1<l.length:=by omega
      have eg:(l[l.length - 1]).1=(((spL l)[(spL l).length - 1]'(by omega)).1:Int):=by
       have:∀ (k:Nat) (h1:k<l.length) (h2:k<(spL l).length),(l[k]).1=(((spL l)[k]).1:Int):=fun k h1 h2=>by
        have e:=Upb (l:=spL l) (i:=k) (by rw [Uan]; exact h2)
        have e2:l[k]=(vt (spL l))[k]'(by rw [Uan]; exact h2):=by congr 1
        rw [e2,e]
       have e3:=this (l.length - 1) hlast (by omega)
       rw [e3]
       congr 2
       simp only [hls]
      have hlL:=hl.1
      have ei:(l.length:Int) - 1=((l.length - 1:Nat):Int):=by omega
      by_cases h4:w.length<hiC (spL l)
      · rw [if_pos h4]
        have h5:(l[l.length - 1]).1≥(w.length:Int):=by rw [eg]; omega
        simp (disch:=(first | omega | (simp only [JlE]; omega))) only [↓JlH,JlF,Ua,Uaj,ei,Jji,UaE hlast]
      · rw [if_neg h4]
        have h5:¬ (l[l.length - 1]).1≥(w.length:Int):=by rw [eg]; omega
        simp (disch:=(first | omega | (simp only [JlE]; omega))) only [↓JlH,JlF,Ua,Uaj,ei,Jji,UaE hlast]
        exact g (by omega) k0
    · have e:spL l=[]:=List.eq_nil_of_length_eq_zero (by omega)
      have h4:¬ w.length<hiC (spL l):=by rw [e,UqP]; omega
      rw [if_neg h4]
      simp (disch:=(first | omega | (simp only [JlE]; omega))) only [↓JlH,JlF,Ua]
      exact g (by omega) k0
 · have e0:(Ujd l c != 0)=true:=by simp [h0]
   rw [e0,Uat,if_pos h0]; rfl
end Go.Proofs.YtmgfmlhdnadglaaGreatDoor
set_option linter.unusedVariables false
set_option linter.unusedSimpArgs false
namespace Go.Proofs.YtmgfmlhdnadglaaGreatDoor
open Go Th Go.Proofs
variable {R:Type}
section
variable (n:Nat) (hn:10 ^ 1000≤n) (cols:Int) (rows:List RowT) (mult:List (List UInt8)) (h:okRM cols rows mult) (k0:List PV→Bool→List PV→Bool→List PV→Int→Option R)
include hn h
end
end Go.Proofs.YtmgfmlhdnadglaaGreatDoor
set_option linter.unusedVariables false
set_option maxRecDepth 100000
namespace Go.Proofs.YtmgfmlhdnadglaaGreatDoor
open Go Th Go.Proofs
noncomputable section
variable {R:Type}
abbrev t42:Sl (List SV):=(.c (sP (JlI (.c (Jlv .i64) (.c sSh .n)))) (cH .n))
end
end Go.Proofs.YtmgfmlhdnadglaaGreatDoor
set_option linter.unusedVariables false
set_option linter.unusedSimpArgs false
namespace Go.Proofs.YtmgfmlhdnadglaaGreatDoor
open Go Th Go.Proofs
variable {R:Type}
noncomputable def Uo9 (v:List Rat) (r:RowT):Option Rat:=UaR (evS v) (rq r.c) (spL r.tm)
open Classical in
noncomputable def UnR (r:RowT) (x:Rat):Bool:=decide (x<0∨(0<x∧r.eq=true))
noncomputable def UmD (v:List Rat):List RowT→Option Bool
 | []=>some true
 | r::rs=>match Uo9 v r with
  | none=>none
  | some x=>if UnR r x=true then some false else UmD v rs
noncomputable def Uvg (k0:Bool→Int→Option R):Option Bool→Option R
 | none=>k0 false 5
 | some b=>k0 b 0
structure okSV (cols:Int) (rows:List RowT) (w:List (List UInt8)):Prop where
 hc:0≤cols∧cols≤2048
 few:rows.length≤2048
 hr:∀ r∈rows,okR cols r=true
 hw:Ugr w=true
 len:(w.length:Int)=cols
 sm:smS w
theorem UuG (n:Nat) (hn:10 ^ 1000≤n) {cols:Int} {rows:List RowT} {w:List (List UInt8)} (h:okSV cols rows w) {r:RowT} (hr:r∈rows) (k0:ByteArray→Int→Option R) :
 p18 n (tms r.tm) (bs r.c) (sl w) k0=evK k0 (Uo9 (vq w) r):=by
 have h1:=h.hr r hr
 obtain ⟨o1,o2,o3⟩:=Ud1 h1
 have o1':=Udf h.hc.2 o1
 have hl:=Ua0 o1'.1
 unfold okR at h1
 rw [Bool.and_eq_true] at h1
 have e0:Ujd r.tm r.c=0:=UiC.2 ⟨by rw [o2]; exact UlT o1'.1.1 o1'.1.2,h1.2⟩
 have e1:¬ w.length<hiC (spL r.tm):=by
  have:=UoI (s:=spL r.tm) (b:=cols.toNat) fun t ht=>by
   have:=(o1.1.2 t ht).2.2
   omega
  have:=h.len
  omega
 rw [UqC n hn r.tm r.c w (by rw [o2]; exact UuQ o1'.1.2 (Nat.lt_of_le_of_lt hl (by decide))) (by rw [o3]; exact Ufx o1.2) h.sm]
 unfold evA
 rw [if_neg (by simp [e0]),if_neg (by simp [h.hw]),if_neg e1]; rfl
theorem Umj {cols:Int} {r:RowT} (h:okR cols r=true) {v:List Rat} {x:Rat} (hx:Uo9 v r=some x):fits x:=UqB v (Ud1 h).1.2 hx
theorem Up4 {r:RowT} {x:Rat}:UnR r x=true↔(UdU x 0<0∨(UdU x 0>0∧r.eq=true)):=by
 unfold UnR
 rw [decide_eq_true_iff,Ucp,Ugx]
theorem UrJ (n:Nat) (hn:10 ^ 1000≤n) {cols:Int} {rows:List RowT} {w:List (List UInt8)} (h:okSV cols rows w) (k0:Bool→Int→Option R) :
 (p51 n cols (rws rows) (sl w) fun y6 y7=>bif (y7 == 0) then (k0 (bif true then (decide (y6<0)) else false) y7) else (k0 false y7))=Uvg k0 (UmD (vq w) rows):=by
 have hN:=UaX (Ub9 hn)
 have hf:=h.few
 unfold p51 UoZ
 refine UiR (R:=R) (N:=rows.length) (σ:=Unit) (Inv:=fun i _=>UmD (vq w) (rows.drop i)=UmD (vq w) rows)
  (fun m _ i=>UcE n m (sl w) (rws rows) ((rws rows).length:Int) (i:Int) _ _) (fun m _ hi=>?_) (fun m _ i hi hv=>?_) rows.length n 0 () (by omega) (by omega) rfl
 · rw [List.drop_length] at hi
   rw [←hi]
   simp only [UcE,Uff]
   simp (disch:=(first | omega | (simp only [JlE]; omega))) only [↓JlH,JlF,Uad]
   rfl
 · rw [UaK hi] at hv
   have g1:=fun k=>UuG (R:=R) n hn h (List.getElem_mem hi) k
   simp only [UcE,Uff]
   have hv':(match Uo9 (vq w) rows[i] with | none=>none | some x=>if UnR rows[i] x=true then some false else UmD (vq w) (rows.drop (i + 1)))=UmD (vq w) rows:=hv
   cases hx:Uo9 (vq w) rows[i] with
   | none =>
    rw [hx] at hv' g1
    dsimp only at hv'
    left
    rw [←hv']
    simp (disch:=(first | omega | (simp only [JlE]; omega))) only [↓JlH,JlF,Uad,Jji,UaD hi,g1,evK,UrV]
    rfl
   | some x =>
    rw [hx] at hv' g1
    dsimp only at hv'
    have hfx:=Umj (h.hr _ (List.getElem_mem hi)) hx
    have g2:=fun k=>Usv (R:=R) n hn x hfx k
    have hb:=Up4 (r:=rows[i]) (x:=x)
    have hi0:¬ (i:Int)<0:=by omega
    by_cases h1:UdU x 0<0
    · left
      rw [←hv',if_pos (hb.2 (.inl h1))]
      simp (disch:=(first | omega | (simp only [JlE]; omega))) only [↓JlH,JlF,Uad,Jji,UaD hi,g1,evK,Ugn,g2]
      rfl
    · by_cases h2:UdU x 0>0
      · rcases Bool.eq_false_or_eq_true (rows[i]).eq with h3 | h3
        · left
          rw [←hv',if_pos (hb.2 (.inr ⟨h2,h3⟩))]
          simp (disch:=(first | omega | (simp only [JlE]; omega))) only [↓JlH,JlF,Uad,Jji,UaD hi,g1,evK,Ugn,g2,h3]
          rfl
        · right
          rw [if_neg (fun q=>by rcases hb.1 q with q | q; exact h1 q; rw [h3] at q; cases q.2)] at hv'
          refine ⟨(),hv',?_⟩
          simp (disch:=(first | omega | (simp only [JlE]; omega))) only [↓JlH,JlF,Uad,Jji,UaD hi,g1,evK,Ugn,g2,h3,i1]
      · right
        rw [if_neg (fun q=>by rcases hb.1 q with q | q; exact h1 q; exact h2 q.1)] at hv'
        refine ⟨(),hv',?_⟩
        simp (disch:=(first | omega | (simp only [JlE]; omega))) only [↓JlH,JlF,Uad,Jji,UaD hi,g1,evK,Ugn,g2,i1]
open Classical in
noncomputable def ltB (x:Rat):Bool:=decide (x<0)
noncomputable def hM (rows:List RowT) (w:List (List UInt8)):Option Bool:=if w.any (fun s=>ltB (rq s))=true then some false else UmD (vq w) rows
theorem UlR {cols:Int} {rows:List RowT} {w:List (List UInt8)} (hs:smS w) (h:Ujn cols rows w=0):okSV cols rows w:=by
 unfold Ujn at h
 by_cases h1:Ugp cols rows=0
 · rw [if_neg (by simp [h1])] at h
   by_cases h2:(w.length:Int)=cols
   · rw [if_neg (by simp [h2])] at h
     cases h3:Ugr w with
     | false=>rw [h3] at h; cases h
     | true =>
      obtain ⟨a,b,c,d⟩:=Ug7 h1
      exact ⟨⟨a,b⟩,c,d,h3,h2,hs⟩
   · rw [if_pos h2] at h; cases h
 · rw [if_pos h1] at h; cases h
theorem UtP {x:Rat}:ltB x=decide (UdU x 0<0):=by
 unfold ltB
 rw [Bool.eq_iff_iff,decide_eq_true_iff,decide_eq_true_iff,Ucp]
theorem UpK {α:Type} (l:List α) (p:α→Bool):l.any p=!(l.all fun x=>!p x):=by rw [List.not_all_eq_any_not]; simp
theorem UtS (n:Nat) (hn:10 ^ 1000≤n) {w:List (List UInt8)} (hw:Ugr w=true) (hl:w.length<2 ^ 17) (k0:Bool→Option R):Unk n (sl w) k0=k0 (w.any fun s=>ltB (rq s)):=by
 have hN:=UaX (Ub9 hn)
 unfold Unk UqZ UiM
 have h:=Ual (R:=R) (l:=w) (ok:=fun s=>!ltB (rq s)) (kbad:=k0 true) (kend:=k0 false)
  (fun m i=>UaT n m (sl w) ((sl w).length:Int) (i:Int) (fun y2=>k0 (decide (y2≥0))) (k0 (decide ((-1:Int)≥0))))
  (fun m=>by simp only [UaT,Ucj]; simp (disch:=(first | omega | (simp only [JlE]; omega))) only [↓JlH,JlF,Uaj])
  (fun m i hi=>by
    have hq:=UrD (List.all_eq_true.1 hw _ (List.getElem_mem hi))
    have g1:∀ k,p19 n (bs w[i]) (bs [48]) k=k (UdU (rq w[i]) 0):=fun k=>by
     have:=Usv (R:=R) n hn (rq w[i]) hq.1 k
     rw [←hq.2] at this
     exact this
    have e:=UtP (x:=rq w[i])
    simp only [UaT,Ucj,p50]
    by_cases h0:UdU (rq w[i]) 0<0
    · rw [decide_eq_true h0] at e
      simp (disch:=(first | omega | (simp only [JlE]; omega))) only [↓JlH,JlF,Uaj,Jji,UbR hi,g1,i1]
      simp [e]
    · rw [decide_eq_false h0] at e
      simp (disch:=(first | omega | (simp only [JlE]; omega))) only [↓JlH,JlF,Uaj,Jji,UbR hi,g1,i1]
      simp [e]) w.length n 0 (by omega) (by omega)
 rw [List.drop_zero] at h
 refine Eq.trans h ?_
 rw [UpK]
 cases (w.all fun s=>!ltB (rq s)) <;> rfl
noncomputable def UqQ (cols:Int) (rows:List RowT) (w:List (List UInt8)) (k0:Bool→Int→Option R):Option R:=if Ujn cols rows w≠0 then k0 false (Ujn cols rows w) else Uvg k0 (hM rows w)
theorem Una (n:Nat) (hn:10 ^ 1000≤n) (cols:Int) (rows:List RowT) (w:List (List UInt8)) (hr:smA rows) (hw:smS w) (k0:Bool→Int→Option R):p17 n cols (rws rows) (sl w) k0=UqQ cols rows w k0:=by
 unfold p17 UqQ
 rw [Ur7 n (Ub9 hn) cols rows hr w hw]
 by_cases h1:Ujn cols rows w=0
 · have e1:(Ujn cols rows w != 0)=false:=by rw [h1]; rfl
   have h:=UlR hw h1
   rw [e1,Uak,if_neg (by simp [h1]),UtS n hn h.hw hw.1]
   unfold hM
   cases h2:w.any fun s=>ltB (rq s) with
   | true=>rfl
   | false =>
    rw [Uak,if_neg (by decide)]
    exact UrJ n hn h k0
 · have e1:(Ujn cols rows w != 0)=true:=by simp [h1]
   rw [e1,Uat,if_pos h1]
theorem UiU {v:List Rat}:∀ {rows:List RowT},UmD v rows=some true→∀ r∈rows,∃ x,Uo9 v r=some x∧UnR r x=false
 | [],_,r,hr=>by cases hr
 | r::rs,h,q,hq=>by
  rw [UmD] at h
  cases hx:Uo9 v r with
  | none=>rw [hx] at h; cases h
  | some x =>
   rw [hx] at h
   dsimp only at h
   cases hb:UnR r x with
   | true=>rw [hb,if_pos rfl] at h; cases h
   | false =>
    rw [hb,if_neg (by decide)] at h
    rcases List.mem_cons.1 hq with rfl | hq
    · exact ⟨x,hx,hb⟩
    · exact UiU h q hq
theorem Un {r:RowT} {x:Rat} (h:UnR r x=false):0≤x∧(r.eq=true→x=0):=by
 unfold UnR at h
 rw [decide_eq_false_iff_not] at h
 have h1:¬ x<0:=fun q=>h (.inl q)
 refine ⟨Rat.not_lt.1 h1,fun he=>?_⟩
 rcases tri x 0 with q | q | q
 · exact absurd q h1
 · exact q
 · exact absurd (.inr ⟨q,he⟩) h
theorem UrB {cols:Int} {r:RowT} (hr:okR cols r=true) {v:List Rat} (hl:cols≤(v.length:Int)) {x:Rat} (hx:Uo9 v r=some x):x=(spR r).2 + UaS (cf (spR r).1) 0 v:=by
 obtain ⟨o1,o2,o3⟩:=Ud1 hr
 have h1:=Uov v hx
 rw [h1]
 have h2:=Uol v (l:=spL r.tm) o1.1.1 fun t ht=>by
  have:=(o1.1.2 t ht).2.2
  omega
 rw [h2]; rfl
theorem UiV (v:List Rat):∀ {l:List (SpR × Rat)},(∀ x∈l,0≤(x.1.2 + UaS (cf x.1.1) 0 v) * x.2)→0≤UrK v l
 | [],_=>by simp [UrK]
 | x::t,h=>by
  have ih:=UiV v (l:=t) (fun y hy=>h y (List.mem_cons_of_mem _ hy))
  have h1:=h x (List.mem_cons_self ..)
  rw [UrK]
  grind
theorem UmW {cols:Int} {rows:List RowT} {mult w:List (List UInt8)} (h:okRM cols rows mult) (hw:okSV cols rows w) (hv:UmD (vq w) rows=some true) (ha:adm rows mult=true) {x:SpR} (hx:UaY (zsR rows mult) ([],0)=some x) :
 0≤x.2 + UaS (cf x.1) 0 (vq w):=by
 obtain ⟨e1,e2⟩:=UmX (cols:=cols) (fun y hy=>UuS h y hy) Uhs hx
 have e3:UaS (cf x.1) 0 (vq w)=UaS (UmE (zsR rows mult)) 0 (vq w):=Ucs fun i _ _=>by rw [e2 i]; show cf [] i + _=_; rw [show cf [] i=0 from rfl,Rat.zero_add]
 rw [e1,e3]
 show 0≤(0:Rat) + UnO (zsR rows mult) + _
 rw [Rat.zero_add,←UmF]
 refine UiV _ fun y hy=>?_
 obtain ⟨z,hz,rfl⟩:=List.mem_map.1 hy
 have hm:=List.of_mem_zip hz
 obtain ⟨q,h1,h2⟩:=UiU hv z.1 hm.1
 have hr:=h.hr _ hm.1
 have h3:=UrB hr (v:=vq w) (by rw [UuP]; have:=hw.len; omega) h1
 obtain ⟨g1,g2⟩:=Un h2
 have h4:=List.all_eq_true.1 ha z hz
 unfold Ur6 at h4
 dsimp only
 rw [←h3]
 cases he:z.1.eq with
 | true=>rw [g2 he,Rat.zero_mul]; exact Rat.le_refl
 | false =>
  rw [he,Bool.false_or,Bool.not_eq_true',decide_eq_false_iff_not] at h4
  exact Rat.mul_nonneg g1 (Rat.not_lt.1 h4)
theorem Ust {x:SpR} {p:Rat→Bool} (h0:p 0=true) (h:(x.1.all fun t=>p t.2)=true) (i:Nat):p (cf x.1 i)=true:=by
 by_cases hz:cf x.1 i=0
 · rw [hz]; exact h0
 · obtain ⟨t,ht,_,e⟩:=Uvl hz
   rw [←e]; exact List.all_eq_true.1 h t ht
theorem UqN {rows:List RowT} {w:List (List UInt8)} (h:hM rows w=some true):(∀ x∈vq w,0≤x)∧UmD (vq w) rows=some true:=by
 unfold hM at h
 cases h1:w.any fun s=>ltB (rq s) with
 | true=>rw [h1,if_pos rfl] at h; cases h
 | false =>
  rw [h1,if_neg (by decide)] at h
  refine ⟨fun x hx=>?_,h⟩
  obtain ⟨s,hs,rfl⟩:=List.mem_map.1 hx
  have:=List.any_eq_false.1 h1 s hs
  unfold ltB at this
  rw [decide_eq_true_iff] at this
  exact Rat.not_lt.1 this
theorem Uf2 {cols:Int} {rows:List RowT} {mult w:List (List UInt8)} (h:okRM cols rows mult) (hw:okSV cols rows w) {x:SpR} (hx:UaY (zsR rows mult) ([],0)=some x) (hf:Uf1 rows mult x=true):hM rows w≠some true:=by
 intro hh
 obtain ⟨h1,h2⟩:=UqN hh
 unfold Uf1 at hf
 simp only [Bool.and_eq_true,decide_eq_true_iff] at hf
 obtain ⟨f1,f2,f3⟩:=hf
 have h3:=UmW h hw h2 f2 hx
 have h4:UaS (cf x.1) 0 (vq w)≤UaS (fun _=>0) 0 (vq w):=Uj6 h1 fun i _ _=>by
  have:=Ust (x:=x) (p:=fun q=>decide (q≤0)) (by decide) f1 i
  exact of_decide_eq_true this
 have h5:UaS (fun _=>(0:Rat)) 0 (vq w)=0:=Ubi fun i _ _=>rfl
 rw [h5] at h4
 grind
end Go.Proofs.YtmgfmlhdnadglaaGreatDoor
set_option linter.unusedVariables false
set_option maxRecDepth 100000
namespace Go.Proofs.YtmgfmlhdnadglaaGreatDoor
open Go Th Go.Proofs
noncomputable section
variable {R:Type}
def Ubd:Ann:={ loops:=[(4,ids [1,2,5],ids [4]),(9,ids [1,2,5,6],ids [1,2,4,5])],cuts:=[(8,ids [1,2,5],ids [1,2,4,5])],frz:=[],rm:=[.id] }
abbrev Uqi (n:Nat):Env:=eN
theorem Ukt (n:Nat):EnvOK Tryz.prog GI (Uqi n):=.nil
def Ue8 (n:Nat) (l0:Int→Int→LP→Int→Int→O R) (x1 x2:Int) (x3:LP) (x4 x5:Int) (k0:Int→Int→LP→Bool→Int→O R) (k1:Int→Int→LP→Int→O R):O R :=
 bif (inR x4 ((x3).length)) then (Jh2 ((x3).getD ((x4:Int).toNat) (.v (.bool false))) fun a6=>JdT a6 fun h7 t8=>Jkr h7 fun e9=>JdT t8 fun h10 t11=>Jj3 h10 fun e12=>JdT t11 fun h13 t14=>Jj2 h13 fun e15=>JdT t14 fun h16 t17=>Jj .i64 h16 fun e18=>Ji2 t17 (bif (decide (x5<((e9).length:Int))) then (bif (inR x4 ((x3).length)) then (Jh2 ((x3).getD ((x4:Int).toNat) (.v (.bool false))) fun a19=>JdT a19 fun h20 t21=>Jkr h20 fun e22=>JdT t21 fun h23 t24=>Jj3 h23 fun e25=>JdT t24 fun h26 t27=>Jj2 h26 fun e28=>JdT t27 fun h29 t30=>Jj .i64 h29 fun e31=>Ji2 t30 (bif (inR x5 ((e22).length)) then (Jh2 ((e22).getD ((x5:Int).toNat) (.v (.bool false))) fun a32=>JdT a32 fun h33 t34=>Jj .i64 h33 fun e35=>JdT t34 fun h36 t37=>Jj3 h36 fun e38=>Ji2 t37 (bif (decide (((e38).size:Int)>x1)) then (k0 x1 x2 x3 false x4) else (l0 x1 x2 x3 x4 (IntKind.i64.wrap (x5 + 1))))) else none)) else none) else (k1 x1 x2 x3 x4))) else none
def Ucy (n:Nat):Nat→Int→Int→LP→Int→Int→(Int→Int→LP→Bool→Int→O R)→(Int→Int→LP→Int→O R)→O R
 | 0,_,_,_,_,_,_,_=>none
 | m + 1,x1,x2,x3,x4,x5,k0,k1=>Ue8 n (fun x1 x2 x3 x4 x5=>Ucy n m x1 x2 x3 x4 x5 k0 k1) x1 x2 x3 x4 x5 k0 k1
def UoT (n:Nat) (x1 x2:Int) (x3:LP) (x4 x5:Int) (k0:Int→Int→LP→Bool→Int→O R) (k1:Int→Int→LP→Int→O R):O R:=Ucy n n x1 x2 x3 x4 x5 k0 k1
def UiJ (n:Nat) (x1 x2:Int) (x3:LP) (x4:Int) (k0:Int→Int→LP→Bool→Int→O R) (k1:Int→Int→LP→Int→O R):O R :=
 UoT n x1 x2 x3 x4 0 (fun y5 y6 y7 y8 y9=>k0 y5 y6 y7 y8 y9) (fun y10 y11 y12 y13=>k1 y10 y11 y12 y13)
def Ue7 (n:Nat) (l0:Int→Int→LP→Int→O R) (x1 x2:Int) (x3:LP) (x4:Int) (k0:Bool→O R) (k1:O R):O R :=
 bif (decide (x4<((x3).length:Int))) then (bif (inR x4 ((x3).length)) then (Jh2 ((x3).getD ((x4:Int).toNat) (.v (.bool false))) fun a5=>JdT a5 fun h6 t7=>Jkr h6 fun e8=>JdT t7 fun h9 t10=>Jj3 h9 fun e11=>JdT t10 fun h12 t13=>Jj2 h12 fun e14=>JdT t13 fun h15 t16=>Jj .i64 h15 fun e17=>Ji2 t16 (bif (decide (((e8).length:Int)>12)) then (k0 false) else (bif (inR x4 ((x3).length)) then (Jh2 ((x3).getD ((x4:Int).toNat) (.v (.bool false))) fun a18=>JdT a18 fun h19 t20=>Jkr h19 fun e21=>JdT t20 fun h22 t23=>Jj3 h22 fun e24=>JdT t23 fun h25 t26=>Jj2 h25 fun e27=>JdT t26 fun h28 t29=>Jj .i64 h28 fun e30=>Ji2 t29 (bif (bif false then true else (decide (((e24).size:Int)>x1))) then (k0 false) else (UiJ n x1 x2 x3 x4 (fun y31 y32 y33 y34 y35=>k0 y34) (fun y36 y37 y38 y39=>l0 y36 y37 y38 (IntKind.i64.wrap (y39 + 1)))))) else none))) else none) else (k1)
def UbO (n:Nat):Nat→Int→Int→LP→Int→(Bool→O R)→(O R)→O R
 | 0,_,_,_,_,_,_=>none
 | m + 1,x1,x2,x3,x4,k0,k1=>Ue7 n (fun x1 x2 x3 x4=>UbO n m x1 x2 x3 x4 k0 k1) x1 x2 x3 x4 k0 k1
def UoS (n:Nat) (x1 x2:Int) (x3:LP) (x4:Int) (k0:Bool→O R) (k1:O R):O R:=UbO n n x1 x2 x3 x4 k0 k1
def p27 (n:Nat) (x1:Int) (x2:LP) (x3:Int) (k0:Bool→O R):O R :=
 bif (decide (((x2).length:Int)>16)) then (k0 false) else (UoS n x3 x1 x2 0 (fun y4=>k0 y4) (k0 true))
abbrev E27 (n:Nat):Code→Fr→Kc R→O R:=evC Tryz.prog (Uqi n) Ubd n (61,[])
noncomputable def UnW:Code:=Jj4 (Jll Tryz.f27) [1,1,0,1,0,0,1,0,0,1]
abbrev Umo:Sl (List SV):=(cI (.c (sBx 24 (cI (cH .n))) (cI .n)))
abbrev Uoy (n:Nat) (K:Kc R):Umo.T (O R):=fun x1 x2 x3 x4=>UiJ n x1 x2 x3 x4 (fun y1 y2 y3 y4 y5=>xC Ubd 8 K .ret [vI y1,.bx 24 [vI y2,vH y3],vB y4,vI y5]) (fun y1 y2 y3 y4=>xC Ubd 8 K .normal [vI y1,.bx 24 [vI y2,vH y3],dD,vI y4])
noncomputable def UnX:Code:=Jj4 (Jll Tryz.f27) [1,1,0,1,0,0]
abbrev Uec:Sl (List SV):=(cI (.c (sBx 24 (cI (cH .n))) (cI .n)))
abbrev Ulg (n m:Nat) (K:Kc R):Uec.T (O R):=fun x1 x2 x3 x4=>UbO n m x1 x2 x3 x4 (fun y1=>xL Ubd 4 K .ret [vB y1]) (xL Ubd 4 K (.exit 0) [dD])
abbrev Usa (n:Nat) (K:Kc R) (l0:Uec.T (O R)):Uec.T (O R):=fun x1 x2 x3 x4=>Ue7 n l0 x1 x2 x3 x4 (fun y1=>xL Ubd 4 K .ret [vB y1]) (xL Ubd 4 K (.exit 0) [dD])
noncomputable def UnY:Code:=Jj4 (Jll Tryz.f27) [1,1,0,1,0,0,1,0,0,1,1,0,0]
abbrev Ued:Sl (List SV):=(cI (.c (sBx 24 (cI (cH .n))) (cI (cI .n))))
abbrev Ulh (n m:Nat) (K:Kc R):Ued.T (O R):=fun x1 x2 x3 x4 x5=>Ucy n m x1 x2 x3 x4 x5 (fun y1 y2 y3 y4 y5=>xL Ubd 9 K .ret [vI y1,.bx 24 [vI y2,vH y3],vB y4,vI y5]) (fun y1 y2 y3 y4=>xL Ubd 9 K (.exit 2) [vI y1,.bx 24 [vI y2,vH y3],dD,vI y4])
abbrev Usb (n:Nat) (K:Kc R) (l0:Ued.T (O R)):Ued.T (O R):=fun x1 x2 x3 x4 x5=>Ue8 n l0 x1 x2 x3 x4 x5 (fun y1 y2 y3 y4 y5=>xL Ubd 9 K .ret [vI y1,.bx 24 [vI y2,vH y3],vB y4,vI y5]) (fun y1 y2 y3 y4=>xL Ubd 9 K (.exit 2) [vI y1,.bx 24 [vI y2,vH y3],dD,vI y4])
abbrev Uu8 (n:Nat):Orc R:=oL Ubd (E27 n) n 9 UnY Ued (Ulh n n) (oL Ubd (E27 n) n 4 UnX Uec (Ulg n n) oN)
abbrev UuZ (n:Nat):Orc R:=oC Ubd (E27 n) 8 UnW Umo (Uoy n) oN
abbrev K27 (R:Type) (n:Nat):=JcH (R:=R) Tryz.prog (Uqi n) Ubd n (61,[]) (Uu8 n) (UuZ n)
theorem Uud (n:Nat):K27 R n (false,9,UnY):=JkF (lo:=Uu8 n) (cu:=UuZ n) (pO pN (by kernel_rfl)) Ued (Ulh n n) (JiE (F:=Ulh n) Ued (Usb n) (fun K _ _ _ _ _=>rfl) (fun _ _=>rfl) (fun L K _ _ _ _ _=>by show _=_; kernel_rfl) n) fun _ _=>rfl
theorem Uub (n:Nat):K27 R n (true,8,UnW):=JkW (lo:=Uu8 n) (cu:=UuZ n) (pO (pC (Uud n) pN) (by kernel_rfl)) Umo (Uoy n) (fun K _ _ _ _=>by show _=_; kernel_rfl) fun _ _=>rfl
theorem Uuc (n:Nat):K27 R n (false,4,UnX):=JkF (lo:=Uu8 n) (cu:=UuZ n) (pO (pC (Uub n) pN) (by kernel_rfl)) Uec (Ulg n n) (JiE (F:=Ulg n) Uec (Usa n) (fun K _ _ _ _=>rfl) (fun _ _=>rfl) (fun L K _ _ _ _=>by show _=_; kernel_rfl) n) fun _ _=>rfl
theorem UAK (n:Nat):Je6 (K27 R n) (JaJ Ubd (Jll Tryz.f27)):=pO (pC (Uuc n) pN) (by kernel_rfl)
abbrev t27:Sl (List SV):=(.c (sP (JlI (.c (Jlv .i64) (.c sSh .n)))) (cI .n))
abbrev f27 (n:Nat) (K:List SV→O R):t27.T (O R):=fun x1 x2 x3=>p27 n x1 x2 x3 (fun y1=>K [vB y1])
abbrev Ux0 (n:Nat):FS:=fT [false,false] t27 (f27 n)
theorem UAb (n:Nat):FSound Tryz.prog GI 27 (Ux0 n):=gd Ubd n (Ukt n) Tryz.func27 (.cons (Ukt n) t27 (f27 n) (fun K _ _ _=>(Jkq (c:=Jll Tryz.f27) (by kernel_rfl) (UAK n) K).trans (by kernel_rfl)) .nil) (by kernel_rfl)
def Uvk:Ann:={ loops:=[],cuts:=[],frz:=[],rm:=[.id] }
abbrev UxK (n:Nat):Env:=eC 27 (Ux0 n) eN
theorem Uou (n:Nat):EnvOK Tryz.prog GI (UxK n):=.cons (.nil) (UAb n)
def p9 (n:Nat) (x1:Int) (x2:LP) (k0:Bool→O R):O R :=
 p27 n x1 x2 14 (fun y3=>k0 y3)
abbrev lo9 (n:Nat):Orc R:=oN
abbrev cu9 (n:Nat):Orc R:=oN
abbrev K9 (R:Type) (n:Nat):=JcH (R:=R) Tryz.prog (UxK n) Uvk n (5,[]) (lo9 n) (cu9 n)
theorem pa9 (n:Nat):Je6 (K9 R n) (JaJ Uvk (Jll Tryz.f9)):=pO pN (by kernel_rfl)
abbrev t9:Sl (List SV):=(.c (sP (JlI (.c (Jlv .i64) (.c sSh .n)))) .n)
abbrev f9 (n:Nat) (K:List SV→O R):t9.T (O R):=fun x1 x2=>p9 n x1 x2 (fun y1=>K [vB y1])
abbrev fs9 (n:Nat):FS:=fT [false] t9 (f9 n)
theorem ok9 (n:Nat):FSound Tryz.prog GI 9 (fs9 n):=gd Uvk n (Uou n) Tryz.func9 (.cons (Uou n) t9 (f9 n) (fun K _ _=>(Jkq (c:=Jll Tryz.f9) (by kernel_rfl) (pa9 n) K).trans (by kernel_rfl)) .nil) (by kernel_rfl)
def Uev:Ann:={ loops:=[(2,ids [0,3],ids [0,2])],cuts:=[],frz:=[],rm:=[.id] }
abbrev Uqe (n:Nat):Env:=eN
theorem Uki (n:Nat):EnvOK Tryz.prog GI (Uqe n):=.nil
def UeX (n:Nat) (l0:LP→Int→O R) (x1:LP) (x2:Int) (k0:LP→Bool→O R) (k1:LP→O R):O R :=
 bif (decide (x2<((x1).length:Int))) then (bif (bif true then (decide (x2<20)) else false) then (bif (inR x2 ((x1).length)) then (Jj3 ((x1).getD ((x2:Int).toNat) (.v (.bool false))) fun e3=>bif (decide (((e3).size:Int)>14)) then (k0 x1 false) else (l0 x1 (IntKind.i64.wrap (x2 + 1)))) else none) else (k1 x1)) else (k1 x1)
def Ucv (n:Nat):Nat→LP→Int→(LP→Bool→O R)→(LP→O R)→O R
 | 0,_,_,_,_=>none
 | m + 1,x1,x2,k0,k1=>UeX n (fun x1 x2=>Ucv n m x1 x2 k0 k1) x1 x2 k0 k1
def UoP (n:Nat) (x1:LP) (x2:Int) (k0:LP→Bool→O R) (k1:LP→O R):O R:=Ucv n n x1 x2 k0 k1
def p10 (n:Nat) (x1:LP) (k0:Bool→O R):O R :=
 UoP n x1 0 (fun y2 y3=>k0 y3) (fun y4=>k0 (decide (((y4).length:Int)≤16)))
abbrev E10 (n:Nat):Code→Fr→Kc R→O R:=evC Tryz.prog (Uqe n) Uev n (23,[])
noncomputable def UnS:Code:=Jj4 (Jll Tryz.f10) [1,0,1,0,0]
abbrev Uea:Sl (List SV):=(cH (cI .n))
abbrev Uk7 (n m:Nat) (K:Kc R):Uea.T (O R):=fun x1 x2=>Ucv n m x1 x2 (fun y1 y2=>xL Uev 2 K .ret [vH y1,vB y2]) (fun y1=>xL Uev 2 K (.exit 0) [vH y1,dD])
abbrev Ur9 (n:Nat) (K:Kc R) (l0:Uea.T (O R)):Uea.T (O R):=fun x1 x2=>UeX n l0 x1 x2 (fun y1 y2=>xL Uev 2 K .ret [vH y1,vB y2]) (fun y1=>xL Uev 2 K (.exit 0) [vH y1,dD])
abbrev Uyn (n:Nat):Orc R:=oL Uev (E10 n) n 2 UnS Uea (Uk7 n n) oN
abbrev Uxx (n:Nat):Orc R:=oN
abbrev K10 (R:Type) (n:Nat):=JcH (R:=R) Tryz.prog (Uqe n) Uev n (23,[]) (Uyn n) (Uxx n)
theorem Ut8 (n:Nat):K10 R n (false,2,UnS):=JkF (lo:=Uyn n) (cu:=Uxx n) (pO pN (by kernel_rfl)) Uea (Uk7 n n) (JiE (F:=Uk7 n) Uea (Ur9 n) (fun K _ _=>rfl) (fun _ _=>rfl) (fun L K _ _=>by show _=_; kernel_rfl) n) fun _ _=>rfl
theorem UAz (n:Nat):Je6 (K10 R n) (JaJ Uev (Jll Tryz.f10)):=pO (pC (Ut8 n) pN) (by kernel_rfl)
abbrev t10:Sl (List SV):=(cH .n)
abbrev f10 (n:Nat) (K:List SV→O R):t10.T (O R):=fun x1=>p10 n x1 (fun y1=>K [vB y1])
abbrev UxV (n:Nat):FS:=fT [false] t10 (f10 n)
theorem Uz7 (n:Nat):FSound Tryz.prog GI 10 (UxV n):=gd Uev n (Uki n) Tryz.func10 (.cons (Uki n) t10 (f10 n) (fun K _=>(Jkq (c:=Jll Tryz.f10) (by kernel_rfl) (UAz n) K).trans (by kernel_rfl)) .nil) (by kernel_rfl)
end
end Go.Proofs.YtmgfmlhdnadglaaGreatDoor
set_option linter.unusedVariables false
set_option linter.unusedSimpArgs false
namespace Go.Proofs.YtmgfmlhdnadglaaGreatDoor
open Go Th Go.Proofs
variable {R:Type}
def Utd (r:RowT):Bool:=decide (r.tm.length≤12)&&(decide (r.c.length≤14)&&r.tm.all fun t=>decide (t.2.length≤14))
def Utc (rows:List RowT):Bool:=decide (rows.length≤16)&&rows.all Utd
def Ud9 (l:List (List UInt8)):Bool:=((l.take 20).all fun s=>decide (s.length≤14))&&decide (l.length≤16)
theorem UoG {rows:List RowT} (h:Utc rows=true):smA rows:=by
 unfold Utc at h
 simp only [Bool.and_eq_true,decide_eq_true_iff,List.all_eq_true] at h
 refine ⟨by omega,fun r hr=>?_⟩
 have:=h.2 r hr
 unfold Utd at this
 simp only [Bool.and_eq_true,decide_eq_true_iff,List.all_eq_true] at this
 refine ⟨⟨by omega,fun t ht=>?_⟩,by omega⟩
 have:=this.2.2 t ht
 omega
theorem Ufy {l:List (List UInt8)} (h:Ud9 l=true):smS l:=by
 unfold Ud9 at h
 simp only [Bool.and_eq_true,decide_eq_true_iff,List.all_eq_true] at h
 rw [List.take_of_length_le (by omega)] at h
 refine ⟨by omega,fun s hs=>?_⟩
 have:=h.1 s hs
 omega
theorem Utf (n:Nat) (hn:200000≤n) (cols:Int) (rows:List RowT) (i:Nat) (hi:i<rows.length) (hl:(rows[i]).tm.length≤12) (k0:Int→Int→List PV→Bool→Int→Option R) (k1:Int→Int→List PV→Int→Option R) :
 UiJ n 14 cols (rws rows) (i:Int) k0 k1=if ((rows[i]).tm.all fun t=>decide (t.2.length≤14))=true then k1 14 cols (rws rows) (i:Int) else k0 14 cols (rws rows) false (i:Int):=by
 unfold UiJ UoT
 have h:=Ual (R:=R) (l:=(rows[i]).tm) (ok:=fun t=>decide (t.2.length≤14)) (kbad:=k0 14 cols (rws rows) false (i:Int)) (kend:=k1 14 cols (rws rows) (i:Int))
  (fun m j=>Ucy n m 14 cols (rws rows) (i:Int) (j:Int) (fun y5 y6 y7 y8 y9=>k0 y5 y6 y7 y8 y9) (fun y10 y11 y12 y13=>k1 y10 y11 y12 y13))
  (fun m=>by
    simp only [Ucy,Ue8]
    simp (disch:=(first | omega | (simp only [JlE]; omega))) only [↓JlH,JlF,Uad,Jji,UaD hi,Ua])
  (fun m j hj=>by
    simp only [Ucy,Ue8]
    by_cases h1:((rows[i]).tm[j]).2.length≤14
    · simp (disch:=(first | omega | (simp only [JlE]; omega))) only [↓JlH,JlF,Uad,Jji,UaD hi,Ua,UaE hj,i1]
    · simp (disch:=(first | omega | (simp only [JlE]; omega))) only [↓JlH,JlF,Uad,Jji,UaD hi,Ua,UaE hj,i1]
      simp [h1]) (rows[i]).tm.length n 0 (by omega) (by omega)
 rw [List.drop_zero] at h
 exact h
theorem Ute (n:Nat) (hn:200000≤n) (cols:Int) (rows:List RowT) (k0:Bool→Option R):p9 n cols (rws rows) k0=k0 (Utc rows):=by
 unfold p9 p27 Utc
 by_cases h0:rows.length≤16
 · have h:=Ual (R:=R) (l:=rows) (ok:=Utd) (kbad:=k0 false) (kend:=k0 true) (fun m i=>UbO n m 14 cols (rws rows) (i:Int) (fun y4=>k0 y4) (k0 true))
    (fun m=>by simp only [UbO,Ue7]; simp (disch:=(first | omega | (simp only [JlE]; omega))) only [↓JlH,JlF,Uad])
    (fun m i hi=>by
      simp only [UbO,Ue7,Utd]
      by_cases h1:(rows[i]).tm.length≤12
      · by_cases h2:(rows[i]).c.length≤14
        · simp (disch:=(first | omega | (simp only [JlE]; omega))) only [↓JlH,JlF,Uad,Jji,UaD hi,Ua,i1,Utf n hn cols rows i hi h1]
        · simp (disch:=(first | omega | (simp only [JlE]; omega))) only [↓JlH,JlF,Uad,Jji,UaD hi,Ua,i1]
          simp [h2]
      · simp (disch:=(first | omega | (simp only [JlE]; omega))) only [↓JlH,JlF,Uad,Jji,UaD hi,Ua,i1]
        simp [h1]) rows.length n 0 (by omega) (by omega)
   rw [List.drop_zero] at h
   have h':UbO n n 14 cols (rws rows) 0 (fun y4=>k0 y4) (k0 true)=_:=h
   unfold UoS
   simp (disch:=(first | omega | (simp only [JlE]; omega))) only [↓JlH,JlF,Uad,h']
   cases rows.all Utd <;> rfl
 · simp (disch:=(first | omega | (simp only [JlE]; omega))) only [↓JlH,JlF,Uad]
theorem Ugf (n:Nat) (hn:200000≤n) (l:List (List UInt8)) (k0:Bool→Option R):p10 n (sl l) k0=k0 (Ud9 l):=by
 unfold p10 UoP
 have hg:∀ (i:Nat) (h:i<(l.take 20).length),(l.take 20)[i]=l[i]'(by rw [List.length_take] at h; omega):=fun i h=>List.getElem_take
 have hlen:(l.take 20).length=min 20 l.length:=List.length_take
 have h:=Ual (R:=R) (l:=l.take 20) (ok:=fun s=>decide (s.length≤14)) (kbad:=k0 false) (kend:=k0 (decide (l.length≤16)))
  (fun m i=>Ucv n m (sl l) (i:Int) (fun y2 y3=>k0 y3) (fun y4=>k0 (decide (((y4).length:Int)≤16))))
  (fun m=>by
    have e:decide (((l.length:Nat):Int)≤16)=decide (l.length≤16):=by rw [Bool.eq_iff_iff]; simp; omega
    simp only [Ucv,UeX]
    rw [hlen]
    by_cases h1:l.length<20
    · rw [show min 20 l.length=l.length from by omega]
      simp (disch:=(first | omega | (simp only [JlE]; omega))) only [↓JlH,JlF,Uaj,e]
    · by_cases h2:l.length=20
      · rw [show min 20 l.length=20 from by omega]
        simp (disch:=(first | omega | (simp only [JlE]; omega))) only [↓JlH,JlF,Uaj,e]
      · rw [show min 20 l.length=20 from by omega]
        simp (disch:=(first | omega | (simp only [JlE]; omega))) only [↓JlH,JlF,Uaj,e])
  (fun m i hi=>by
    have hi':i<l.length:=by omega
    have hi2:i<20:=by omega
    rw [hg i hi]
    simp only [Ucv,UeX]
    by_cases h1:(l[i]).length≤14
    · simp (disch:=(first | omega | (simp only [JlE]; omega))) only [↓JlH,JlF,Uaj,Jji,UbR hi',i1]
    · simp (disch:=(first | omega | (simp only [JlE]; omega))) only [↓JlH,JlF,Uaj,Jji,UbR hi',i1]
      simp [h1]) (l.take 20).length n 0 (by omega) (by omega)
 rw [List.drop_zero] at h
 refine Eq.trans h ?_
 unfold Ud9
 cases ((l.take 20).all fun s=>decide (s.length≤14)) <;> rfl
end Go.Proofs.YtmgfmlhdnadglaaGreatDoor
set_option linter.unusedVariables false
set_option maxRecDepth 100000
namespace Go.Proofs.YtmgfmlhdnadglaaGreatDoor
open Go Th Go.Proofs
noncomputable section
variable {R:Type}
def Upj:Ann:={ loops:=[],cuts:=[],frz:=[],rm:=[.id] }
abbrev UsI (n:Nat):Env:=eC 32 (Uu3 n) eN
theorem Ukl (n:Nat):EnvOK Tryz.prog GI (UsI n):=.cons (.nil) (Uwq n)
def p15 (n:Nat) (x1:Int) (x2 x3 x4 x5:LP) (k0:Int→O R):O R :=
 Ut2 n x1 x2 x3 ([.sh x4]:LP) x5 true x1 x2 x5 x3 x4 (fun y6=>k0 y6)
abbrev UzG (n:Nat):Orc R:=oN
abbrev Uzb (n:Nat):Orc R:=oN
abbrev K15 (R:Type) (n:Nat):=JcH (R:=R) Tryz.prog (UsI n) Upj n (17,[]) (UzG n) (Uzb n)
theorem UAC (n:Nat):Je6 (K15 R n) (JaJ Upj (Jll Tryz.f15)):=pO pN (by kernel_rfl)
abbrev t15:Sl (List SV):=(.c (sP (JlI (.c (Jlv .i64) (.c sSh .n)))) (cH (cH (cH .n))))
abbrev f15 (n:Nat) (K:List SV→O R):t15.T (O R):=fun x1 x2 x3 x4 x5=>p15 n x1 x2 x3 x4 x5 (fun y1=>K [vI y1])
abbrev UxX (n:Nat):FS:=fT [false,false,false,false] t15 (f15 n)
theorem Uz9 (n:Nat):FSound Tryz.prog GI 15 (UxX n):=gd Upj n (Ukl n) Tryz.func15 (.cons (Ukl n) t15 (f15 n) (fun K _ _ _ _ _=>(Jkq (c:=Jll Tryz.f15) (by kernel_rfl) (UAC n) K).trans (by kernel_rfl)) .nil) (by kernel_rfl)
def Upl:Ann:={ loops:=[],cuts:=[],frz:=[],rm:=[.id] }
abbrev UsK (n:Nat):Env:=eC 32 (Uu3 n) eN
theorem Ukp (n:Nat):EnvOK Tryz.prog GI (UsK n):=.cons (.nil) (Uwq n)
def p20 (n:Nat) (x1:Int) (x2 x3 x4 x5:LP) (k0:Int→O R):O R :=
 Ut3 n x1 x2 x3 ([.sh x4,.sh x5]:LP) [] false x5 x1 x2 x3 (fun y6=>k0 y6)
abbrev UzI (n:Nat):Orc R:=oN
abbrev Uzd (n:Nat):Orc R:=oN
abbrev K20 (R:Type) (n:Nat):=JcH (R:=R) Tryz.prog (UsK n) Upl n (17,[]) (UzI n) (Uzd n)
theorem UAG (n:Nat):Je6 (K20 R n) (JaJ Upl (Jll Tryz.f20)):=pO pN (by kernel_rfl)
abbrev t20:Sl (List SV):=(.c (sP (JlI (.c (Jlv .i64) (.c sSh .n)))) (cH (cH (cH .n))))
abbrev f20 (n:Nat) (K:List SV→O R):t20.T (O R):=fun x1 x2 x3 x4 x5=>p20 n x1 x2 x3 x4 x5 (fun y1=>K [vI y1])
abbrev UxY (n:Nat):FS:=fT [false,false,false,false] t20 (f20 n)
theorem UA (n:Nat):FSound Tryz.prog GI 20 (UxY n):=gd Upl n (Ukp n) Tryz.func20 (.cons (Ukp n) t20 (f20 n) (fun K _ _ _ _ _=>(Jkq (c:=Jll Tryz.f20) (by kernel_rfl) (UAG n) K).trans (by kernel_rfl)) .nil) (by kernel_rfl)
def Upo:Ann:={ loops:=[],cuts:=[],frz:=[],rm:=[.id] }
abbrev UsN (n:Nat):Env:=eN
theorem Uku (n:Nat):EnvOK Tryz.prog GI (UsN n):=.nil
def p28 (n:Nat) (x1:Int) (x2:ByteArray) (k0:Int→ByteArray→O R):O R :=
 k0 x1 x2
abbrev UzL (n:Nat):Orc R:=oN
abbrev Uzg (n:Nat):Orc R:=oN
abbrev K28 (R:Type) (n:Nat):=JcH (R:=R) Tryz.prog (UsN n) Upo n (8,[]) (UzL n) (Uzg n)
theorem UAL (n:Nat):Je6 (K28 R n) (JaJ Upo (Jll Tryz.f28)):=pO pN (by kernel_rfl)
abbrev t28:Sl (List SV):=(cI (cS .n))
abbrev f28 (n:Nat) (K:List SV→O R):t28.T (O R):=fun x1 x2=>p28 n x1 x2 (fun y1 y2=>K [.p (.agg [.v (.int .i64 y1),.v (.string y2)])])
abbrev Ux1 (n:Nat):FS:=fT [false,false] t28 (f28 n)
theorem UAc (n:Nat):FSound Tryz.prog GI 28 (Ux1 n):=gd Upo n (Uku n) Tryz.func28 (.cons (Uku n) t28 (f28 n) (fun K _ _=>(Jkq (c:=Jll Tryz.f28) (by kernel_rfl) (UAL n) K).trans (by kernel_rfl)) .nil) (by kernel_rfl)
def Uph:Ann:={ loops:=[],cuts:=[],frz:=[],rm:=[.id] }
abbrev UsG (n:Nat):Env:=eC 28 (Ux1 n) (eC 23 (UxZ n) (eC 20 (UxY n) (eC 15 (UxX n) (eC 12 (UvB n) eN))))
theorem Ukj (n:Nat):EnvOK Tryz.prog GI (UsG n):=.cons (.cons (.cons (.cons (.cons (.nil) (UyA n)) (Uz9 n)) (UA n)) (UAa n)) (UAc n)
def p11 (n:Nat)  (k0:Bool→O R):O R :=
 p28 n 0 ⟨#[49]⟩ (fun y1 y2=>p28 n 0 ⟨#[45,49]⟩ (fun y3 y4=>p23 n 1 ([.agg [.sh ([.agg [.v (.int .i64 y1),.v (.string y2)]]:LP),.v (.string ⟨#[45,51]⟩),.v (.bool false),.v (.int .i64 0)],.agg [.sh ([.agg [.v (.int .i64 y3),.v (.string y4)]]:LP),.v (.string ⟨#[50]⟩),.v (.bool false),.v (.int .i64 0)]]:LP) ([.v (.string ⟨#[49]⟩),.v (.string ⟨#[49]⟩)]:LP) (fun y5 y6 y7=>p28 n 0 ⟨#[49]⟩ (fun y8 y9=>p28 n 1 ⟨#[49]⟩ (fun y10 y11=>bif (y7 == 0) then (bif true then (bif true then (bif true then (bif (bif true then (((y5).length:Int) == 0) else false) then (bif true then (bif true then (bif (bif true then eqS y6 (⟨#[45,49]⟩:ByteArray) else false) then (bif true then (bif true then (p12 n 1 ([.agg [.sh ([.agg [.v (.int .i64 y1),.v (.string y2)]]:LP),.v (.string ⟨#[45,51]⟩),.v (.bool false),.v (.int .i64 0)],.agg [.sh ([.agg [.v (.int .i64 y3),.v (.string y4)]]:LP),.v (.string ⟨#[50]⟩),.v (.bool false),.v (.int .i64 0)]]:LP) ([.v (.string ⟨#[49]⟩),.v (.string ⟨#[49]⟩)]:LP) (fun y12=>bif true then (bif (bif true then (y12 == 0) else false) then (bif true then (bif true then (p12 n 1 ([.agg [.sh ([.agg [.v (.int .i64 y1),.v (.string y2)]]:LP),.v (.string ⟨#[45,51]⟩),.v (.bool false),.v (.int .i64 0)],.agg [.sh ([.agg [.v (.int .i64 y3),.v (.string y4)]]:LP),.v (.string ⟨#[50]⟩),.v (.bool false),.v (.int .i64 0)]]:LP) ([.v (.string ⟨#[49]⟩),.v (.string ⟨#[48]⟩)]:LP) (fun y13=>bif true then (bif (bif true then (y13 == 16) else false) then (bif true then (p28 n 0 ⟨#[50]⟩ (fun y14 y15=>bif true then (p28 n 1 ⟨#[51]⟩ (fun y16 y17=>bif true then (bif true then (bif true then (bif true then (p15 n 2 ([.agg [.sh ([.agg [.v (.int .i64 y8),.v (.string y9)],.agg [.v (.int .i64 y10),.v (.string y11)]]:LP),.v (.string ⟨#[45,50]⟩),.v (.bool false),.v (.int .i64 0)]]:LP) ([.agg [.v (.int .i64 y14),.v (.string y15)],.agg [.v (.int .i64 y16),.v (.string y17)]]:LP) ([.v (.string ⟨#[50]⟩),.v (.string ⟨#[48]⟩)]:LP) ([.v (.string ⟨#[50]⟩)]:LP) (fun y18=>bif true then (bif (bif true then (y18 == 0) else false) then (bif true then (p28 n 1 ⟨#[45,49]⟩ (fun y19 y20=>bif true then (bif true then (bif true then (bif true then (p20 n 2 ([.agg [.sh ([.agg [.v (.int .i64 y8),.v (.string y9)],.agg [.v (.int .i64 y10),.v (.string y11)]]:LP),.v (.string ⟨#[45,50]⟩),.v (.bool false),.v (.int .i64 0)]]:LP) ([.agg [.v (.int .i64 y19),.v (.string y20)]]:LP) ([.v (.string ⟨#[50]⟩),.v (.string ⟨#[48]⟩)]:LP) ([.v (.string ⟨#[48]⟩),.v (.string ⟨#[49]⟩)]:LP) (fun y21=>bif true then (k0 (bif true then (y21 == 0) else false)) else none)) else none) else none) else none) else none)) else none) else (bif false then none else (bif false then none else (bif false then none else (bif false then none else (bif false then none else (bif false then none else (bif false then none else (k0 false))))))))) else none)) else none) else none) else none) else none)) else none)) else none) else (bif false then none else (bif false then none else (bif false then none else (bif false then none else (bif false then none else (bif false then none else (bif false then none else (bif false then none else (bif false then none else (bif false then none else (bif false then none else (bif false then none else (bif false then none else (bif false then none else (bif false then none else (bif false then none else (k0 false)))))))))))))))))) else none)) else none) else none) else (bif false then none else (bif false then none else (bif false then none else (bif false then none else (bif false then none else (bif false then none else (bif false then none else (bif false then none else (bif false then none else (bif false then none else (bif false then none else (bif false then none else (bif false then none else (bif false then none else (bif false then none else (bif false then none else (bif false then none else (bif false then none else (bif false then none else (bif false then none else (bif false then none else (k0 false))))))))))))))))))))))) else none)) else none) else none) else (bif false then none else (bif false then none else (bif false then none else (bif false then none else (bif false then none else (bif false then none else (bif false then none else (bif false then none else (bif false then none else (bif false then none else (bif false then none else (bif false then none else (bif false then none else (bif false then none else (bif false then none else (bif false then none else (bif false then none else (bif false then none else (bif false then none else (bif false then none else (bif false then none else (bif false then none else (bif false then none else (bif false then none else (bif false then none else (bif false then none else (k0 false)))))))))))))))))))))))))))) else none) else none) else (bif false then none else (bif false then none else (bif false then none else (bif false then none else (bif false then none else (bif false then none else (bif false then none else (bif false then none else (bif false then none else (bif false then none else (bif false then none else (bif false then none else (bif false then none else (bif false then none else (bif false then none else (bif false then none else (bif false then none else (bif false then none else (bif false then none else (bif false then none else (bif false then none else (bif false then none else (bif false then none else (bif false then none else (bif false then none else (bif false then none else (bif false then none else (bif false then none else (bif false then none else (bif false then none else (k0 false)))))))))))))))))))))))))))))))) else none) else none) else none) else (bif false then none else (bif false then none else (bif false then none else (bif false then none else (bif false then none else (bif false then none else (bif false then none else (bif false then none else (bif false then none else (bif false then none else (bif false then none else (bif false then none else (bif false then none else (bif false then none else (bif false then none else (bif false then none else (bif false then none else (bif false then none else (bif false then none else (bif false then none else (bif false then none else (bif false then none else (bif false then none else (bif false then none else (bif false then none else (bif false then none else (bif false then none else (bif false then none else (bif false then none else (bif false then none else (bif false then none else (bif false then none else (bif false then none else (bif false then none else (bif false then none else (k0 false)))))))))))))))))))))))))))))))))))))))))
abbrev UzE (n:Nat):Orc R:=oN
abbrev Uz (n:Nat):Orc R:=oN
abbrev K11 (R:Type) (n:Nat):=JcH (R:=R) Tryz.prog (UsG n) Uph n (69,[]) (UzE n) (Uz n)
theorem UAA (n:Nat):Je6 (K11 R n) (JaJ Uph (Jll Tryz.f11)):=pO pN (by kernel_rfl)
abbrev t11:Sl (List SV):=.n
abbrev f11 (n:Nat) (K:List SV→O R):t11.T (O R):=p11 n  (fun y1=>K [vB y1])
abbrev UxW (n:Nat):FS:=fT [] t11 (f11 n)
theorem Uz8 (n:Nat):FSound Tryz.prog GI 11 (UxW n):=gd Uph n (Ukj n) Tryz.func11 (.cons (Ukj n) t11 (f11 n) (fun K=>(Jkq (c:=Jll Tryz.f11) (by kernel_rfl) (UAA n) K).trans (by kernel_rfl)) .nil) (by kernel_rfl)
end
end Go.Proofs.YtmgfmlhdnadglaaGreatDoor
namespace Go.Proofs.YtmgfmlhdnadglaaGreatDoor
open Go Th Go.Proofs
theorem Ut0 {R:Type} (m:Nat) (k0:Bool→Option R):p11 (m + 40) k0=k0 true:=by kernel_rfl
theorem UqX {R:Type} (n:Nat) (h:40≤n) (k0:Bool→Option R):p11 n k0=k0 true:=by
 rw [show n=(n - 40) + 40 from by omega]; exact Ut0 _ k0
end Go.Proofs.YtmgfmlhdnadglaaGreatDoor
set_option linter.unusedVariables false
namespace Go.Proofs.YtmgfmlhdnadglaaGreatDoor
open Go Th Go.Proofs
abbrev Ub7:List (String × DataW Unit):=[("math/bits.deBruijn32tab",Rows.laid_math_bits_deBruijn32tab),("math/bits.deBruijn64tab",Rows.laid_math_bits_deBruijn64tab),("internal/strconv.uint64pow10",Rows.laid_internal_strconv_uint64pow10),("unicode/utf8.acceptRanges",Rows.laid_unicode_utf8_acceptRanges),("strconv.ErrRange",Rows.laid_strconv_ErrRange),("strconv.ErrSyntax",Rows.laid_strconv_ErrSyntax),("unicode/utf8.first",Rows.laid_unicode_utf8_first)]
theorem UnI {W:World} (h:laidMetH Tryz.prog Ub7 W):Lib.TabIs Tryz.prog W "internal/strconv.uint64pow10" .u64 Lib.pow10Tab:=by
 rw [MakeChecks.laidMetH_plain _ _ _ (by kernel_rfl)] at h
 obtain ⟨ps,⟨_,_,_,_,_,_,_,_,_,_,⟨_,_,_,_,_,_,_,_,_,_,⟨g,t,cs,f,p,q,hg,ht,hv,hd,_,_⟩,_⟩,_⟩,_⟩:=h
 obtain rfl:=Option.some.inj ((show Tryz.prog.globalNamed "internal/strconv.uint64pow10" = some 0 by kernel_rfl).symm.trans hg)
 have e:(Rows.laid_internal_strconv_uint64pow10:DataW Unit)=Lib.tabData .u64 Lib.pow10Tab:=by kernel_rfl
 rw [e] at hd
 obtain rfl:=Option.some.inj ((show (Tryz.prog.globals[0]?).map (·.type)=some 199 by kernel_rfl).symm.trans ht)
 have hc:=Lib.cells_of_tab Tryz.underlying199 Tryz.underlying144 (by kernel_rfl) (by kernel_rfl) hd
 unfold Lib.TabIs
 rw [hv,←hc]
theorem UnJ {P:Program} {W:World} {name:String} {k:IntKind} {zs:List Int} {g:Nat} (hg:P.globalNamed name=some g) (h:Lib.TabIs P W name k zs):g<W.heap.size:=by
 unfold Lib.TabIs World.var? at h
 rw [hg] at h
 simp only [Option.bind_some] at h
 split at h
 · rename_i hh
   exact (Array.getElem?_eq_some_iff.1 hh).1
 · cases h
abbrev Tab (W:World):Prop:=Lib.TabIs Tryz.prog W "internal/strconv.uint64pow10" .u64 Lib.pow10Tab
def Fp (ps:List MemPlace) (b:Nat):Prop:=b=0∨∃ x∈ps,x.block=b
theorem UqI {ps qs:List MemPlace} (h:∀ x∈qs,x∈ps):∀ x∈qs,Fp ps x.block:=fun x hx=>.inr ⟨x,h x hx,rfl⟩
theorem Unb {g:Nat} {fs:FS} (hf:FSound Tryz.prog GI g fs) {cargs:Array Value} {args:List PV} {W:World} (h:Tab W) (ps:List MemPlace) (hlt:∀ x∈ps,x.block<W.heap.size)
 (ha:RSs Tryz.prog (Fp ps) W (args.map SV.p) cargs.toList []) (hk:fs.run (args.map SV.p) JgZ=some true) :
 Calls Tryz.prog g cargs W fun e w'=>e=.returned (.bool true)∧RowKit.Below W.heap.size W w' :=
 Jjb hf W (Fp ps) (fun b hb=>by
  rcases hb with rfl | ⟨x,hx,rfl⟩
  · exact UnJ (by kernel_rfl) h
  · exact hlt x hx) ⟨.inl rfl,h⟩ ha hk
theorem c3:Tryz.prog.cellsOf 3=1:=by kernel_rfl
theorem c4:Tryz.prog.cellsOf 4=1:=by kernel_rfl
theorem c9:Tryz.prog.cellsOf 9=1:=by kernel_rfl
theorem c22:Tryz.prog.cellsOf 22=1:=by kernel_rfl
theorem c24:Tryz.prog.cellsOf 24=2:=by kernel_rfl
theorem c25:Tryz.prog.cellsOf 25=1:=by kernel_rfl
theorem c33:Tryz.prog.cellsOf 33=1:=by kernel_rfl
theorem c66:Tryz.prog.cellsOf 66=2:=by kernel_rfl
theorem c70:Tryz.prog.cellsOf 70=4:=by kernel_rfl
section
variable {H:Type} {enc:TypeId × Value→H} {W:World} {spare:Nat→Bool} {held:Bool} {F:Nat→Prop}
abbrev UiW:=Int × ByteArray × Unit
abbrev UrN:=List UiW × ByteArray × Bool × Int × Unit
abbrev Uxw:=Int × List UrN × Unit
def termC (y:UiW):List PV:=[.v (.int .i64 y.1)]++([.v (.string y.2.1)]++[])
def rowC (y:UrN):List PV:=[.sh (y.1.map fun t=>.agg (termC t))]++([.v (.string y.2.1)]++([.v (.bool y.2.2.1)]++([.v (.int .i64 y.2.2.2.1)]++[])))
def sysC (y:Uxw):List PV:=[.v (.int .i64 y.1)]++([.sh (y.2.1.map fun r=>.agg (rowC r))]++[])
theorem UqD {f:Field} {fs:List Field} {off:Nat} {B:Type} {ok2:B→Prop} {cells2:B→List PV} {size:Nat} (ho:f.offset=off) (ht:f.type=3) (s:Fld enc Tryz.prog W spare held F fs (off + 1) B ok2 cells2 size) :
 Fld enc Tryz.prog W spare held F (f::fs) off (Int × B) (fun y=>(Lit.int .i64 y.1).wf=true∧ok2 y.2) (fun y=>[.v (.int .i64 y.1)]++cells2 y.2) (1 + size) :=
 JkR ho (by rw [ht]; exact c3) (by rw [ht]; exact Jlo Tryz.underlying3 c3) s
theorem Utb {f:Field} {fs:List Field} {off:Nat} {B:Type} {ok2:B→Prop} {cells2:B→List PV} {size:Nat} (ho:f.offset=off) (ht:f.type=9) (s:Fld enc Tryz.prog W spare held F fs (off + 1) B ok2 cells2 size) :
 Fld enc Tryz.prog W spare held F (f::fs) off (ByteArray × B) (fun y=>y.1.size≤maxLen∧ok2 y.2) (fun y=>[.v (.string y.1)]++cells2 y.2) (1 + size) :=
 JkR ho (by rw [ht]; exact c9) (by rw [ht]; exact Jlp Tryz.underlying9 c9) s
theorem Uta {f:Field} {fs:List Field} {off:Nat} {B:Type} {ok2:B→Prop} {cells2:B→List PV} {size:Nat} (ho:f.offset=off) (ht:f.type=4) (s:Fld enc Tryz.prog W spare held F fs (off + 1) B ok2 cells2 size) :
 Fld enc Tryz.prog W spare held F (f::fs) off (Bool × B) (fun y=>True∧ok2 y.2) (fun y=>[.v (.bool y.1)]++cells2 y.2) (1 + size) :=
 JkR ho (by rw [ht]; exact c4) (by rw [ht]; exact Jlc Tryz.underlying4 c4) s
theorem UxU {t k:Nat} {f:Field} {fs:List Field} {off:Nat} {A B:Type} {ok:A→Prop} {cells:A→List PV} {ok2:B→Prop} {cells2:B→List PV} {size:Nat} (ht:f.type=t) (hc:Tryz.prog.cellsOf t=k) (r:Rd enc Tryz.prog W spare held F t A ok cells) (ho:f.offset=off) (s:Fld enc Tryz.prog W spare held F fs (off + k) B ok2 cells2 size) :
 Fld enc Tryz.prog W spare held F (f::fs) off (A × B) (fun y=>ok y.1∧ok2 y.2) (fun y=>cells y.1++cells2 y.2) (k + size) :=
 JkR ho (by rw [ht]; exact hc) (by rw [ht]; exact r) s
theorem Urz:∃ ok,Rd enc Tryz.prog W spare held F 66 UiW ok termC :=
 ⟨_,JkG Tryz.underlying66 c66 (UqD rfl rfl (Utb rfl rfl (Jk4 _)))⟩
theorem UnE:∃ ok,Rd enc Tryz.prog W spare held F 33 (List UiW) ok (fun l=>[.sh (l.map fun t=>.agg (termC t))]) :=
 let ⟨ok,h⟩:=Urz
 ⟨_,JkY Tryz.underlying33 c33 (by rw [c66]; omega) (fun a=>rfl) h⟩
theorem UuE:∃ ok,Rd enc Tryz.prog W spare held F 70 UrN ok rowC :=
 let ⟨ok,h⟩:=UnE
 ⟨_,JkG Tryz.underlying70 c70 (UxU (t:=33) rfl c33 h rfl (Utb rfl rfl (Uta rfl rfl (UqD rfl rfl (Jk4 _)))))⟩
theorem Urx:∃ ok,Rd enc Tryz.prog W spare held F 22 (List UrN) ok (fun l=>[.sh (l.map fun t=>.agg (rowC t))]) :=
 let ⟨ok,h⟩:=UuE
 ⟨_,JkY Tryz.underlying22 c22 (by rw [c70]; omega) (fun a=>rfl) h⟩
theorem UuF:∃ ok,Rd enc Tryz.prog W spare held F 24 Uxw ok sysC :=
 let ⟨ok,h⟩:=Urx
 ⟨_,JkG Tryz.underlying24 c24 (UqD rfl rfl (UxU (t:=22) rfl c22 h rfl (Jk4 _)))⟩
theorem Ury:∃ ok,Rd enc Tryz.prog W spare held F 25 (List ByteArray) ok (fun l=>[.sh (l.map fun s=>.v (.string s))]) :=
 ⟨_,JkY Tryz.underlying25 c25 (by rw [c9]; omega) (fun a=>rfl) (Jlp Tryz.underlying9 c9)⟩
def UuL (y:UiW):TermT:=(y.1,y.2.1.data.toList)
def UwX (y:UrN):RowT:=⟨y.1.map UuL,y.2.1.data.toList,y.2.2.1,y.2.2.2.1⟩
theorem UrH (l:List UiW):(l.map fun t=>PV.agg (termC t))=tms (l.map UuL):=by
 unfold tms; rw [List.map_map]; rfl
theorem UuH (l:List UrN):(l.map fun t=>PV.agg (rowC t))=rws (l.map UwX):=by
 unfold rws
 rw [List.map_map]
 refine List.map_congr_left fun r _=>?_
 show PV.agg ([.sh (r.1.map fun t=>.agg (termC t))]++_)=rPV (UwX r)
 rw [UrH]; rfl
theorem UuJ (l:List ByteArray):(l.map fun s=>PV.v (.string s))=sl (l.map fun s=>s.data.toList):=by
 unfold sl; rw [List.map_map]; rfl
theorem UpL {cs:Array Value} {d:DataW H} {p:List MemPlace} (h:DataW.Trod enc Tryz.prog W 0 spare held 24 (.agg cs) d p) (hF:∀ x∈p,F x.block):∃ cols rows,RP F W (.agg [.v (.int .i64 cols),.sh (rws rows)]) (.agg cs):=by
 obtain ⟨ok,r⟩:=UuF (enc:=enc) (W:=W) (spare:=spare) (held:=held) (F:=F)
 obtain ⟨a,_,h2⟩:=Jlq r h hF
 refine ⟨a.1,a.2.1.map UwX,?_⟩
 rw [←UuH]
 exact h2
theorem Uht {x:Option Addr} {len cap:Nat} {d:DataW H} {p:List MemPlace} (h:DataW.Trod enc Tryz.prog W 0 spare held 25 (.slice x len cap) d p) (hF:∀ x∈p,F x.block):∃ l,RP F W (.sh (sl l)) (.slice x len cap):=by
 obtain ⟨ok,r⟩:=Ury (enc:=enc) (W:=W) (spare:=spare) (held:=held) (F:=F)
 obtain ⟨a,_,h2⟩:=Jlr r h hF
 refine ⟨a.map fun s=>s.data.toList,?_⟩
 rw [←UuJ]
 exact h2
end
end Go.Proofs.YtmgfmlhdnadglaaGreatDoor
set_option linter.unusedVariables false
set_option maxRecDepth 100000
namespace Go.Proofs.YtmgfmlhdnadglaaGreatDoor
open Go Th Go.Proofs
noncomputable section
variable {R:Type}
def UrO:Ann:={ loops:=[],cuts:=[(3,ids [2,3],ids [6])],frz:=[],rm:=[.id] }
abbrev UvA (n:Nat):Env:=eC 17 (UvC n) (eC 12 (UvB n) (eC 11 (UxW n) (eC 10 (UxV n) (eC 9 (fs9 n) eN))))
theorem Uot (n:Nat):EnvOK Tryz.prog GI (UvA n):=.cons (.cons (.cons (.cons (.cons (.nil) (ok9 n)) (Uz7 n)) (Uz8 n)) (UyA n)) (UyB n)
def UqY (n:Nat) (x1:LP) (x2:Int) (x3:LP) (k0:Bool→O R):O R :=
 p17 n x2 x3 x1 (fun y4 y5=>bif (y5 != 0) then (p11 n (fun y6=>k0 (bif true then y6 else false))) else (bif (bif false then true else (!y4)) then (p11 n (fun y7=>k0 (bif true then y7 else false))) else (k0 false)))
def p5 (n:Nat) (x1:Int) (x2 x3 x4:LP) (k0:Bool→O R):O R :=
 p9 n x1 x2 (fun y5=>bif (!y5) then (p11 n (fun y6=>k0 y6)) else (p10 n x3 (fun y7=>bif (bif false then true else (!y7)) then (p11 n (fun y8=>k0 y8)) else (p10 n x4 (fun y9=>bif (bif false then true else (!y9)) then (p11 n (fun y10=>k0 y10)) else (p12 n x1 x2 x3 (fun y11=>bif (bif false then true else (y11 != 0)) then (p11 n (fun y12=>k0 y12)) else (UqY n x4 x1 x2 (fun y13=>k0 y13)))))))))
abbrev E5 (n:Nat):Code→Fr→Kc R→O R:=evC Tryz.prog (UvA n) UrO n (44,[])
noncomputable def Uss:Code:=Jj4 (Jll Tryz.f5) [1,1]
abbrev UrG:Sl (List SV):=(cH (.c (sBx 24 (cI (cH .n))) .n))
abbrev Ut (n:Nat) (K:Kc R):UrG.T (O R):=fun x1 x2 x3=>UqY n x1 x2 x3 (fun y1=>xC UrO 3 K .ret [vB y1])
abbrev lo5 (n:Nat):Orc R:=oN
abbrev cu5 (n:Nat):Orc R:=oC UrO (E5 n) 3 Uss UrG (Ut n) oN
abbrev K5 (R:Type) (n:Nat):=JcH (R:=R) Tryz.prog (UvA n) UrO n (44,[]) (lo5 n) (cu5 n)
theorem UwV (n:Nat):K5 R n (true,3,Uss):=JkW (lo:=lo5 n) (cu:=cu5 n) (pO pN (by kernel_rfl)) UrG (Ut n) (fun K _ _ _=>by show _=_; kernel_rfl) fun _ _=>rfl
theorem pa5 (n:Nat):Je6 (K5 R n) (JaJ UrO (Jll Tryz.f5)):=pO (pC (UwV n) pN) (by kernel_rfl)
abbrev t5:Sl (List SV):=(.c (sP (JlI (.c (Jlv .i64) (.c sSh .n)))) (cH (cH .n)))
abbrev f5 (n:Nat) (K:List SV→O R):t5.T (O R):=fun x1 x2 x3 x4=>p5 n x1 x2 x3 x4 (fun y1=>K [vB y1])
abbrev fs5 (n:Nat):FS:=fT [false,false,false] t5 (f5 n)
theorem ok5 (n:Nat):FSound Tryz.prog GI 5 (fs5 n):=gd UrO n (Uot n) Tryz.func5 (.cons (Uot n) t5 (f5 n) (fun K _ _ _ _=>(Jkq (c:=Jll Tryz.f5) (by kernel_rfl) (pa5 n) K).trans (by kernel_rfl)) .nil) (by kernel_rfl)
end
end Go.Proofs.YtmgfmlhdnadglaaGreatDoor
set_option linter.unusedVariables false
set_option linter.unusedSimpArgs false
namespace Go.Proofs.YtmgfmlhdnadglaaGreatDoor
open Go Th Go.Proofs
variable {R:Type}
theorem UqF {cols:Int} {rows:List RowT} {mult:List (List UInt8)} (h:UgQ cols rows mult=0):Ugp cols rows=0∧okRM cols rows mult∧∃ x,UaY (zsR rows mult) ([],0)=some x∧Uf1 rows mult x=true:=by
 unfold UgQ at h
 by_cases h1:Ugp cols rows=0
 · rw [if_neg (by simp [h1])] at h
   cases h2:Ugr mult with
   | false=>rw [h2,if_pos rfl] at h; cases h
   | true =>
    rw [h2,if_neg (by decide)] at h
    by_cases h3:mult.length=rows.length
    · rw [if_neg (by simp [h3])] at h
      refine ⟨h1,UlQ h1 h2 h3,?_⟩
      cases hx:UaY (zsR rows mult) ([],0) with
      | none=>rw [hx] at h; cases h
      | some x =>
       rw [hx] at h
       refine ⟨x,rfl,?_⟩
       unfold UqG at h
       dsimp only at h
       cases hb:Uf1 rows mult x with
       | true=>rfl
       | false=>rw [hb,if_neg (by decide)] at h; cases h
    · rw [if_pos h3] at h; cases h
 · rw [if_pos h1] at h; cases h
theorem Uc8 (n:Nat) (hn:10 ^ 1000≤n) (cols:Int) (rows:List RowT) (mult w:List (List UInt8)) (k:Bool→Option R):p5 n cols (rws rows) (sl mult) (sl w) k=k true:=by
 have hN:=UaX (Ub9 hn)
 have hA:=fun k=>UqX (R:=R) n (Nat.le_trans (by decide) hN) k
 have h1:=fun k=>Ute (R:=R) n hN cols rows k
 have h2:=fun k=>Ugf (R:=R) n hN mult k
 have h2':=fun k=>Ugf (R:=R) n hN w k
 unfold p5
 rw [h1]
 cases h3:Utc rows with
 | false=>simp only [UrW,Uat,hA]
 | true =>
  simp only [UtT,Uak,h2]
  cases h4:Ud9 mult with
  | false=>simp only [UrW,Uat,hA]
  | true =>
   simp only [UtT,Uak,h2']
   cases h5:Ud9 w with
   | false=>simp only [UrW,Uat,hA]
   | true =>
    have g1:=fun k=>UlH (R:=R) n hn cols rows mult (UoG h3) (Ufy h4) k
    have g2:=fun k=>Una (R:=R) n hn cols rows w (UoG h3) (Ufy h5) k
    simp only [UtT,Uak,g1]
    by_cases h6:UgQ cols rows mult=0
    · have e6:(UgQ cols rows mult != 0)=false:=by rw [h6]; rfl
      simp only [e6,Uak,UqY,g2]
      obtain ⟨s1,s2,x,s3,s4⟩:=UqF h6
      unfold UqQ
      by_cases h7:Ujn cols rows w=0
      · rw [if_neg (by simp [h7])]
        have s5:=Uf2 s2 (UlR (Ufy h5) h7) s3 s4
        cases h8:hM rows w with
        | none=>simp only [Uvg,UrV,Uat,hA]
        | some b =>
         cases b with
         | true=>exact absurd h8 s5
         | false=>simp only [Uvg,Ugn,Uak,UrW,Uat,hA]
      · rw [if_pos h7]
        have e7:(Ujn cols rows w != 0)=true:=by simp [h7]
        simp only [e7,Uat,hA]
    · have e6:(UgQ cols rows mult != 0)=true:=by simp [h6]
      simp only [e6,Uat,Uak,hA]
theorem Uc7 {H:Type} {enc:TypeId × Value→H} {spare:Nat→Bool} {held:Bool} (W:World) (h:Tab W) {c0:Array Value} {x1 x2:Option Addr} {l1 p1 l2 p2:Nat} {d0 d1 d2:DataW H} {q0 q1 q2:List MemPlace}
 (h0:DataW.Trod enc Tryz.prog W 0 spare held 24 (.agg c0) d0 q0) (h1:DataW.Trod enc Tryz.prog W 0 spare held 25 (.slice x1 l1 p1) d1 q1) (h2:DataW.Trod enc Tryz.prog W 0 spare held 25 (.slice x2 l2 p2) d2 q2) (hlt:∀ x∈q0++q1++q2,x.block<W.heap.size) :
 Calls Tryz.prog 5 #[.agg c0,.slice x1 l1 p1,.slice x2 l2 p2] W fun e w'=>e=.returned (.bool true)∧RowKit.Below W.heap.size W w':=by
 obtain ⟨cols,rows,r0⟩:=UpL (F:=Fp (q0++q1++q2)) h0 (UqI fun x hx=>List.mem_append_left _ (List.mem_append_left _ hx))
 obtain ⟨mult,r1⟩:=Uht (F:=Fp (q0++q1++q2)) h1 (UqI fun x hx=>List.mem_append_left _ (List.mem_append_right _ hx))
 obtain ⟨w,r2⟩:=Uht (F:=Fp (q0++q1++q2)) h2 (UqI fun x hx=>List.mem_append_right _ hx)
 obtain ⟨n,hn⟩:∃ n:Nat,10 ^ 1000≤n:=⟨_,Nat.le_refl _⟩
 refine Unb (ok5 n) (args:=[.agg [.v (.int .i64 cols),.sh (rws rows)],.sh (sl mult),.sh (sl w)]) h (q0++q1++q2) hlt (.cons (B:=[]) (.p r0) (.cons (B:=[]) (.p r1) (.cons (B:=[]) (.p r2) .nil))) ?_
 show p5 n cols (rws rows) (sl mult) (sl w) _=_
 rw [Uc8 n hn cols rows mult w]; rfl
end Go.Proofs.YtmgfmlhdnadglaaGreatDoor
namespace Go.Proofs.YtmgfmlhdnadglaaGreatDoor.certifySound
open Go.ChangeShapes Go.WideShapes Go.ChangeAt Go.RowKit
open Go.ChangeMaps (open_string shut_string)
theorem own:ownKnob Tryz.prog.godebug=none:=by kernel_rfl
theorem laidOut:laidOutB Tryz.prog=true:=by kernel_rfl
set_option maxRecDepth 100000 in
theorem lifted (os:Os) (started:os.Started) (H:Type) (enc:TypeId × Value→H) :
 ReturnsInHanded {} Tryz.checked os 5 .any (fun w args=>(Rows.certifySoundSpec.pre enc Tryz.prog Tryz.f5 Rows.certifySoundRow.domain false w args∧laidMetH Tryz.prog Ub7 w)∧sizedMet enc Tryz.prog Tryz.f5 (OpenSpec.ofChange Rows.certifySoundSpec) false w args)
  (Rows.certifySoundSpec.post enc Tryz.prog Tryz.f5 false true false false):=by
 refine returnsInHanded_of_change_and (C:=Tryz.checked) (X:=fun w _=>laidMetH Tryz.prog Ub7 w) (fun _ _ _ hh h=>h.of_heap hh) own started (by kernel_rfl) Tryz.func5
  (ChangeSpec.witness_shaped (enc:=enc) (C:=Tryz.checked) (os:=os) (X:=fun w _=>laidMetH Tryz.prog Ub7 w) false (World.laidAll Tryz.prog os Ub7) #[.agg #[.int .i64 0,.slice none 0 0],.slice none 0 0,.slice none 0 0] 8 (World.laidAll_os _ _ _)
    (World.shaped_of_ZipB (by kernel_rfl) (by kernel_rfl)) (by kernel_rfl) (by kernel_rfl) (by kernel_rfl)
    (by rw [MakeChecks.laidMetH_plain _ _ _ (by kernel_rfl)]; exact laidMet_laidAll _ (by kernel_rfl) (by kernel_rfl))) ?_
 intro W base args ds gs before hval0 hW hcnd hsz0 hL _
 have hval:∀ (j:Nat) t v,Tryz.f5.params[j]? = some t→args[j]? = some v→Value.okWide Tryz.prog W .any base t v:=hval0
 have hW':=hW
 obtain ⟨p,q,hA0,hV,rfl,hfz,hnd⟩:=hW
 have hA:DataW.TrodAll enc Tryz.prog W 0 (fun _=>true) true Tryz.f5.params.toList args.toList ds p:=hA0
 rw [Tryz.params5] at hA hval
 obtain ⟨v0,vs0,d0,ds0,p0,q0,hargs,rfl,rfl,h0,r0⟩:=trodAll_cons hA
 obtain ⟨v1,vs1,d1,ds1,p1,q1,rfl,rfl,rfl,h1,r1⟩:=trodAll_cons r0
 obtain ⟨v2,vs2,d2,ds2,p2,q2,rfl,rfl,rfl,h2,r2⟩:=trodAll_cons r1
 obtain ⟨rfl,rfl,rfl⟩:=trodAll_nil r2
 obtain rfl:args=#[v0,v1,v2]:=by cases args; simp_all
 obtain ⟨rfl,rfl⟩:=trodVars_none hV
 obtain ⟨cs0,rfl,_⟩:=okWide_struct Tryz.underlying24 (hval 0 24 v0 rfl rfl)
 have h0k:=h0
 obtain ⟨sa1,sl1,sc1,rfl⟩:=okWide_slice Tryz.underlying25 (hval 1 25 v1 rfl rfl)
 have h1k:=h1
 obtain ⟨sa2,sl2,sc2,rfl⟩:=okWide_slice Tryz.underlying25 (hval 2 25 v2 rfl rfl)
 have h2k:=h2
 have hlt:∀ x∈p0++p1++p2,x.block<W.heap.size:=fun x hx=>by simpa using hW'.lt x (by simpa using hx)
 have hcall:=Uc7 W (UnI hL) h0 h1 h2 hlt
 clear hA0 hval0 hsz0
 refine hcall.mono fun e W' ⟨he,bel⟩=>?_
 subst he
 exact ⟨_,rfl,_,_,_,[],_,[],hW',trodAll_mk1 (shut_bool Tryz.underlying4 _),(trodAll_cons_mk (Below.trod laidOut (by kernel_rfl) (of_decide_eq_true (by kernel_rfl)) h0k bel (fun x hx=>hlt x (by simp [hx]))) (trodAll_cons_mk (Below.trod laidOut (by kernel_rfl) (of_decide_eq_true (by kernel_rfl)) h1k bel (fun x hx=>hlt x (by simp [hx]))) (trodAll_cons_mk (Below.trod laidOut (by kernel_rfl) (of_decide_eq_true (by kernel_rfl)) h2k bel (fun x hx=>hlt x (by simp [hx]))) trodAll_mk0))),rfl,bel.frame _,fun h=>by cases h⟩
theorem over:Rows.CertifySoundSaid :=
 OpenClaim.holds_of_wide 5 Tryz.f5 rfl rfl rfl rfl rfl rfl rfl ⟨rfl,rfl,rfl,rfl,rfl⟩ rfl rfl rfl rfl rfl (by kernel_rfl) Tryz.func5 (by kernel_rfl)
  (of_decide_eq_true (by kernel_rfl)) (by unfold Func.isWrapper; first | (rw [if_pos (by decide +kernel)]; kernel_rfl) | (rw [if_neg (by decide +kernel)]; exact ⟨rfl,rfl⟩))
  (fun os started H enc _=>lifted os started H enc)
theorem proved:Rows.CertifySoundCardSaid :=
 Claim7.holds_tied_plain_at .later [] [.data,.data,.data,.data,.sentinel,.sentinel,.pinned] true (true, "f7700371c8b5fddb2e0cf9d5ff2e169200c13f28753ab1d3c19509a013739147") true over (fun _ h=>by cases h) (by kernel_rfl) (fun _ h=>by cases h) certifySound_row_tie rfl ⟨rfl,rfl⟩ (by kernel_rfl) rfl
  (fun f fn hf hfn=>by
    obtain rfl:f=5:=Option.some.inj ((show Tryz.prog.funcNamed "cellarer/cellarerlaw08.CertifySound" = some 5 by kernel_rfl).symm.trans hf) |>.symm
    obtain rfl:fn=Tryz.f5:=(Option.some.inj (Tryz.func5.symm.trans hfn)).symm
    exact ⟨by kernel_rfl,fun j t ht=>by
     rw [Tryz.params5] at ht
     have hm:t∈[24,25,25]:=by simpa using Array.mem_of_getElem? ht
     have hall:([24,25,25].all fun u=>!Tryz.prog.wantsStandIn u)=true:=by kernel_rfl
     exact (show Tryz.prog.wantsStandIn t=false by simpa using List.all_eq_true.1 hall t hm)⟩)
  (by kernel_rfl)
end Go.Proofs.YtmgfmlhdnadglaaGreatDoor.certifySound
namespace Go.Proofs.YtmgfmlhdnadglaaGreatDoor
theorem certifySound_holds:Rows.CertifySoundCardSaid:=certifySound.proved
end Go.Proofs.YtmgfmlhdnadglaaGreatDoor
