/- Proved: the law CertifyBest returns true at all its arguments (no further conditions): the row and what it stands on. -/
import Derived.Test.YtmgfmlhdnadglaaGreatDoorMCertifyBest0
import Derived.Test.YtmgfmlhdnadglaaGreatDoorMCertifyBest1
import Derived.Test.YtmgfmlhdnadglaaGreatDoorT2
import Derived.Test.YtmgfmlhdnadglaaGreatDoorT1
import Derived.Test.YtmgfmlhdnadglaaGreatDoorRows
import Derived.WalkKit
import Derived.ProofKit
import Derived.LaidMore
import Derived.Lay
import Derived.Lib.LaidTab
import Derived.Test.YtmgfmlhdnadglaaGreatDoorCards
import Derived.Test.YtmgfmlhdnadglaaGreatDoorTie
import Derived.OpenShut
import Derived.ShutString
import Derived.ChangeOld
import Derived.Below
import Derived.SizedLaws
import Derived.SevenTiedAt
import Derived.Stop.Joined
import Derived.Deep.Strs
import Derived.Carry
set_option linter.unusedVariables false
set_option maxRecDepth 100000
namespace Go.Proofs.YtmgfmlhdnadglaaGreatDoor
open Go Th Go.Proofs
noncomputable section
variable {R:Type}
def Uac:Ann:={ loops:=[(4,ids [1,31,32,33],ids [1,2]),(10,ids [1,42,43,44],ids [1,2])],cuts:=[(3,ids [1],ids [2]),(17,ids [1],ids [2]),(23,ids [1],ids [2])],frz:=[],rm:=[.id] }
abbrev Ue2 (n:Nat):Env:=eC 76 (UyX n) (eC 66 (Uws n) (eC 65 (UvL n) (eC 59 (UyR n) (eC 35 (UyK n) (eC 29 (UyJ n) (eC 17 (Uwk n) eN))))))
theorem Ue3 (n:Nat):EnvOK Tryz.prog GI (Ue2 n):=.cons (.cons (.cons (.cons (.cons (.cons (.cons (.nil) (Uzk n)) (UAX n)) (UAY n)) (UA5 n)) (Uxb n)) (Uzs n)) (UBa n)
def UmG (n:Nat) (l0:Int→LP→LP→LP→LP→Bool→Int→LP→LP→LP→Int→Int→O R) (x1:Int) (x2 x3 x4 x5:LP) (x6:Bool) (x7:Int) (x8 x9 x10:LP) (x11 x12:Int) (k0:Int→LP→LP→LP→LP→Bool→Int→LP→LP→Int→O R) (k1:Int→LP→LP→LP→LP→Bool→Int→LP→LP→O R):O R :=
 bif (decide (x12<x11)) then (bif (inR x12 ((x10).length)) then (Jkr ((x10).getD ((x12:Int).toNat) (.v (.bool false))) fun e13=>p66 n e13 (fun y14=>bif (!y14) then (k0 x1 x2 x3 x4 x5 x6 x7 x8 x9 3) else (l0 x1 x2 x3 x4 x5 x6 x7 x8 x9 x10 x11 (IntKind.i64.wrap (x12 + 1))))) else none) else (k1 x1 x2 x3 x4 x5 x6 x7 x8 x9)
def Uhl (n:Nat):Nat→Int→LP→LP→LP→LP→Bool→Int→LP→LP→LP→Int→Int→(Int→LP→LP→LP→LP→Bool→Int→LP→LP→Int→O R)→(Int→LP→LP→LP→LP→Bool→Int→LP→LP→O R)→O R
 | 0,_,_,_,_,_,_,_,_,_,_,_,_,_,_=>none
 | m + 1,x1,x2,x3,x4,x5,x6,x7,x8,x9,x10,x11,x12,k0,k1=>UmG n (fun x1 x2 x3 x4 x5 x6 x7 x8 x9 x10 x11 x12=>Uhl n m x1 x2 x3 x4 x5 x6 x7 x8 x9 x10 x11 x12 k0 k1) x1 x2 x3 x4 x5 x6 x7 x8 x9 x10 x11 x12 k0 k1
def UuI (n:Nat) (x1:Int) (x2 x3 x4 x5:LP) (x6:Bool) (x7:Int) (x8 x9 x10:LP) (x11 x12:Int) (k0:Int→LP→LP→LP→LP→Bool→Int→LP→LP→Int→O R) (k1:Int→LP→LP→LP→LP→Bool→Int→LP→LP→O R):O R:=Uhl n n x1 x2 x3 x4 x5 x6 x7 x8 x9 x10 x11 x12 k0 k1
def Uje (n:Nat) (l0:Int→LP→LP→LP→LP→Bool→Int→LP→LP→LP→Int→Int→O R) (x1:Int) (x2 x3 x4 x5:LP) (x6:Bool) (x7:Int) (x8 x9 x10:LP) (x11 x12:Int) (k0:Int→LP→LP→LP→LP→Bool→Int→LP→LP→Int→O R) (k1:Int→LP→LP→LP→LP→Bool→Int→LP→LP→O R):O R :=
 bif (decide (x12<x11)) then (bif (inR x12 ((x10).length)) then (Jkr ((x10).getD ((x12:Int).toNat) (.v (.bool false))) fun e13=>bif (((e13).length:Int) != x1) then (k0 x1 x2 x3 x4 x5 x6 x7 x8 x9 6) else (l0 x1 x2 x3 x4 x5 x6 x7 x8 x9 x10 x11 (IntKind.i64.wrap (x12 + 1)))) else none) else (k1 x1 x2 x3 x4 x5 x6 x7 x8 x9)
def Ufx (n:Nat):Nat→Int→LP→LP→LP→LP→Bool→Int→LP→LP→LP→Int→Int→(Int→LP→LP→LP→LP→Bool→Int→LP→LP→Int→O R)→(Int→LP→LP→LP→LP→Bool→Int→LP→LP→O R)→O R
 | 0,_,_,_,_,_,_,_,_,_,_,_,_,_,_=>none
 | m + 1,x1,x2,x3,x4,x5,x6,x7,x8,x9,x10,x11,x12,k0,k1=>Uje n (fun x1 x2 x3 x4 x5 x6 x7 x8 x9 x10 x11 x12=>Ufx n m x1 x2 x3 x4 x5 x6 x7 x8 x9 x10 x11 x12 k0 k1) x1 x2 x3 x4 x5 x6 x7 x8 x9 x10 x11 x12 k0 k1
def Ury (n:Nat) (x1:Int) (x2 x3 x4 x5:LP) (x6:Bool) (x7:Int) (x8 x9 x10:LP) (x11 x12:Int) (k0:Int→LP→LP→LP→LP→Bool→Int→LP→LP→Int→O R) (k1:Int→LP→LP→LP→LP→Bool→Int→LP→LP→O R):O R:=Ufx n n x1 x2 x3 x4 x5 x6 x7 x8 x9 x10 x11 x12 k0 k1
def Uhk (n:Nat) (x1:Int) (x2 x3 x4 x5:LP) (x6:Bool) (x7:Int) (x8 x9:LP) (k0:Int→O R):O R :=
 p29 n x7 x8 x9 (fun y10 y11=>bif (y11 != 0) then (k0 y11) else (bif (!y10) then (k0 16) else (k0 0)))
def Uhj (n:Nat) (x1:Int) (x2 x3 x4 x5:LP) (x6:Bool) (x7:Int) (x8 x9:LP) (k0:Int→O R):O R :=
 bif (decide (((x4).length:Int)>0)) then (bif (inR 0 ((x4).length)) then (Jkr ((x4).getD ((0:Int).toNat) (.v (.bool false))) fun e10=>p17 n x1 x2 e10 (fun y11 y12=>bif (y12 != 0) then (k0 y12) else (bif (!y11) then (k0 15) else (Uhk n x1 x2 x3 x4 x5 x6 x7 x8 x9 (fun y13=>k0 y13))))) else none) else (Uhk n x1 x2 x3 x4 x5 x6 x7 x8 x9 (fun y14=>k0 y14))
def UpB (n:Nat) (x1:Int) (x2 x3 x4 x5:LP) (x6:Bool) (x7:Int) (x8 x9:LP) (k0:Int→O R):O R :=
 UuI n x1 x2 x3 x4 x5 x6 x7 x8 x9 x4 ((x4).length:Int) 0 (fun y10 y11 y12 y13 y14 y15 y16 y17 y18 y19=>k0 y19) (fun y20 y21 y22 y23 y24 y25 y26 y27 y28=>Ury n y20 y21 y22 y23 y24 y25 y26 y27 y28 y23 ((y23).length:Int) 0 (fun y29 y30 y31 y32 y33 y34 y35 y36 y37 y38=>k0 y38) (fun y39 y40 y41 y42 y43 y44 y45 y46 y47=>bif y44 then (bif (bif true then (((y43).length:Int) != ((y40).length:Int)) else false) then (k0 6) else (Uhj n y39 y40 y41 y42 y43 y44 y45 y46 y47 (fun y48=>k0 y48))) else (Uhj n y39 y40 y41 y42 y43 y44 y45 y46 y47 (fun y49=>k0 y49))))
def p32 (n:Nat) (x1:Int) (x2 x3 x4 x5:LP) (x6:Bool) (x7:Int) (x8 x9:LP) (k0:Int→O R):O R :=
 p65 n x1 x2 (fun y10=>bif (y10 != 0) then (k0 3) else (p76 n x1 x3 (fun y11=>bif (bif false then true else (!y11)) then (k0 3) else (p66 n x5 (fun y12=>bif (bif false then true else (!y12)) then (k0 3) else (UpB n x1 x2 x3 x4 x5 x6 x7 x8 x9 (fun y13=>k0 y13)))))))
def UdW (n:Nat) (l0:Int→LP→LP→LP→LP→Bool→Int→LP→LP→LP→LP→LP→Int→Int→O R) (x1:Int) (x2 x3 x4 x5:LP) (x6:Bool) (x7:Int) (x8 x9 x10 x11 x12:LP) (x13 x14:Int) (k0:Int→LP→LP→LP→LP→Bool→Int→LP→LP→LP→LP→Int→O R) (k1:Int→LP→LP→LP→LP→Bool→Int→LP→LP→LP→LP→O R):O R :=
 bif (decide (x14<x13)) then (bif (inR x14 ((x12).length)) then (Jkr ((x12).getD ((x14:Int).toNat) (.v (.bool false))) fun e15=>p66 n e15 (fun y16=>bif (!y16) then (k0 x1 x2 x3 x4 x5 x6 x7 x8 x9 x10 x11 3) else (l0 x1 x2 x3 x4 x5 x6 x7 x8 x9 x10 x11 x12 x13 (IntKind.i64.wrap (x14 + 1))))) else none) else (k1 x1 x2 x3 x4 x5 x6 x7 x8 x9 x10 x11)
def Uct (n:Nat):Nat→Int→LP→LP→LP→LP→Bool→Int→LP→LP→LP→LP→LP→Int→Int→(Int→LP→LP→LP→LP→Bool→Int→LP→LP→LP→LP→Int→O R)→(Int→LP→LP→LP→LP→Bool→Int→LP→LP→LP→LP→O R)→O R
 | 0,_,_,_,_,_,_,_,_,_,_,_,_,_,_,_,_=>none
 | m + 1,x1,x2,x3,x4,x5,x6,x7,x8,x9,x10,x11,x12,x13,x14,k0,k1=>UdW n (fun x1 x2 x3 x4 x5 x6 x7 x8 x9 x10 x11 x12 x13 x14=>Uct n m x1 x2 x3 x4 x5 x6 x7 x8 x9 x10 x11 x12 x13 x14 k0 k1) x1 x2 x3 x4 x5 x6 x7 x8 x9 x10 x11 x12 x13 x14 k0 k1
def Ujf (n:Nat) (x1:Int) (x2 x3 x4 x5:LP) (x6:Bool) (x7:Int) (x8 x9 x10 x11 x12:LP) (x13 x14:Int) (k0:Int→LP→LP→LP→LP→Bool→Int→LP→LP→LP→LP→Int→O R) (k1:Int→LP→LP→LP→LP→Bool→Int→LP→LP→LP→LP→O R):O R:=Uct n n x1 x2 x3 x4 x5 x6 x7 x8 x9 x10 x11 x12 x13 x14 k0 k1
def UcN (n:Nat) (l0:Int→LP→LP→LP→LP→Bool→Int→LP→LP→LP→LP→LP→Int→Int→O R) (x1:Int) (x2 x3 x4 x5:LP) (x6:Bool) (x7:Int) (x8 x9 x10 x11 x12:LP) (x13 x14:Int) (k0:Int→LP→LP→LP→LP→Bool→Int→LP→LP→LP→LP→Int→O R) (k1:Int→LP→LP→LP→LP→Bool→Int→LP→LP→LP→LP→O R):O R :=
 bif (decide (x14<x13)) then (bif (inR x14 ((x12).length)) then (Jkr ((x12).getD ((x14:Int).toNat) (.v (.bool false))) fun e15=>bif (((e15).length:Int) != x1) then (k0 x1 x2 x3 x4 x5 x6 x7 x8 x9 x10 x11 6) else (l0 x1 x2 x3 x4 x5 x6 x7 x8 x9 x10 x11 x12 x13 (IntKind.i64.wrap (x14 + 1)))) else none) else (k1 x1 x2 x3 x4 x5 x6 x7 x8 x9 x10 x11)
def UbC (n:Nat):Nat→Int→LP→LP→LP→LP→Bool→Int→LP→LP→LP→LP→LP→Int→Int→(Int→LP→LP→LP→LP→Bool→Int→LP→LP→LP→LP→Int→O R)→(Int→LP→LP→LP→LP→Bool→Int→LP→LP→LP→LP→O R)→O R
 | 0,_,_,_,_,_,_,_,_,_,_,_,_,_,_,_,_=>none
 | m + 1,x1,x2,x3,x4,x5,x6,x7,x8,x9,x10,x11,x12,x13,x14,k0,k1=>UcN n (fun x1 x2 x3 x4 x5 x6 x7 x8 x9 x10 x11 x12 x13 x14=>UbC n m x1 x2 x3 x4 x5 x6 x7 x8 x9 x10 x11 x12 x13 x14 k0 k1) x1 x2 x3 x4 x5 x6 x7 x8 x9 x10 x11 x12 x13 x14 k0 k1
def Ugq (n:Nat) (x1:Int) (x2 x3 x4 x5:LP) (x6:Bool) (x7:Int) (x8 x9 x10 x11 x12:LP) (x13 x14:Int) (k0:Int→LP→LP→LP→LP→Bool→Int→LP→LP→LP→LP→Int→O R) (k1:Int→LP→LP→LP→LP→Bool→Int→LP→LP→LP→LP→O R):O R:=UbC n n x1 x2 x3 x4 x5 x6 x7 x8 x9 x10 x11 x12 x13 x14 k0 k1
def Ucs (n:Nat) (x1:Int) (x2 x3 x4 x5:LP) (x6:Bool) (x7:Int) (x8 x9 x10 x11:LP) (k0:Int→O R):O R :=
 p35 n x7 x8 x9 x10 x11 (fun y12 y13=>bif (y13 != 0) then (k0 y13) else (bif (!y12) then (k0 16) else (k0 0)))
def Ucr (n:Nat) (x1:Int) (x2 x3 x4 x5:LP) (x6:Bool) (x7:Int) (x8 x9 x10 x11:LP) (k0:Int→O R):O R :=
 bif (decide (((x4).length:Int)>0)) then (bif (inR 0 ((x4).length)) then (Jkr ((x4).getD ((0:Int).toNat) (.v (.bool false))) fun e12=>p17 n x1 x2 e12 (fun y13 y14=>bif (y14 != 0) then (k0 y14) else (bif (!y13) then (k0 15) else (Ucs n x1 x2 x3 x4 x5 x6 x7 x8 x9 x10 x11 (fun y15=>k0 y15))))) else none) else (Ucs n x1 x2 x3 x4 x5 x6 x7 x8 x9 x10 x11 (fun y16=>k0 y16))
def Ufw (n:Nat) (x1:Int) (x2 x3 x4 x5:LP) (x6:Bool) (x7:Int) (x8 x9 x10 x11:LP) (k0:Int→O R):O R :=
 Ujf n x1 x2 x3 x4 x5 x6 x7 x8 x9 x10 x11 x4 ((x4).length:Int) 0 (fun y12 y13 y14 y15 y16 y17 y18 y19 y20 y21 y22 y23=>k0 y23) (fun y24 y25 y26 y27 y28 y29 y30 y31 y32 y33 y34=>Ugq n y24 y25 y26 y27 y28 y29 y30 y31 y32 y33 y34 y27 ((y27).length:Int) 0 (fun y35 y36 y37 y38 y39 y40 y41 y42 y43 y44 y45 y46=>k0 y46) (fun y47 y48 y49 y50 y51 y52 y53 y54 y55 y56 y57=>bif y52 then (bif (bif true then (((y51).length:Int) != ((y48).length:Int)) else false) then (k0 6) else (Ucr n y47 y48 y49 y50 y51 y52 y53 y54 y55 y56 y57 (fun y58=>k0 y58))) else (Ucr n y47 y48 y49 y50 y51 y52 y53 y54 y55 y56 y57 (fun y59=>k0 y59))))
def Urz (n:Nat) (x1:Int) (x2 x3 x4 x5:LP) (x6:Bool) (x7:Int) (x8 x9 x10 x11:LP) (k0:Int→O R):O R :=
 p65 n x1 x2 (fun y12=>bif (y12 != 0) then (k0 3) else (p76 n x1 x3 (fun y13=>bif (bif false then true else (!y13)) then (k0 3) else (p66 n x5 (fun y14=>bif (bif false then true else (!y14)) then (k0 3) else (Ufw n x1 x2 x3 x4 x5 x6 x7 x8 x9 x10 x11 (fun y15=>k0 y15)))))))
def Ugr (n:Nat) (l0:Int→LP→LP→LP→LP→Bool→LP→Int→LP→LP→LP→Int→Int→O R) (x1:Int) (x2 x3 x4 x5:LP) (x6:Bool) (x7:LP) (x8:Int) (x9 x10 x11:LP) (x12 x13:Int) (k0:Int→LP→LP→LP→LP→Bool→LP→Int→LP→LP→Int→O R) (k1:Int→LP→LP→LP→LP→Bool→LP→Int→LP→LP→O R):O R :=
 bif (decide (x13<x12)) then (bif (inR x13 ((x11).length)) then (Jkr ((x11).getD ((x13:Int).toNat) (.v (.bool false))) fun e14=>p66 n e14 (fun y15=>bif (!y15) then (k0 x1 x2 x3 x4 x5 x6 x7 x8 x9 x10 3) else (l0 x1 x2 x3 x4 x5 x6 x7 x8 x9 x10 x11 x12 (IntKind.i64.wrap (x13 + 1))))) else none) else (k1 x1 x2 x3 x4 x5 x6 x7 x8 x9 x10)
def UdX (n:Nat):Nat→Int→LP→LP→LP→LP→Bool→LP→Int→LP→LP→LP→Int→Int→(Int→LP→LP→LP→LP→Bool→LP→Int→LP→LP→Int→O R)→(Int→LP→LP→LP→LP→Bool→LP→Int→LP→LP→O R)→O R
 | 0,_,_,_,_,_,_,_,_,_,_,_,_,_,_,_=>none
 | m + 1,x1,x2,x3,x4,x5,x6,x7,x8,x9,x10,x11,x12,x13,k0,k1=>Ugr n (fun x1 x2 x3 x4 x5 x6 x7 x8 x9 x10 x11 x12 x13=>UdX n m x1 x2 x3 x4 x5 x6 x7 x8 x9 x10 x11 x12 x13 k0 k1) x1 x2 x3 x4 x5 x6 x7 x8 x9 x10 x11 x12 x13 k0 k1
def Un0 (n:Nat) (x1:Int) (x2 x3 x4 x5:LP) (x6:Bool) (x7:LP) (x8:Int) (x9 x10 x11:LP) (x12 x13:Int) (k0:Int→LP→LP→LP→LP→Bool→LP→Int→LP→LP→Int→O R) (k1:Int→LP→LP→LP→LP→Bool→LP→Int→LP→LP→O R):O R:=UdX n n x1 x2 x3 x4 x5 x6 x7 x8 x9 x10 x11 x12 x13 k0 k1
def Uei (n:Nat) (l0:Int→LP→LP→LP→LP→Bool→LP→Int→LP→LP→LP→Int→Int→O R) (x1:Int) (x2 x3 x4 x5:LP) (x6:Bool) (x7:LP) (x8:Int) (x9 x10 x11:LP) (x12 x13:Int) (k0:Int→LP→LP→LP→LP→Bool→LP→Int→LP→LP→Int→O R) (k1:Int→LP→LP→LP→LP→Bool→LP→Int→LP→LP→O R):O R :=
 bif (decide (x13<x12)) then (bif (inR x13 ((x11).length)) then (Jkr ((x11).getD ((x13:Int).toNat) (.v (.bool false))) fun e14=>bif (((e14).length:Int) != x1) then (k0 x1 x2 x3 x4 x5 x6 x7 x8 x9 x10 6) else (l0 x1 x2 x3 x4 x5 x6 x7 x8 x9 x10 x11 x12 (IntKind.i64.wrap (x13 + 1)))) else none) else (k1 x1 x2 x3 x4 x5 x6 x7 x8 x9 x10)
def UcO (n:Nat):Nat→Int→LP→LP→LP→LP→Bool→LP→Int→LP→LP→LP→Int→Int→(Int→LP→LP→LP→LP→Bool→LP→Int→LP→LP→Int→O R)→(Int→LP→LP→LP→LP→Bool→LP→Int→LP→LP→O R)→O R
 | 0,_,_,_,_,_,_,_,_,_,_,_,_,_,_,_=>none
 | m + 1,x1,x2,x3,x4,x5,x6,x7,x8,x9,x10,x11,x12,x13,k0,k1=>Uei n (fun x1 x2 x3 x4 x5 x6 x7 x8 x9 x10 x11 x12 x13=>UcO n m x1 x2 x3 x4 x5 x6 x7 x8 x9 x10 x11 x12 x13 k0 k1) x1 x2 x3 x4 x5 x6 x7 x8 x9 x10 x11 x12 x13 k0 k1
def UmF (n:Nat) (x1:Int) (x2 x3 x4 x5:LP) (x6:Bool) (x7:LP) (x8:Int) (x9 x10 x11:LP) (x12 x13:Int) (k0:Int→LP→LP→LP→LP→Bool→LP→Int→LP→LP→Int→O R) (k1:Int→LP→LP→LP→LP→Bool→LP→Int→LP→LP→O R):O R:=UcO n n x1 x2 x3 x4 x5 x6 x7 x8 x9 x10 x11 x12 x13 k0 k1
def UdV (n:Nat) (x1:Int) (x2 x3 x4 x5:LP) (x6:Bool) (x7:LP) (x8:Int) (x9 x10:LP) (k0:Int→O R):O R :=
 p59 n x7 x8 x9 x10 (fun y11 y12=>bif (y12 != 0) then (k0 y12) else (bif (!y11) then (k0 16) else (k0 0)))
def UdU (n:Nat) (x1:Int) (x2 x3 x4 x5:LP) (x6:Bool) (x7:LP) (x8:Int) (x9 x10:LP) (k0:Int→O R):O R :=
 bif (decide (((x4).length:Int)>0)) then (bif (inR 0 ((x4).length)) then (Jkr ((x4).getD ((0:Int).toNat) (.v (.bool false))) fun e11=>p17 n x1 x2 e11 (fun y12 y13=>bif (y13 != 0) then (k0 y13) else (bif (!y12) then (k0 15) else (UdV n x1 x2 x3 x4 x5 x6 x7 x8 x9 x10 (fun y14=>k0 y14))))) else none) else (UdV n x1 x2 x3 x4 x5 x6 x7 x8 x9 x10 (fun y15=>k0 y15))
def Ujd (n:Nat) (x1:Int) (x2 x3 x4 x5:LP) (x6:Bool) (x7:LP) (x8:Int) (x9 x10:LP) (k0:Int→O R):O R :=
 Un0 n x1 x2 x3 x4 x5 x6 x7 x8 x9 x10 x4 ((x4).length:Int) 0 (fun y11 y12 y13 y14 y15 y16 y17 y18 y19 y20 y21=>k0 y21) (fun y22 y23 y24 y25 y26 y27 y28 y29 y30 y31=>UmF n y22 y23 y24 y25 y26 y27 y28 y29 y30 y31 y25 ((y25).length:Int) 0 (fun y32 y33 y34 y35 y36 y37 y38 y39 y40 y41 y42=>k0 y42) (fun y43 y44 y45 y46 y47 y48 y49 y50 y51 y52=>bif y48 then (bif (bif true then (((y47).length:Int) != ((y44).length:Int)) else false) then (k0 6) else (UdU n y43 y44 y45 y46 y47 y48 y49 y50 y51 y52 (fun y53=>k0 y53))) else (UdU n y43 y44 y45 y46 y47 y48 y49 y50 y51 y52 (fun y54=>k0 y54))))
def UuJ (n:Nat) (x1:Int) (x2 x3 x4 x5:LP) (x6:Bool) (x7:LP) (x8:Int) (x9 x10:LP) (k0:Int→O R):O R :=
 p65 n x1 x2 (fun y11=>bif (y11 != 0) then (k0 3) else (p76 n x1 x3 (fun y12=>bif (bif false then true else (!y12)) then (k0 3) else (p66 n x5 (fun y13=>bif (bif false then true else (!y13)) then (k0 3) else (Ujd n x1 x2 x3 x4 x5 x6 x7 x8 x9 x10 (fun y14=>k0 y14)))))))
abbrev E32 (n:Nat):Code→Fr→Kc R→O R:=evC Tryz.prog (Ue2 n) Uac n (97,[])
noncomputable def Ukg:Code:=Jj4 (Jll Tryz.f32) [1,1]
abbrev UhF:Sl (List SV):=(.c (sBx 74 (cI (cH (cH (cH (cH (cB (.c (sP (JlJ 29 (.c (sFb (.c (Jlv .i64) (.c sSh .n))) (.c (sFb (.c sSh .n)) .n)))) .n)))))))) .n)
abbrev UhG:Sl (List SV):=(.c (sBx 74 (cI (cH (cH (cH (cH (cB (.c (sP (JlJ 35 (.c (sFb (.c (Jlv .i64) (.c sSh .n))) (.c (sFb (.c sSh .n)) (.c (sFb (.c sSh .n)) (.c (sFb (.c sSh .n)) .n)))))) .n)))))))) .n)
abbrev UhH:Sl (List SV):=(.c (sBx 74 (cI (cH (cH (cH (cH (cB (.c (sP (JlJ 59 (.c (sFb (.c sSh .n)) (.c (sFb (.c (Jlv .i64) (.c sSh .n))) (.c (sFb (.c sSh .n)) .n))))) .n)))))))) .n)
abbrev UlR (n:Nat) (K:Kc R):UhF.T (O R):=fun x1 x2 x3 x4 x5 x6 x7 x8 x9=>UpB n x1 x2 x3 x4 x5 x6 x7 x8 x9 (fun y1=>xC Uac 3 K .ret [vI y1])
abbrev UlS (n:Nat) (K:Kc R):UhG.T (O R):=fun x1 x2 x3 x4 x5 x6 x7 x8 x9 x10 x11=>Ufw n x1 x2 x3 x4 x5 x6 x7 x8 x9 x10 x11 (fun y1=>xC Uac 3 K .ret [vI y1])
abbrev UlT (n:Nat) (K:Kc R):UhH.T (O R):=fun x1 x2 x3 x4 x5 x6 x7 x8 x9 x10=>Ujd n x1 x2 x3 x4 x5 x6 x7 x8 x9 x10 (fun y1=>xC Uac 3 K .ret [vI y1])
noncomputable def UgP:Code:=Jj4 (Jll Tryz.f32) [1,1,1,1,1]
abbrev Uf4:Sl (List SV):=(.c (sBx 74 (cI (cH (cH (cH (cH (cB (.c (sP (JlJ 29 (.c (sFb (.c (Jlv .i64) (.c sSh .n))) (.c (sFb (.c sSh .n)) .n)))) .n)))))))) .n)
abbrev Uf5:Sl (List SV):=(.c (sBx 74 (cI (cH (cH (cH (cH (cB (.c (sP (JlJ 35 (.c (sFb (.c (Jlv .i64) (.c sSh .n))) (.c (sFb (.c sSh .n)) (.c (sFb (.c sSh .n)) (.c (sFb (.c sSh .n)) .n)))))) .n)))))))) .n)
abbrev Uf6:Sl (List SV):=(.c (sBx 74 (cI (cH (cH (cH (cH (cB (.c (sP (JlJ 59 (.c (sFb (.c sSh .n)) (.c (sFb (.c (Jlv .i64) (.c sSh .n))) (.c (sFb (.c sSh .n)) .n))))) .n)))))))) .n)
abbrev UiQ (n:Nat) (K:Kc R):Uf4.T (O R):=fun x1 x2 x3 x4 x5 x6 x7 x8 x9=>Uhj n x1 x2 x3 x4 x5 x6 x7 x8 x9 (fun y1=>xC Uac 17 K .ret [vI y1])
abbrev UiR (n:Nat) (K:Kc R):Uf5.T (O R):=fun x1 x2 x3 x4 x5 x6 x7 x8 x9 x10 x11=>Ucr n x1 x2 x3 x4 x5 x6 x7 x8 x9 x10 x11 (fun y1=>xC Uac 17 K .ret [vI y1])
abbrev UiS (n:Nat) (K:Kc R):Uf6.T (O R):=fun x1 x2 x3 x4 x5 x6 x7 x8 x9 x10=>UdU n x1 x2 x3 x4 x5 x6 x7 x8 x9 x10 (fun y1=>xC Uac 17 K .ret [vI y1])
noncomputable def UgQ:Code:=Jj4 (Jll Tryz.f32) [1,1,1,1,1,1]
abbrev Uf7:Sl (List SV):=(.c (sBx 74 (cI (cH (cH (cH (cH (cB (.c (sP (JlJ 29 (.c (sFb (.c (Jlv .i64) (.c sSh .n))) (.c (sFb (.c sSh .n)) .n)))) .n)))))))) .n)
abbrev Uf8:Sl (List SV):=(.c (sBx 74 (cI (cH (cH (cH (cH (cB (.c (sP (JlJ 35 (.c (sFb (.c (Jlv .i64) (.c sSh .n))) (.c (sFb (.c sSh .n)) (.c (sFb (.c sSh .n)) (.c (sFb (.c sSh .n)) .n)))))) .n)))))))) .n)
abbrev Uf9:Sl (List SV):=(.c (sBx 74 (cI (cH (cH (cH (cH (cB (.c (sP (JlJ 59 (.c (sFb (.c sSh .n)) (.c (sFb (.c (Jlv .i64) (.c sSh .n))) (.c (sFb (.c sSh .n)) .n))))) .n)))))))) .n)
abbrev UiT (n:Nat) (K:Kc R):Uf7.T (O R):=fun x1 x2 x3 x4 x5 x6 x7 x8 x9=>Uhk n x1 x2 x3 x4 x5 x6 x7 x8 x9 (fun y1=>xC Uac 23 K .ret [vI y1])
abbrev UiU (n:Nat) (K:Kc R):Uf8.T (O R):=fun x1 x2 x3 x4 x5 x6 x7 x8 x9 x10 x11=>Ucs n x1 x2 x3 x4 x5 x6 x7 x8 x9 x10 x11 (fun y1=>xC Uac 23 K .ret [vI y1])
abbrev UiV (n:Nat) (K:Kc R):Uf9.T (O R):=fun x1 x2 x3 x4 x5 x6 x7 x8 x9 x10=>UdV n x1 x2 x3 x4 x5 x6 x7 x8 x9 x10 (fun y1=>xC Uac 23 K .ret [vI y1])
noncomputable def Uec:Code:=Jj4 (Jll Tryz.f32) [1,1,0,1,0,0]
abbrev UbY:Sl (List SV):=(.c (sBx 74 (cI (cH (cH (cH (cH (cB (.c (sP (JlJ 29 (.c (sFb (.c (Jlv .i64) (.c sSh .n))) (.c (sFb (.c sSh .n)) .n)))) .n)))))))) (cH (cI (cI .n))))
abbrev UbZ:Sl (List SV):=(.c (sBx 74 (cI (cH (cH (cH (cH (cB (.c (sP (JlJ 35 (.c (sFb (.c (Jlv .i64) (.c sSh .n))) (.c (sFb (.c sSh .n)) (.c (sFb (.c sSh .n)) (.c (sFb (.c sSh .n)) .n)))))) .n)))))))) (cH (cI (cI .n))))
abbrev Ub0:Sl (List SV):=(.c (sBx 74 (cI (cH (cH (cH (cH (cB (.c (sP (JlJ 59 (.c (sFb (.c sSh .n)) (.c (sFb (.c (Jlv .i64) (.c sSh .n))) (.c (sFb (.c sSh .n)) .n))))) .n)))))))) (cH (cI (cI .n))))
abbrev Ue9 (n m:Nat) (K:Kc R):UbY.T (O R):=fun x1 x2 x3 x4 x5 x6 x7 x8 x9 x10 x11 x12=>Uhl n m x1 x2 x3 x4 x5 x6 x7 x8 x9 x10 x11 x12 (fun y1 y2 y3 y4 y5 y6 y7 y8 y9 y10=>xL Uac 4 K .ret [.bx 74 [vI y1,vH y2,vH y3,vH y4,vH y5,vB y6,.p (.clo 29 [.fb [.v (.int .i64 y7),.sh y8],.fb [.sh y9]])],vI y10]) (fun y1 y2 y3 y4 y5 y6 y7 y8 y9=>xL Uac 4 K (.exit 0) [.bx 74 [vI y1,vH y2,vH y3,vH y4,vH y5,vB y6,.p (.clo 29 [.fb [.v (.int .i64 y7),.sh y8],.fb [.sh y9]])],dD])
abbrev Uqz (n:Nat) (K:Kc R) (l0:UbY.T (O R)):UbY.T (O R):=fun x1 x2 x3 x4 x5 x6 x7 x8 x9 x10 x11 x12=>UmG n l0 x1 x2 x3 x4 x5 x6 x7 x8 x9 x10 x11 x12 (fun y1 y2 y3 y4 y5 y6 y7 y8 y9 y10=>xL Uac 4 K .ret [.bx 74 [vI y1,vH y2,vH y3,vH y4,vH y5,vB y6,.p (.clo 29 [.fb [.v (.int .i64 y7),.sh y8],.fb [.sh y9]])],vI y10]) (fun y1 y2 y3 y4 y5 y6 y7 y8 y9=>xL Uac 4 K (.exit 0) [.bx 74 [vI y1,vH y2,vH y3,vH y4,vH y5,vB y6,.p (.clo 29 [.fb [.v (.int .i64 y7),.sh y8],.fb [.sh y9]])],dD])
abbrev Uf (n m:Nat) (K:Kc R):UbZ.T (O R):=fun x1 x2 x3 x4 x5 x6 x7 x8 x9 x10 x11 x12 x13 x14=>Uct n m x1 x2 x3 x4 x5 x6 x7 x8 x9 x10 x11 x12 x13 x14 (fun y1 y2 y3 y4 y5 y6 y7 y8 y9 y10 y11 y12=>xL Uac 4 K .ret [.bx 74 [vI y1,vH y2,vH y3,vH y4,vH y5,vB y6,.p (.clo 35 [.fb [.v (.int .i64 y7),.sh y8],.fb [.sh y9],.fb [.sh y10],.fb [.sh y11]])],vI y12]) (fun y1 y2 y3 y4 y5 y6 y7 y8 y9 y10 y11=>xL Uac 4 K (.exit 0) [.bx 74 [vI y1,vH y2,vH y3,vH y4,vH y5,vB y6,.p (.clo 35 [.fb [.v (.int .i64 y7),.sh y8],.fb [.sh y9],.fb [.sh y10],.fb [.sh y11]])],dD])
abbrev UqA (n:Nat) (K:Kc R) (l0:UbZ.T (O R)):UbZ.T (O R):=fun x1 x2 x3 x4 x5 x6 x7 x8 x9 x10 x11 x12 x13 x14=>UdW n l0 x1 x2 x3 x4 x5 x6 x7 x8 x9 x10 x11 x12 x13 x14 (fun y1 y2 y3 y4 y5 y6 y7 y8 y9 y10 y11 y12=>xL Uac 4 K .ret [.bx 74 [vI y1,vH y2,vH y3,vH y4,vH y5,vB y6,.p (.clo 35 [.fb [.v (.int .i64 y7),.sh y8],.fb [.sh y9],.fb [.sh y10],.fb [.sh y11]])],vI y12]) (fun y1 y2 y3 y4 y5 y6 y7 y8 y9 y10 y11=>xL Uac 4 K (.exit 0) [.bx 74 [vI y1,vH y2,vH y3,vH y4,vH y5,vB y6,.p (.clo 35 [.fb [.v (.int .i64 y7),.sh y8],.fb [.sh y9],.fb [.sh y10],.fb [.sh y11]])],dD])
abbrev Ufa (n m:Nat) (K:Kc R):Ub0.T (O R):=fun x1 x2 x3 x4 x5 x6 x7 x8 x9 x10 x11 x12 x13=>UdX n m x1 x2 x3 x4 x5 x6 x7 x8 x9 x10 x11 x12 x13 (fun y1 y2 y3 y4 y5 y6 y7 y8 y9 y10 y11=>xL Uac 4 K .ret [.bx 74 [vI y1,vH y2,vH y3,vH y4,vH y5,vB y6,.p (.clo 59 [.fb [.sh y7],.fb [.v (.int .i64 y8),.sh y9],.fb [.sh y10]])],vI y11]) (fun y1 y2 y3 y4 y5 y6 y7 y8 y9 y10=>xL Uac 4 K (.exit 0) [.bx 74 [vI y1,vH y2,vH y3,vH y4,vH y5,vB y6,.p (.clo 59 [.fb [.sh y7],.fb [.v (.int .i64 y8),.sh y9],.fb [.sh y10]])],dD])
abbrev UqB (n:Nat) (K:Kc R) (l0:Ub0.T (O R)):Ub0.T (O R):=fun x1 x2 x3 x4 x5 x6 x7 x8 x9 x10 x11 x12 x13=>Ugr n l0 x1 x2 x3 x4 x5 x6 x7 x8 x9 x10 x11 x12 x13 (fun y1 y2 y3 y4 y5 y6 y7 y8 y9 y10 y11=>xL Uac 4 K .ret [.bx 74 [vI y1,vH y2,vH y3,vH y4,vH y5,vB y6,.p (.clo 59 [.fb [.sh y7],.fb [.v (.int .i64 y8),.sh y9],.fb [.sh y10]])],vI y11]) (fun y1 y2 y3 y4 y5 y6 y7 y8 y9 y10=>xL Uac 4 K (.exit 0) [.bx 74 [vI y1,vH y2,vH y3,vH y4,vH y5,vB y6,.p (.clo 59 [.fb [.sh y7],.fb [.v (.int .i64 y8),.sh y9],.fb [.sh y10]])],dD])
noncomputable def UcA:Code:=Jj4 (Jll Tryz.f32) [1,1,1,0,1,0,0]
abbrev Ua6:Sl (List SV):=(.c (sBx 74 (cI (cH (cH (cH (cH (cB (.c (sP (JlJ 29 (.c (sFb (.c (Jlv .i64) (.c sSh .n))) (.c (sFb (.c sSh .n)) .n)))) .n)))))))) (cH (cI (cI .n))))
abbrev Ua7:Sl (List SV):=(.c (sBx 74 (cI (cH (cH (cH (cH (cB (.c (sP (JlJ 35 (.c (sFb (.c (Jlv .i64) (.c sSh .n))) (.c (sFb (.c sSh .n)) (.c (sFb (.c sSh .n)) (.c (sFb (.c sSh .n)) .n)))))) .n)))))))) (cH (cI (cI .n))))
abbrev Ua8:Sl (List SV):=(.c (sBx 74 (cI (cH (cH (cH (cH (cB (.c (sP (JlJ 59 (.c (sFb (.c sSh .n)) (.c (sFb (.c (Jlv .i64) (.c sSh .n))) (.c (sFb (.c sSh .n)) .n))))) .n)))))))) (cH (cI (cI .n))))
abbrev Udl (n m:Nat) (K:Kc R):Ua6.T (O R):=fun x1 x2 x3 x4 x5 x6 x7 x8 x9 x10 x11 x12=>Ufx n m x1 x2 x3 x4 x5 x6 x7 x8 x9 x10 x11 x12 (fun y1 y2 y3 y4 y5 y6 y7 y8 y9 y10=>xL Uac 10 K .ret [.bx 74 [vI y1,vH y2,vH y3,vH y4,vH y5,vB y6,.p (.clo 29 [.fb [.v (.int .i64 y7),.sh y8],.fb [.sh y9]])],vI y10]) (fun y1 y2 y3 y4 y5 y6 y7 y8 y9=>xL Uac 10 K (.exit 2) [.bx 74 [vI y1,vH y2,vH y3,vH y4,vH y5,vB y6,.p (.clo 29 [.fb [.v (.int .i64 y7),.sh y8],.fb [.sh y9]])],dD])
abbrev Unu (n:Nat) (K:Kc R) (l0:Ua6.T (O R)):Ua6.T (O R):=fun x1 x2 x3 x4 x5 x6 x7 x8 x9 x10 x11 x12=>Uje n l0 x1 x2 x3 x4 x5 x6 x7 x8 x9 x10 x11 x12 (fun y1 y2 y3 y4 y5 y6 y7 y8 y9 y10=>xL Uac 10 K .ret [.bx 74 [vI y1,vH y2,vH y3,vH y4,vH y5,vB y6,.p (.clo 29 [.fb [.v (.int .i64 y7),.sh y8],.fb [.sh y9]])],vI y10]) (fun y1 y2 y3 y4 y5 y6 y7 y8 y9=>xL Uac 10 K (.exit 2) [.bx 74 [vI y1,vH y2,vH y3,vH y4,vH y5,vB y6,.p (.clo 29 [.fb [.v (.int .i64 y7),.sh y8],.fb [.sh y9]])],dD])
abbrev Udm (n m:Nat) (K:Kc R):Ua7.T (O R):=fun x1 x2 x3 x4 x5 x6 x7 x8 x9 x10 x11 x12 x13 x14=>UbC n m x1 x2 x3 x4 x5 x6 x7 x8 x9 x10 x11 x12 x13 x14 (fun y1 y2 y3 y4 y5 y6 y7 y8 y9 y10 y11 y12=>xL Uac 10 K .ret [.bx 74 [vI y1,vH y2,vH y3,vH y4,vH y5,vB y6,.p (.clo 35 [.fb [.v (.int .i64 y7),.sh y8],.fb [.sh y9],.fb [.sh y10],.fb [.sh y11]])],vI y12]) (fun y1 y2 y3 y4 y5 y6 y7 y8 y9 y10 y11=>xL Uac 10 K (.exit 2) [.bx 74 [vI y1,vH y2,vH y3,vH y4,vH y5,vB y6,.p (.clo 35 [.fb [.v (.int .i64 y7),.sh y8],.fb [.sh y9],.fb [.sh y10],.fb [.sh y11]])],dD])
abbrev Unv (n:Nat) (K:Kc R) (l0:Ua7.T (O R)):Ua7.T (O R):=fun x1 x2 x3 x4 x5 x6 x7 x8 x9 x10 x11 x12 x13 x14=>UcN n l0 x1 x2 x3 x4 x5 x6 x7 x8 x9 x10 x11 x12 x13 x14 (fun y1 y2 y3 y4 y5 y6 y7 y8 y9 y10 y11 y12=>xL Uac 10 K .ret [.bx 74 [vI y1,vH y2,vH y3,vH y4,vH y5,vB y6,.p (.clo 35 [.fb [.v (.int .i64 y7),.sh y8],.fb [.sh y9],.fb [.sh y10],.fb [.sh y11]])],vI y12]) (fun y1 y2 y3 y4 y5 y6 y7 y8 y9 y10 y11=>xL Uac 10 K (.exit 2) [.bx 74 [vI y1,vH y2,vH y3,vH y4,vH y5,vB y6,.p (.clo 35 [.fb [.v (.int .i64 y7),.sh y8],.fb [.sh y9],.fb [.sh y10],.fb [.sh y11]])],dD])
abbrev Udn (n m:Nat) (K:Kc R):Ua8.T (O R):=fun x1 x2 x3 x4 x5 x6 x7 x8 x9 x10 x11 x12 x13=>UcO n m x1 x2 x3 x4 x5 x6 x7 x8 x9 x10 x11 x12 x13 (fun y1 y2 y3 y4 y5 y6 y7 y8 y9 y10 y11=>xL Uac 10 K .ret [.bx 74 [vI y1,vH y2,vH y3,vH y4,vH y5,vB y6,.p (.clo 59 [.fb [.sh y7],.fb [.v (.int .i64 y8),.sh y9],.fb [.sh y10]])],vI y11]) (fun y1 y2 y3 y4 y5 y6 y7 y8 y9 y10=>xL Uac 10 K (.exit 2) [.bx 74 [vI y1,vH y2,vH y3,vH y4,vH y5,vB y6,.p (.clo 59 [.fb [.sh y7],.fb [.v (.int .i64 y8),.sh y9],.fb [.sh y10]])],dD])
abbrev Unw (n:Nat) (K:Kc R) (l0:Ua8.T (O R)):Ua8.T (O R):=fun x1 x2 x3 x4 x5 x6 x7 x8 x9 x10 x11 x12 x13=>Uei n l0 x1 x2 x3 x4 x5 x6 x7 x8 x9 x10 x11 x12 x13 (fun y1 y2 y3 y4 y5 y6 y7 y8 y9 y10 y11=>xL Uac 10 K .ret [.bx 74 [vI y1,vH y2,vH y3,vH y4,vH y5,vB y6,.p (.clo 59 [.fb [.sh y7],.fb [.v (.int .i64 y8),.sh y9],.fb [.sh y10]])],vI y11]) (fun y1 y2 y3 y4 y5 y6 y7 y8 y9 y10=>xL Uac 10 K (.exit 2) [.bx 74 [vI y1,vH y2,vH y3,vH y4,vH y5,vB y6,.p (.clo 59 [.fb [.sh y7],.fb [.v (.int .i64 y8),.sh y9],.fb [.sh y10]])],dD])
abbrev Ud7 (n:Nat):Orc R:=fun i vs K=>JfK (Nat.beq i 10) (Jjg (Ua6.ap vs (Udl n n K)) (Jjg (Ua7.ap vs (Udm n n K)) (Jjg (Ua8.ap vs (Udn n n K)) (JcB Uac 10 (E32 n UcA) n vs K)))) ((fun i vs K=>JfK (Nat.beq i 4) (Jjg (UbY.ap vs (Ue9 n n K)) (Jjg (UbZ.ap vs (Uf n n K)) (Jjg (Ub0.ap vs (Ufa n n K)) (JcB Uac 4 (E32 n Uec) n vs K)))) (oN i vs K)) i vs K)
abbrev Ud6 (n:Nat):Orc R:=fun i vs K=>JfK (Nat.beq i 23) (Jjg (Uf7.ap vs (UiT n K)) (Jjg (Uf8.ap vs (UiU n K)) (Jjg (Uf9.ap vs (UiV n K)) (Jki Uac 23 (E32 n UgQ) vs K)))) ((fun i vs K=>JfK (Nat.beq i 17) (Jjg (Uf4.ap vs (UiQ n K)) (Jjg (Uf5.ap vs (UiR n K)) (Jjg (Uf6.ap vs (UiS n K)) (Jki Uac 17 (E32 n UgP) vs K)))) ((fun i vs K=>JfK (Nat.beq i 3) (Jjg (UhF.ap vs (UlR n K)) (Jjg (UhG.ap vs (UlS n K)) (Jjg (UhH.ap vs (UlT n K)) (Jki Uac 3 (E32 n Ukg) vs K)))) (oN i vs K)) i vs K)) i vs K)
abbrev K32 (R:Type) (n:Nat):=JcH (R:=R) Tryz.prog (Ue2 n) Uac n (97,[]) (Ud7 n) (Ud6 n)
theorem Uhr (n:Nat):Je6 (K32 R n) (JaJ Uac Uec):=pO pN (by kernel_rfl)
theorem UqM (n:Nat):∀ m (K:Kc R),UbY.all (fun vs r=>JcB Uac 4 (JcU Tryz.prog (Ue2 n) Uac (97,[]) (Ud7 n) (Ud6 n) Uec) m vs K=r) (Ue9 n m K):=JiE (F:=Ue9 n) UbY (Uqz n) (fun K _ _ _ _ _ _ _ _ _ _ _ _=>rfl) (fun _ _=>rfl) (fun L K _ _ _ _ _ _ _ _ _ _ _ _=>by show _=_; kernel_rfl)
theorem UqN (n:Nat):∀ m (K:Kc R),UbZ.all (fun vs r=>JcB Uac 4 (JcU Tryz.prog (Ue2 n) Uac (97,[]) (Ud7 n) (Ud6 n) Uec) m vs K=r) (Uf n m K):=JiE (F:=Uf n) UbZ (UqA n) (fun K _ _ _ _ _ _ _ _ _ _ _ _ _ _=>rfl) (fun _ _=>rfl) (fun L K _ _ _ _ _ _ _ _ _ _ _ _ _ _=>by show _=_; kernel_rfl)
theorem UqO (n:Nat):∀ m (K:Kc R),Ub0.all (fun vs r=>JcB Uac 4 (JcU Tryz.prog (Ue2 n) Uac (97,[]) (Ud7 n) (Ud6 n) Uec) m vs K=r) (Ufa n m K):=JiE (F:=Ufa n) Ub0 (UqB n) (fun K _ _ _ _ _ _ _ _ _ _ _ _ _=>rfl) (fun _ _=>rfl) (fun L K _ _ _ _ _ _ _ _ _ _ _ _ _=>by show _=_; kernel_rfl)
theorem UuY (n:Nat):K32 R n (false,4,Uec):=JkF (lo:=Ud7 n) (cu:=Ud6 n) (Uhr n) UbY (Ue9 n n) (UqM n n) (JkF (lo:=Ud7 n) (cu:=Ud6 n) (Uhr n) UbZ (Uf n n) (UqN n n) (JkF (lo:=Ud7 n) (cu:=Ud6 n) (Uhr n) Ub0 (Ufa n n) (UqO n n) fun _ _=>rfl))
theorem UfO (n:Nat):Je6 (K32 R n) (JaJ Uac UcA):=pO pN (by kernel_rfl)
theorem UnJ (n:Nat):∀ m (K:Kc R),Ua6.all (fun vs r=>JcB Uac 10 (JcU Tryz.prog (Ue2 n) Uac (97,[]) (Ud7 n) (Ud6 n) UcA) m vs K=r) (Udl n m K):=JiE (F:=Udl n) Ua6 (Unu n) (fun K _ _ _ _ _ _ _ _ _ _ _ _=>rfl) (fun _ _=>rfl) (fun L K _ _ _ _ _ _ _ _ _ _ _ _=>by show _=_; kernel_rfl)
theorem UnK (n:Nat):∀ m (K:Kc R),Ua7.all (fun vs r=>JcB Uac 10 (JcU Tryz.prog (Ue2 n) Uac (97,[]) (Ud7 n) (Ud6 n) UcA) m vs K=r) (Udm n m K):=JiE (F:=Udm n) Ua7 (Unv n) (fun K _ _ _ _ _ _ _ _ _ _ _ _ _ _=>rfl) (fun _ _=>rfl) (fun L K _ _ _ _ _ _ _ _ _ _ _ _ _ _=>by show _=_; kernel_rfl)
theorem UnL (n:Nat):∀ m (K:Kc R),Ua8.all (fun vs r=>JcB Uac 10 (JcU Tryz.prog (Ue2 n) Uac (97,[]) (Ud7 n) (Ud6 n) UcA) m vs K=r) (Udn n m K):=JiE (F:=Udn n) Ua8 (Unw n) (fun K _ _ _ _ _ _ _ _ _ _ _ _ _=>rfl) (fun _ _=>rfl) (fun L K _ _ _ _ _ _ _ _ _ _ _ _ _=>by show _=_; kernel_rfl)
theorem Ur2 (n:Nat):K32 R n (false,10,UcA):=JkF (lo:=Ud7 n) (cu:=Ud6 n) (UfO n) Ua6 (Udl n n) (UnJ n n) (JkF (lo:=Ud7 n) (cu:=Ud6 n) (UfO n) Ua7 (Udm n n) (UnK n n) (JkF (lo:=Ud7 n) (cu:=Ud6 n) (UfO n) Ua8 (Udn n n) (UnL n n) fun _ _=>rfl))
theorem UfN (n:Nat):Je6 (K32 R n) (JaJ Uac UgQ):=pO pN (by kernel_rfl)
theorem Ur1 (n:Nat):K32 R n (true,23,UgQ):=JkW (lo:=Ud7 n) (cu:=Ud6 n) (UfN n) Uf7 (UiT n) (fun K _ _ _ _ _ _ _ _ _=>by show _=_; kernel_rfl) (JkW (lo:=Ud7 n) (cu:=Ud6 n) (UfN n) Uf8 (UiU n) (fun K _ _ _ _ _ _ _ _ _ _ _=>by show _=_; kernel_rfl) (JkW (lo:=Ud7 n) (cu:=Ud6 n) (UfN n) Uf9 (UiV n) (fun K _ _ _ _ _ _ _ _ _ _=>by show _=_; kernel_rfl) fun _ _=>rfl))
theorem UfM (n:Nat):Je6 (K32 R n) (JaJ Uac UgP):=pO (pC (Ur1 n) pN) (by kernel_rfl)
theorem Ur0 (n:Nat):K32 R n (true,17,UgP):=JkW (lo:=Ud7 n) (cu:=Ud6 n) (UfM n) Uf4 (UiQ n) (fun K _ _ _ _ _ _ _ _ _=>by show _=_; kernel_rfl) (JkW (lo:=Ud7 n) (cu:=Ud6 n) (UfM n) Uf5 (UiR n) (fun K _ _ _ _ _ _ _ _ _ _ _=>by show _=_; kernel_rfl) (JkW (lo:=Ud7 n) (cu:=Ud6 n) (UfM n) Uf6 (UiS n) (fun K _ _ _ _ _ _ _ _ _ _=>by show _=_; kernel_rfl) fun _ _=>rfl))
theorem Uhq (n:Nat):Je6 (K32 R n) (JaJ Uac Ukg):=pO (pC (UuY n) (pC (Ur2 n) (pC (Ur0 n) pN))) (by kernel_rfl)
theorem UuX (n:Nat):K32 R n (true,3,Ukg):=JkW (lo:=Ud7 n) (cu:=Ud6 n) (Uhq n) UhF (UlR n) (fun K _ _ _ _ _ _ _ _ _=>by show _=_; kernel_rfl) (JkW (lo:=Ud7 n) (cu:=Ud6 n) (Uhq n) UhG (UlS n) (fun K _ _ _ _ _ _ _ _ _ _ _=>by show _=_; kernel_rfl) (JkW (lo:=Ud7 n) (cu:=Ud6 n) (Uhq n) UhH (UlT n) (fun K _ _ _ _ _ _ _ _ _ _=>by show _=_; kernel_rfl) fun _ _=>rfl))
theorem UxC (n:Nat):Je6 (K32 R n) (JaJ Uac (Jll Tryz.f32)):=pO (pC (UuX n) pN) (by kernel_rfl)
abbrev UxW:Sl (List SV):=(.c (sP (JlI (.c (Jlv .i64) (.c sSh (.c sSh (.c sSh (.c sSh (.c Jlf (.c (JlJ 29 (.c (sFb (.c (Jlv .i64) (.c sSh .n))) (.c (sFb (.c sSh .n)) .n))) .n))))))))) .n)
abbrev Uyt (n:Nat) (K:List SV→O R):UxW.T (O R):=fun x1 x2 x3 x4 x5 x6 x7 x8 x9=>p32 n x1 x2 x3 x4 x5 x6 x7 x8 x9 (fun y1=>K [vI y1])
abbrev UxX:Sl (List SV):=(.c (sP (JlI (.c (Jlv .i64) (.c sSh (.c sSh (.c sSh (.c sSh (.c Jlf (.c (JlJ 35 (.c (sFb (.c (Jlv .i64) (.c sSh .n))) (.c (sFb (.c sSh .n)) (.c (sFb (.c sSh .n)) (.c (sFb (.c sSh .n)) .n))))) .n))))))))) .n)
abbrev Uyu (n:Nat) (K:List SV→O R):UxX.T (O R):=fun x1 x2 x3 x4 x5 x6 x7 x8 x9 x10 x11=>Urz n x1 x2 x3 x4 x5 x6 x7 x8 x9 x10 x11 (fun y1=>K [vI y1])
abbrev UxY:Sl (List SV):=(.c (sP (JlI (.c (Jlv .i64) (.c sSh (.c sSh (.c sSh (.c sSh (.c Jlf (.c (JlJ 59 (.c (sFb (.c sSh .n)) (.c (sFb (.c (Jlv .i64) (.c sSh .n))) (.c (sFb (.c sSh .n)) .n)))) .n))))))))) .n)
abbrev Uyv (n:Nat) (K:List SV→O R):UxY.T (O R):=fun x1 x2 x3 x4 x5 x6 x7 x8 x9 x10=>UuJ n x1 x2 x3 x4 x5 x6 x7 x8 x9 x10 (fun y1=>K [vI y1])
abbrev UvI (n:Nat):FS:={ om:=[false],run:=fun args K=>Jjg (UxW.ap args (Uyt n K)) (Jjg (UxX.ap args (Uyu n K)) (Jjg (UxY.ap args (Uyv n K)) none)) }
theorem Uw9 (n:Nat):FSound Tryz.prog GI 32 (UvI n):=gd Uac n (Ue3 n) Tryz.func32 (.cons (Ue3 n) UxW (Uyt n) (fun K _ _ _ _ _ _ _ _ _=>(Jkq (c:=Jll Tryz.f32) (by kernel_rfl) (UxC n) K).trans (by kernel_rfl)) (.cons (Ue3 n) UxX (Uyu n) (fun K _ _ _ _ _ _ _ _ _ _ _=>(Jkq (c:=Jll Tryz.f32) (by kernel_rfl) (UxC n) K).trans (by kernel_rfl)) (.cons (Ue3 n) UxY (Uyv n) (fun K _ _ _ _ _ _ _ _ _ _=>(Jkq (c:=Jll Tryz.f32) (by kernel_rfl) (UxC n) K).trans (by kernel_rfl)) .nil))) (by kernel_rfl)
def UpV:Ann:={ loops:=[],cuts:=[],frz:=[],rm:=[.id] }
abbrev Uti (n:Nat):Env:=eC 32 (UvI n) eN
theorem UkN (n:Nat):EnvOK Tryz.prog GI (Uti n):=.cons (.nil) (Uw9 n)
def p12 (n:Nat) (x1:Int) (x2 x3:LP) (k0:Int→O R):O R :=
 p32 n x1 x2 [] [] x3 true x1 x2 x3 (fun y4=>k0 y4)
abbrev UAn (n:Nat):Orc R:=oN
abbrev UzT (n:Nat):Orc R:=oN
abbrev K12 (R:Type) (n:Nat):=JcH (R:=R) Tryz.prog (Uti n) UpV n (10,[]) (UAn n) (UzT n)
theorem UBk (n:Nat):Je6 (K12 R n) (JaJ UpV (Jll Tryz.f12)):=pO pN (by kernel_rfl)
abbrev t12:Sl (List SV):=(.c (sP (JlI (.c (Jlv .i64) (.c sSh .n)))) (cH .n))
abbrev f12 (n:Nat) (K:List SV→O R):t12.T (O R):=fun x1 x2 x3=>p12 n x1 x2 x3 (fun y1=>K [vI y1])
abbrev UyD (n:Nat):FS:=fT [false,false] t12 (f12 n)
theorem UAR (n:Nat):FSound Tryz.prog GI 12 (UyD n):=gd UpV n (UkN n) Tryz.func12 (.cons (UkN n) t12 (f12 n) (fun K _ _ _=>(Jkq (c:=Jll Tryz.f12) (by kernel_rfl) (UBk n) K).trans (by kernel_rfl)) .nil) (by kernel_rfl)
end
end Go.Proofs.YtmgfmlhdnadglaaGreatDoor
set_option linter.unusedVariables false
set_option linter.unusedSimpArgs false
namespace Go.Proofs.YtmgfmlhdnadglaaGreatDoor
open Go Th Go.Proofs
variable {R:Type}
theorem UeY {p:Rat}:Ud5 p 0<0↔p<0:=by
 rcases tri p 0 with h | h | h
 · rw [UgR h]; exact ⟨fun _=>h,fun _=>by decide⟩
 · rw [h,Ub8]; exact ⟨fun q=>absurd q (by decide),fun q=>absurd q (by decide)⟩
 · rw [UeZ h]; exact ⟨fun q=>absurd q (by decide),fun q=>absurd (Rat.le_of_lt h) (Rat.not_le.2 q)⟩
theorem UqJ {p:Rat}:Ud5 p 0>0↔0<p:=by
 rcases tri p 0 with h | h | h
 · rw [UgR h]; exact ⟨fun q=>absurd q (by decide),fun q=>absurd (Rat.le_of_lt h) (Rat.not_le.2 q)⟩
 · rw [h,Ub8]; exact ⟨fun q=>absurd q (by decide),fun q=>absurd q (by decide)⟩
 · rw [UeZ h]; exact ⟨fun _=>h,fun _=>by decide⟩
theorem Uv4 (n:Nat) (hn:10 ^ 1000≤n) (p:Rat) (hp:fits p) (k0:Int→Option R):p19 n (bs (Uaa p)) (bs [48]) k0=k0 (Ud5 p 0):=by
 rw [←Uea]; exact UgK n hn p 0 hp Ud9 k0
structure okRM (cols:Int) (rows:List RowT) (mult:List (List UInt8)):Prop where
 hc:cols≤2048
 few:rows.length≤2048
 len:mult.length=rows.length
 hr:∀ r∈rows,okR cols r=true
 hm:∀ m∈mult,qb m=true
noncomputable def zsR (rows:List RowT) (mult:List (List UInt8)):List (SpR × Rat):=(rows.zip mult).map fun x=>(spR x.1,rq x.2)
theorem Udq {a b:Int} (h:a≤b) {r:SpR} (hr:okF a r):okF b r:=⟨⟨hr.1.1,Ui8 h hr.1.2⟩,hr.2⟩
theorem Uvv {cols:Int} {rows:List RowT} {mult:List (List UInt8)} (h:okRM cols rows mult):∀ y∈zsR rows mult,okF cols y.1:=by
 intro y hy
 obtain ⟨x,hx,rfl⟩:=List.mem_map.1 hy
 exact (Ueh (h.hr _ (List.of_mem_zip hx).1)).1
theorem UhQ:∀ {cols:Int},okF cols ([],0):=fun {cols}=>⟨⟨trivial,fun t ht=>(by cases ht)⟩,Ud9⟩
theorem Ugj {α β σ:Type} (f:α→β) (step:σ→β→Option σ):∀ (l:List α) (s:σ),Uao (fun s a=>step s (f a)) s l=Uao step s (l.map f)
 | [],s=>rfl
 | a::l,s=>by
  rw [List.map_cons,Uao,Uao]
  congr 1
  funext s'
  exact Ugj f step l s'
theorem Uee:∀ (l:List (SpR × Rat)) (s:SpR),Ubc l s=Uao (fun s x=>Ueb x.2 x.1 s) s l
 | [],s=>rfl
 | x::l,s=>by
  rw [Ubc,Uao]
  congr 1
  funext s'
  exact Uee l s'
theorem Usg {cols:Int} {q:Rat} {r s x:SpR} (hr:okF cols r) (hs:okF cols s) (he:Ueb q r s=some x):okF cols x:=by
 unfold Ueb at he
 by_cases h0:q=0
 · rw [if_pos h0,Option.some.injEq] at he; rwa [←he]
 · rw [if_neg h0] at he
   obtain ⟨w,f1,f2⟩:=Option.bind_eq_some_iff.1 he
   exact (UrC hs (Uop h0 hr f1).1 f2).1
theorem Uju (n:Nat) (hn:10 ^ 1000≤n) (cols:Int) (rows:List RowT) (mult:List (List UInt8)) (h:okRM cols rows mult) (k0:List PV→ByteArray→Int→Option R) :
 p30 n cols (rws rows) (sl mult) k0=Unk k0 (Ubc (zsR rows mult) ([],0)):=by
 have hN:=UaU (Ubu hn)
 have hlen:(rows.zip mult).length=rows.length:=by rw [List.length_zip,h.len]; omega
 have hf:=h.few
 have hl:=h.len
 unfold p30 Upz
 have H:=UdG (R:=R) (l:=rows.zip mult) (step:=fun s x=>Ueb (rq x.2) (spR x.1) s) (kerr:=k0 [] (bs []) 5) (kend:=fun s=>k0 (tms (vt s.1)) (bs (Uaa s.2)) 0) (Inv:=fun i s=>okF 2048 s)
  (fun m s i=>UcL n m (sl mult) cols (rws rows) ByteArray.empty (tms (vt s.1)) (bs (Uaa s.2)) ((rws rows).length:Int) (i:Int) (fun y4 y5 y6 y7 y8=>k0 y4 y5 y6) (fun y9 y10 y11=>k0 y10 y11 0))
  (fun m s hs=>by
    simp only [UcL,Ufu]
    rw [hlen]
    simp (disch:=(first | omega | (simp only [JlE]; omega))) only [↓JlH,JlF,Uae])
  (fun s s' i hi hs he=>by
    have hr:=h.hr _ (List.of_mem_zip (List.getElem_mem hi)).1
    exact Usg (Udq h.hc (Ueh hr).1) hs he)
  (fun m s i hi hs=>by
    have hi1:i<rows.length:=by omega
    have hi2:i<mult.length:=by omega
    have e0:(rows.zip mult)[i]=(rows[i],mult[i]):=List.getElem_zip
    rw [e0]
    have hr:=h.hr rows[i] (List.getElem_mem hi1)
    have hq:=h.hm mult[i] (List.getElem_mem hi2)
    obtain ⟨o1,o2,o3⟩:=Ueh hr
    obtain ⟨m1,m2⟩:=Use hq
    have o1':=Udq h.hc o1
    simp only [UcL,Ufu]
    show _=UvF _ _ (Ueb (rq mult[i]) (spR rows[i]) s)
    unfold Ueb
    by_cases h0:rq mult[i]=0
    · have e3:(mult[i] == [48])=true:=Unx (by rw [m2,h0,Uea])
      rw [if_pos h0]
      simp (disch:=(first | omega | (simp only [JlE]; omega))) only [↓JlH,JlF,Uae,Uaj,Jji,UbW hi2,i1,e3]
      rfl
    · have e3:(mult[i] == [48])=false:=UjV (by rw [m2]; exact fun q=>h0 (Uen.1 q))
      have g1:∀ k:List PV→ByteArray→Int→Option R,p74 n (tms (rows[i]).tm) (bs (rows[i]).c) (bs mult[i]) k=Unk k (tmO (rq mult[i]) (spR rows[i])):=fun k=>by
       rw [o2,o3,m2]
       have:=Umc (R:=R) n hn o1' m1 h0 k
       rw [←m2,←o2,←o3] at this ⊢
       exact this
      rw [if_neg h0]
      simp (disch:=(first | omega | (simp only [JlE]; omega))) only [↓JlH,JlF,Uae,Uaj,Jji,UbW hi2,UaF hi1,i1,e3,g1]
      cases h1:tmO (rq mult[i]) (spR rows[i]) with
      | none=>rfl
      | some x =>
       have hx:=(Uop h0 o1' h1).1
       have g2:∀ k:List PV→ByteArray→Int→Option R,p75 n (tms (vt s.1)) (bs (Uaa s.2)) (tms (vt x.1)) (bs (Uaa x.2)) k=Unk k (plO s x):=fun k=>Urf n hn hs hx k
       simp only [Unk,Ug,Uag,g2,Option.bind_some]
       cases plO s x <;> rfl) rows.length n 0 ([],0) (by omega) (by omega) UhQ
 rw [List.drop_zero,Ugj (fun x:RowT × List UInt8=>(spR x.1,rq x.2)) (fun s x=>Ueb x.2 x.1 s),←Uee] at H
 have e48:(⟨#[48]⟩:ByteArray)=bs (Uaa 0):=by rw [Uea]; rfl
 rw [e48]
 refine Eq.trans H ?_
 unfold zsR
 cases Ubc ((rows.zip mult).map fun x=>(spR x.1,rq x.2)) ([],0) <;> rfl
noncomputable def UsH (x:RowT × List UInt8):Bool:=x.1.eq||!decide (rq x.2<0)
noncomputable def adm (rows:List RowT) (mult:List (List UInt8)):Bool:=(rows.zip mult).all UsH
theorem UeK (n:Nat) (hn:10 ^ 1000≤n) (cols:Int) (rows:List RowT) (mult:List (List UInt8)) (h:okRM cols rows mult) (k0:Bool→Option R) :
 p31 n cols (rws rows) (sl mult) k0=k0 (adm rows mult):=by
 have hN:=UaU (Ubu hn)
 have hlen:(rows.zip mult).length=rows.length:=by rw [List.length_zip,h.len]; omega
 have hf:=h.few
 have hl:=h.len
 unfold p31 UpA
 have H:=Uam (R:=R) (l:=rows.zip mult) (ok:=UsH) (kbad:=k0 false) (kend:=k0 true)
  (fun m i=>UcM n m (sl mult) cols (rws rows) ((rws rows).length:Int) (i:Int) (fun y4=>k0 y4) (k0 true))
  (fun m=>by
    simp only [UcM,Ufv]
    rw [hlen]
    simp (disch:=(first | omega | (simp only [JlE]; omega))) only [↓JlH,JlF,Uae])
  (fun m i hi=>by
    have hi1:i<rows.length:=by omega
    have hi2:i<mult.length:=by omega
    have e0:(rows.zip mult)[i]=(rows[i],mult[i]):=List.getElem_zip
    rw [e0]
    obtain ⟨m1,m2⟩:=Use (h.hm mult[i] (List.getElem_mem hi2))
    have g1:∀ k:Int→Option R,p19 n (bs mult[i]) (bs [48]) k=k (Ud5 (rq mult[i]) 0):=fun k=>by
     have:=Uv4 (R:=R) n hn (rq mult[i]) m1 k
     rw [←m2] at this
     exact this
    simp only [UcM,Ufv,UsH]
    rcases Bool.eq_false_or_eq_true (rows[i]).eq with he | he
    · simp (disch:=(first | omega | (simp only [JlE]; omega))) only [↓JlH,JlF,Uae,Uaj,Jji,UbW hi2,UaF hi1,i1,he]
      simp [he]
    · by_cases h0:rq mult[i]<0
      · have h0':=UeY.2 h0
        simp (disch:=(first | omega | (simp only [JlE]; omega))) only [↓JlH,JlF,Uae,Uaj,Jji,UbW hi2,UaF hi1,i1,he,g1]
        simp [h0]
      · have h0':¬ Ud5 (rq mult[i]) 0<0:=fun q=>h0 (UeY.1 q)
        simp (disch:=(first | omega | (simp only [JlE]; omega))) only [↓JlH,JlF,Uae,Uaj,Jji,UbW hi2,UaF hi1,i1,he,g1]
        simp [h0]) rows.length n 0 (by omega) (by omega)
 rw [List.drop_zero] at H
 refine Eq.trans H ?_
 unfold adm
 cases (rows.zip mult).all UsH <;> rfl
theorem Uhu {cols:Int} {rows:List RowT} (h:UgB cols rows=0):0≤cols∧cols≤2048∧rows.length≤2048∧∀ r∈rows,okR cols r=true:=by
 unfold UgB at h
 by_cases h1:cols<0
 · rw [if_pos h1] at h; cases h
 rw [if_neg h1] at h
 by_cases h2:cols>2048
 · rw [if_pos h2] at h; cases h
 rw [if_neg h2] at h
 by_cases h3:rows.length>2048
 · rw [if_pos h3] at h; cases h
 rw [if_neg h3] at h
 cases h4:rows.all (okR cols) with
 | false=>rw [h4] at h; cases h
 | true=>exact ⟨by omega,by omega,by omega,fun r hr=>List.all_eq_true.1 h4 r hr⟩
theorem Umn {cols:Int} {rows:List RowT} {mult:List (List UInt8)} (h:UgB cols rows=0) (hm:Ud4 mult=true) (hl:mult.length=rows.length):okRM cols rows mult:=by
 obtain ⟨a,b,c,d⟩:=Uhu h
 exact ⟨b,c,hl,d,fun m hm'=>List.all_eq_true.1 hm m hm'⟩
end Go.Proofs.YtmgfmlhdnadglaaGreatDoor
set_option linter.unusedVariables false
set_option maxRecDepth 100000
namespace Go.Proofs.YtmgfmlhdnadglaaGreatDoor
open Go Th Go.Proofs
noncomputable section
variable {R:Type}
abbrev t72:Sl (List SV):=(.c (sP (JlI (.c Jlf (.c sSh (.c Jlf (.c sSh .n)))))) .n)
end
end Go.Proofs.YtmgfmlhdnadglaaGreatDoor
set_option linter.unusedVariables false
set_option linter.unusedSimpArgs false
namespace Go.Proofs.YtmgfmlhdnadglaaGreatDoor
open Go Th Go.Proofs
variable {R:Type}
section
variable (n:Nat) (hn:10 ^ 1000≤n) (p q:Rat) (hp:fits p) (hq:fits q)
include hp hq
include hn
end
end Go.Proofs.YtmgfmlhdnadglaaGreatDoor
set_option linter.unusedVariables false
set_option maxRecDepth 100000
namespace Go.Proofs.YtmgfmlhdnadglaaGreatDoor
open Go Th Go.Proofs
noncomputable section
variable {R:Type}
abbrev t25:Sl (List SV):=(.c (sP (JlI (.c sSh (.c Jlf (.c sSh (.c Jlf (.c sSh .n))))))) .n)
abbrev t46:Sl (List SV):=(cS (cH .n))
abbrev t70:Sl (List SV):=(.c (sP (JlI (.c sSh (.c Jlf (.c sSh (.c Jlf (.c sSh .n))))))) (.c (sP (JlI (.c sSh (.c Jlf (.c sSh (.c Jlf (.c sSh .n))))))) .n))
abbrev t24:Sl (List SV):=(.c (sP (JlI (.c (Jlv .i64) (.c sSh .n)))) (cH .n))
abbrev t34:Sl (List SV):=(.c (sP (JlI (.c Jlf (.c sSh (.c Jlf (.c sSh .n)))))) .n)
end
end Go.Proofs.YtmgfmlhdnadglaaGreatDoor
set_option linter.unusedVariables false
set_option linter.unusedSimpArgs false
namespace Go.Proofs.YtmgfmlhdnadglaaGreatDoor
open Go Th Go.Proofs
variable {R:Type}
theorem UfR {N:Nat} {σ:Type} {Inv:Nat→σ→Prop} (L:Nat→σ→Nat→Option R) {r:Option R} (hend:∀ m s,Inv N s→L (m + 1) s N=r)
 (hstep:∀ m s i,i<N→Inv i s→L (m + 1) s i=r∨∃ s',Inv (i + 1) s'∧L (m + 1) s i=L m s' (i + 1)):∀ (d m i:Nat) (s:σ),d + i=N→d<m→Inv i s→L m s i=r
 | 0,m + 1,i,s,hd,hm,hs=>by
  have:i=N:=by omega
  subst this
  exact hend m s hs
 | d + 1,m + 1,i,s,hd,hm,hs=>by
  rcases hstep m s i (by omega) hs with h | ⟨s',h1,h2⟩
  · exact h
  · rw [h2]; exact UfR L hend hstep d m (i + 1) s' (by omega) (by omega) h1
def hiC (s:List SpT):Nat:=s.foldl (fun c t=>max c (t.1 + 1)) 0
theorem UdQ:∀ (s:List SpT) (c:Nat),c≤s.foldl (fun c t=>max c (t.1 + 1)) c∧(∀ t∈s,t.1<s.foldl (fun c t=>max c (t.1 + 1)) c)∧∀ b,c≤b→(∀ t∈s,t.1<b)→s.foldl (fun c t=>max c (t.1 + 1)) c≤b
 | [],c=>⟨Nat.le_refl _,(by intro t h; cases h),fun b h _=>h⟩
 | t::s,c=>by
  obtain ⟨h1,h2,h3⟩:=UdQ s (max c (t.1 + 1))
  rw [List.foldl_cons]
  refine ⟨by omega,fun x hx=>?_,fun b hb hx=>h3 b ?_ fun y hy=>hx y (List.mem_cons_of_mem _ hy)⟩
  · rcases List.mem_cons.1 hx with rfl | hx
    · omega
    · exact h2 x hx
  · have:=hx t (List.mem_cons_self ..)
    omega
theorem Uui {s:List SpT}:∀ t∈s,t.1<hiC s:=(UdQ s 0).2.1
theorem Umf {s:List SpT} {b:Nat} (h:∀ t∈s,t.1<b):hiC s≤b:=(UdQ s 0).2.2 b (Nat.zero_le _) h
theorem Usf (l:List TermT):(spL l).length=l.length:=by unfold spL; rw [List.length_map]
end Go.Proofs.YtmgfmlhdnadglaaGreatDoor
set_option linter.unusedVariables false
set_option maxRecDepth 100000
namespace Go.Proofs.YtmgfmlhdnadglaaGreatDoor
open Go Th Go.Proofs
noncomputable section
variable {R:Type}
abbrev t13:Sl (List SV):=(.c (sP (JlI (.c (Jlv .i64) (.c sSh .n)))) (cH .n))
end
end Go.Proofs.YtmgfmlhdnadglaaGreatDoor
set_option linter.unusedVariables false
set_option linter.unusedSimpArgs false
namespace Go.Proofs.YtmgfmlhdnadglaaGreatDoor
open Go Th Go.Proofs
variable {R:Type}
end Go.Proofs.YtmgfmlhdnadglaaGreatDoor
set_option linter.unusedVariables false
set_option maxRecDepth 100000
namespace Go.Proofs.YtmgfmlhdnadglaaGreatDoor
open Go Th Go.Proofs
noncomputable section
variable {R:Type}
end
end Go.Proofs.YtmgfmlhdnadglaaGreatDoor
set_option linter.unusedVariables false
set_option linter.unusedSimpArgs false
namespace Go.Proofs.YtmgfmlhdnadglaaGreatDoor
open Go Th Go.Proofs
variable {R:Type}
theorem Urp (a b:List SpT):hiC (a++b)=(b.foldl (fun c t=>max c (t.1 + 1)) (hiC a)):=by unfold hiC; rw [List.foldl_append]
theorem UjR:∀ {a:List SpT} {t:SpT} {last:Int},asc last (a++[t])→∀ x∈a,x.1<t.1
 | y::a,t,last,h,x,hx=>by
  rcases List.mem_cons.1 hx with rfl | hx
  · have:=UdM h.2 t (List.mem_append_right _ (List.mem_singleton.2 rfl)); omega
  · exact UjR h.2 x hx
theorem UsJ {s:List SpT} {last:Int} (h:asc last s) (hl:0<s.length):hiC s=(s[s.length - 1]'(by omega)).1 + 1:=by
 obtain ⟨a,t,rfl⟩:∃ a t,s=a++[t]:=⟨s.dropLast,s.getLast (by intro e; rw [e] at hl; simp at hl),(List.dropLast_concat_getLast _).symm⟩
 have h1:hiC a≤t.1:=Umf fun x hx=>UjR h x hx
 have e:(a++[t])[(a++[t]).length - 1]'(by omega)=t:=by simp
 rw [e,Urp]
 simp only [List.foldl_cons,List.foldl_nil]
 omega
theorem Urq:hiC []=0:=rfl
noncomputable def evK (k0:ByteArray→Int→Option R):Option Rat→Option R
 | none=>k0 (bs []) 5
 | some x=>k0 (bs (Uaa x)) 0
noncomputable def vq (w:List (List UInt8)):List Rat:=w.map rq
theorem Ung (w:List (List UInt8)):(vq w).length=w.length:=by unfold vq; rw [List.length_map]
theorem Uvs {w:List (List UInt8)} {i:Nat} (h:i<w.length):(vq w).getD i 0=rq w[i]:=by
 unfold vq; rw [Udo rq h]
theorem UnO (n:Nat) (hn:10 ^ 1000≤n) {r:SpR} (hr:okF 2048 r) {w:List (List UInt8)} (hw:Ud4 w=true) (hc:hiC r.1≤w.length) (k0:ByteArray→Int→Option R) :
 Ua3 n (sl w) (tms (vt r.1)) (bs (Uaa r.2)) k0=evK k0 (Uao (evS (vq w)) r.2 r.1):=by
 have hN:=UaU (Ubu hn)
 have hL:=UaS hr.1
 have H:=UdG (R:=R) (l:=r.1) (step:=evS (vq w)) (kerr:=k0 (bs []) 5) (kend:=fun x=>k0 (bs (Uaa x)) 0) (Inv:=fun _ x=>fits x)
  (fun m x i=>UbB n m (sl w) (bs (Uaa x)) (tms (vt r.1)) ((tms (vt r.1)).length:Int) (i:Int) (fun y4 y5 y6=>k0 y4 y5) (fun y7=>k0 y7 0))
  (fun m x hx=>by simp only [UbB,Udz]; simp (disch:=(first | omega | (simp only [JlE]; omega))) only [↓JlH,JlF,Ua,Ual])
  (fun x x' i hi hx he=>(UdH he).2)
  (fun m x i hi hx=>by
    have ht:=(hr.1.2 _ (List.getElem_mem hi)).2.1
    have htw:(r.1[i]).1<w.length:=Nat.lt_of_lt_of_le (Uui _ (List.getElem_mem hi)) hc
    have hq:=Use (List.all_eq_true.1 hw _ (List.getElem_mem htw))
    have hin:inR ((r.1[i]).1:Int) w.length=true:=Jku (by omega) (by omega)
    have g1:∀ k,p21 n (bs (Uaa (r.1[i]).2)) (bs (w[(r.1[i]).1])) k=UgA ((r.1[i]).2 * rq (w[(r.1[i]).1])) k:=fun k=>by
     have:=Uou (R:=R) n hn (r.1[i]).2 (rq (w[(r.1[i]).1])) ht hq.1 k
     rw [←hq.2] at this
     exact this
    simp only [UbB,Udz]
    unfold evS UvA
    rw [Uvs htw]
    by_cases h1:fits ((r.1[i]).2 * rq (w[(r.1[i]).1]))
    · have g1':∀ k,p21 n (bs (Uaa (r.1[i]).2)) (bs (w[(r.1[i]).1])) k=k (bs (Uaa ((r.1[i]).2 * rq (w[(r.1[i]).1])))) 0:=fun k=>by rw [g1,UbF h1]
      have g2:=fun k=>UjG (R:=R) n hn x ((r.1[i]).2 * rq (w[(r.1[i]).1])) hx h1 k
      rw [if_pos h1]
      by_cases h2:fits (x + (r.1[i]).2 * rq (w[(r.1[i]).1]))
      · have g2':∀ k,p22 n (bs (Uaa x)) (bs (Uaa ((r.1[i]).2 * rq (w[(r.1[i]).1])))) k=k (bs (Uaa (x + (r.1[i]).2 * rq (w[(r.1[i]).1])))) 0:=fun k=>by rw [g2,UbF h2]
        rw [if_pos h2]
        simp (disch:=(first | omega | (simp only [JlE]; omega))) only [↓JlH,JlF,Ua,Ual,Jji,Uav hi,Uaj,hin,UbW htw,g1',Ug,g2',i1]
        rfl
      · have g2':∀ k,p22 n (bs (Uaa x)) (bs (Uaa ((r.1[i]).2 * rq (w[(r.1[i]).1])))) k=k (bs []) 5:=fun k=>by rw [g2]; unfold UgA; rw [if_neg h2]
        rw [if_neg h2]
        simp (disch:=(first | omega | (simp only [JlE]; omega))) only [↓JlH,JlF,Ua,Ual,Jji,Uav hi,Uaj,hin,UbW htw,g1',Ug,g2',Uuv,i1]
        rfl
    · have g1':∀ k,p21 n (bs (Uaa (r.1[i]).2)) (bs (w[(r.1[i]).1])) k=k (bs []) 5:=fun k=>by rw [g1]; unfold UgA; rw [if_neg h1]
      rw [if_neg h1]
      simp (disch:=(first | omega | (simp only [JlE]; omega))) only [↓JlH,JlF,Ua,Ual,Jji,Uav hi,Uaj,hin,UbW htw,g1',Uuv,i1]
      rfl) r.1.length n 0 r.2 (by omega) (by omega) hr.2
 rw [List.drop_zero] at H
 unfold Ua3 UmC
 refine Eq.trans H ?_
 cases Uao (evS (vq w)) r.2 r.1 <;> rfl
noncomputable def evA (l:List TermT) (c:List UInt8) (w:List (List UInt8)) (k0:ByteArray→Int→Option R):Option R :=
 if UgJ l c≠0 then k0 (bs []) 3 else if Ud4 w=false then k0 (bs []) 3 else if w.length<hiC (spL l) then k0 (bs []) 2 else evK k0 (Uao (evS (vq w)) (rq c) (spL l))
theorem UgY (n:Nat) (hn:10 ^ 1000≤n) (l:List TermT) (c:List UInt8) (w:List (List UInt8)) (hl:smT l) (hc:c.length<2 ^ 17) (hw:smS w) (k0:ByteArray→Int→Option R) :
 p18 n (tms l) (bs c) (sl w) k0=evA l c w k0:=by
 have hN:=UaU (Ubu hn)
 have hL:=hw.1
 unfold p18 evA
 rw [UeX n (Ubu hn) l c hl hc]
 by_cases h0:UgJ l c=0
 · have e0:(UgJ l c != 0)=false:=by rw [h0]; rfl
   rw [e0,Uag,if_neg (by simp [h0])]
   obtain ⟨o1,o2⟩:=Ugn.1 h0
   obtain ⟨s1,s2⟩:=Ump o1
   have c1:=Use o2
   have hr:okF 2048 (spL l,rq c):=⟨s1,c1.1⟩
   have h:=Uam (R:=R) (l:=w) (ok:=qb) (kbad:=k0 (bs []) 3) (kend:=(fun y10 y11 y12=>bif (decide (((y11).length:Int)>0)) then (let v13:=IntKind.i64.wrap (((y11).length:Int) - 1); bif (inR v13 ((y11).length)) then (Jh2 ((y11).getD ((v13:Int).toNat) (.v (.bool false))) fun a14=>JdT a14 fun h15 t16=>Jj .i64 h15 fun e17=>JdT t16 fun h18 t19=>Jj3 h18 fun e20=>Ji2 t19 (bif (bif true then (decide (e17≥((y10).length:Int))) else false) then (k0 ⟨#[]⟩ 2) else (Ua3 n y10 y11 y12 (fun y21 y22=>k0 y21 y22)))) else none) else (Ua3 n y10 y11 y12 (fun y23 y24=>k0 y23 y24))) (sl w) (tms l) (bs c))
    (fun m i=>UcI n m (sl w) (tms l) (bs c) (sl w) ((sl w).length:Int) (i:Int) (fun y5 y6 y7 y8 y9=>k0 y8 y9) (fun y10 y11 y12=>bif (decide (((y11).length:Int)>0)) then (let v13:=IntKind.i64.wrap (((y11).length:Int) - 1); bif (inR v13 ((y11).length)) then (Jh2 ((y11).getD ((v13:Int).toNat) (.v (.bool false))) fun a14=>JdT a14 fun h15 t16=>Jj .i64 h15 fun e17=>JdT t16 fun h18 t19=>Jj3 h18 fun e20=>Ji2 t19 (bif (bif true then (decide (e17≥((y10).length:Int))) else false) then (k0 ⟨#[]⟩ 2) else (Ua3 n y10 y11 y12 (fun y21 y22=>k0 y21 y22)))) else none) else (Ua3 n y10 y11 y12 (fun y23 y24=>k0 y23 y24))))
    (fun m=>by simp only [UcI,Ufr]; simp (disch:=(first | omega | (simp only [JlE]; omega))) only [↓JlH,JlF,Uaj])
    (fun m i hi=>by
      have hv:=fun k=>Ubq (R:=R) n (Ubu hn) w[i] (hw.2 _ (List.getElem_mem hi)) k
      simp only [UcI,Ufr]
      simp (disch:=(first | omega | (simp only [JlE]; omega))) only [↓JlH,JlF,Uaj,Jji,UbW hi,hv,i1]
      cases qb w[i] <;> rfl) w.length n 0 (by omega) (by omega)
   rw [List.drop_zero] at h
   unfold Upv
   refine Eq.trans h ?_
   have ea:w.all qb=Ud4 w:=rfl
   rw [ea]
   cases hq:Ud4 w with
   | false=>rfl
   | true =>
    rw [if_pos rfl,if_neg (by decide)]
    have g:=fun h' k=>UnO (R:=R) n hn hr (w:=w) hq h' k
    dsimp only at g
    rw [←s2,←c1.2] at g
    have hls:l.length=(spL l).length:=(Usf l).symm
    by_cases h3:0<(spL l).length
    · have hh:=UsJ s1.1 h3
      have hlast:l.length - 1<l.length:=by omega
      have eg:(l[l.length - 1]).1=(((spL l)[(spL l).length - 1]'(by omega)).1:Int):=by
       have:∀ (k:Nat) (h1:k<l.length) (h2:k<(spL l).length),(l[k]).1=(((spL l)[k]).1:Int):=fun k h1 h2=>by
        have e:=UpP (l:=spL l) (i:=k) (by rw [Ual]; exact h2)
        have e2:l[k]=(vt (spL l))[k]'(by rw [Ual]; exact h2):=by congr 1
        rw [e2,e]
       have e3:=this (l.length - 1) hlast (by omega)
       rw [e3]
       congr 2
       simp only [hls]
      have hlL:=hl.1
      have ei:(l.length:Int) - 1=((l.length - 1:Nat):Int):=by omega
      by_cases h4:w.length<hiC (spL l)
      · rw [if_pos h4]
        have h5:(l[l.length - 1]).1≥(w.length:Int):=by rw [eg]; omega
        simp (disch:=(first | omega | (simp only [JlE]; omega))) only [↓JlH,JlF,Ua,Uaj,ei,Jji,UaB hlast]
      · rw [if_neg h4]
        have h5:¬ (l[l.length - 1]).1≥(w.length:Int):=by rw [eg]; omega
        simp (disch:=(first | omega | (simp only [JlE]; omega))) only [↓JlH,JlF,Ua,Uaj,ei,Jji,UaB hlast]
        exact g (by omega) k0
    · have e:spL l=[]:=List.eq_nil_of_length_eq_zero (by omega)
      have h4:¬ w.length<hiC (spL l):=by rw [e,Urq]; omega
      rw [if_neg h4]
      simp (disch:=(first | omega | (simp only [JlE]; omega))) only [↓JlH,JlF,Ua]
      exact g (by omega) k0
 · have e0:(UgJ l c != 0)=true:=by simp [h0]
   rw [e0,Uaq,if_pos h0]; rfl
end Go.Proofs.YtmgfmlhdnadglaaGreatDoor
set_option linter.unusedVariables false
set_option linter.unusedSimpArgs false
namespace Go.Proofs.YtmgfmlhdnadglaaGreatDoor
open Go Th Go.Proofs
variable {R:Type}
section
variable (n:Nat) (hn:10 ^ 1000≤n) (cols:Int) (rows:List RowT) (mult:List (List UInt8)) (h:okRM cols rows mult) (k0:List PV→Bool→List PV→Bool→List PV→Int→Option R)
include hn h
end
end Go.Proofs.YtmgfmlhdnadglaaGreatDoor
set_option linter.unusedVariables false
set_option maxRecDepth 100000
namespace Go.Proofs.YtmgfmlhdnadglaaGreatDoor
open Go Th Go.Proofs
noncomputable section
variable {R:Type}
abbrev t42:Sl (List SV):=(.c (sP (JlI (.c (Jlv .i64) (.c sSh .n)))) (cH .n))
end
end Go.Proofs.YtmgfmlhdnadglaaGreatDoor
set_option linter.unusedVariables false
set_option linter.unusedSimpArgs false
namespace Go.Proofs.YtmgfmlhdnadglaaGreatDoor
open Go Th Go.Proofs
variable {R:Type}
noncomputable def UpN (v:List Rat) (r:RowT):Option Rat:=Uao (evS v) (rq r.c) (spL r.tm)
open Classical in
noncomputable def Uow (r:RowT) (x:Rat):Bool:=decide (x<0∨(0<x∧r.eq=true))
noncomputable def Unf (v:List Rat):List RowT→Option Bool
 | []=>some true
 | r::rs=>match UpN v r with
  | none=>none
  | some x=>if Uow r x=true then some false else Unf v rs
noncomputable def Usk (k0:Bool→Int→Option R):Option Bool→Option R
 | none=>k0 false 5
 | some b=>k0 b 0
structure okSV (cols:Int) (rows:List RowT) (w:List (List UInt8)):Prop where
 hc:0≤cols∧cols≤2048
 few:rows.length≤2048
 hr:∀ r∈rows,okR cols r=true
 hw:Ud4 w=true
 len:(w.length:Int)=cols
 sm:smS w
theorem Uvl (n:Nat) (hn:10 ^ 1000≤n) {cols:Int} {rows:List RowT} {w:List (List UInt8)} (h:okSV cols rows w) {r:RowT} (hr:r∈rows) (k0:ByteArray→Int→Option R) :
 p18 n (tms r.tm) (bs r.c) (sl w) k0=evK k0 (UpN (vq w) r):=by
 have h1:=h.hr r hr
 obtain ⟨o1,o2,o3⟩:=Ueh h1
 have o1':=Udq h.hc.2 o1
 have hl:=UaS o1'.1
 unfold okR at h1
 rw [Bool.and_eq_true] at h1
 have e0:UgJ r.tm r.c=0:=Ugn.2 ⟨by rw [o2]; exact Uj o1'.1.1 o1'.1.2,h1.2⟩
 have e1:¬ w.length<hiC (spL r.tm):=by
  have:=Umf (s:=spL r.tm) (b:=cols.toNat) fun t ht=>by
   have:=(o1.1.2 t ht).2.2
   omega
  have:=h.len
  omega
 rw [UgY n hn r.tm r.c w (by rw [o2]; exact Uvt o1'.1.2 (Nat.lt_of_le_of_lt hl (by decide))) (by rw [o3]; exact UfQ o1.2) h.sm]
 unfold evA
 rw [if_neg (by simp [e0]),if_neg (by simp [h.hw]),if_neg e1]; rfl
theorem UmR {cols:Int} {r:RowT} (h:okR cols r=true) {v:List Rat} {x:Rat} (hx:UpN v r=some x):fits x:=Ue4 v (Ueh h).1.2 hx
theorem UqG {r:RowT} {x:Rat}:Uow r x=true↔(Ud5 x 0<0∨(Ud5 x 0>0∧r.eq=true)):=by
 unfold Uow
 rw [decide_eq_true_iff,UeY,UqJ]
theorem Usl (n:Nat) (hn:10 ^ 1000≤n) {cols:Int} {rows:List RowT} {w:List (List UInt8)} (h:okSV cols rows w) (k0:Bool→Int→Option R) :
 (p51 n cols (rws rows) (sl w) fun y6 y7=>bif (y7 == 0) then (k0 (bif true then (decide (y6<0)) else false) y7) else (k0 false y7))=Usk k0 (Unf (vq w) rows):=by
 have hN:=UaU (Ubu hn)
 have hf:=h.few
 unfold p51 UpC
 refine UfR (R:=R) (N:=rows.length) (σ:=Unit) (Inv:=fun i _=>Unf (vq w) (rows.drop i)=Unf (vq w) rows)
  (fun m _ i=>UcQ n m (sl w) (rws rows) ((rws rows).length:Int) (i:Int) _ _) (fun m _ hi=>?_) (fun m _ i hi hv=>?_) rows.length n 0 () (by omega) (by omega) rfl
 · rw [List.drop_length] at hi
   rw [←hi]
   simp only [UcQ,Ufz]
   simp (disch:=(first | omega | (simp only [JlE]; omega))) only [↓JlH,JlF,Uae]
   rfl
 · rw [UaL hi] at hv
   have g1:=fun k=>Uvl (R:=R) n hn h (List.getElem_mem hi) k
   simp only [UcQ,Ufz]
   have hv':(match UpN (vq w) rows[i] with | none=>none | some x=>if Uow rows[i] x=true then some false else Unf (vq w) (rows.drop (i + 1)))=Unf (vq w) rows:=hv
   cases hx:UpN (vq w) rows[i] with
   | none =>
    rw [hx] at hv' g1
    dsimp only at hv'
    left
    rw [←hv']
    simp (disch:=(first | omega | (simp only [JlE]; omega))) only [↓JlH,JlF,Uae,Jji,UaF hi,g1,evK,Uuv]
    rfl
   | some x =>
    rw [hx] at hv' g1
    dsimp only at hv'
    have hfx:=UmR (h.hr _ (List.getElem_mem hi)) hx
    have g2:=fun k=>Uv4 (R:=R) n hn x hfx k
    have hb:=UqG (r:=rows[i]) (x:=x)
    have hi0:¬ (i:Int)<0:=by omega
    by_cases h1:Ud5 x 0<0
    · left
      rw [←hv',if_pos (hb.2 (.inl h1))]
      simp (disch:=(first | omega | (simp only [JlE]; omega))) only [↓JlH,JlF,Uae,Jji,UaF hi,g1,evK,Ug,g2]
      rfl
    · by_cases h2:Ud5 x 0>0
      · rcases Bool.eq_false_or_eq_true (rows[i]).eq with h3 | h3
        · left
          rw [←hv',if_pos (hb.2 (.inr ⟨h2,h3⟩))]
          simp (disch:=(first | omega | (simp only [JlE]; omega))) only [↓JlH,JlF,Uae,Jji,UaF hi,g1,evK,Ug,g2,h3]
          rfl
        · right
          rw [if_neg (fun q=>by rcases hb.1 q with q | q; exact h1 q; rw [h3] at q; cases q.2)] at hv'
          refine ⟨(),hv',?_⟩
          simp (disch:=(first | omega | (simp only [JlE]; omega))) only [↓JlH,JlF,Uae,Jji,UaF hi,g1,evK,Ug,g2,h3,i1]
      · right
        rw [if_neg (fun q=>by rcases hb.1 q with q | q; exact h1 q; exact h2 q.1)] at hv'
        refine ⟨(),hv',?_⟩
        simp (disch:=(first | omega | (simp only [JlE]; omega))) only [↓JlH,JlF,Uae,Jji,UaF hi,g1,evK,Ug,g2,i1]
open Classical in
noncomputable def ltB (x:Rat):Bool:=decide (x<0)
noncomputable def hM (rows:List RowT) (w:List (List UInt8)):Option Bool:=if w.any (fun s=>ltB (rq s))=true then some false else Unf (vq w) rows
theorem Uhd {cols:Int} {rows:List RowT} {w:List (List UInt8)} (hs:smS w) (h:Ujt cols rows w=0):okSV cols rows w:=by
 unfold Ujt at h
 by_cases h1:UgB cols rows=0
 · rw [if_neg (by simp [h1])] at h
   by_cases h2:(w.length:Int)=cols
   · rw [if_neg (by simp [h2])] at h
     cases h3:Ud4 w with
     | false=>rw [h3] at h; cases h
     | true =>
      obtain ⟨a,b,c,d⟩:=Uhu h1
      exact ⟨⟨a,b⟩,c,d,h3,h2,hs⟩
   · rw [if_pos h2] at h; cases h
 · rw [if_pos h1] at h; cases h
theorem UjQ {cols:Int} {rows:List RowT} {w:List (List UInt8)} (h1:UgB cols rows=0) (h2:(w.length:Int)=cols) (h3:Ud4 w=true):Ujt cols rows w=0:=by
 unfold Ujt
 rw [if_neg (by simp [h1]),if_neg (by simp [h2]),if_pos h3]
theorem Uus {x:Rat}:ltB x=decide (Ud5 x 0<0):=by
 unfold ltB
 rw [Bool.eq_iff_iff,decide_eq_true_iff,decide_eq_true_iff,UeY]
theorem Uqn {α:Type} (l:List α) (p:α→Bool):l.any p=!(l.all fun x=>!p x):=by rw [List.not_all_eq_any_not]; simp
theorem Uuw (n:Nat) (hn:10 ^ 1000≤n) {w:List (List UInt8)} (hw:Ud4 w=true) (hl:w.length<2 ^ 17) (k0:Bool→Option R):Un1 n (sl w) k0=k0 (w.any fun s=>ltB (rq s)):=by
 have hN:=UaU (Ubu hn)
 unfold Un1 UrB Ujg
 have h:=Uam (R:=R) (l:=w) (ok:=fun s=>!ltB (rq s)) (kbad:=k0 true) (kend:=k0 false)
  (fun m i=>UaV n m (sl w) ((sl w).length:Int) (i:Int) (fun y2=>k0 (decide (y2≥0))) (k0 (decide ((-1:Int)≥0))))
  (fun m=>by simp only [UaV,Ucu]; simp (disch:=(first | omega | (simp only [JlE]; omega))) only [↓JlH,JlF,Uaj])
  (fun m i hi=>by
    have hq:=Use (List.all_eq_true.1 hw _ (List.getElem_mem hi))
    have g1:∀ k,p19 n (bs w[i]) (bs [48]) k=k (Ud5 (rq w[i]) 0):=fun k=>by
     have:=Uv4 (R:=R) n hn (rq w[i]) hq.1 k
     rw [←hq.2] at this
     exact this
    have e:=Uus (x:=rq w[i])
    simp only [UaV,Ucu,p50]
    by_cases h0:Ud5 (rq w[i]) 0<0
    · rw [decide_eq_true h0] at e
      simp (disch:=(first | omega | (simp only [JlE]; omega))) only [↓JlH,JlF,Uaj,Jji,UbW hi,g1,i1]
      simp [e]
    · rw [decide_eq_false h0] at e
      simp (disch:=(first | omega | (simp only [JlE]; omega))) only [↓JlH,JlF,Uaj,Jji,UbW hi,g1,i1]
      simp [e]) w.length n 0 (by omega) (by omega)
 rw [List.drop_zero] at h
 refine Eq.trans h ?_
 rw [Uqn]
 cases (w.all fun s=>!ltB (rq s)) <;> rfl
noncomputable def UnS (cols:Int) (rows:List RowT) (w:List (List UInt8)) (k0:Bool→Int→Option R):Option R:=if Ujt cols rows w≠0 then k0 false (Ujt cols rows w) else Usk k0 (hM rows w)
theorem UiX (n:Nat) (hn:10 ^ 1000≤n) (cols:Int) (rows:List RowT) (w:List (List UInt8)) (hr:smA rows) (hw:smS w) (k0:Bool→Int→Option R):p17 n cols (rws rows) (sl w) k0=UnS cols rows w k0:=by
 unfold p17 UnS
 rw [UsI n (Ubu hn) cols rows hr w hw]
 by_cases h1:Ujt cols rows w=0
 · have e1:(Ujt cols rows w != 0)=false:=by rw [h1]; rfl
   have h:=Uhd hw h1
   rw [e1,Uag,if_neg (by simp [h1]),Uuw n hn h.hw hw.1]
   unfold hM
   cases h2:w.any fun s=>ltB (rq s) with
   | true=>rfl
   | false =>
    rw [Uag,if_neg (by decide)]
    exact Usl n hn h k0
 · have e1:(Ujt cols rows w != 0)=true:=by simp [h1]
   rw [e1,Uaq,if_pos h1]
theorem Ujo {v:List Rat}:∀ {rows:List RowT},Unf v rows=some true→∀ r∈rows,∃ x,UpN v r=some x∧Uow r x=false
 | [],_,r,hr=>by cases hr
 | r::rs,h,q,hq=>by
  rw [Unf] at h
  cases hx:UpN v r with
  | none=>rw [hx] at h; cases h
  | some x =>
   rw [hx] at h
   dsimp only at h
   cases hb:Uow r x with
   | true=>rw [hb,if_pos rfl] at h; cases h
   | false =>
    rw [hb,if_neg (by decide)] at h
    rcases List.mem_cons.1 hq with rfl | hq
    · exact ⟨x,hx,hb⟩
    · exact Ujo h q hq
theorem UnR {r:RowT} {x:Rat} (h:Uow r x=false):0≤x∧(r.eq=true→x=0):=by
 unfold Uow at h
 rw [decide_eq_false_iff_not] at h
 have h1:¬ x<0:=fun q=>h (.inl q)
 refine ⟨Rat.not_lt.1 h1,fun he=>?_⟩
 rcases tri x 0 with q | q | q
 · exact absurd q h1
 · exact q
 · exact absurd (.inr ⟨q,he⟩) h
theorem Usd {cols:Int} {r:RowT} (hr:okR cols r=true) {v:List Rat} (hl:cols≤(v.length:Int)) {x:Rat} (hx:UpN v r=some x):x=(spR r).2 + UaT (cf (spR r).1) 0 v:=by
 obtain ⟨o1,o2,o3⟩:=Ueh hr
 have h1:=Uly v hx
 rw [h1]
 have h2:=Uky v (l:=spL r.tm) o1.1.1 fun t ht=>by
  have:=(o1.1.2 t ht).2.2
  omega
 rw [h2]; rfl
theorem Ujp (v:List Rat):∀ {l:List (SpR × Rat)},(∀ x∈l,0≤(x.1.2 + UaT (cf x.1.1) 0 v) * x.2)→0≤Usm v l
 | [],_=>by simp [Usm]
 | x::t,h=>by
  have ih:=Ujp v (l:=t) (fun y hy=>h y (List.mem_cons_of_mem _ hy))
  have h1:=h x (List.mem_cons_self ..)
  rw [Usm]
  grind
theorem UnA {cols:Int} {rows:List RowT} {mult w:List (List UInt8)} (h:okRM cols rows mult) (hw:okSV cols rows w) (hv:Unf (vq w) rows=some true) (ha:adm rows mult=true) {x:SpR} (hx:Ubc (zsR rows mult) ([],0)=some x) :
 0≤x.2 + UaT (cf x.1) 0 (vq w):=by
 obtain ⟨e1,e2⟩:=UnB (cols:=cols) (fun y hy=>Uvv h y hy) UhQ hx
 have e3:UaT (cf x.1) 0 (vq w)=UaT (Unh (zsR rows mult)) 0 (vq w):=UcD fun i _ _=>by rw [e2 i]; show cf [] i + _=_; rw [show cf [] i=0 from rfl,Rat.zero_add]
 rw [e1,e3]
 show 0≤(0:Rat) + Uot (zsR rows mult) + _
 rw [Rat.zero_add,←Uni]
 refine Ujp _ fun y hy=>?_
 obtain ⟨z,hz,rfl⟩:=List.mem_map.1 hy
 have hm:=List.of_mem_zip hz
 obtain ⟨q,h1,h2⟩:=Ujo hv z.1 hm.1
 have hr:=h.hr _ hm.1
 have h3:=Usd hr (v:=vq w) (by rw [Ung]; have:=hw.len; omega) h1
 obtain ⟨g1,g2⟩:=UnR h2
 have h4:=List.all_eq_true.1 ha z hz
 unfold UsH at h4
 dsimp only
 rw [←h3]
 cases he:z.1.eq with
 | true=>rw [g2 he,Rat.zero_mul]; exact Rat.le_refl
 | false =>
  rw [he,Bool.false_or,Bool.not_eq_true',decide_eq_false_iff_not] at h4
  exact Rat.mul_nonneg g1 (Rat.not_lt.1 h4)
theorem Urn {rows:List RowT} {w:List (List UInt8)} (h:hM rows w=some true):(∀ x∈vq w,0≤x)∧Unf (vq w) rows=some true:=by
 unfold hM at h
 cases h1:w.any fun s=>ltB (rq s) with
 | true=>rw [h1,if_pos rfl] at h; cases h
 | false =>
  rw [h1,if_neg (by decide)] at h
  refine ⟨fun x hx=>?_,h⟩
  obtain ⟨s,hs,rfl⟩:=List.mem_map.1 hx
  have:=List.any_eq_false.1 h1 s hs
  unfold ltB at this
  rw [decide_eq_true_iff] at this
  exact Rat.not_lt.1 this
end Go.Proofs.YtmgfmlhdnadglaaGreatDoor
set_option linter.unusedVariables false
set_option maxRecDepth 100000
namespace Go.Proofs.YtmgfmlhdnadglaaGreatDoor
open Go Th Go.Proofs
noncomputable section
variable {R:Type}
end
end Go.Proofs.YtmgfmlhdnadglaaGreatDoor
set_option linter.unusedVariables false
set_option linter.unusedSimpArgs false
namespace Go.Proofs.YtmgfmlhdnadglaaGreatDoor
open Go Th Go.Proofs
variable {R:Type}
end Go.Proofs.YtmgfmlhdnadglaaGreatDoor
set_option linter.unusedVariables false
set_option maxRecDepth 100000
namespace Go.Proofs.YtmgfmlhdnadglaaGreatDoor
open Go Th Go.Proofs
noncomputable section
variable {R:Type}
def UpW:Ann:={ loops:=[],cuts:=[],frz:=[],rm:=[.id] }
abbrev Utj (n:Nat):Env:=eC 32 (UvI n) eN
theorem UkP (n:Nat):EnvOK Tryz.prog GI (Utj n):=.cons (.nil) (Uw9 n)
def p15 (n:Nat) (x1:Int) (x2 x3 x4 x5:LP) (k0:Int→O R):O R :=
 Urz n x1 x2 x3 ([.sh x4]:LP) x5 true x1 x2 x5 x3 x4 (fun y6=>k0 y6)
abbrev UAo (n:Nat):Orc R:=oN
abbrev UzU (n:Nat):Orc R:=oN
abbrev K15 (R:Type) (n:Nat):=JcH (R:=R) Tryz.prog (Utj n) UpW n (17,[]) (UAo n) (UzU n)
theorem UBm (n:Nat):Je6 (K15 R n) (JaJ UpW (Jll Tryz.f15)):=pO pN (by kernel_rfl)
abbrev t15:Sl (List SV):=(.c (sP (JlI (.c (Jlv .i64) (.c sSh .n)))) (cH (cH (cH .n))))
abbrev f15 (n:Nat) (K:List SV→O R):t15.T (O R):=fun x1 x2 x3 x4 x5=>p15 n x1 x2 x3 x4 x5 (fun y1=>K [vI y1])
abbrev Uwj (n:Nat):FS:=fT [false,false,false,false] t15 (f15 n)
theorem Uzj (n:Nat):FSound Tryz.prog GI 15 (Uwj n):=gd UpW n (UkP n) Tryz.func15 (.cons (UkP n) t15 (f15 n) (fun K _ _ _ _ _=>(Jkq (c:=Jll Tryz.f15) (by kernel_rfl) (UBm n) K).trans (by kernel_rfl)) .nil) (by kernel_rfl)
end
end Go.Proofs.YtmgfmlhdnadglaaGreatDoor
set_option linter.unusedVariables false
set_option linter.unusedSimpArgs false
namespace Go.Proofs.YtmgfmlhdnadglaaGreatDoor
open Go Th Go.Proofs
variable {R:Type}
theorem UhT:∀ {s:List SpT} {last:Int},asc last s→∀ (j k:Nat) (hj:j<k) (hk:k<s.length),(s[j]'(by omega)).1<(s[k]).1
 | t::s,last,h,0,k + 1,_,hk=>by
  have:=UdM h.2 (s[k]'(by simpa using hk)) (List.getElem_mem _)
  show t.1<(s[k]'(by simpa using hk)).1
  omega
 | t::s,last,h,j + 1,k + 1,hj,hk=>UhT h.2 j k (by omega) (by simpa using hk)
theorem Uro {a b:Nat} (h:a + b≤4096):Int.fdiv (IntKind.u64.wrap (IntKind.i64.wrap ((a:Int) + (b:Int)))) (2 ^ (min ((1:Int)).toNat IntKind.u64.bits))=(((a + b) / 2:Nat):Int):=by
 have e1:IntKind.i64.wrap ((a:Int) + (b:Int))=((a + b:Nat):Int):=by rw [w64 (by omega) (by omega)]; omega
 have e2:IntKind.u64.wrap ((a + b:Nat):Int)=((a + b:Nat):Int):=IntWalk.u64_in _ (by omega)
 have e3:(2:Int) ^ (min ((1:Int)).toNat IntKind.u64.bits)=2:=by decide
 rw [e1,e2,e3,Int.fdiv_eq_ediv_of_nonneg _ (by decide)]
 omega
theorem UbX (n:Nat) (hn:200000≤n) {s:List SpT} (hs:okS 2048 s) (c:Nat) (hc:c<2048) (x3:Int) (K:List PV→Int→Int→Int→Option R):∀ (d m lo hi:Nat),hi - lo≤d→lo≤hi→hi≤s.length→d<m →
 (∀ j (h:j<s.length),j<lo→(s[j]).1<c)→(∀ j (h:j<s.length),hi≤j→c≤(s[j]).1) →
 ∃ i:Nat,i≤s.length∧(∀ j (h:j<s.length),j<i→(s[j]).1<c)∧(∀ j (h:j<s.length),i≤j→c≤(s[j]).1)∧Ua1 n m (tms (vt s)) (c:Int) x3 (lo:Int) (hi:Int) K=K (tms (vt s)) (c:Int) x3 (i:Int)
 | d,0,lo,hi,h1,h2,h3,h4,h5,h6=>by omega
 | d,m + 1,lo,hi,h1,h2,h3,h4,h5,h6=>by
  have hL:=UaS hs
  by_cases h:lo<hi
  · have hm:(lo + hi) / 2<s.length:=by omega
    have e:=Uro (a:=lo) (b:=hi) (by omega)
    have e2:IntKind.i64.wrap ((((lo + hi) / 2:Nat)):Int)=(((lo + hi) / 2:Nat):Int):=w64 (by omega) (by omega)
    have hk:=(hs.2 _ (List.getElem_mem hm)).2.2
    by_cases h7:(s[(lo + hi) / 2]).1<c
    · obtain ⟨i,i1',i2,i3,i4⟩:=UbX n hn hs c hc x3 K (hi - ((lo + hi) / 2 + 1)) m ((lo + hi) / 2 + 1) hi (by omega) (by omega) h3 (by omega) (fun j hj hlt=>by
       by_cases q:j=(lo + hi) / 2
       · subst q; exact h7
       · have:=UhT hs.1 j ((lo + hi) / 2) (by omega) hm; omega) h6
      refine ⟨i,i1',i2,i3,?_⟩
      rw [←i4]
      simp only [Ua1,Ucq,Upt,e,e2]
      have e5:IntKind.i64.wrap ((((s[(lo + hi) / 2]).1:Nat):Int) - (c:Int))=(((s[(lo + hi) / 2]).1:Nat):Int) - (c:Int):=w64 (by omega) (by omega)
      have e6:((((lo + hi) / 2:Nat)):Int) + 1=(((lo + hi) / 2 + 1:Nat):Int):=by omega
      simp (disch:=(first | omega | (simp only [JlE]; omega))) only [↓JlH,JlF,Ua,Ual,Jji,Uav hm,e5,e6]
    · obtain ⟨i,i1',i2,i3,i4⟩:=UbX n hn hs c hc x3 K ((lo + hi) / 2 - lo) m lo ((lo + hi) / 2) (by omega) (by omega) (by omega) (by omega) h5 (fun j hj hge=>by
       by_cases q:j=(lo + hi) / 2
       · subst q; omega
       · have:=UhT hs.1 ((lo + hi) / 2) j (by omega) hj; omega)
      refine ⟨i,i1',i2,i3,?_⟩
      rw [←i4]
      simp only [Ua1,Ucq,Upt,e,e2]
      have e5:IntKind.i64.wrap ((((s[(lo + hi) / 2]).1:Nat):Int) - (c:Int))=(((s[(lo + hi) / 2]).1:Nat):Int) - (c:Int):=w64 (by omega) (by omega)
      simp (disch:=(first | omega | (simp only [JlE]; omega))) only [↓JlH,JlF,Ua,Ual,Jji,Uav hm,e5]
  · have e:lo=hi:=by omega
    subst e
    refine ⟨lo,h3,h5,h6,?_⟩
    simp only [Ua1,Ucq]
    simp (disch:=(first | omega | (simp only [JlE]; omega))) only [↓JlH,JlF]
theorem Uia (n:Nat) (hn:10 ^ 1000≤n) {r:SpR} (hr:okF 2048 r) (c:Nat) (hc:c<2048) (k0:ByteArray→Option R):p38 n (tms (vt r.1)) (bs (Uaa r.2)) (c:Int) k0=k0 (bs (Uaa (cf r.1 c))):=by
 have hN:=UaU (Ubu hn)
 have hL:=UaS hr.1
 unfold p38
 have hin:inC (c:Int)=true:=by unfold inC; rw [decide_eq_true (by omega:(0:Int)≤(c:Int)),decide_eq_true (by omega:(c:Int)<2048)]; rfl
 rw [Ub7 n (Ubu hn) hr,Ug,Uag,UpJ,hin]
 unfold UmI p81 Uxe Umz
 simp only [Ua,Ual]
 obtain ⟨i,i1',i2,i3,i4⟩:=UbX (R:=R) n hN hr.1 c hc ((r.1.length:Nat):Int) (fun y3 y4 y5 y6=>bif (decide (y6<y5)) then (bif (inR y6 ((y3).length)) then (Jh2 ((y3).getD ((y6:Int).toNat) (.v (.bool false))) fun a7=>JdT a7 fun h8 t9=>Jj .i64 h8 fun e10=>JdT t9 fun h11 t12=>Jj3 h11 fun e13=>Ji2 t12 (Upt n e10 e13 y4 (fun y14=>(fun y4 y5=>bif y5 then (bif (inR y4 (r.1.length)) then (Jh2 ((tms (vt r.1)).getD ((y4:Int).toNat) (.v (.bool false))) fun a6=>JdT a6 fun h7 t8=>Jj .i64 h7 fun e9=>JdT t8 fun h10 t11=>Jj3 h10 fun e12=>Ji2 t11 (k0 e12)) else none) else (k0 ⟨#[48]⟩)) y6 (bif true then (y14 == 0) else false)))) else none) else ((fun y4 y5=>bif y5 then (bif (inR y4 (r.1.length)) then (Jh2 ((tms (vt r.1)).getD ((y4:Int).toNat) (.v (.bool false))) fun a6=>JdT a6 fun h7 t8=>Jj .i64 h7 fun e9=>JdT t8 fun h10 t11=>Jj3 h10 fun e12=>Ji2 t11 (k0 e12)) else none) else (k0 ⟨#[48]⟩)) y6 false)) r.1.length n 0 r.1.length (by omega) (by omega) (by omega) (by omega) (fun j hj h=>by omega) (fun j hj h=>by omega)
 refine Eq.trans i4 ?_
 dsimp only
 by_cases h1:i<r.1.length
 · have hk:=(hr.1.2 _ (List.getElem_mem h1)).2.2
   have hge:=i3 i h1 (Nat.le_refl _)
   have e5:IntKind.i64.wrap ((((r.1[i]).1:Nat):Int) - (c:Int))=(((r.1[i]).1:Nat):Int) - (c:Int):=w64 (by omega) (by omega)
   by_cases h2:(r.1[i]).1=c
   · have e6:((((r.1[i]).1:Nat):Int) - (c:Int) == 0)=true:=by simp; omega
     have e7:cf r.1 c=(r.1[i]).2:=by rw [←h2]; exact Uo1 hr.1.1 _ (List.getElem_mem h1)
     simp (disch:=(first | omega | (simp only [JlE]; omega))) only [↓JlH,JlF,Ua,Ual,Jji,Uav h1,Upt,e5,e6]
     rw [e7]
   · have e6:((((r.1[i]).1:Nat):Int) - (c:Int) == 0)=false:=beq_eq_false_iff_ne.2 (by omega)
     have e7:cf r.1 c=0:=UeW fun t ht e=>by
      obtain ⟨j,hj,rfl⟩:=List.getElem_of_mem ht
      by_cases q:j<i
      · have:=i2 j hj q; omega
      · by_cases q2:j=i
        · subst q2; exact h2 e
        · have:=UhT hr.1.1 i j (by omega) hj; omega
     simp (disch:=(first | omega | (simp only [JlE]; omega))) only [↓JlH,JlF,Ua,Ual,Jji,Uav h1,Upt,e5,e6]
     rw [e7,Uea]
 · have e7:cf r.1 c=0:=UeW fun t ht e=>by
    obtain ⟨j,hj,rfl⟩:=List.getElem_of_mem ht
    have:=i2 j hj (by omega); omega
   simp (disch:=(first | omega | (simp only [JlE]; omega))) only [↓JlH,JlF,Ua,Ual]
   rw [e7,Uea]
theorem Ukr {cols:Int} (hc:cols≤2048) {cost:List TermT} (h:Udi cols cost=true):okF 2048 (spL cost,0)∧okF cols (spL cost,0)∧cost=vt (spL cost)∧UgJ cost [48]=0:=by
 obtain ⟨s1,s2⟩:=Ump (cols:=cols) h
 have s1':okS 2048 (spL cost):=⟨s1.1,Ui8 hc s1.2⟩
 refine ⟨⟨s1',Ud9⟩,⟨s1,Ud9⟩,s2,Ugn.2 ⟨?_,UzA⟩⟩
 rw [s2]; exact Uj s1'.1 s1'.2
theorem UB6:rq [48]=0:=by rw [←Uea]; exact UmS Ud9
theorem UgT (n:Nat) (hn:10 ^ 1000≤n) {cols:Int} (hc:cols≤2048) {cost:List TermT} (hcb:Udi cols cost=true) (hsm:smT cost) {w:List (List UInt8)} (hw:Ud4 w=true) (hl:(w.length:Int)=cols) (hs:smS w) (k0:ByteArray→Int→Option R) :
 p18 n (tms cost) (bs [48]) (sl w) k0=evK k0 (Uao (evS (vq w)) 0 (spL cost)):=by
 obtain ⟨f1,f2,f3,f4⟩:=Ukr hc hcb
 have e1:¬ w.length<hiC (spL cost):=by
  have:=Umf (s:=spL cost) (b:=cols.toNat) fun t ht=>by
   have:=(f2.1.2 t ht).2.2
   omega
  omega
 rw [UgY n hn cost [48] w hsm (by decide) hs]
 unfold evA
 rw [if_neg (by simp [f4]),if_neg (by simp [hw]),if_neg e1,UB6]
theorem UnC {cols:Int} (hc:cols≤2048) {cost:List TermT} (h:Udi cols cost=true) {v:List Rat} (hl:cols≤(v.length:Int)) {y:Rat} (hy:Uao (evS v) 0 (spL cost)=some y):y=UaT (cf (spL cost)) 0 v:=by
 obtain ⟨f1,f2,f3,f4⟩:=Ukr hc h
 rw [Uly v hy,Rat.zero_add]
 exact Uky v f1.1.1 fun t ht=>by
  have:=(f2.1.2 t ht).2.2
  omega
noncomputable def leB (cols:Int) (a b:List SpT):Bool:=(List.range cols.toNat).all fun i=>decide (cf a i≤cf b i)
noncomputable def Ugl (cols:Int) (rows:List RowT) (mult:List (List UInt8)) (cost:List TermT) (x:SpR) (y:Rat):Bool:=(adm rows mult&&decide (y=-x.2))&&leB cols x.1 (spL cost)
noncomputable def Ugm (cols:Int) (rows:List RowT) (mult:List (List UInt8)) (cost:List TermT) (w:List (List UInt8)):Option SpR→Option Bool
 | none=>none
 | some x=>match Uao (evS (vq w)) 0 (spL cost) with
  | none=>none
  | some y=>some (Ugl cols rows mult cost x y)
theorem Us8 {p q:Rat}:Ud5 p q≤0↔p≤q:=by
 rcases tri p q with h | h | h
 · rw [UgR h]; exact ⟨fun _=>Rat.le_of_lt h,fun _=>by decide⟩
 · rw [h,Ub8]; exact ⟨fun _=>Rat.le_refl,fun _=>by decide⟩
 · rw [UeZ h]; exact ⟨fun e=>absurd e (by decide),fun e=>absurd h (Rat.not_lt.2 e)⟩
theorem Umi (n:Nat) (hn:10 ^ 1000≤n) {cols:Int} (hc:0≤cols∧cols≤2048) {x:SpR} (hx:okF 2048 x) {cost:List TermT} (hcb:Udi cols cost=true) (b:Bool) (k0:Bool→Int→Option R) :
 UmH n (tms cost) (tms (vt x.1)) (bs (Uaa x.2)) b cols 0 (fun y7=>k0 y7 0)=k0 (b&&leB cols x.1 (spL cost)) 0:=by
 have hN:=UaU (Ubu hn)
 obtain ⟨f1,f2,f3,f4⟩:=Ukr hc.2 hcb
 obtain ⟨N,rfl⟩:∃ N:Nat,cols=(N:Int):=⟨cols.toNat,by omega⟩
 unfold UmH
 refine UfR (R:=R) (N:=N) (Inv:=fun i c=>c=(b&&(List.range i).all fun i=>decide (cf x.1 i≤cf (spL cost) i)))
  (fun m c i=>UcP n m (tms cost) (tms (vt x.1)) (bs (Uaa x.2)) c (N:Int) (i:Int) (fun y7=>k0 y7 0)) (fun m c hi=>?_) (fun m c i hi hv=>?_) N n 0 b (by omega) (by omega) (by simp)
 · subst hi
   simp only [UcP,Ufy]
   simp (disch:=(first | omega | (simp only [JlE]; omega))) only [↓JlH,JlF]
   unfold leB
   rw [Int.toNat_natCast]
 · subst hv
   refine .inr ⟨_,rfl,?_⟩
   have g1:=fun k=>Uia (R:=R) n hn hx i (by omega) k
   have g2:∀ k:ByteArray→Option R,p38 n (tms cost) (bs [48]) (i:Int) k=k (bs (Uaa (cf (spL cost) i))):=fun k=>by
    have:=Uia (R:=R) n hn f1 i (by omega) k
    dsimp only at this
    rw [←f3,Uea] at this
    exact this
   have g3:=fun k=>UgK (R:=R) n hn (cf x.1 i) (cf (spL cost) i) (Ukp hx.1.2 i) (Ukp f1.1.2 i) k
   rw [List.range_succ,List.all_append]
   simp only [UcP,Ufy]
   generalize ((List.range i).all fun i=>decide (cf x.1 i≤cf (spL cost) i))=q
   cases hb:(b&&q) with
   | false =>
    have e:(b&&(q&&([i].all fun i=>decide (cf x.1 i≤cf (spL cost) i))))=false:=by rw [←Bool.and_assoc,hb,Bool.false_and]
    rw [e]
    simp (disch:=(first | omega | (simp only [JlE]; omega))) only [↓JlH,JlF,i1]
   | true =>
    have e:(b&&(q&&([i].all fun i=>decide (cf x.1 i≤cf (spL cost) i))))=decide (cf x.1 i≤cf (spL cost) i):=by rw [←Bool.and_assoc,hb]; simp
    have e2:decide (Ud5 (cf x.1 i) (cf (spL cost) i)≤0)=decide (cf x.1 i≤cf (spL cost) i):=by rw [Bool.eq_iff_iff,decide_eq_true_iff,decide_eq_true_iff,Us8]
    rw [e]
    simp (disch:=(first | omega | (simp only [JlE]; omega))) only [↓JlH,JlF,i1,g1,g2,g3,e2]
noncomputable def UAP (k0:Bool→Int→Option R):Option Bool→Option R
 | none=>k0 false 5
 | some b=>k0 b 0
theorem Umj (n:Nat) (hn:10 ^ 1000≤n) {cols:Int} {rows:List RowT} {mult:List (List UInt8)} (h:okRM cols rows mult) (hc0:0≤cols) {cost:List TermT} (hcb:Udi cols cost=true) (hsm:smT cost) {w:List (List UInt8)} (hw:Ud4 w=true) (hl:(w.length:Int)=cols) (hs:smS w) (k0:Bool→Int→Option R) :
 p35 n cols (rws rows) (sl mult) (tms cost) (sl w) k0=UAP k0 (Ugm cols rows mult cost w (Ubc (zsR rows mult) ([],0))):=by
 unfold p35
 rw [Uju n hn cols rows mult h]
 cases hx:Ubc (zsR rows mult) ([],0) with
 | none=>rfl
 | some x =>
  have ox:okF 2048 x:=UqL (fun y hy=>Udq h.hc (Uvv h y hy)) UhQ hx
  simp only [Unk,Ug,Uag]
  unfold p36
  have g1:∀ k:ByteArray→Int→Option R,p18 n (tms cost) (⟨#[48]⟩:ByteArray) (sl w) k=evK k (Uao (evS (vq w)) 0 (spL cost)):=fun k=>UgT n hn h.hc hcb hsm hw hl hs k
  rw [g1]
  unfold Ugm
  cases hy:Uao (evS (vq w)) 0 (spL cost) with
  | none=>rfl
  | some y =>
   have fy:fits y:=Ue4 (vq w) Ud9 hy
   have g2:=fun k=>UeK (R:=R) n hn cols rows mult h k
   have g3:=fun k=>UsG (R:=R) n hn x.2 ox.2 k
   simp only [evK,Ug,Uag,g2]
   unfold Ugl
   cases ha:adm rows mult with
   | false =>
    simp only [Ugs,Uag]
    rw [Umi n hn ⟨hc0,h.hc⟩ ox hcb]; rfl
   | true =>
    have e:eqS (bs (Uaa y)) (bs (Uaa (-x.2)))=decide (y=-x.2):=by rw [Ji7]; exact Uol y (-x.2)
    simp only [Ugs,Uaq,g3,e]
    rw [Umi n hn ⟨hc0,h.hc⟩ ox hcb]; rfl
noncomputable def UbP (cols:Int) (rows:List RowT) (cost:List TermT) (w mult:List (List UInt8)):Int :=
 if UgB cols rows≠0 then 3 else if Udi cols cost=false then 3 else if Ud4 mult=false then 3 else if Ud4 w=false then 3 else if (w.length:Int)≠cols then 6 else if mult.length≠rows.length then 6 else
  match hM rows w with
  | none=>5
  | some false=>15
  | some true=>match Ugm cols rows mult cost w (Ubc (zsR rows mult) ([],0)) with
   | none=>5
   | some false=>16
   | some true=>0
theorem Ui5 (n:Nat) (hn:10 ^ 1000≤n) (cols:Int) (rows:List RowT) (cost:List TermT) (w mult:List (List UInt8)) (hr:smA rows) (hcs:smT cost) (hw:smS w) (hm:smS mult) (k0:Int→Option R) :
 p15 n cols (rws rows) (tms cost) (sl w) (sl mult) k0=k0 (UbP cols rows cost w mult):=by
 have hN:=UaU (Ubu hn)
 have hL:=hw.1
 unfold p15 Urz UbP
 rw [UpO n (Ubu hn) cols rows hr]
 by_cases h1:UgB cols rows=0
 · obtain ⟨a,b,c,d⟩:=Uhu h1
   have e1:(UgB cols rows != 0)=false:=by rw [h1]; rfl
   rw [e1,if_neg (by simp [h1]),Uag,UnD n (Ubu hn) cols b cost hcs]
   cases h2:Udi cols cost with
   | false=>rfl
   | true =>
    rw [if_neg (by decide)]
    simp only [Bool.not_true,Uag,Ueg n (Ubu hn) mult hm]
    cases h3:Ud4 mult with
    | false=>rfl
    | true =>
     rw [if_neg (by decide)]
     unfold Ufw Ujf Ugq
     obtain ⟨m,rfl⟩:∃ m,n=m + 1 + 1:=⟨n - 2,by omega⟩
     have gd:(([.sh (sl w)]:List PV).getD ((0:Int).toNat) (.v (.bool false)))=.sh (sl w):=rfl
     have gl:∀ (K:List PV→Option R),Jkr (.sh (sl w)) K=K (sl w):=fun K=>rfl
     have g4:=fun k=>Ueg (R:=R) (m + 1 + 1) (Ubu hn) w hw k
     simp only [Uct,UdW]
     cases h4:Ud4 w with
     | false =>
      rw [h4] at g4
      simp (disch:=(first | omega | (simp only [JlE]; omega))) only [↓JlH,JlF,gd,gl,g4]
     | true =>
      rw [h4] at g4
      rw [if_neg (by decide)]
      simp only [UbC,UcN]
      by_cases h5:(w.length:Int)=cols
      · have e5:((w.length:Int) != cols)=false:=by simp [h5]
        rw [if_neg (by simp [h5])]
        by_cases h6:mult.length=rows.length
        · have e6:((mult.length:Int) != (rows.length:Int))=false:=by simp [h6]
          have hrm:=Umn h1 h3 h6
          have ha:=UjQ h1 h5 h4
          have g7:∀ k:Bool→Int→Option R,p17 (m + 1 + 1) cols (rws rows) (sl w) k=Usk k (hM rows w):=fun k=>by
           rw [UiX (m + 1 + 1) hn cols rows w hr hw]
           unfold UnS
           rw [if_neg (by simp [ha])]
          have g8:=fun k=>Umj (R:=R) (m + 1 + 1) hn hrm a h2 hcs h4 h5 hw k
          rw [if_neg (by simp [h6])]
          simp (disch:=(first | omega | (simp only [JlE]; omega))) only [↓JlH,JlF,gd,gl,g4,Uaj,Uae,e5,e6,Ucr,Ucs,g7,g8]
          cases hM rows w with
          | none=>rfl
          | some b =>
           cases b with
           | false=>rfl
           | true =>
            simp only [Usk,Ug,Uag,Bool.not_true]
            cases Ugm cols rows mult cost w (Ubc (zsR rows mult) ([],0)) with
            | none=>rfl
            | some b=>cases b <;> rfl
        · have e6:((mult.length:Int) != (rows.length:Int))=true:=by simp; omega
          rw [if_pos h6]
          simp (disch:=(first | omega | (simp only [JlE]; omega))) only [↓JlH,JlF,gd,gl,g4,Uaj,Uae,e5,e6]
      · have e5:((w.length:Int) != cols)=true:=by simp [h5]
        rw [if_pos h5]
        simp (disch:=(first | omega | (simp only [JlE]; omega))) only [↓JlH,JlF,gd,gl,g4,Uaj,e5]
 · have e1:(UgB cols rows != 0)=true:=by simp [h1]
   rw [e1,if_pos h1]; rfl
end Go.Proofs.YtmgfmlhdnadglaaGreatDoor
set_option linter.unusedVariables false
set_option maxRecDepth 100000
namespace Go.Proofs.YtmgfmlhdnadglaaGreatDoor
open Go Th Go.Proofs
noncomputable section
variable {R:Type}
def Ubf:Ann:={ loops:=[(4,ids [1,2,5],ids [4]),(9,ids [1,2,5,6],ids [1,2,4,5])],cuts:=[(8,ids [1,2,5],ids [1,2,4,5])],frz:=[],rm:=[.id] }
abbrev UqW (n:Nat):Env:=eN
theorem UkX (n:Nat):EnvOK Tryz.prog GI (UqW n):=.nil
def Uft (n:Nat) (l0:Int→Int→LP→Int→Int→O R) (x1 x2:Int) (x3:LP) (x4 x5:Int) (k0:Int→Int→LP→Bool→Int→O R) (k1:Int→Int→LP→Int→O R):O R :=
 bif (inR x4 ((x3).length)) then (Jh2 ((x3).getD ((x4:Int).toNat) (.v (.bool false))) fun a6=>JdT a6 fun h7 t8=>Jkr h7 fun e9=>JdT t8 fun h10 t11=>Jj3 h10 fun e12=>JdT t11 fun h13 t14=>Jj2 h13 fun e15=>JdT t14 fun h16 t17=>Jj .i64 h16 fun e18=>Ji2 t17 (bif (decide (x5<((e9).length:Int))) then (bif (inR x4 ((x3).length)) then (Jh2 ((x3).getD ((x4:Int).toNat) (.v (.bool false))) fun a19=>JdT a19 fun h20 t21=>Jkr h20 fun e22=>JdT t21 fun h23 t24=>Jj3 h23 fun e25=>JdT t24 fun h26 t27=>Jj2 h26 fun e28=>JdT t27 fun h29 t30=>Jj .i64 h29 fun e31=>Ji2 t30 (bif (inR x5 ((e22).length)) then (Jh2 ((e22).getD ((x5:Int).toNat) (.v (.bool false))) fun a32=>JdT a32 fun h33 t34=>Jj .i64 h33 fun e35=>JdT t34 fun h36 t37=>Jj3 h36 fun e38=>Ji2 t37 (bif (decide (((e38).size:Int)>x1)) then (k0 x1 x2 x3 false x4) else (l0 x1 x2 x3 x4 (IntKind.i64.wrap (x5 + 1))))) else none)) else none) else (k1 x1 x2 x3 x4))) else none
def UcK (n:Nat):Nat→Int→Int→LP→Int→Int→(Int→Int→LP→Bool→Int→O R)→(Int→Int→LP→Int→O R)→O R
 | 0,_,_,_,_,_,_,_=>none
 | m + 1,x1,x2,x3,x4,x5,k0,k1=>Uft n (fun x1 x2 x3 x4 x5=>UcK n m x1 x2 x3 x4 x5 k0 k1) x1 x2 x3 x4 x5 k0 k1
def Upy (n:Nat) (x1 x2:Int) (x3:LP) (x4 x5:Int) (k0:Int→Int→LP→Bool→Int→O R) (k1:Int→Int→LP→Int→O R):O R:=UcK n n x1 x2 x3 x4 x5 k0 k1
def Ujc (n:Nat) (x1 x2:Int) (x3:LP) (x4:Int) (k0:Int→Int→LP→Bool→Int→O R) (k1:Int→Int→LP→Int→O R):O R :=
 Upy n x1 x2 x3 x4 0 (fun y5 y6 y7 y8 y9=>k0 y5 y6 y7 y8 y9) (fun y10 y11 y12 y13=>k1 y10 y11 y12 y13)
def Ufs (n:Nat) (l0:Int→Int→LP→Int→O R) (x1 x2:Int) (x3:LP) (x4:Int) (k0:Bool→O R) (k1:O R):O R :=
 bif (decide (x4<((x3).length:Int))) then (bif (inR x4 ((x3).length)) then (Jh2 ((x3).getD ((x4:Int).toNat) (.v (.bool false))) fun a5=>JdT a5 fun h6 t7=>Jkr h6 fun e8=>JdT t7 fun h9 t10=>Jj3 h9 fun e11=>JdT t10 fun h12 t13=>Jj2 h12 fun e14=>JdT t13 fun h15 t16=>Jj .i64 h15 fun e17=>Ji2 t16 (bif (decide (((e8).length:Int)>12)) then (k0 false) else (bif (inR x4 ((x3).length)) then (Jh2 ((x3).getD ((x4:Int).toNat) (.v (.bool false))) fun a18=>JdT a18 fun h19 t20=>Jkr h19 fun e21=>JdT t20 fun h22 t23=>Jj3 h22 fun e24=>JdT t23 fun h25 t26=>Jj2 h25 fun e27=>JdT t26 fun h28 t29=>Jj .i64 h28 fun e30=>Ji2 t29 (bif (bif false then true else (decide (((e24).size:Int)>x1))) then (k0 false) else (Ujc n x1 x2 x3 x4 (fun y31 y32 y33 y34 y35=>k0 y34) (fun y36 y37 y38 y39=>l0 y36 y37 y38 (IntKind.i64.wrap (y39 + 1)))))) else none))) else none) else (k1)
def UbU (n:Nat):Nat→Int→Int→LP→Int→(Bool→O R)→(O R)→O R
 | 0,_,_,_,_,_,_=>none
 | m + 1,x1,x2,x3,x4,k0,k1=>Ufs n (fun x1 x2 x3 x4=>UbU n m x1 x2 x3 x4 k0 k1) x1 x2 x3 x4 k0 k1
def Upx (n:Nat) (x1 x2:Int) (x3:LP) (x4:Int) (k0:Bool→O R) (k1:O R):O R:=UbU n n x1 x2 x3 x4 k0 k1
def p27 (n:Nat) (x1:Int) (x2:LP) (x3:Int) (k0:Bool→O R):O R :=
 bif (decide (((x2).length:Int)>16)) then (k0 false) else (Upx n x3 x1 x2 0 (fun y4=>k0 y4) (k0 true))
abbrev E27 (n:Nat):Code→Fr→Kc R→O R:=evC Tryz.prog (UqW n) Ubf n (61,[])
noncomputable def UoC:Code:=Jj4 (Jll Tryz.f27) [1,1,0,1,0,0,1,0,0,1]
abbrev UmY:Sl (List SV):=(cI (.c (sBx 24 (cI (cH .n))) (cI .n)))
abbrev Upd (n:Nat) (K:Kc R):UmY.T (O R):=fun x1 x2 x3 x4=>Ujc n x1 x2 x3 x4 (fun y1 y2 y3 y4 y5=>xC Ubf 8 K .ret [vI y1,.bx 24 [vI y2,vH y3],vB y4,vI y5]) (fun y1 y2 y3 y4=>xC Ubf 8 K .normal [vI y1,.bx 24 [vI y2,vH y3],dD,vI y4])
noncomputable def UoD:Code:=Jj4 (Jll Tryz.f27) [1,1,0,1,0,0]
abbrev Ues:Sl (List SV):=(cI (.c (sBx 24 (cI (cH .n))) (cI .n)))
abbrev UlM (n m:Nat) (K:Kc R):Ues.T (O R):=fun x1 x2 x3 x4=>UbU n m x1 x2 x3 x4 (fun y1=>xL Ubf 4 K .ret [vB y1]) (xL Ubf 4 K (.exit 0) [dD])
abbrev UsN (n:Nat) (K:Kc R) (l0:Ues.T (O R)):Ues.T (O R):=fun x1 x2 x3 x4=>Ufs n l0 x1 x2 x3 x4 (fun y1=>xL Ubf 4 K .ret [vB y1]) (xL Ubf 4 K (.exit 0) [dD])
noncomputable def UoE:Code:=Jj4 (Jll Tryz.f27) [1,1,0,1,0,0,1,0,0,1,1,0,0]
abbrev Uet:Sl (List SV):=(cI (.c (sBx 24 (cI (cH .n))) (cI (cI .n))))
abbrev UlN (n m:Nat) (K:Kc R):Uet.T (O R):=fun x1 x2 x3 x4 x5=>UcK n m x1 x2 x3 x4 x5 (fun y1 y2 y3 y4 y5=>xL Ubf 9 K .ret [vI y1,.bx 24 [vI y2,vH y3],vB y4,vI y5]) (fun y1 y2 y3 y4=>xL Ubf 9 K (.exit 2) [vI y1,.bx 24 [vI y2,vH y3],dD,vI y4])
abbrev UsO (n:Nat) (K:Kc R) (l0:Uet.T (O R)):Uet.T (O R):=fun x1 x2 x3 x4 x5=>Uft n l0 x1 x2 x3 x4 x5 (fun y1 y2 y3 y4 y5=>xL Ubf 9 K .ret [vI y1,.bx 24 [vI y2,vH y3],vB y4,vI y5]) (fun y1 y2 y3 y4=>xL Ubf 9 K (.exit 2) [vI y1,.bx 24 [vI y2,vH y3],dD,vI y4])
abbrev UvN (n:Nat):Orc R:=oL Ubf (E27 n) n 9 UoE Uet (UlN n n) (oL Ubf (E27 n) n 4 UoD Ues (UlM n n) oN)
abbrev UvD (n:Nat):Orc R:=oC Ubf (E27 n) 8 UoC UmY (Upd n) oN
abbrev K27 (R:Type) (n:Nat):=JcH (R:=R) Tryz.prog (UqW n) Ubf n (61,[]) (UvN n) (UvD n)
theorem UuT (n:Nat):K27 R n (false,9,UoE):=JkF (lo:=UvN n) (cu:=UvD n) (pO pN (by kernel_rfl)) Uet (UlN n n) (JiE (F:=UlN n) Uet (UsO n) (fun K _ _ _ _ _=>rfl) (fun _ _=>rfl) (fun L K _ _ _ _ _=>by show _=_; kernel_rfl) n) fun _ _=>rfl
theorem UuR (n:Nat):K27 R n (true,8,UoC):=JkW (lo:=UvN n) (cu:=UvD n) (pO (pC (UuT n) pN) (by kernel_rfl)) UmY (Upd n) (fun K _ _ _ _=>by show _=_; kernel_rfl) fun _ _=>rfl
theorem UuS (n:Nat):K27 R n (false,4,UoD):=JkF (lo:=UvN n) (cu:=UvD n) (pO (pC (UuR n) pN) (by kernel_rfl)) Ues (UlM n n) (JiE (F:=UlM n) Ues (UsN n) (fun K _ _ _ _=>rfl) (fun _ _=>rfl) (fun L K _ _ _ _=>by show _=_; kernel_rfl) n) fun _ _=>rfl
theorem UBu (n:Nat):Je6 (K27 R n) (JaJ Ubf (Jll Tryz.f27)):=pO (pC (UuS n) pN) (by kernel_rfl)
abbrev t27:Sl (List SV):=(.c (sP (JlI (.c (Jlv .i64) (.c sSh .n)))) (cI .n))
abbrev f27 (n:Nat) (K:List SV→O R):t27.T (O R):=fun x1 x2 x3=>p27 n x1 x2 x3 (fun y1=>K [vB y1])
abbrev UyH (n:Nat):FS:=fT [false,false] t27 (f27 n)
theorem UAV (n:Nat):FSound Tryz.prog GI 27 (UyH n):=gd Ubf n (UkX n) Tryz.func27 (.cons (UkX n) t27 (f27 n) (fun K _ _ _=>(Jkq (c:=Jll Tryz.f27) (by kernel_rfl) (UBu n) K).trans (by kernel_rfl)) .nil) (by kernel_rfl)
def Uv1:Ann:={ loops:=[],cuts:=[],frz:=[],rm:=[.id] }
abbrev Uys (n:Nat):Env:=eC 27 (UyH n) eN
theorem Upa (n:Nat):EnvOK Tryz.prog GI (Uys n):=.cons (.nil) (UAV n)
def p9 (n:Nat) (x1:Int) (x2:LP) (k0:Bool→O R):O R :=
 p27 n x1 x2 14 (fun y3=>k0 y3)
abbrev lo9 (n:Nat):Orc R:=oN
abbrev cu9 (n:Nat):Orc R:=oN
abbrev K9 (R:Type) (n:Nat):=JcH (R:=R) Tryz.prog (Uys n) Uv1 n (5,[]) (lo9 n) (cu9 n)
theorem pa9 (n:Nat):Je6 (K9 R n) (JaJ Uv1 (Jll Tryz.f9)):=pO pN (by kernel_rfl)
abbrev t9:Sl (List SV):=(.c (sP (JlI (.c (Jlv .i64) (.c sSh .n)))) .n)
abbrev f9 (n:Nat) (K:List SV→O R):t9.T (O R):=fun x1 x2=>p9 n x1 x2 (fun y1=>K [vB y1])
abbrev fs9 (n:Nat):FS:=fT [false] t9 (f9 n)
theorem ok9 (n:Nat):FSound Tryz.prog GI 9 (fs9 n):=gd Uv1 n (Upa n) Tryz.func9 (.cons (Upa n) t9 (f9 n) (fun K _ _=>(Jkq (c:=Jll Tryz.f9) (by kernel_rfl) (pa9 n) K).trans (by kernel_rfl)) .nil) (by kernel_rfl)
def UeL:Ann:={ loops:=[(2,ids [0,3],ids [0,2])],cuts:=[],frz:=[],rm:=[.id] }
abbrev UqR (n:Nat):Env:=eN
theorem UkL (n:Nat):EnvOK Tryz.prog GI (UqR n):=.nil
def Ufi (n:Nat) (l0:LP→Int→O R) (x1:LP) (x2:Int) (k0:LP→Bool→O R) (k1:LP→O R):O R :=
 bif (decide (x2<((x1).length:Int))) then (bif (bif true then (decide (x2<20)) else false) then (bif (inR x2 ((x1).length)) then (Jj3 ((x1).getD ((x2:Int).toNat) (.v (.bool false))) fun e3=>bif (decide (((e3).size:Int)>14)) then (k0 x1 false) else (l0 x1 (IntKind.i64.wrap (x2 + 1)))) else none) else (k1 x1)) else (k1 x1)
def UcG (n:Nat):Nat→LP→Int→(LP→Bool→O R)→(LP→O R)→O R
 | 0,_,_,_,_=>none
 | m + 1,x1,x2,k0,k1=>Ufi n (fun x1 x2=>UcG n m x1 x2 k0 k1) x1 x2 k0 k1
def Ups (n:Nat) (x1:LP) (x2:Int) (k0:LP→Bool→O R) (k1:LP→O R):O R:=UcG n n x1 x2 k0 k1
def p10 (n:Nat) (x1:LP) (k0:Bool→O R):O R :=
 Ups n x1 0 (fun y2 y3=>k0 y3) (fun y4=>k0 (decide (((y4).length:Int)≤16)))
abbrev E10 (n:Nat):Code→Fr→Kc R→O R:=evC Tryz.prog (UqR n) UeL n (23,[])
noncomputable def Uox:Code:=Jj4 (Jll Tryz.f10) [1,0,1,0,0]
abbrev Uep:Sl (List SV):=(cH (cI .n))
abbrev UlB (n m:Nat) (K:Kc R):Uep.T (O R):=fun x1 x2=>UcG n m x1 x2 (fun y1 y2=>xL UeL 2 K .ret [vH y1,vB y2]) (fun y1=>xL UeL 2 K (.exit 0) [vH y1,dD])
abbrev UsK (n:Nat) (K:Kc R) (l0:Uep.T (O R)):Uep.T (O R):=fun x1 x2=>Ufi n l0 x1 x2 (fun y1 y2=>xL UeL 2 K .ret [vH y1,vB y2]) (fun y1=>xL UeL 2 K (.exit 0) [vH y1,dD])
abbrev Uy5 (n:Nat):Orc R:=oL UeL (E10 n) n 2 Uox Uep (UlB n n) oN
abbrev Uye (n:Nat):Orc R:=oN
abbrev K10 (R:Type) (n:Nat):=JcH (R:=R) Tryz.prog (UqR n) UeL n (23,[]) (Uy5 n) (Uye n)
theorem UuM (n:Nat):K10 R n (false,2,Uox):=JkF (lo:=Uy5 n) (cu:=Uye n) (pO pN (by kernel_rfl)) Uep (UlB n n) (JiE (F:=UlB n) Uep (UsK n) (fun K _ _=>rfl) (fun _ _=>rfl) (fun L K _ _=>by show _=_; kernel_rfl) n) fun _ _=>rfl
theorem UBi (n:Nat):Je6 (K10 R n) (JaJ UeL (Jll Tryz.f10)):=pO (pC (UuM n) pN) (by kernel_rfl)
abbrev t10:Sl (List SV):=(cH .n)
abbrev f10 (n:Nat) (K:List SV→O R):t10.T (O R):=fun x1=>p10 n x1 (fun y1=>K [vB y1])
abbrev Uwi (n:Nat):FS:=fT [false] t10 (f10 n)
theorem Uzi (n:Nat):FSound Tryz.prog GI 10 (Uwi n):=gd UeL n (UkL n) Tryz.func10 (.cons (UkL n) t10 (f10 n) (fun K _=>(Jkq (c:=Jll Tryz.f10) (by kernel_rfl) (UBi n) K).trans (by kernel_rfl)) .nil) (by kernel_rfl)
end
end Go.Proofs.YtmgfmlhdnadglaaGreatDoor
set_option linter.unusedVariables false
set_option linter.unusedSimpArgs false
namespace Go.Proofs.YtmgfmlhdnadglaaGreatDoor
open Go Th Go.Proofs
variable {R:Type}
def UtQ (r:RowT):Bool:=decide (r.tm.length≤12)&&(decide (r.c.length≤14)&&r.tm.all fun t=>decide (t.2.length≤14))
def Urg (rows:List RowT):Bool:=decide (rows.length≤16)&&rows.all UtQ
def Uba (l:List (List UInt8)):Bool:=((l.take 20).all fun s=>decide (s.length≤14))&&decide (l.length≤16)
theorem UtT {rows:List RowT} (h:Urg rows=true):smA rows:=by
 unfold Urg at h
 simp only [Bool.and_eq_true,decide_eq_true_iff,List.all_eq_true] at h
 refine ⟨by omega,fun r hr=>?_⟩
 have:=h.2 r hr
 unfold UtQ at this
 simp only [Bool.and_eq_true,decide_eq_true_iff,List.all_eq_true] at this
 refine ⟨⟨by omega,fun t ht=>?_⟩,by omega⟩
 have:=this.2.2 t ht
 omega
theorem UdF {l:List (List UInt8)} (h:Uba l=true):smS l:=by
 unfold Uba at h
 simp only [Bool.and_eq_true,decide_eq_true_iff,List.all_eq_true] at h
 rw [List.take_of_length_le (by omega)] at h
 refine ⟨by omega,fun s hs=>?_⟩
 have:=h.1 s hs
 omega
theorem UtS (n:Nat) (hn:200000≤n) (cols:Int) (rows:List RowT) (i:Nat) (hi:i<rows.length) (hl:(rows[i]).tm.length≤12) (k0:Int→Int→List PV→Bool→Int→Option R) (k1:Int→Int→List PV→Int→Option R) :
 Ujc n 14 cols (rws rows) (i:Int) k0 k1=if ((rows[i]).tm.all fun t=>decide (t.2.length≤14))=true then k1 14 cols (rws rows) (i:Int) else k0 14 cols (rws rows) false (i:Int):=by
 unfold Ujc Upy
 have h:=Uam (R:=R) (l:=(rows[i]).tm) (ok:=fun t=>decide (t.2.length≤14)) (kbad:=k0 14 cols (rws rows) false (i:Int)) (kend:=k1 14 cols (rws rows) (i:Int))
  (fun m j=>UcK n m 14 cols (rws rows) (i:Int) (j:Int) (fun y5 y6 y7 y8 y9=>k0 y5 y6 y7 y8 y9) (fun y10 y11 y12 y13=>k1 y10 y11 y12 y13))
  (fun m=>by
    simp only [UcK,Uft]
    simp (disch:=(first | omega | (simp only [JlE]; omega))) only [↓JlH,JlF,Uae,Jji,UaF hi,Ua])
  (fun m j hj=>by
    simp only [UcK,Uft]
    by_cases h1:((rows[i]).tm[j]).2.length≤14
    · simp (disch:=(first | omega | (simp only [JlE]; omega))) only [↓JlH,JlF,Uae,Jji,UaF hi,Ua,UaB hj,i1]
    · simp (disch:=(first | omega | (simp only [JlE]; omega))) only [↓JlH,JlF,Uae,Jji,UaF hi,Ua,UaB hj,i1]
      simp [h1]) (rows[i]).tm.length n 0 (by omega) (by omega)
 rw [List.drop_zero] at h
 exact h
theorem UtR (n:Nat) (hn:200000≤n) (cols:Int) (rows:List RowT) (k0:Bool→Option R):p9 n cols (rws rows) k0=k0 (Urg rows):=by
 unfold p9 p27 Urg
 by_cases h0:rows.length≤16
 · have h:=Uam (R:=R) (l:=rows) (ok:=UtQ) (kbad:=k0 false) (kend:=k0 true) (fun m i=>UbU n m 14 cols (rws rows) (i:Int) (fun y4=>k0 y4) (k0 true))
    (fun m=>by simp only [UbU,Ufs]; simp (disch:=(first | omega | (simp only [JlE]; omega))) only [↓JlH,JlF,Uae])
    (fun m i hi=>by
      simp only [UbU,Ufs,UtQ]
      by_cases h1:(rows[i]).tm.length≤12
      · by_cases h2:(rows[i]).c.length≤14
        · simp (disch:=(first | omega | (simp only [JlE]; omega))) only [↓JlH,JlF,Uae,Jji,UaF hi,Ua,i1,UtS n hn cols rows i hi h1]
        · simp (disch:=(first | omega | (simp only [JlE]; omega))) only [↓JlH,JlF,Uae,Jji,UaF hi,Ua,i1]
          simp [h2]
      · simp (disch:=(first | omega | (simp only [JlE]; omega))) only [↓JlH,JlF,Uae,Jji,UaF hi,Ua,i1]
        simp [h1]) rows.length n 0 (by omega) (by omega)
   rw [List.drop_zero] at h
   have h':UbU n n 14 cols (rws rows) 0 (fun y4=>k0 y4) (k0 true)=_:=h
   unfold Upx
   simp (disch:=(first | omega | (simp only [JlE]; omega))) only [↓JlH,JlF,Uae,h']
   cases rows.all UtQ <;> rfl
 · simp (disch:=(first | omega | (simp only [JlE]; omega))) only [↓JlH,JlF,Uae]
theorem Ucx (n:Nat) (hn:200000≤n) (l:List (List UInt8)) (k0:Bool→Option R):p10 n (sl l) k0=k0 (Uba l):=by
 unfold p10 Ups
 have hg:∀ (i:Nat) (h:i<(l.take 20).length),(l.take 20)[i]=l[i]'(by rw [List.length_take] at h; omega):=fun i h=>List.getElem_take
 have hlen:(l.take 20).length=min 20 l.length:=List.length_take
 have h:=Uam (R:=R) (l:=l.take 20) (ok:=fun s=>decide (s.length≤14)) (kbad:=k0 false) (kend:=k0 (decide (l.length≤16)))
  (fun m i=>UcG n m (sl l) (i:Int) (fun y2 y3=>k0 y3) (fun y4=>k0 (decide (((y4).length:Int)≤16))))
  (fun m=>by
    have e:decide (((l.length:Nat):Int)≤16)=decide (l.length≤16):=by rw [Bool.eq_iff_iff]; simp; omega
    simp only [UcG,Ufi]
    rw [hlen]
    by_cases h1:l.length<20
    · rw [show min 20 l.length=l.length from by omega]
      simp (disch:=(first | omega | (simp only [JlE]; omega))) only [↓JlH,JlF,Uaj,e]
    · by_cases h2:l.length=20
      · rw [show min 20 l.length=20 from by omega]
        simp (disch:=(first | omega | (simp only [JlE]; omega))) only [↓JlH,JlF,Uaj,e]
      · rw [show min 20 l.length=20 from by omega]
        simp (disch:=(first | omega | (simp only [JlE]; omega))) only [↓JlH,JlF,Uaj,e])
  (fun m i hi=>by
    have hi':i<l.length:=by omega
    have hi2:i<20:=by omega
    rw [hg i hi]
    simp only [UcG,Ufi]
    by_cases h1:(l[i]).length≤14
    · simp (disch:=(first | omega | (simp only [JlE]; omega))) only [↓JlH,JlF,Uaj,Jji,UbW hi',i1]
    · simp (disch:=(first | omega | (simp only [JlE]; omega))) only [↓JlH,JlF,Uaj,Jji,UbW hi',i1]
      simp [h1]) (l.take 20).length n 0 (by omega) (by omega)
 rw [List.drop_zero] at h
 refine Eq.trans h ?_
 unfold Uba
 cases ((l.take 20).all fun s=>decide (s.length≤14)) <;> rfl
end Go.Proofs.YtmgfmlhdnadglaaGreatDoor
set_option linter.unusedVariables false
set_option maxRecDepth 100000
namespace Go.Proofs.YtmgfmlhdnadglaaGreatDoor
open Go Th Go.Proofs
noncomputable section
variable {R:Type}
abbrev t16:Sl (List SV):=(.c (sP (JlI (.c (Jlv .i64) (.c sSh .n)))) (cH (cH (cH .n))))
def UeM:Ann:={ loops:=[(2,ids [1,6,7,8],ids [1,2])],cuts:=[],frz:=[],rm:=[.id] }
abbrev UqS (n:Nat):Env:=eC 10 (Uwi n) (eC 9 (fs9 n) eN)
theorem UkO (n:Nat):EnvOK Tryz.prog GI (UqS n):=.cons (.cons (.nil) (ok9 n)) (Uzi n)
def Ufq (n:Nat) (l0:Int→LP→LP→LP→LP→LP→Int→Int→O R) (x1:Int) (x2 x3 x4 x5 x6:LP) (x7 x8:Int) (k0:Int→LP→LP→LP→LP→Bool→O R) (k1:Int→LP→LP→LP→LP→O R):O R :=
 bif (decide (x8<x7)) then (bif (inR x8 ((x6).length)) then (Jh2 ((x6).getD ((x8:Int).toNat) (.v (.bool false))) fun a9=>JdT a9 fun h10 t11=>Jj .i64 h10 fun e12=>JdT t11 fun h13 t14=>Jj3 h13 fun e15=>Ji2 t14 (bif (decide (((e15).size:Int)>60)) then (k0 x1 x2 x3 x4 x5 false) else (l0 x1 x2 x3 x4 x5 x6 x7 (IntKind.i64.wrap (x8 + 1))))) else none) else (k1 x1 x2 x3 x4 x5)
def UcH (n:Nat):Nat→Int→LP→LP→LP→LP→LP→Int→Int→(Int→LP→LP→LP→LP→Bool→O R)→(Int→LP→LP→LP→LP→O R)→O R
 | 0,_,_,_,_,_,_,_,_,_,_=>none
 | m + 1,x1,x2,x3,x4,x5,x6,x7,x8,k0,k1=>Ufq n (fun x1 x2 x3 x4 x5 x6 x7 x8=>UcH n m x1 x2 x3 x4 x5 x6 x7 x8 k0 k1) x1 x2 x3 x4 x5 x6 x7 x8 k0 k1
def Upu (n:Nat) (x1:Int) (x2 x3 x4 x5 x6:LP) (x7 x8:Int) (k0:Int→LP→LP→LP→LP→Bool→O R) (k1:Int→LP→LP→LP→LP→O R):O R:=UcH n n x1 x2 x3 x4 x5 x6 x7 x8 k0 k1
def p14 (n:Nat) (x1:Int) (x2 x3 x4 x5:LP) (k0:Bool→O R):O R :=
 Upu n x1 x2 x3 x4 x5 x3 ((x3).length:Int) 0 (fun y6 y7 y8 y9 y10 y11=>k0 y11) (fun y12 y13 y14 y15 y16=>p9 n y12 y13 (fun y17=>bif y17 then (bif (bif true then (decide (((y14).length:Int)≤10)) else false) then (p10 n y15 (fun y18=>bif (bif true then y18 else false) then (p10 n y16 (fun y19=>k0 (bif true then y19 else false))) else (k0 false))) else (k0 false)) else (k0 false)))
abbrev E14 (n:Nat):Code→Fr→Kc R→O R:=evC Tryz.prog (UqS n) UeM n (36,[])
noncomputable def Uoy:Code:=Jj4 (Jll Tryz.f14) [1,0,1,0,0]
abbrev Ueq:Sl (List SV):=(.c (sBx 35 (cI (cH (cH (cH (cH .n)))))) (cH (cI (cI .n))))
abbrev UlI (n m:Nat) (K:Kc R):Ueq.T (O R):=fun x1 x2 x3 x4 x5 x6 x7 x8=>UcH n m x1 x2 x3 x4 x5 x6 x7 x8 (fun y1 y2 y3 y4 y5 y6=>xL UeM 2 K .ret [.bx 35 [vI y1,vH y2,vH y3,vH y4,vH y5],vB y6]) (fun y1 y2 y3 y4 y5=>xL UeM 2 K (.exit 0) [.bx 35 [vI y1,vH y2,vH y3,vH y4,vH y5],dD])
abbrev UsL (n:Nat) (K:Kc R) (l0:Ueq.T (O R)):Ueq.T (O R):=fun x1 x2 x3 x4 x5 x6 x7 x8=>Ufq n l0 x1 x2 x3 x4 x5 x6 x7 x8 (fun y1 y2 y3 y4 y5 y6=>xL UeM 2 K .ret [.bx 35 [vI y1,vH y2,vH y3,vH y4,vH y5],vB y6]) (fun y1 y2 y3 y4 y5=>xL UeM 2 K (.exit 0) [.bx 35 [vI y1,vH y2,vH y3,vH y4,vH y5],dD])
abbrev Uy6 (n:Nat):Orc R:=oL UeM (E14 n) n 2 Uoy Ueq (UlI n n) oN
abbrev Uyf (n:Nat):Orc R:=oN
abbrev K14 (R:Type) (n:Nat):=JcH (R:=R) Tryz.prog (UqS n) UeM n (36,[]) (Uy6 n) (Uyf n)
theorem UuN (n:Nat):K14 R n (false,2,Uoy):=JkF (lo:=Uy6 n) (cu:=Uyf n) (pO pN (by kernel_rfl)) Ueq (UlI n n) (JiE (F:=UlI n) Ueq (UsL n) (fun K _ _ _ _ _ _ _ _=>rfl) (fun _ _=>rfl) (fun L K _ _ _ _ _ _ _ _=>by show _=_; kernel_rfl) n) fun _ _=>rfl
theorem UBl (n:Nat):Je6 (K14 R n) (JaJ UeM (Jll Tryz.f14)):=pO (pC (UuN n) pN) (by kernel_rfl)
abbrev t14:Sl (List SV):=(.c (sP (JlI (.c (Jlv .i64) (.c sSh (.c sSh (.c sSh (.c sSh .n))))))) .n)
abbrev f14 (n:Nat) (K:List SV→O R):t14.T (O R):=fun x1 x2 x3 x4 x5=>p14 n x1 x2 x3 x4 x5 (fun y1=>K [vB y1])
abbrev UyE (n:Nat):FS:=fT [false] t14 (f14 n)
theorem UAS (n:Nat):FSound Tryz.prog GI 14 (UyE n):=gd UeM n (UkO n) Tryz.func14 (.cons (UkO n) t14 (f14 n) (fun K _ _ _ _ _=>(Jkq (c:=Jll Tryz.f14) (by kernel_rfl) (UBl n) K).trans (by kernel_rfl)) .nil) (by kernel_rfl)
end
end Go.Proofs.YtmgfmlhdnadglaaGreatDoor
set_option linter.unusedVariables false
set_option linter.unusedSimpArgs false
namespace Go.Proofs.YtmgfmlhdnadglaaGreatDoor
open Go Th Go.Proofs
variable {R:Type}
def UtP (rows:List RowT) (cost:List TermT) (w mult:List (List UInt8)):Bool:=(cost.all fun t=>decide (t.2.length≤60))&&(Urg rows&&(decide (cost.length≤10)&&(Uba w&&Uba mult)))
theorem Uri {rows:List RowT} {cost:List TermT} {w mult:List (List UInt8)} (h:UtP rows cost w mult=true):smA rows∧smT cost∧smS w∧smS mult:=by
 unfold UtP at h
 simp only [Bool.and_eq_true,decide_eq_true_iff,List.all_eq_true] at h
 obtain ⟨a,b,c,d,e⟩:=h
 exact ⟨UtT b,⟨by omega,fun t ht=>by have:=a t ht; omega⟩,UdF d,UdF e⟩
theorem Urh (n:Nat) (hn:200000≤n) (hnm:9223372036854775807<n) (cols:Int) (rows:List RowT) (cost:List TermT) (hcl:cost.length≤9223372036854775807) (w mult:List (List UInt8)) (k0:Bool→Option R):p14 n cols (rws rows) (tms cost) (sl w) (sl mult) k0=k0 (UtP rows cost w mult):=by
 have g1:=fun k=>UtR (R:=R) n hn cols rows k
 have g2:=fun k=>Ucx (R:=R) n hn w k
 have g3:=fun k=>Ucx (R:=R) n hn mult k
 unfold p14 Upu
 have H:=Uam (R:=R) (l:=cost) (ok:=fun t=>decide (t.2.length≤60)) (kbad:=k0 false) (kend:=k0 (Urg rows&&(decide (cost.length≤10)&&(Uba w&&Uba mult))))
  (fun m i=>UcH n m cols (rws rows) (tms cost) (sl w) (sl mult) (tms cost) ((tms cost).length:Int) (i:Int) (fun y6 y7 y8 y9 y10 y11=>k0 y11) (fun y12 y13 y14 y15 y16=>p9 n y12 y13 (fun y17=>bif y17 then (bif (bif true then (decide (((y14).length:Int)≤10)) else false) then (p10 n y15 (fun y18=>bif (bif true then y18 else false) then (p10 n y16 (fun y19=>k0 (bif true then y19 else false))) else (k0 false))) else (k0 false)) else (k0 false))))
  (fun m=>by
    simp only [UcH,Ufq]
    simp (disch:=(first | omega | (simp only [JlE]; omega))) only [↓JlH,JlF,Ua,g1]
    cases Urg rows with
    | false=>rfl
    | true =>
     by_cases h1:cost.length≤10
     · simp (disch:=(first | omega | (simp only [JlE]; omega))) only [↓JlH,JlF,Ua,g2,g3]
       cases Uba w with
       | false=>simp [h1]
       | true=>cases Uba mult <;> simp [h1]
     · simp (disch:=(first | omega | (simp only [JlE]; omega))) only [↓JlH,JlF,Ua] <;> simp [h1])
  (fun m i hi=>by
    simp only [UcH,Ufq]
    by_cases h1:(cost[i]).2.length≤60
    · simp (disch:=(first | omega | (simp only [JlE]; omega))) only [↓JlH,JlF,Ua,Jji,UaB hi,i1]
    · simp (disch:=(first | omega | (simp only [JlE]; omega))) only [↓JlH,JlF,Ua,Jji,UaB hi,i1]
      simp [h1]) cost.length n 0 (by omega) (by omega)
 rw [List.drop_zero] at H
 refine Eq.trans H ?_
 unfold UtP
 cases (cost.all fun t=>decide (t.2.length≤60)) <;> rfl
end Go.Proofs.YtmgfmlhdnadglaaGreatDoor
set_option linter.unusedVariables false
set_option maxRecDepth 100000
namespace Go.Proofs.YtmgfmlhdnadglaaGreatDoor
open Go Th Go.Proofs
noncomputable section
variable {R:Type}
def UpY:Ann:={ loops:=[],cuts:=[],frz:=[],rm:=[.id] }
abbrev Utl (n:Nat):Env:=eC 32 (UvI n) eN
theorem UkT (n:Nat):EnvOK Tryz.prog GI (Utl n):=.cons (.nil) (Uw9 n)
def p20 (n:Nat) (x1:Int) (x2 x3 x4 x5:LP) (k0:Int→O R):O R :=
 UuJ n x1 x2 x3 ([.sh x4,.sh x5]:LP) [] false x5 x1 x2 x3 (fun y6=>k0 y6)
abbrev UAq (n:Nat):Orc R:=oN
abbrev UzW (n:Nat):Orc R:=oN
abbrev K20 (R:Type) (n:Nat):=JcH (R:=R) Tryz.prog (Utl n) UpY n (17,[]) (UAq n) (UzW n)
theorem UBq (n:Nat):Je6 (K20 R n) (JaJ UpY (Jll Tryz.f20)):=pO pN (by kernel_rfl)
abbrev t20:Sl (List SV):=(.c (sP (JlI (.c (Jlv .i64) (.c sSh .n)))) (cH (cH (cH .n))))
abbrev f20 (n:Nat) (K:List SV→O R):t20.T (O R):=fun x1 x2 x3 x4 x5=>p20 n x1 x2 x3 x4 x5 (fun y1=>K [vI y1])
abbrev UyF (n:Nat):FS:=fT [false,false,false,false] t20 (f20 n)
theorem UAT (n:Nat):FSound Tryz.prog GI 20 (UyF n):=gd UpY n (UkT n) Tryz.func20 (.cons (UkT n) t20 (f20 n) (fun K _ _ _ _ _=>(Jkq (c:=Jll Tryz.f20) (by kernel_rfl) (UBq n) K).trans (by kernel_rfl)) .nil) (by kernel_rfl)
def Up1:Ann:={ loops:=[],cuts:=[],frz:=[],rm:=[.id] }
abbrev Uto (n:Nat):Env:=eN
theorem UkY (n:Nat):EnvOK Tryz.prog GI (Uto n):=.nil
def p28 (n:Nat) (x1:Int) (x2:ByteArray) (k0:Int→ByteArray→O R):O R :=
 k0 x1 x2
abbrev UAt (n:Nat):Orc R:=oN
abbrev UzZ (n:Nat):Orc R:=oN
abbrev K28 (R:Type) (n:Nat):=JcH (R:=R) Tryz.prog (Uto n) Up1 n (8,[]) (UAt n) (UzZ n)
theorem UBv (n:Nat):Je6 (K28 R n) (JaJ Up1 (Jll Tryz.f28)):=pO pN (by kernel_rfl)
abbrev t28:Sl (List SV):=(cI (cS .n))
abbrev f28 (n:Nat) (K:List SV→O R):t28.T (O R):=fun x1 x2=>p28 n x1 x2 (fun y1 y2=>K [.p (.agg [.v (.int .i64 y1),.v (.string y2)])])
abbrev UyI (n:Nat):FS:=fT [false,false] t28 (f28 n)
theorem UAW (n:Nat):FSound Tryz.prog GI 28 (UyI n):=gd Up1 n (UkY n) Tryz.func28 (.cons (UkY n) t28 (f28 n) (fun K _ _=>(Jkq (c:=Jll Tryz.f28) (by kernel_rfl) (UBv n) K).trans (by kernel_rfl)) .nil) (by kernel_rfl)
def UpU:Ann:={ loops:=[],cuts:=[],frz:=[],rm:=[.id] }
abbrev Uth (n:Nat):Env:=eC 28 (UyI n) (eC 23 (UyG n) (eC 20 (UyF n) (eC 15 (Uwj n) (eC 12 (UyD n) eN))))
theorem UkM (n:Nat):EnvOK Tryz.prog GI (Uth n):=.cons (.cons (.cons (.cons (.cons (.nil) (UAR n)) (Uzj n)) (UAT n)) (UAU n)) (UAW n)
def p11 (n:Nat)  (k0:Bool→O R):O R :=
 p28 n 0 ⟨#[49]⟩ (fun y1 y2=>p28 n 0 ⟨#[45,49]⟩ (fun y3 y4=>p23 n 1 ([.agg [.sh ([.agg [.v (.int .i64 y1),.v (.string y2)]]:LP),.v (.string ⟨#[45,51]⟩),.v (.bool false),.v (.int .i64 0)],.agg [.sh ([.agg [.v (.int .i64 y3),.v (.string y4)]]:LP),.v (.string ⟨#[50]⟩),.v (.bool false),.v (.int .i64 0)]]:LP) ([.v (.string ⟨#[49]⟩),.v (.string ⟨#[49]⟩)]:LP) (fun y5 y6 y7=>p28 n 0 ⟨#[49]⟩ (fun y8 y9=>p28 n 1 ⟨#[49]⟩ (fun y10 y11=>bif (y7 == 0) then (bif true then (bif true then (bif true then (bif (bif true then (((y5).length:Int) == 0) else false) then (bif true then (bif true then (bif (bif true then eqS y6 (⟨#[45,49]⟩:ByteArray) else false) then (bif true then (bif true then (p12 n 1 ([.agg [.sh ([.agg [.v (.int .i64 y1),.v (.string y2)]]:LP),.v (.string ⟨#[45,51]⟩),.v (.bool false),.v (.int .i64 0)],.agg [.sh ([.agg [.v (.int .i64 y3),.v (.string y4)]]:LP),.v (.string ⟨#[50]⟩),.v (.bool false),.v (.int .i64 0)]]:LP) ([.v (.string ⟨#[49]⟩),.v (.string ⟨#[49]⟩)]:LP) (fun y12=>bif true then (bif (bif true then (y12 == 0) else false) then (bif true then (bif true then (p12 n 1 ([.agg [.sh ([.agg [.v (.int .i64 y1),.v (.string y2)]]:LP),.v (.string ⟨#[45,51]⟩),.v (.bool false),.v (.int .i64 0)],.agg [.sh ([.agg [.v (.int .i64 y3),.v (.string y4)]]:LP),.v (.string ⟨#[50]⟩),.v (.bool false),.v (.int .i64 0)]]:LP) ([.v (.string ⟨#[49]⟩),.v (.string ⟨#[48]⟩)]:LP) (fun y13=>bif true then (bif (bif true then (y13 == 16) else false) then (bif true then (p28 n 0 ⟨#[50]⟩ (fun y14 y15=>bif true then (p28 n 1 ⟨#[51]⟩ (fun y16 y17=>bif true then (bif true then (bif true then (bif true then (p15 n 2 ([.agg [.sh ([.agg [.v (.int .i64 y8),.v (.string y9)],.agg [.v (.int .i64 y10),.v (.string y11)]]:LP),.v (.string ⟨#[45,50]⟩),.v (.bool false),.v (.int .i64 0)]]:LP) ([.agg [.v (.int .i64 y14),.v (.string y15)],.agg [.v (.int .i64 y16),.v (.string y17)]]:LP) ([.v (.string ⟨#[50]⟩),.v (.string ⟨#[48]⟩)]:LP) ([.v (.string ⟨#[50]⟩)]:LP) (fun y18=>bif true then (bif (bif true then (y18 == 0) else false) then (bif true then (p28 n 1 ⟨#[45,49]⟩ (fun y19 y20=>bif true then (bif true then (bif true then (bif true then (p20 n 2 ([.agg [.sh ([.agg [.v (.int .i64 y8),.v (.string y9)],.agg [.v (.int .i64 y10),.v (.string y11)]]:LP),.v (.string ⟨#[45,50]⟩),.v (.bool false),.v (.int .i64 0)]]:LP) ([.agg [.v (.int .i64 y19),.v (.string y20)]]:LP) ([.v (.string ⟨#[50]⟩),.v (.string ⟨#[48]⟩)]:LP) ([.v (.string ⟨#[48]⟩),.v (.string ⟨#[49]⟩)]:LP) (fun y21=>bif true then (k0 (bif true then (y21 == 0) else false)) else none)) else none) else none) else none) else none)) else none) else (bif false then none else (bif false then none else (bif false then none else (bif false then none else (bif false then none else (bif false then none else (bif false then none else (k0 false))))))))) else none)) else none) else none) else none) else none)) else none)) else none) else (bif false then none else (bif false then none else (bif false then none else (bif false then none else (bif false then none else (bif false then none else (bif false then none else (bif false then none else (bif false then none else (bif false then none else (bif false then none else (bif false then none else (bif false then none else (bif false then none else (bif false then none else (bif false then none else (k0 false)))))))))))))))))) else none)) else none) else none) else (bif false then none else (bif false then none else (bif false then none else (bif false then none else (bif false then none else (bif false then none else (bif false then none else (bif false then none else (bif false then none else (bif false then none else (bif false then none else (bif false then none else (bif false then none else (bif false then none else (bif false then none else (bif false then none else (bif false then none else (bif false then none else (bif false then none else (bif false then none else (bif false then none else (k0 false))))))))))))))))))))))) else none)) else none) else none) else (bif false then none else (bif false then none else (bif false then none else (bif false then none else (bif false then none else (bif false then none else (bif false then none else (bif false then none else (bif false then none else (bif false then none else (bif false then none else (bif false then none else (bif false then none else (bif false then none else (bif false then none else (bif false then none else (bif false then none else (bif false then none else (bif false then none else (bif false then none else (bif false then none else (bif false then none else (bif false then none else (bif false then none else (bif false then none else (bif false then none else (k0 false)))))))))))))))))))))))))))) else none) else none) else (bif false then none else (bif false then none else (bif false then none else (bif false then none else (bif false then none else (bif false then none else (bif false then none else (bif false then none else (bif false then none else (bif false then none else (bif false then none else (bif false then none else (bif false then none else (bif false then none else (bif false then none else (bif false then none else (bif false then none else (bif false then none else (bif false then none else (bif false then none else (bif false then none else (bif false then none else (bif false then none else (bif false then none else (bif false then none else (bif false then none else (bif false then none else (bif false then none else (bif false then none else (bif false then none else (k0 false)))))))))))))))))))))))))))))))) else none) else none) else none) else (bif false then none else (bif false then none else (bif false then none else (bif false then none else (bif false then none else (bif false then none else (bif false then none else (bif false then none else (bif false then none else (bif false then none else (bif false then none else (bif false then none else (bif false then none else (bif false then none else (bif false then none else (bif false then none else (bif false then none else (bif false then none else (bif false then none else (bif false then none else (bif false then none else (bif false then none else (bif false then none else (bif false then none else (bif false then none else (bif false then none else (bif false then none else (bif false then none else (bif false then none else (bif false then none else (bif false then none else (bif false then none else (bif false then none else (bif false then none else (bif false then none else (k0 false)))))))))))))))))))))))))))))))))))))))))
abbrev UAm (n:Nat):Orc R:=oN
abbrev UzS (n:Nat):Orc R:=oN
abbrev K11 (R:Type) (n:Nat):=JcH (R:=R) Tryz.prog (Uth n) UpU n (69,[]) (UAm n) (UzS n)
theorem UBj (n:Nat):Je6 (K11 R n) (JaJ UpU (Jll Tryz.f11)):=pO pN (by kernel_rfl)
abbrev t11:Sl (List SV):=.n
abbrev f11 (n:Nat) (K:List SV→O R):t11.T (O R):=p11 n  (fun y1=>K [vB y1])
abbrev UyC (n:Nat):FS:=fT [] t11 (f11 n)
theorem UAQ (n:Nat):FSound Tryz.prog GI 11 (UyC n):=gd UpU n (UkM n) Tryz.func11 (.cons (UkM n) t11 (f11 n) (fun K=>(Jkq (c:=Jll Tryz.f11) (by kernel_rfl) (UBj n) K).trans (by kernel_rfl)) .nil) (by kernel_rfl)
end
end Go.Proofs.YtmgfmlhdnadglaaGreatDoor
namespace Go.Proofs.YtmgfmlhdnadglaaGreatDoor
open Go Th Go.Proofs
theorem UuF {R:Type} (m:Nat) (k0:Bool→Option R):p11 (m + 40) k0=k0 true:=by kernel_rfl
theorem Urx {R:Type} (n:Nat) (h:40≤n) (k0:Bool→Option R):p11 n k0=k0 true:=by
 rw [show n=(n - 40) + 40 from by omega]; exact UuF _ k0
end Go.Proofs.YtmgfmlhdnadglaaGreatDoor
set_option linter.unusedVariables false
namespace Go.Proofs.YtmgfmlhdnadglaaGreatDoor
open Go Th Go.Proofs
abbrev Uce:List (String × DataW Unit):=[("math/bits.deBruijn32tab",Rows.laid_math_bits_deBruijn32tab),("math/bits.deBruijn64tab",Rows.laid_math_bits_deBruijn64tab),("internal/strconv.uint64pow10",Rows.laid_internal_strconv_uint64pow10),("unicode/utf8.acceptRanges",Rows.laid_unicode_utf8_acceptRanges),("strconv.ErrRange",Rows.laid_strconv_ErrRange),("strconv.ErrSyntax",Rows.laid_strconv_ErrSyntax),("unicode/utf8.first",Rows.laid_unicode_utf8_first)]
theorem Uon {W:World} (h:laidMetH Tryz.prog Uce W):Lib.TabIs Tryz.prog W "internal/strconv.uint64pow10" .u64 Lib.pow10Tab:=by
 rw [MakeChecks.laidMetH_plain _ _ _ (by kernel_rfl)] at h
 obtain ⟨ps,⟨_,_,_,_,_,_,_,_,_,_,⟨_,_,_,_,_,_,_,_,_,_,⟨g,t,cs,f,p,q,hg,ht,hv,hd,_,_⟩,_⟩,_⟩,_⟩:=h
 obtain rfl:=Option.some.inj ((show Tryz.prog.globalNamed "internal/strconv.uint64pow10" = some 0 by kernel_rfl).symm.trans hg)
 have e:(Rows.laid_internal_strconv_uint64pow10:DataW Unit)=Lib.tabData .u64 Lib.pow10Tab:=by kernel_rfl
 rw [e] at hd
 obtain rfl:=Option.some.inj ((show (Tryz.prog.globals[0]?).map (·.type)=some 199 by kernel_rfl).symm.trans ht)
 have hc:=Lib.cells_of_tab Tryz.underlying199 Tryz.underlying144 (by kernel_rfl) (by kernel_rfl) hd
 unfold Lib.TabIs
 rw [hv,←hc]
theorem Uoo {P:Program} {W:World} {name:String} {k:IntKind} {zs:List Int} {g:Nat} (hg:P.globalNamed name=some g) (h:Lib.TabIs P W name k zs):g<W.heap.size:=by
 unfold Lib.TabIs World.var? at h
 rw [hg] at h
 simp only [Option.bind_some] at h
 split at h
 · rename_i hh
   exact (Array.getElem?_eq_some_iff.1 hh).1
 · cases h
abbrev Tab (W:World):Prop:=Lib.TabIs Tryz.prog W "internal/strconv.uint64pow10" .u64 Lib.pow10Tab
def Fp (ps:List MemPlace) (b:Nat):Prop:=b=0∨∃ x∈ps,x.block=b
theorem Urj {ps qs:List MemPlace} (h:∀ x∈qs,x∈ps):∀ x∈qs,Fp ps x.block:=fun x hx=>.inr ⟨x,h x hx,rfl⟩
theorem UnT {g:Nat} {fs:FS} (hf:FSound Tryz.prog GI g fs) {cargs:Array Value} {args:List PV} {W:World} (h:Tab W) (ps:List MemPlace) (hlt:∀ x∈ps,x.block<W.heap.size)
 (ha:RSs Tryz.prog (Fp ps) W (args.map SV.p) cargs.toList []) (hk:fs.run (args.map SV.p) JgZ=some true) :
 Calls Tryz.prog g cargs W fun e w'=>e=.returned (.bool true)∧RowKit.Below W.heap.size W w' :=
 Jjb hf W (Fp ps) (fun b hb=>by
  rcases hb with rfl | ⟨x,hx,rfl⟩
  · exact Uoo (by kernel_rfl) h
  · exact hlt x hx) ⟨.inl rfl,h⟩ ha hk
theorem c3:Tryz.prog.cellsOf 3=1:=by kernel_rfl
theorem c4:Tryz.prog.cellsOf 4=1:=by kernel_rfl
theorem c9:Tryz.prog.cellsOf 9=1:=by kernel_rfl
theorem c22:Tryz.prog.cellsOf 22=1:=by kernel_rfl
theorem c24:Tryz.prog.cellsOf 24=2:=by kernel_rfl
theorem c25:Tryz.prog.cellsOf 25=1:=by kernel_rfl
theorem c33:Tryz.prog.cellsOf 33=1:=by kernel_rfl
theorem c35:Tryz.prog.cellsOf 35=5:=by kernel_rfl
theorem c66:Tryz.prog.cellsOf 66=2:=by kernel_rfl
theorem c70:Tryz.prog.cellsOf 70=4:=by kernel_rfl
section
variable {H:Type} {enc:TypeId × Value→H} {W:World} {spare:Nat→Bool} {held:Bool} {F:Nat→Prop}
abbrev UgM:=Int × ByteArray × Unit
abbrev Uso:=List UgM × ByteArray × Bool × Int × Unit
abbrev Uv0:=Int × List Uso × Unit
def termC (y:UgM):List PV:=[.v (.int .i64 y.1)]++([.v (.string y.2.1)]++[])
def rowC (y:Uso):List PV:=[.sh (y.1.map fun t=>.agg (termC t))]++([.v (.string y.2.1)]++([.v (.bool y.2.2.1)]++([.v (.int .i64 y.2.2.2.1)]++[])))
def sysC (y:Uv0):List PV:=[.v (.int .i64 y.1)]++([.sh (y.2.1.map fun r=>.agg (rowC r))]++[])
theorem Ure {f:Field} {fs:List Field} {off:Nat} {B:Type} {ok2:B→Prop} {cells2:B→List PV} {size:Nat} (ho:f.offset=off) (ht:f.type=3) (s:Fld enc Tryz.prog W spare held F fs (off + 1) B ok2 cells2 size) :
 Fld enc Tryz.prog W spare held F (f::fs) off (Int × B) (fun y=>(Lit.int .i64 y.1).wf=true∧ok2 y.2) (fun y=>[.v (.int .i64 y.1)]++cells2 y.2) (1 + size) :=
 JkR ho (by rw [ht]; exact c3) (by rw [ht]; exact Jlo Tryz.underlying3 c3) s
theorem UtO {f:Field} {fs:List Field} {off:Nat} {B:Type} {ok2:B→Prop} {cells2:B→List PV} {size:Nat} (ho:f.offset=off) (ht:f.type=9) (s:Fld enc Tryz.prog W spare held F fs (off + 1) B ok2 cells2 size) :
 Fld enc Tryz.prog W spare held F (f::fs) off (ByteArray × B) (fun y=>y.1.size≤maxLen∧ok2 y.2) (fun y=>[.v (.string y.1)]++cells2 y.2) (1 + size) :=
 JkR ho (by rw [ht]; exact c9) (by rw [ht]; exact Jlp Tryz.underlying9 c9) s
theorem UtN {f:Field} {fs:List Field} {off:Nat} {B:Type} {ok2:B→Prop} {cells2:B→List PV} {size:Nat} (ho:f.offset=off) (ht:f.type=4) (s:Fld enc Tryz.prog W spare held F fs (off + 1) B ok2 cells2 size) :
 Fld enc Tryz.prog W spare held F (f::fs) off (Bool × B) (fun y=>True∧ok2 y.2) (fun y=>[.v (.bool y.1)]++cells2 y.2) (1 + size) :=
 JkR ho (by rw [ht]; exact c4) (by rw [ht]; exact Jlc Tryz.underlying4 c4) s
theorem Uss {t k:Nat} {f:Field} {fs:List Field} {off:Nat} {A B:Type} {ok:A→Prop} {cells:A→List PV} {ok2:B→Prop} {cells2:B→List PV} {size:Nat} (ht:f.type=t) (hc:Tryz.prog.cellsOf t=k) (r:Rd enc Tryz.prog W spare held F t A ok cells) (ho:f.offset=off) (s:Fld enc Tryz.prog W spare held F fs (off + k) B ok2 cells2 size) :
 Fld enc Tryz.prog W spare held F (f::fs) off (A × B) (fun y=>ok y.1∧ok2 y.2) (fun y=>cells y.1++cells2 y.2) (k + size) :=
 JkR ho (by rw [ht]; exact hc) (by rw [ht]; exact r) s
theorem Usb:∃ ok,Rd enc Tryz.prog W spare held F 66 UgM ok termC :=
 ⟨_,JkG Tryz.underlying66 c66 (Ure rfl rfl (UtO rfl rfl (Jk4 _)))⟩
theorem Ujj:∃ ok,Rd enc Tryz.prog W spare held F 33 (List UgM) ok (fun l=>[.sh (l.map fun t=>.agg (termC t))]) :=
 let ⟨ok,h⟩:=Usb
 ⟨_,JkY Tryz.underlying33 c33 (by rw [c66]; omega) (fun a=>rfl) h⟩
theorem Uvj:∃ ok,Rd enc Tryz.prog W spare held F 70 Uso ok rowC :=
 let ⟨ok,h⟩:=Ujj
 ⟨_,JkG Tryz.underlying70 c70 (Uss (t:=33) rfl c33 h rfl (UtO rfl rfl (UtN rfl rfl (Ure rfl rfl (Jk4 _)))))⟩
theorem Usa:∃ ok,Rd enc Tryz.prog W spare held F 22 (List Uso) ok (fun l=>[.sh (l.map fun t=>.agg (rowC t))]) :=
 let ⟨ok,h⟩:=Uvj
 ⟨_,JkY Tryz.underlying22 c22 (by rw [c70]; omega) (fun a=>rfl) h⟩
theorem Uvk:∃ ok,Rd enc Tryz.prog W spare held F 24 Uv0 ok sysC :=
 let ⟨ok,h⟩:=Usa
 ⟨_,JkG Tryz.underlying24 c24 (Ure rfl rfl (Uss (t:=22) rfl c22 h rfl (Jk4 _)))⟩
theorem UmP:∃ ok,Rd enc Tryz.prog W spare held F 25 (List ByteArray) ok (fun l=>[.sh (l.map fun s=>.v (.string s))]) :=
 ⟨_,JkY Tryz.underlying25 c25 (by rw [c9]; omega) (fun a=>rfl) (Jlp Tryz.underlying9 c9)⟩
def Um6 (y:UgM):TermT:=(y.1,y.2.1.data.toList)
def UvW (y:Uso):RowT:=⟨y.1.map Um6,y.2.1.data.toList,y.2.2.1,y.2.2.2.1⟩
theorem Um7 (l:List UgM):(l.map fun t=>PV.agg (termC t))=tms (l.map Um6):=by
 unfold tms; rw [List.map_map]; rfl
theorem Uvm (l:List Uso):(l.map fun t=>PV.agg (rowC t))=rws (l.map UvW):=by
 unfold rws
 rw [List.map_map]
 refine List.map_congr_left fun r _=>?_
 show PV.agg ([.sh (r.1.map fun t=>.agg (termC t))]++_)=rPV (UvW r)
 rw [Um7]; rfl
theorem UmV (l:List ByteArray):(l.map fun s=>PV.v (.string s))=sl (l.map fun s=>s.data.toList):=by
 unfold sl; rw [List.map_map]; rfl
theorem UhS {x:Option Addr} {len cap:Nat} {d:DataW H} {p:List MemPlace} (h:DataW.Trod enc Tryz.prog W 0 spare held 25 (.slice x len cap) d p) (hF:∀ x∈p,F x.block):∃ l,RP F W (.sh (sl l)) (.slice x len cap):=by
 obtain ⟨ok,r⟩:=UmP (enc:=enc) (W:=W) (spare:=spare) (held:=held) (F:=F)
 obtain ⟨a,_,h2⟩:=Jlr r h hF
 refine ⟨a.map fun s=>s.data.toList,?_⟩
 rw [←UmV]
 exact h2
abbrev UsA:=Uv0 × List UgM × List ByteArray × List ByteArray × Unit
def caseC (y:UsA):List PV:=sysC y.1++([.sh (y.2.1.map fun t=>.agg (termC t))]++([.sh (y.2.2.1.map fun s=>.v (.string s))]++([.sh (y.2.2.2.1.map fun s=>.v (.string s))]++[])))
theorem Us:∃ ok,Rd enc Tryz.prog W spare held F 35 UsA ok caseC :=
 let ⟨_,h1⟩:=Uvk
 let ⟨_,h2⟩:=Ujj
 let ⟨_,h3⟩:=UmP
 ⟨_,JkG Tryz.underlying35 c35 (Uss (t:=24) rfl c24 h1 rfl (Uss (t:=33) rfl c33 h2 rfl (Uss (t:=25) rfl c25 h3 rfl (Uss (t:=25) rfl c25 h3 rfl (Jk4 _)))))⟩
theorem Uvn {es:List PV} {v:Value} (h:RP F W (.sh es) v):es.length≤maxLen:=by
 cases h with
 | sh _ _ _ _ h4 h5 h6=>omega
theorem Unl {cs:Array Value} {d:DataW H} {p:List MemPlace} (h:DataW.Trod enc Tryz.prog W 0 spare held 35 (.agg cs) d p) (hF:∀ x∈p,F x.block) :
 ∃ cols rows cost w mult,cost.length≤9223372036854775807∧RP F W (.agg [.v (.int .i64 cols),.sh (rws rows),.sh (tms cost),.sh (sl w),.sh (sl mult)]) (.agg cs):=by
 obtain ⟨ok,r⟩:=Us (enc:=enc) (W:=W) (spare:=spare) (held:=held) (F:=F)
 obtain ⟨a,_,h2⟩:=Jlq r h hF
 have e:caseC a=[.v (.int .i64 a.1.1),.sh (rws (a.1.2.1.map UvW)),.sh (tms (a.2.1.map Um6)),.sh (sl (a.2.2.1.map fun s=>s.data.toList)),.sh (sl (a.2.2.2.1.map fun s=>s.data.toList))]:=by
  rw [←Uvm,←Um7,←UmV,←UmV]; rfl
 rw [e] at h2
 refine ⟨a.1.1,a.1.2.1.map UvW,a.2.1.map Um6,a.2.2.1.map fun s=>s.data.toList,a.2.2.2.1.map fun s=>s.data.toList,?_,h2⟩
 have h3:∃ v,RP F W (.sh (tms (a.2.1.map Um6))) v:=by
  cases h2 with
  | agg q _ =>
   cases q with
   | cons _ q =>
    cases q with
    | cons _ q =>
     cases q with
     | cons q _=>exact ⟨_,q⟩
 obtain ⟨v,h3⟩:=h3
 have:=Uvn h3
 rw [Ua] at this
 exact Nat.le_trans this (by decide)
end
end Go.Proofs.YtmgfmlhdnadglaaGreatDoor
set_option linter.unusedVariables false
set_option maxRecDepth 100000
namespace Go.Proofs.YtmgfmlhdnadglaaGreatDoor
open Go Th Go.Proofs
noncomputable section
variable {R:Type}
def Uov:Ann:={ loops:=[],cuts:=[(3,ids [1,2,3],ids [6]),(9,ids [1,2,3,10,11,12,13],ids [6])],frz:=[],rm:=[.id] }
abbrev Uwh (n:Nat):Env:=eC 19 (Upl n) (eC 18 (UvG n) (eC 17 (Uwk n) (eC 15 (Uwj n) (eC 14 (UyE n) (eC 11 (UyC n) (eC 10 (Uwi n) eN))))))
theorem Up (n:Nat):EnvOK Tryz.prog GI (Uwh n):=.cons (.cons (.cons (.cons (.cons (.cons (.cons (.nil) (Uzi n)) (UAQ n)) (UAS n)) (Uzj n)) (Uzk n)) (Uw7 n)) (Urw n)
def Ugt (n:Nat) (x1 x2:LP) (x3:Int) (x4 x5 x6 x7:LP) (x8:ByteArray) (x9:Int) (x10:ByteArray) (x11:Int) (k0:Bool→O R):O R :=
 p15 n x3 x4 x5 x1 x2 (fun y12=>bif (y12 != 0) then (p11 n (fun y13=>k0 y13)) else (bif (x9 == 0) then (bif (bif true then (x11 == 0) else false) then (bif (bif true then eqS x8 x10 else false) then (p11 n (fun y14=>k0 (bif true then y14 else false))) else (k0 false)) else (k0 false)) else (k0 false)))
def UrA (n:Nat) (x1 x2:LP) (x3:Int) (x4 x5 x6 x7:LP) (k0:Bool→O R):O R :=
 p17 n x3 x4 x1 (fun y8 y9=>p18 n x5 ⟨#[48]⟩ x6 (fun y10 y11=>p18 n x5 ⟨#[48]⟩ x1 (fun y12 y13=>bif (y9 == 0) then (bif (bif true then y8 else false) then (bif (bif true then (y11 == 0) else false) then (bif (bif true then (y13 == 0) else false) then (p19 n y12 y10 (fun y14=>bif (bif true then (decide (y14<0)) else false) then (k0 false) else (Ugt n x1 x2 x3 x4 x5 x6 x7 y10 y11 y12 y13 (fun y15=>k0 y15)))) else (Ugt n x1 x2 x3 x4 x5 x6 x7 y10 y11 y12 y13 (fun y16=>k0 y16))) else (Ugt n x1 x2 x3 x4 x5 x6 x7 y10 y11 y12 y13 (fun y17=>k0 y17))) else (Ugt n x1 x2 x3 x4 x5 x6 x7 y10 y11 y12 y13 (fun y18=>k0 y18))) else (Ugt n x1 x2 x3 x4 x5 x6 x7 y10 y11 y12 y13 (fun y19=>k0 y19)))))
def p6 (n:Nat) (x1:Int) (x2 x3 x4 x5 x6 x7:LP) (k0:Bool→O R):O R :=
 p14 n x1 x2 x3 x4 x5 (fun y8=>bif (!y8) then (p11 n (fun y9=>k0 y9)) else (p10 n x6 (fun y10=>bif (bif false then true else (!y10)) then (p11 n (fun y11=>k0 y11)) else (p10 n x7 (fun y12=>bif (bif false then true else (!y12)) then (p11 n (fun y13=>k0 y13)) else (p15 n x1 x2 x3 x4 x5 (fun y14=>bif (bif false then true else (y14 != 0)) then (p11 n (fun y15=>k0 y15)) else (UrA n x6 x7 x1 x2 x3 x4 x5 (fun y16=>k0 y16)))))))))
abbrev E6 (n:Nat):Code→Fr→Kc R→O R:=evC Tryz.prog (Uwh n) Uov n (105,[])
noncomputable def Us5:Code:=Jj4 (Jll Tryz.f6) [1,1]
abbrev Ush:Sl (List SV):=(cH (cH (.c (sBx 35 (cI (cH (cH (cH (cH .n)))))) .n)))
abbrev UtL (n:Nat) (K:Kc R):Ush.T (O R):=fun x1 x2 x3 x4 x5 x6 x7=>UrA n x1 x2 x3 x4 x5 x6 x7 (fun y1=>xC Uov 3 K .ret [vB y1])
noncomputable def Us6:Code:=Jj4 (Jll Tryz.f6) [1,1,1,1,1,1,1]
abbrev Usi:Sl (List SV):=(cH (cH (.c (sBx 35 (cI (cH (cH (cH (cH .n)))))) (cS (cI (cS (cI .n)))))))
abbrev UtM (n:Nat) (K:Kc R):Usi.T (O R):=fun x1 x2 x3 x4 x5 x6 x7 x8 x9 x10 x11=>Ugt n x1 x2 x3 x4 x5 x6 x7 x8 x9 x10 x11 (fun y1=>xC Uov 9 K .ret [vB y1])
abbrev lo6 (n:Nat):Orc R:=oN
abbrev cu6 (n:Nat):Orc R:=oC Uov (E6 n) 9 Us6 Usi (UtM n) (oC Uov (E6 n) 3 Us5 Ush (UtL n) oN)
abbrev K6 (R:Type) (n:Nat):=JcH (R:=R) Tryz.prog (Uwh n) Uov n (105,[]) (lo6 n) (cu6 n)
theorem UxE (n:Nat):K6 R n (true,9,Us6):=JkW (lo:=lo6 n) (cu:=cu6 n) (pO pN (by kernel_rfl)) Usi (UtM n) (fun K _ _ _ _ _ _ _ _ _ _ _=>by show _=_; kernel_rfl) fun _ _=>rfl
theorem UxD (n:Nat):K6 R n (true,3,Us5):=JkW (lo:=lo6 n) (cu:=cu6 n) (pO (pC (UxE n) pN) (by kernel_rfl)) Ush (UtL n) (fun K _ _ _ _ _ _ _=>by show _=_; kernel_rfl) fun _ _=>rfl
theorem pa6 (n:Nat):Je6 (K6 R n) (JaJ Uov (Jll Tryz.f6)):=pO (pC (UxD n) pN) (by kernel_rfl)
abbrev t6:Sl (List SV):=(.c (sP (JlI (.c (Jlv .i64) (.c sSh (.c sSh (.c sSh (.c sSh .n))))))) (cH (cH .n)))
abbrev f6 (n:Nat) (K:List SV→O R):t6.T (O R):=fun x1 x2 x3 x4 x5 x6 x7=>p6 n x1 x2 x3 x4 x5 x6 x7 (fun y1=>K [vB y1])
abbrev fs6 (n:Nat):FS:=fT [false,false,false] t6 (f6 n)
theorem ok6 (n:Nat):FSound Tryz.prog GI 6 (fs6 n):=gd Uov n (Up n) Tryz.func6 (.cons (Up n) t6 (f6 n) (fun K _ _ _ _ _ _ _=>(Jkq (c:=Jll Tryz.f6) (by kernel_rfl) (pa6 n) K).trans (by kernel_rfl)) .nil) (by kernel_rfl)
end
end Go.Proofs.YtmgfmlhdnadglaaGreatDoor
set_option linter.unusedVariables false
set_option linter.unusedSimpArgs false
namespace Go.Proofs.YtmgfmlhdnadglaaGreatDoor
open Go Th Go.Proofs
variable {R:Type}
structure Lst (cols:Int) (rows:List RowT) (cost:List TermT) (w mult:List (List UInt8)) (x:SpR) (y:Rat):Prop where
 hs:UgB cols rows=0
 hc:Udi cols cost=true
 rm:okRM cols rows mult
 sv:okSV cols rows w
 hh:hM rows w=some true
 hx:Ubc (zsR rows mult) ([],0)=some x
 hy:Uao (evS (vq w)) 0 (spL cost)=some y
 hb:Ugl cols rows mult cost x y=true
theorem Ui4 {cols:Int} {rows:List RowT} {cost:List TermT} {w mult:List (List UInt8)} (hw:smS w) (h:UbP cols rows cost w mult=0):∃ x y,Lst cols rows cost w mult x y:=by
 unfold UbP at h
 by_cases h1:UgB cols rows=0
 · rw [if_neg (by simp [h1])] at h
   cases h2:Udi cols cost with
   | false=>rw [h2,if_pos rfl] at h; cases h
   | true =>
    rw [h2,if_neg (by decide)] at h
    cases h3:Ud4 mult with
    | false=>rw [h3,if_pos rfl] at h; cases h
    | true =>
     rw [h3,if_neg (by decide)] at h
     cases h4:Ud4 w with
     | false=>rw [h4,if_pos rfl] at h; cases h
     | true =>
      rw [h4,if_neg (by decide)] at h
      by_cases h5:(w.length:Int)=cols
      · rw [if_neg (by simp [h5])] at h
        by_cases h6:mult.length=rows.length
        · rw [if_neg (by simp [h6])] at h
          have sv:=Uhd hw (UjQ h1 h5 h4)
          cases h7:hM rows w with
          | none=>rw [h7] at h; cases h
          | some b =>
           cases b with
           | false=>rw [h7] at h; cases h
           | true =>
            rw [h7] at h
            dsimp only at h
            cases hx:Ubc (zsR rows mult) ([],0) with
            | none=>rw [hx] at h; cases h
            | some x =>
             rw [hx] at h
             simp only [Ugm] at h
             cases hy:Uao (evS (vq w)) 0 (spL cost) with
             | none=>rw [hy] at h; cases h
             | some y =>
              rw [hy] at h
              dsimp only at h
              cases hb:Ugl cols rows mult cost x y with
              | false=>rw [hb] at h; cases h
              | true=>exact ⟨x,y,h1,h2,Umn h1 h3 h6,sv,h7,hx,hy,hb⟩
        · rw [if_pos h6] at h; cases h
      · rw [if_pos h5] at h; cases h
 · rw [if_pos h1] at h; cases h
theorem Uff {cols:Int} {rows:List RowT} {cost:List TermT} {w mult:List (List UInt8)} {x:SpR} {y:Rat} (h:Lst cols rows cost w mult x y) {u:List (List UInt8)} (hu:okSV cols rows u) (hh:hM rows u=some true) {z:Rat} (hz:Uao (evS (vq u)) 0 (spL cost)=some z):y≤z:=by
 obtain ⟨h1,h2⟩:=Urn hh
 have hb:=h.hb
 unfold Ugl at hb
 simp only [Bool.and_eq_true,decide_eq_true_iff] at hb
 obtain ⟨⟨b1,b2⟩,b3⟩:=hb
 have p:=UnA h.rm hu h2 b1 h.hx
 have e:=UnC h.rm.hc h.hc (v:=vq u) (by rw [Ung]; have:=hu.len; omega) hz
 have q:UaT (cf x.1) 0 (vq u)≤UaT (cf (spL cost)) 0 (vq u):=Ukx h1 fun i _ hi=>by
  unfold leB at b3
  have:=List.all_eq_true.1 b3 i (List.mem_range.2 (by rw [Ung] at hi; have:=hu.len; omega))
  exact of_decide_eq_true this
 rw [←e] at q
 grind
theorem UnN (n:Nat) (hn:10 ^ 1000≤n) {cols:Int} {rows:List RowT} {cost:List TermT} (hc:cols≤2048) (hcb:Udi cols cost=true) (hsm:smT cost) (u:List (List UInt8)) (hu:smS u) :
 ∃ s e,(∀ k:ByteArray→Int→Option R,p18 n (tms cost) (bs [48]) (sl u) k=k s e)∧(okSV cols rows u→∀ z,Uao (evS (vq u)) 0 (spL cost)=some z→s=bs (Uaa z)∧e=0)∧(okSV cols rows u→Uao (evS (vq u)) 0 (spL cost)=none→e=5):=by
 have g:=fun k=>UgY (R:=R) n hn cost [48] u hsm (by decide) hu k
 by_cases h1:okSV cols rows u
 · have g1:=fun k=>UgT (R:=R) n hn hc hcb hsm h1.hw h1.len hu k
   cases hz:Uao (evS (vq u)) 0 (spL cost) with
   | none=>rw [hz] at g1; exact ⟨bs [],5,g1,fun _ z h=>(by cases h),fun _ _=>rfl⟩
   | some z=>rw [hz] at g1; exact ⟨bs (Uaa z),0,g1,fun _ z' h=>by cases h; exact ⟨rfl,rfl⟩,fun _ h=>(by cases h)⟩
 · have:∃ s e,∀ k:ByteArray→Int→Option R,evA cost [48] u k=k s e:=by
    unfold evA
    by_cases a1:UgJ cost [48]=0
    · have a1':¬ UgJ cost [48]≠0:=by simp [a1]
      simp only [if_neg a1']
      by_cases a2:Ud4 u=false
      · simp only [if_pos a2]; exact ⟨_,_,fun k=>rfl⟩
      · simp only [if_neg a2]
        by_cases a3:u.length<hiC (spL cost)
        · simp only [if_pos a3]; exact ⟨_,_,fun k=>rfl⟩
        · simp only [if_neg a3]
          cases Uao (evS (vq u)) (rq [48]) (spL cost) with
          | none=>exact ⟨_,_,fun k=>rfl⟩
          | some z=>exact ⟨_,_,fun k=>rfl⟩
    · simp only [if_pos (show UgJ cost [48]≠0 from a1)]; exact ⟨_,_,fun k=>rfl⟩
   obtain ⟨s,e,h⟩:=this
   exact ⟨s,e,fun k=>(g k).trans (h k),fun q=>absurd q h1,fun q=>absurd q h1⟩
theorem Ud0 (n:Nat) (hn:10 ^ 1000≤n) (hnm:9223372036854775807<n) (cols:Int) (rows:List RowT) (cost:List TermT) (hcl:cost.length≤9223372036854775807) (w mult u mult2:List (List UInt8)) (k:Bool→Option R) :
 p6 n cols (rws rows) (tms cost) (sl w) (sl mult) (sl u) (sl mult2) k=k true:=by
 have hN:=UaU (Ubu hn)
 have hA:=fun k=>Urx (R:=R) n (Nat.le_trans (by decide) hN) k
 have h1:=fun k=>Urh (R:=R) n hN hnm cols rows cost hcl w mult k
 have h2:=fun k=>Ucx (R:=R) n hN u k
 have h2':=fun k=>Ucx (R:=R) n hN mult2 k
 unfold p6
 rw [h1]
 cases h3:UtP rows cost w mult with
 | false=>simp only [Uux,Uaq,hA]
 | true =>
  obtain ⟨s1,s2,s3,s4⟩:=Uri h3
  simp only [Usw,Uag,h2]
  cases h4:Uba u with
  | false=>simp only [Uux,Uaq,hA]
  | true =>
   simp only [Usw,Uag,h2']
   cases h5:Uba mult2 with
   | false=>simp only [Uux,Uaq,hA]
   | true =>
    have s5:=UdF h4
    have s6:=UdF h5
    have g1:=fun k=>Ui5 (R:=R) n hn cols rows cost w mult s1 s2 s3 s4 k
    simp only [Usw,Uag,g1]
    by_cases h6:UbP cols rows cost w mult=0
    · have e6:(UbP cols rows cost w mult != 0)=false:=by rw [h6]; rfl
      obtain ⟨x,y,L⟩:=Ui4 s3 h6
      have g2:=fun k=>UiX (R:=R) n hn cols rows u s1 s5 k
      have g3:∀ k:ByteArray→Int→Option R,p18 n (tms cost) (bs [48]) (sl w) k=k (bs (Uaa y)) 0:=fun k=>by
       rw [UgT n hn L.rm.hc L.hc s2 L.sv.hw L.sv.len s3,L.hy]; rfl
      obtain ⟨s,e,g4,g5,g6⟩:=UnN (R:=R) n hn (rows:=rows) L.rm.hc L.hc s2 u s5
      have fy:fits y:=Ue4 (vq w) Ud9 L.hy
      have e48:(⟨#[48]⟩:ByteArray)=bs [48]:=rfl
      have c9:Ugt n (sl u) (sl mult2) cols (rws rows) (tms cost) (sl w) (sl mult) (bs (Uaa y)) 0 s e k=k true:=by
       unfold Ugt
       rw [Ui5 n hn cols rows cost u mult2 s1 s2 s5 s6]
       by_cases h7:UbP cols rows cost u mult2=0
       · have e7:(UbP cols rows cost u mult2 != 0)=false:=by rw [h7]; rfl
         obtain ⟨x',z,L'⟩:=Ui4 s5 h7
         obtain ⟨q1,q2⟩:=g5 L'.sv z L'.hy
         have a1:=Uff L L'.sv L'.hh L'.hy
         have a2:=Uff L' L.sv L.hh L.hy
         have a3:y=z:=Rat.le_antisymm a1 a2
         have e8:eqS (bs (Uaa y)) (bs (Uaa z))=true:=by rw [a3,Ji7]; exact beq_self_eq_true _
         rw [e7,q1,q2]
         simp only [Uag,show ((0:Int) == 0)=true from rfl,Uaq,e8,hA]
       · have e7:(UbP cols rows cost u mult2 != 0)=true:=by simp [h7]
         simp only [e7,Uaq,hA]
      simp only [e6,Uag,UrA,g2,e48]
      unfold UnS
      by_cases h8:Ujt cols rows u=0
      · have sv:=Uhd s5 h8
        rw [if_neg (by simp [h8])]
        cases h9:hM rows u with
        | none=>simp only [Usk,g3,g4,show ((5:Int) == 0)=false from rfl,Uag,c9]
        | some b =>
         cases b with
         | false=>simp only [Usk,g3,g4,show ((0:Int) == 0)=true from rfl,Uaq,Uag,c9]
         | true =>
          simp only [Usk,g3,g4,show ((0:Int) == 0)=true from rfl,Uaq]
          cases hz:Uao (evS (vq u)) 0 (spL cost) with
          | none =>
           have e9:=g6 sv hz
           rw [e9] at c9
           rw [e9]
           simp only [show ((5:Int) == 0)=false from rfl,Uag,c9]
          | some z =>
           obtain ⟨q1,q2⟩:=g5 sv z hz
           have fz:fits z:=Ue4 (vq u) Ud9 hz
           have a1:=Uff L sv h9 hz
           have g7:=fun k=>UgK (R:=R) n hn z y fz fy k
           have a2:¬ Ud5 z y<0:=fun q=>by
            rcases tri z y with t | t | t
            · exact absurd a1 (Rat.not_le.2 t)
            · rw [t,Ub8] at q; exact absurd q (by decide)
            · rw [UeZ t] at q; exact absurd q (by decide)
           rw [q1,q2] at c9
           rw [q1,q2]
           simp only [show ((0:Int) == 0)=true from rfl,Uaq,g7,decide_eq_false a2,Uag,c9]
      · rw [if_pos h8]
        have e8:(Ujt cols rows u == 0)=false:=beq_eq_false_iff_ne.2 h8
        simp only [g3,g4,e8,Uag,c9]
    · have e6:(UbP cols rows cost w mult != 0)=true:=by simp [h6]
      simp only [e6,Uaq,Uag,hA]
theorem UdR {H:Type} {enc:TypeId × Value→H} {spare:Nat→Bool} {held:Bool} (W:World) (h:Tab W) {c0:Array Value} {x1 x2:Option Addr} {l1 p1 l2 p2:Nat} {d0 d1 d2:DataW H} {q0 q1 q2:List MemPlace}
 (h0:DataW.Trod enc Tryz.prog W 0 spare held 35 (.agg c0) d0 q0) (h1:DataW.Trod enc Tryz.prog W 0 spare held 25 (.slice x1 l1 p1) d1 q1) (h2:DataW.Trod enc Tryz.prog W 0 spare held 25 (.slice x2 l2 p2) d2 q2) (hlt:∀ x∈q0++q1++q2,x.block<W.heap.size) :
 Calls Tryz.prog 6 #[.agg c0,.slice x1 l1 p1,.slice x2 l2 p2] W fun e w'=>e=.returned (.bool true)∧RowKit.Below W.heap.size W w':=by
 obtain ⟨cols,rows,cost,w,mult,hcl,r0⟩:=Unl (F:=Fp (q0++q1++q2)) h0 (Urj fun x hx=>List.mem_append_left _ (List.mem_append_left _ hx))
 obtain ⟨u,r1⟩:=UhS (F:=Fp (q0++q1++q2)) h1 (Urj fun x hx=>List.mem_append_left _ (List.mem_append_right _ hx))
 obtain ⟨mult2,r2⟩:=UhS (F:=Fp (q0++q1++q2)) h2 (Urj fun x hx=>List.mem_append_right _ hx)
 obtain ⟨n,hn⟩:∃ n:Nat,10 ^ 1000≤n:=⟨_,Nat.le_refl _⟩
 refine UnT (ok6 n) (args:=[.agg [.v (.int .i64 cols),.sh (rws rows),.sh (tms cost),.sh (sl w),.sh (sl mult)],.sh (sl u),.sh (sl mult2)]) h (q0++q1++q2) hlt (.cons (B:=[]) (.p r0) (.cons (B:=[]) (.p r1) (.cons (B:=[]) (.p r2) .nil))) ?_
 show p6 n cols (rws rows) (tms cost) (sl w) (sl mult) (sl u) (sl mult2) _=_
 rw [Ud0 n hn (Nat.lt_of_lt_of_le (by decide +kernel) hn) cols rows cost hcl w mult u mult2]; rfl
end Go.Proofs.YtmgfmlhdnadglaaGreatDoor
namespace Go.Proofs.YtmgfmlhdnadglaaGreatDoor.certifyBest
open Go.ChangeShapes Go.WideShapes Go.ChangeAt Go.RowKit
open Go.ChangeMaps (open_string shut_string)
theorem own:ownKnob Tryz.prog.godebug=none:=by kernel_rfl
theorem laidOut:laidOutB Tryz.prog=true:=by kernel_rfl
set_option maxRecDepth 100000 in
theorem lifted (os:Os) (started:os.Started) (H:Type) (enc:TypeId × Value→H) :
 ReturnsInHanded {} Tryz.checked os 6 .any (fun w args=>(Rows.certifyBestSpec.pre enc Tryz.prog Tryz.f6 Rows.certifyBestRow.domain false w args∧laidMetH Tryz.prog Uce w)∧sizedMet enc Tryz.prog Tryz.f6 (OpenSpec.ofChange Rows.certifyBestSpec) false w args)
  (Rows.certifyBestSpec.post enc Tryz.prog Tryz.f6 false true false false):=by
 refine returnsInHanded_of_change_and (C:=Tryz.checked) (X:=fun w _=>laidMetH Tryz.prog Uce w) (fun _ _ _ hh h=>h.of_heap hh) own started (by kernel_rfl) Tryz.func6
  (ChangeSpec.witness_shaped (enc:=enc) (C:=Tryz.checked) (os:=os) (X:=fun w _=>laidMetH Tryz.prog Uce w) false (World.laidAll Tryz.prog os Uce) #[.agg #[.int .i64 0,.slice none 0 0,.slice none 0 0,.slice none 0 0,.slice none 0 0],.slice none 0 0,.slice none 0 0] 8 (World.laidAll_os _ _ _)
    (World.shaped_of_ZipB (by kernel_rfl) (by kernel_rfl)) (by kernel_rfl) (by kernel_rfl) (by kernel_rfl)
    (by rw [MakeChecks.laidMetH_plain _ _ _ (by kernel_rfl)]; exact laidMet_laidAll _ (by kernel_rfl) (by kernel_rfl))) ?_
 intro W base args ds gs before hval0 hW hcnd hsz0 hL _
 have hval:∀ (j:Nat) t v,Tryz.f6.params[j]? = some t→args[j]? = some v→Value.okWide Tryz.prog W .any base t v:=hval0
 have hW':=hW
 obtain ⟨p,q,hA0,hV,rfl,hfz,hnd⟩:=hW
 have hA:DataW.TrodAll enc Tryz.prog W 0 (fun _=>true) true Tryz.f6.params.toList args.toList ds p:=hA0
 rw [Tryz.params6] at hA hval
 obtain ⟨v0,vs0,d0,ds0,p0,q0,hargs,rfl,rfl,h0,r0⟩:=trodAll_cons hA
 obtain ⟨v1,vs1,d1,ds1,p1,q1,rfl,rfl,rfl,h1,r1⟩:=trodAll_cons r0
 obtain ⟨v2,vs2,d2,ds2,p2,q2,rfl,rfl,rfl,h2,r2⟩:=trodAll_cons r1
 obtain ⟨rfl,rfl,rfl⟩:=trodAll_nil r2
 obtain rfl:args=#[v0,v1,v2]:=by cases args; simp_all
 obtain ⟨rfl,rfl⟩:=trodVars_none hV
 obtain ⟨cs0,rfl,_⟩:=okWide_struct Tryz.underlying35 (hval 0 35 v0 rfl rfl)
 have h0k:=h0
 obtain ⟨sa1,sl1,sc1,rfl⟩:=okWide_slice Tryz.underlying25 (hval 1 25 v1 rfl rfl)
 have h1k:=h1
 obtain ⟨sa2,sl2,sc2,rfl⟩:=okWide_slice Tryz.underlying25 (hval 2 25 v2 rfl rfl)
 have h2k:=h2
 have hlt:∀ x∈p0++p1++p2,x.block<W.heap.size:=fun x hx=>by simpa using hW'.lt x (by simpa using hx)
 have hcall:=UdR W (Uon hL) h0 h1 h2 hlt
 clear hA0 hval0 hsz0
 refine hcall.mono fun e W' ⟨he,bel⟩=>?_
 subst he
 exact ⟨_,rfl,_,_,_,[],_,[],hW',trodAll_mk1 (shut_bool Tryz.underlying4 _),(trodAll_cons_mk (Below.trod laidOut (by kernel_rfl) (of_decide_eq_true (by kernel_rfl)) h0k bel (fun x hx=>hlt x (by simp [hx]))) (trodAll_cons_mk (Below.trod laidOut (by kernel_rfl) (of_decide_eq_true (by kernel_rfl)) h1k bel (fun x hx=>hlt x (by simp [hx]))) (trodAll_cons_mk (Below.trod laidOut (by kernel_rfl) (of_decide_eq_true (by kernel_rfl)) h2k bel (fun x hx=>hlt x (by simp [hx]))) trodAll_mk0))),rfl,bel.frame _,fun h=>by cases h⟩
theorem over:Rows.CertifyBestSaid :=
 OpenClaim.holds_of_wide 6 Tryz.f6 rfl rfl rfl rfl rfl rfl rfl ⟨rfl,rfl,rfl,rfl,rfl⟩ rfl rfl rfl rfl rfl (by kernel_rfl) Tryz.func6 (by kernel_rfl)
  (of_decide_eq_true (by kernel_rfl)) (by unfold Func.isWrapper; first | (rw [if_pos (by decide +kernel)]; kernel_rfl) | (rw [if_neg (by decide +kernel)]; exact ⟨rfl,rfl⟩))
  (fun os started H enc _=>lifted os started H enc)
theorem proved:Rows.CertifyBestCardSaid :=
 Claim7.holds_tied_plain_at .later [] [.data,.data,.data,.data,.sentinel,.sentinel,.pinned] true (true, "f7700371c8b5fddb2e0cf9d5ff2e169200c13f28753ab1d3c19509a013739147") true over (fun _ h=>by cases h) (by kernel_rfl) (fun _ h=>by cases h) certifyBest_row_tie rfl ⟨rfl,rfl⟩ (by kernel_rfl) rfl
  (fun f fn hf hfn=>by
    obtain rfl:f=6:=Option.some.inj ((show Tryz.prog.funcNamed "cellarer/cellarerlaw08.CertifyBest" = some 6 by kernel_rfl).symm.trans hf) |>.symm
    obtain rfl:fn=Tryz.f6:=(Option.some.inj (Tryz.func6.symm.trans hfn)).symm
    exact ⟨by kernel_rfl,fun j t ht=>by
     rw [Tryz.params6] at ht
     have hm:t∈[35,25,25]:=by simpa using Array.mem_of_getElem? ht
     have hall:([35,25,25].all fun u=>!Tryz.prog.wantsStandIn u)=true:=by kernel_rfl
     exact (show Tryz.prog.wantsStandIn t=false by simpa using List.all_eq_true.1 hall t hm)⟩)
  (by kernel_rfl)
end Go.Proofs.YtmgfmlhdnadglaaGreatDoor.certifyBest
namespace Go.Proofs.YtmgfmlhdnadglaaGreatDoor
theorem certifyBest_holds:Rows.CertifyBestCardSaid:=certifyBest.proved
end Go.Proofs.YtmgfmlhdnadglaaGreatDoor
