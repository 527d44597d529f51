/- Proved: part 4 of the proof that the law CertifyCombines returns true at all its arguments (no further conditions). -/
import Derived.Test.YtmgfmlhdnadglaaGreatDoorT1
import Derived.Test.YtmgfmlhdnadglaaGreatDoorProg
import Derived.Test.YtmgfmlhdnadglaaGreatDoorT2
import Derived.Lib.ItoaNum
import Derived.Lib.AtoiAll
set_option linter.unusedVariables false
set_option maxRecDepth 100000
namespace Go.Proofs.YtmgfmlhdnadglaaGreatDoor
open Go Th Go.Proofs
abbrev GI:GInv:=GInv.tab Tryz.prog "internal/strconv.uint64pow10" .u64 Lib.pow10Tab 0 (by kernel_rfl)
def layr166:Go.Shelf.Ren:=⟨fun | 166=>140 | 240=>169 | 276=>192 | n=>n,fun | 0=>0 | 3=>3 | 4=>4 | 5=>5 | 9=>9 | 20=>20 | 37=>173 | 70=>179 | 72=>181 | 75=>166 | 80=>154 | 164=>227 | n=>n,fun | n=>n⟩
theorem Uyg:Go.Proofs.Lays.n166 Tryz.prog layr166:={
 mixed:=by kernel_rfl
 f166:=Tryz.func140.trans (congrArg some (by kernel_rfl))
 f240:=Tryz.func169.trans (congrArg some (by kernel_rfl))
 f276:=Tryz.func192.trans (congrArg some (by kernel_rfl))
 t0:=Tryz.underlying0
 a0:=Tryz.isAgg0
 z0:=Tryz.sizeOf0
 v0:=Tryz.zeroValue0
 t3:=Tryz.underlying3
 a3:=Tryz.isAgg3
 z3:=Tryz.sizeOf3
 v3:=Tryz.zeroValue3
 t4:=Tryz.underlying4
 a4:=Tryz.isAgg4
 z4:=Tryz.sizeOf4
 v4:=Tryz.zeroValue4
 t9:=Tryz.underlying9
 a9:=Tryz.isAgg9
 z9:=Tryz.sizeOf9
 v9:=Tryz.zeroValue9
 t20:=Tryz.underlying20
 a20:=Tryz.isAgg20
 z20:=Tryz.sizeOf20
 v20:=Tryz.zeroValue20
 t37:=Tryz.underlying173
 a37:=Tryz.isAgg173
 z37:=Tryz.sizeOf173
 v37:=Tryz.zeroValue173
 t70:=Tryz.underlying179
 a70:=Tryz.isAgg179
 z70:=Tryz.sizeOf179
 v70:=Tryz.zeroValue179
 t72:=Tryz.underlying181
 a72:=Tryz.isAgg181
 z72:=Tryz.sizeOf181
 v72:=Tryz.zeroValue181
 t75:=Tryz.underlying166
 a75:=Tryz.isAgg166
 z75:=Tryz.sizeOf166
 v75:=Tryz.zeroValue166
 t164:=Tryz.underlying227
 a164:=Tryz.isAgg227
 z164:=Tryz.sizeOf227
 v164:=Tryz.zeroValue227 }
theorem Uyh:Builder.Extra Tryz.prog layr166:={
 sizeBuilder:=by kernel_rfl
 liesBuilder:=by kernel_rfl
 t5:=Tryz.underlying5
 a5:=Tryz.isAgg5
 z5:=Tryz.sizeOf5
 v5:=Tryz.zeroValue5
 infoByte:=by kernel_rfl
 cellsByte:=by kernel_rfl
 sizeByte:=by kernel_rfl
 neB5:=by decide }
noncomputable def UFs (n:Nat):FS:=fsFormatInt
theorem UJX (n:Nat):FSound Tryz.prog GI 60 (UFs n):=Jjh (Jlu Tryz.func60 (by kernel_rfl) (by kernel_rfl)) (fun F W h=>h.2) Tryz.strconv_FormatInt_10
noncomputable def UBZ (n:Nat):FS:=fsAtoi
theorem UGl (n:Nat):FSound Tryz.prog GI 129 (UBZ n):=Jk6 (Jlu Tryz.func129 (by kernel_rfl) (by kernel_rfl)) (fun s h1 v h2 w=>Tryz.strconv_Atoi_ok s h1 v h2 w)
noncomputable def UB0 (n:Nat):FS:=fsTrim
theorem UGm (n:Nat):FSound Tryz.prog GI 130 (UB0 n):=Jk8 (Jlu Tryz.func130 (by kernel_rfl) (by kernel_rfl)) (fun s t w h1 h2 h3=>Any.strings_Trim_laid Tryz.lays160 (by kernel_rfl) s t w h1 h2 h3)
noncomputable def UB4 (n:Nat):FS:=fsItoa
theorem UGq (n:Nat):FSound Tryz.prog GI 138 (UB4 n):=Jk7 (Jlu Tryz.func138 (by kernel_rfl) (by kernel_rfl)) (fun F W h=>h.2) Tryz.strconv_Itoa
noncomputable def UB5 (n:Nat):FS:=fsRepeat
theorem UGr (n:Nat):FSound Tryz.prog GI 139 (UB5 n):=JkA (Jlu Tryz.func139 (by kernel_rfl) (by kernel_rfl)) (fun s c w h1 h2=>Tryz.strings_Repeat s c w h1 h2)
noncomputable def UB6 (n:Nat):FS:=JaV 181 5
theorem UGs (n:Nat):FSound Tryz.prog GI 140 (UB6 n):=Jh6 Uyg Uyh (Jlu Tryz.func140 (by kernel_rfl) (by kernel_rfl))
noncomputable def UB7 (n:Nat):FS:=Jcn 181 5
theorem UGt (n:Nat):FSound Tryz.prog GI 141 (UB7 n):=JkB Tryz.lays169 Tryz.Builder_Extra_169 (Jlu Tryz.func141 (by kernel_rfl) (by kernel_rfl))
noncomputable def UC (n:Nat):FS:=fsIndex1
theorem UGw (n:Nat):FSound Tryz.prog GI 148 (UC n):=Jkz (Jlu Tryz.func148 (by kernel_rfl) (by kernel_rfl)) Tryz.stringslite_Index_one
end Go.Proofs.YtmgfmlhdnadglaaGreatDoor
set_option linter.unusedVariables false
set_option maxRecDepth 100000
namespace Go.Proofs.YtmgfmlhdnadglaaGreatDoor
open Go Th Go.Proofs
noncomputable section
variable {R:Type}
def Unw:Ann:={ loops:=[],cuts:=[],frz:=[],rm:=[.id,.id,.id] }
abbrev UuX (n:Nat):Env:=eC 148 (UC n) eN
theorem UlI (n:Nat):EnvOK Tryz.prog GI (UuX n):=.cons (.nil) (UGw n)
def UGN (n:Nat) (x1:ByteArray) (k0:ByteArray→ByteArray→Bool→O R):O R :=
 let v2:=Lib.indexByte (x1).data.toList (((⟨#[47]⟩:ByteArray)).data.toList.headD 0); bif (decide (v2≥0)) then (bif (Je5 0 v2 (x1).size) then (let v3:=IntKind.i64.wrap (v2 + ((⟨#[47]⟩:ByteArray).size:Int)); bif (Je5 v3 ((x1).size:Int) (x1).size) then (k0 (ByteArray.extract x1 (0:Int).toNat (v2:Int).toNat) (ByteArray.extract x1 (v3:Int).toNat (((x1).size:Int):Int).toNat) true) else none) else none) else (k0 x1 ⟨#[]⟩ false)
abbrev UFQ (n:Nat):Orc R:=oN
abbrev UE6 (n:Nat):Orc R:=oN
abbrev UKx (R:Type) (n:Nat):=JcH (R:=R) Tryz.prog (UuX n) Unw n (23,[]) (UFQ n) (UE6 n)
theorem UHf (n:Nat):Je6 (UKx R n) (JaJ Unw (Jll Tryz.f127)):=pO pN (by kernel_rfl)
abbrev t127:Sl (List SV):=(cS (.c (sP (Jlz (⟨#[47]⟩:ByteArray))) .n))
abbrev f127 (n:Nat) (K:List SV→O R):t127.T (O R):=fun x1=>UGN n x1 (fun y1 y2 y3=>K [vS y1,vS y2,vB y3])
abbrev UBX (n:Nat):FS:=fT [false,false] t127 (f127 n)
theorem UGj (n:Nat):FSound Tryz.prog GI 127 (UBX n):=gd Unw n (UlI n) Tryz.func127 (.cons (UlI n) t127 (f127 n) (fun K _=>(Jkq (c:=Jll Tryz.f127) (by kernel_rfl) (UHf n) K).trans (by kernel_rfl)) .nil) (by kernel_rfl)
def UwH:Ann:={ loops:=[],cuts:=[],frz:=[],rm:=[.id,.id,.id] }
abbrev UBx (n:Nat):Env:=eC 127 (UBX n) eN
theorem Up7 (n:Nat):EnvOK Tryz.prog GI (UBx n):=.cons (.nil) (UGj n)
def p96 (n:Nat) (x1:ByteArray) (k0:ByteArray→ByteArray→Bool→O R):O R :=
 UGN n x1 (fun y2 y3 y4=>k0 y2 y3 y4)
abbrev ULU (n:Nat):Orc R:=oN
abbrev ULe (n:Nat):Orc R:=oN
abbrev K96 (R:Type) (n:Nat):=JcH (R:=R) Tryz.prog (UBx n) UwH n (13,[]) (ULU n) (ULe n)
theorem UNF (n:Nat):Je6 (K96 R n) (JaJ UwH (Jll Tryz.f96)):=pO pN (by kernel_rfl)
abbrev t96:Sl (List SV):=(cS (.c (sP (Jlz (⟨#[47]⟩:ByteArray))) .n))
abbrev f96 (n:Nat) (K:List SV→O R):t96.T (O R):=fun x1=>p96 n x1 (fun y1 y2 y3=>K [vS y1,vS y2,vB y3])
abbrev UJu (n:Nat):FS:=fT [false,false] t96 (f96 n)
theorem UMy (n:Nat):FSound Tryz.prog GI 96 (UJu n):=gd UwH n (Up7 n) Tryz.func96 (.cons (Up7 n) t96 (f96 n) (fun K _=>(Jkq (c:=Jll Tryz.f96) (by kernel_rfl) (UNF n) K).trans (by kernel_rfl)) .nil) (by kernel_rfl)
def UwJ:Ann:={ loops:=[],cuts:=[],frz:=[],rm:=[.id] }
abbrev UBz (n:Nat):Env:=eC 130 (UB0 n) eN
theorem Uqa (n:Nat):EnvOK Tryz.prog GI (UBz n):=.cons (.nil) (UGm n)
def p99 (n:Nat) (x1:ByteArray) (k0:Bool→O R):O R :=
 bif (eqS x1 (⟨#[]⟩:ByteArray)) then (k0 false) else (bif (bif false then true else (decide (((x1).size:Int)>400))) then (k0 false) else (bif (inR 0 (x1).size) then (bif (Jc6 x1 0 == 48) then (bif (bif false then true else (bif true then (decide (((x1).size:Int)>1)) else false)) then (k0 false) else (bif (Jjj x1 (⟨#[48,49,50,51,52,53,54,55,56,57]⟩:ByteArray)) then (k0 (eqS (JkL x1 (⟨#[48,49,50,51,52,53,54,55,56,57]⟩:ByteArray)) (⟨#[]⟩:ByteArray))) else none)) else (bif (Jjj x1 (⟨#[48,49,50,51,52,53,54,55,56,57]⟩:ByteArray)) then (k0 (eqS (JkL x1 (⟨#[48,49,50,51,52,53,54,55,56,57]⟩:ByteArray)) (⟨#[]⟩:ByteArray))) else none)) else none))
abbrev ULW (n:Nat):Orc R:=oN
abbrev ULg (n:Nat):Orc R:=oN
abbrev K99 (R:Type) (n:Nat):=JcH (R:=R) Tryz.prog (UBz n) UwJ n (23,[]) (ULW n) (ULg n)
theorem UNI (n:Nat):Je6 (K99 R n) (JaJ UwJ (Jll Tryz.f99)):=pO pN (by kernel_rfl)
abbrev t99:Sl (List SV):=(cS .n)
abbrev f99 (n:Nat) (K:List SV→O R):t99.T (O R):=fun x1=>p99 n x1 (fun y1=>K [vB y1])
abbrev UFE (n:Nat):FS:=fT [false] t99 (f99 n)
theorem UJ9 (n:Nat):FSound Tryz.prog GI 99 (UFE n):=gd UwJ n (Uqa n) Tryz.func99 (.cons (Uqa n) t99 (f99 n) (fun K _=>(Jkq (c:=Jll Tryz.f99) (by kernel_rfl) (UNI n) K).trans (by kernel_rfl)) .nil) (by kernel_rfl)
def UnB:Ann:={ loops:=[],cuts:=[],frz:=[],rm:=[.id] }
abbrev Uu2 (n:Nat):Env:=eN
theorem UlV (n:Nat):EnvOK Tryz.prog GI (Uu2 n):=.nil
def UGR (n:Nat) (x1 x2:ByteArray) (k0:Bool→O R):O R :=
 bif (decide (((x1).size:Int)≥((x2).size:Int))) then (bif (Je5 0 ((x2).size:Int) (x1).size) then (k0 (bif true then eqS (ByteArray.extract x1 (0:Int).toNat (((x2).size:Int):Int).toNat) x2 else false)) else none) else (k0 false)
abbrev UFV (n:Nat):Orc R:=oN
abbrev UFa (n:Nat):Orc R:=oN
abbrev UKC (R:Type) (n:Nat):=JcH (R:=R) Tryz.prog (Uu2 n) UnB n (18,[]) (UFV n) (UFa n)
theorem UHs (n:Nat):Je6 (UKC R n) (JaJ UnB (Jll Tryz.f177)):=pO pN (by kernel_rfl)
abbrev UH0:Sl (List SV):=(cS (cS .n))
abbrev f177 (n:Nat) (K:List SV→O R):UH0.T (O R):=fun x1 x2=>UGR n x1 x2 (fun y1=>K [vB y1])
abbrev UCd (n:Nat):FS:=fT [false,false] UH0 (f177 n)
theorem UGA (n:Nat):FSound Tryz.prog GI 177 (UCd n):=gd UnB n (UlV n) Tryz.func177 (.cons (UlV n) UH0 (f177 n) (fun K _ _=>(Jkq (c:=Jll Tryz.f177) (by kernel_rfl) (UHs n) K).trans (by kernel_rfl)) .nil) (by kernel_rfl)
def Unz:Ann:={ loops:=[],cuts:=[],frz:=[],rm:=[.id,.id] }
abbrev Uu0 (n:Nat):Env:=eC 177 (UCd n) eN
theorem UlS (n:Nat):EnvOK Tryz.prog GI (Uu0 n):=.cons (.nil) (UGA n)
def UGP (n:Nat) (x1 x2:ByteArray) (k0:ByteArray→Bool→O R):O R :=
 UGR n x1 x2 (fun y3=>bif (!y3) then (k0 x1 false) else (bif (Je5 ((x2).size:Int) ((x1).size:Int) (x1).size) then (k0 (ByteArray.extract x1 (((x2).size:Int):Int).toNat (((x1).size:Int):Int).toNat) true) else none))
abbrev UFT (n:Nat):Orc R:=oN
abbrev UE9 (n:Nat):Orc R:=oN
abbrev UKA (R:Type) (n:Nat):=JcH (R:=R) Tryz.prog (Uu0 n) Unz n (15,[]) (UFT n) (UE9 n)
theorem UHp (n:Nat):Je6 (UKA R n) (JaJ Unz (Jll Tryz.f149)):=pO pN (by kernel_rfl)
abbrev UHY:Sl (List SV):=(cS (cS .n))
abbrev f149 (n:Nat) (K:List SV→O R):UHY.T (O R):=fun x1 x2=>UGP n x1 x2 (fun y1 y2=>K [vS y1,vB y2])
abbrev UCa (n:Nat):FS:=fT [false,false] UHY (f149 n)
theorem UGx (n:Nat):FSound Tryz.prog GI 149 (UCa n):=gd Unz n (UlS n) Tryz.func149 (.cons (UlS n) UHY (f149 n) (fun K _ _=>(Jkq (c:=Jll Tryz.f149) (by kernel_rfl) (UHp n) K).trans (by kernel_rfl)) .nil) (by kernel_rfl)
def Unx:Ann:={ loops:=[],cuts:=[],frz:=[],rm:=[.id,.id] }
abbrev UuY (n:Nat):Env:=eC 149 (UCa n) eN
theorem UlJ (n:Nat):EnvOK Tryz.prog GI (UuY n):=.cons (.nil) (UGx n)
def UEK (n:Nat) (x1 x2:ByteArray) (k0:ByteArray→Bool→O R):O R :=
 UGP n x1 x2 (fun y3 y4=>k0 y3 y4)
abbrev UFR (n:Nat):Orc R:=oN
abbrev UE7 (n:Nat):Orc R:=oN
abbrev UKy (R:Type) (n:Nat):=JcH (R:=R) Tryz.prog (UuY n) Unx n (11,[]) (UFR n) (UE7 n)
theorem UHg (n:Nat):Je6 (UKy R n) (JaJ Unx (Jll Tryz.f128)):=pO pN (by kernel_rfl)
abbrev UHS:Sl (List SV):=(cS (cS .n))
abbrev f128 (n:Nat) (K:List SV→O R):UHS.T (O R):=fun x1 x2=>UEK n x1 x2 (fun y1 y2=>K [vS y1,vB y2])
abbrev UBY (n:Nat):FS:=fT [false,false] UHS (f128 n)
theorem UGk (n:Nat):FSound Tryz.prog GI 128 (UBY n):=gd Unx n (UlJ n) Tryz.func128 (.cons (UlJ n) UHS (f128 n) (fun K _ _=>(Jkq (c:=Jll Tryz.f128) (by kernel_rfl) (UHg n) K).trans (by kernel_rfl)) .nil) (by kernel_rfl)
def UwI:Ann:={ loops:=[],cuts:=[],frz:=[],rm:=[.id,.id,.id] }
abbrev UBy (n:Nat):Env:=eC 128 (UBY n) (eC 99 (UFE n) eN)
theorem Up8 (n:Nat):EnvOK Tryz.prog GI (UBy n):=.cons (.cons (.nil) (UJ9 n)) (UGk n)
def p97 (n:Nat) (x1:ByteArray) (k0:Bool→ByteArray→Bool→O R):O R :=
 UEK n x1 ⟨#[45]⟩ (fun y2 y3=>p99 n y2 (fun y4=>bif y4 then (bif y3 then (k0 y3 y2 (bif true then (!(bif true then eqS y2 (⟨#[48]⟩:ByteArray) else false)) else false)) else (k0 y3 y2 true)) else (k0 y3 y2 false)))
abbrev ULV (n:Nat):Orc R:=oN
abbrev ULf (n:Nat):Orc R:=oN
abbrev K97 (R:Type) (n:Nat):=JcH (R:=R) Tryz.prog (UBy n) UwI n (24,[]) (ULV n) (ULf n)
theorem UNG (n:Nat):Je6 (K97 R n) (JaJ UwI (Jll Tryz.f97)):=pO pN (by kernel_rfl)
abbrev t97:Sl (List SV):=(cS .n)
abbrev f97 (n:Nat) (K:List SV→O R):t97.T (O R):=fun x1=>p97 n x1 (fun y1 y2 y3=>K [vB y1,vS y2,vB y3])
abbrev UJv (n:Nat):FS:=fT [false] t97 (f97 n)
theorem UMz (n:Nat):FSound Tryz.prog GI 97 (UJv n):=gd UwI n (Up8 n) Tryz.func97 (.cons (Up8 n) t97 (f97 n) (fun K _=>(Jkq (c:=Jll Tryz.f97) (by kernel_rfl) (UNG n) K).trans (by kernel_rfl)) .nil) (by kernel_rfl)
def Ue0:Ann:={ loops:=[(1,ids [0],ids [0,2])],cuts:=[],frz:=[],rm:=[.id] }
abbrev UoG (n:Nat):Env:=eN
theorem Ull (n:Nat):EnvOK Tryz.prog GI (UoG n):=.nil
def Uh (n:Nat) (l0:LP→O R) (x1:LP) (k0:LP→O R):O R :=
 bif (decide (((x1).length:Int)>0)) then (let v2:=IntKind.i64.wrap (((x1).length:Int) - 1); bif (inR v2 ((x1).length)) then (Jj .u32 ((x1).getD ((v2:Int).toNat) (.v (.bool false))) fun e3=>bif (bif true then (e3 == 0) else false) then (let v4:=IntKind.i64.wrap (((x1).length:Int) - 1); bif (Jgx 1 x1&&Je5 0 v4 ((x1).length)) then (l0 (((x1).take (v4:Int).toNat).drop (0:Int).toNat)) else none) else (k0 x1)) else none) else (k0 x1)
def UcW (n:Nat):Nat→LP→(LP→O R)→O R
 | 0,_,_=>none
 | m + 1,x1,k0=>Uh n (fun x1=>UcW n m x1 k0) x1 k0
def Urv (n:Nat) (x1:LP) (k0:LP→O R):O R:=UcW n n x1 k0
def Uru (n:Nat) (x1:LP) (k0:LP→O R):O R :=
 Urv n x1 (fun y2=>k0 y2)
abbrev UKf (n:Nat):Code→Fr→Kc R→O R:=evC Tryz.prog (UoG n) Ue0 n (21,[])
noncomputable def UnH:Code:=Jj4 (Jll Tryz.f101) [1,0,0,0]
abbrev UdP:Sl (List SV):=(cH .n)
abbrev Ujl (n m:Nat) (K:Kc R):UdP.T (O R):=fun x1=>UcW n m x1 (fun y1=>xL Ue0 1 K (.exit 0) [vH y1,dD])
abbrev UwM (n:Nat) (K:Kc R) (l0:UdP.T (O R)):UdP.T (O R):=fun x1=>Uh n l0 x1 (fun y1=>xL Ue0 1 K (.exit 0) [vH y1,dD])
abbrev UCk (n:Nat):Orc R:=oL Ue0 (UKf n) n 1 UnH UdP (Ujl n n) oN
abbrev UAN (n:Nat):Orc R:=oN
abbrev UIf (R:Type) (n:Nat):=JcH (R:=R) Tryz.prog (UoG n) Ue0 n (21,[]) (UCk n) (UAN n)
theorem UyD (n:Nat):UIf R n (false,1,UnH):=JkF (lo:=UCk n) (cu:=UAN n) (pO pN (by kernel_rfl)) UdP (Ujl n n) (JiE (F:=Ujl n) UdP (UwM n) (fun K _=>rfl) (fun _ _=>rfl) (fun L K _=>by show _=_; kernel_rfl) n) fun _ _=>rfl
theorem UGT (n:Nat):Je6 (UIf R n) (JaJ Ue0 (Jll Tryz.f101)):=pO (pC (UyD n) pN) (by kernel_rfl)
abbrev UHA:Sl (List SV):=(cH .n)
abbrev f101 (n:Nat) (K:List SV→O R):UHA.T (O R):=fun x1=>Uru n x1 (fun y1=>K [vH y1])
abbrev UjK (n:Nat):FS:=fT [false] UHA (f101 n)
theorem Una (n:Nat):FSound Tryz.prog GI 101 (UjK n):=gd Ue0 n (Ull n) Tryz.func101 (.cons (Ull n) UHA (f101 n) (fun K _=>(Jkq (c:=Jll Tryz.f101) (by kernel_rfl) (UGT n) K).trans (by kernel_rfl)) .nil) (by kernel_rfl)
def Ui9:Ann:={ loops:=[(2,[(0,.id),(3,.own 143)],ids [2,3])],cuts:=[],frz:=[],rm:=[.id] }
abbrev Ux0 (n:Nat):Env:=eC 129 (UBZ n) (eC 101 (UjK n) eN)
theorem Up9 (n:Nat):EnvOK Tryz.prog GI (Ux0 n):=.cons (.cons (.nil) (Una n)) (UGl n)
def UhN (n:Nat) (l0:ByteArray→LP→O R) (x1:ByteArray) (x2:LP) (k0:LP→O R):O R :=
 bif (decide (((x1).size:Int)>0)) then (let v3:=IntKind.i64.wrap (((x1).size:Int) - 9); bif (Je5 (JkU 0 v3) ((x1).size:Int) (x1).size) then (Jib (ByteArray.extract x1 (JkU 0 v3:Int).toNat (((x1).size:Int):Int).toNat) fun v4=>bif (Jbu ((x2).length + 1) 4) then (bif (Je5 0 (JkU 0 v3) (x1).size) then (l0 (ByteArray.extract x1 (0:Int).toNat (JkU 0 v3:Int).toNat) (x2++([.v (.int .u32 (IntKind.u32.wrap (v4)))]:LP))) else none) else none) else none) else (k0 x2)
def UdM (n:Nat):Nat→ByteArray→LP→(LP→O R)→O R
 | 0,_,_,_=>none
 | m + 1,x1,x2,k0=>UhN n (fun x1 x2=>UdM n m x1 x2 k0) x1 x2 k0
def UvW (n:Nat) (x1:ByteArray) (x2:LP) (k0:LP→O R):O R:=UdM n n x1 x2 k0
def p98 (n:Nat) (x1:ByteArray) (k0:LP→O R):O R :=
 UvW n x1 [] (fun y2=>Uru n y2 (fun y3=>k0 y3))
abbrev E98 (n:Nat):Code→Fr→Kc R→O R:=evC Tryz.prog (Ux0 n) Ui9 n (31,[])
noncomputable def UuJ:Code:=Jj4 (Jll Tryz.f98) [1,1,0,0,0]
abbrev Ugz:Sl (List SV):=(cS (cO 143 .n))
abbrev Uq9 (n m:Nat) (K:Kc R):Ugz.T (O R):=fun x1 x2=>UdM n m x1 x2 (fun y1=>xL Ui9 2 K (.exit 0) [dD,.own 143 y1])
abbrev UAF (n:Nat) (K:Kc R) (l0:Ugz.T (O R)):Ugz.T (O R):=fun x1 x2=>UhN n l0 x1 x2 (fun y1=>xL Ui9 2 K (.exit 0) [dD,.own 143 y1])
abbrev UJO (n:Nat):Orc R:=oL Ui9 (E98 n) n 2 UuJ Ugz (Uq9 n n) oN
abbrev UIG (n:Nat):Orc R:=oN
abbrev K98 (R:Type) (n:Nat):=JcH (R:=R) Tryz.prog (Ux0 n) Ui9 n (31,[]) (UJO n) (UIG n)
theorem UDP (n:Nat):K98 R n (false,2,UuJ):=JkF (lo:=UJO n) (cu:=UIG n) (pO pN (by kernel_rfl)) Ugz (Uq9 n n) (JiE (F:=Uq9 n) Ugz (UAF n) (fun K _ _=>rfl) (fun _ _=>rfl) (fun L K _ _=>by show _=_; kernel_rfl) n) fun _ _=>rfl
theorem UNH (n:Nat):Je6 (K98 R n) (JaJ Ui9 (Jll Tryz.f98)):=pO (pC (UDP n) pN) (by kernel_rfl)
abbrev t98:Sl (List SV):=(cS .n)
abbrev f98 (n:Nat) (K:List SV→O R):t98.T (O R):=fun x1=>p98 n x1 (fun y1=>K [vH y1])
abbrev UJw (n:Nat):FS:=fT [false] t98 (f98 n)
theorem UMA (n:Nat):FSound Tryz.prog GI 98 (UJw n):=gd Ui9 n (Up9 n) Tryz.func98 (.cons (Up9 n) t98 (f98 n) (fun K _=>(Jkq (c:=Jll Tryz.f98) (by kernel_rfl) (UNH n) K).trans (by kernel_rfl)) .nil) (by kernel_rfl)
def UgL:Ann:={ loops:=[(6,ids [0,1,5],ids [4])],cuts:=[],frz:=[],rm:=[.id] }
abbrev UxN (n:Nat):Env:=eN
theorem UpB (n:Nat):EnvOK Tryz.prog GI (UxN n):=.nil
def UhA (n:Nat) (l0:LP→LP→Int→O R) (x1 x2:LP) (x3:Int) (k0:Int→O R) (k1:O R):O R :=
 bif (decide (x3≥0)) then (bif (inR x3 ((x1).length)) then (Jj .u32 ((x1).getD ((x3:Int).toNat) (.v (.bool false))) fun e4=>bif (inR x3 ((x2).length)) then (Jj .u32 ((x2).getD ((x3:Int).toNat) (.v (.bool false))) fun e5=>bif (e4 != e5) then (bif (inR x3 ((x1).length)) then (Jj .u32 ((x1).getD ((x3:Int).toNat) (.v (.bool false))) fun e6=>bif (inR x3 ((x2).length)) then (Jj .u32 ((x2).getD ((x3:Int).toNat) (.v (.bool false))) fun e7=>bif (decide (e6<e7)) then (k0 (-1)) else (k0 1)) else none) else none) else (l0 x1 x2 (IntKind.i64.wrap (x3 - 1)))) else none) else none) else (k1)
def UdA (n:Nat):Nat→LP→LP→Int→(Int→O R)→(O R)→O R
 | 0,_,_,_,_,_=>none
 | m + 1,x1,x2,x3,k0,k1=>UhA n (fun x1 x2 x3=>UdA n m x1 x2 x3 k0 k1) x1 x2 x3 k0 k1
def UvM (n:Nat) (x1 x2:LP) (x3:Int) (k0:Int→O R) (k1:O R):O R:=UdA n n x1 x2 x3 k0 k1
def p57 (n:Nat) (x1 x2:LP) (k0:Int→O R):O R :=
 bif (((x1).length:Int) != ((x2).length:Int)) then (bif (decide (((x1).length:Int)<((x2).length:Int))) then (k0 (-1)) else (k0 1)) else (let v3:=IntKind.i64.wrap (((x1).length:Int) - 1); UvM n x1 x2 v3 (fun y4=>k0 y4) (k0 0))
abbrev E57 (n:Nat):Code→Fr→Kc R→O R:=evC Tryz.prog (UxN n) UgL n (41,[])
noncomputable def Uuq:Code:=Jj4 (Jll Tryz.f57) [1,1,0,1,0,0]
abbrev Ugl:Sl (List SV):=(cH (cH (cI .n)))
abbrev UqP (n m:Nat) (K:Kc R):Ugl.T (O R):=fun x1 x2 x3=>UdA n m x1 x2 x3 (fun y1=>xL UgL 6 K .ret [vI y1]) (xL UgL 6 K (.exit 0) [dD])
abbrev UAr (n:Nat) (K:Kc R) (l0:Ugl.T (O R)):Ugl.T (O R):=fun x1 x2 x3=>UhA n l0 x1 x2 x3 (fun y1=>xL UgL 6 K .ret [vI y1]) (xL UgL 6 K (.exit 0) [dD])
abbrev UJH (n:Nat):Orc R:=oL UgL (E57 n) n 6 Uuq Ugl (UqP n n) oN
abbrev UIz (n:Nat):Orc R:=oN
abbrev K57 (R:Type) (n:Nat):=JcH (R:=R) Tryz.prog (UxN n) UgL n (41,[]) (UJH n) (UIz n)
theorem UDu (n:Nat):K57 R n (false,6,Uuq):=JkF (lo:=UJH n) (cu:=UIz n) (pO pN (by kernel_rfl)) Ugl (UqP n n) (JiE (F:=UqP n) Ugl (UAr n) (fun K _ _ _=>rfl) (fun _ _=>rfl) (fun L K _ _ _=>by show _=_; kernel_rfl) n) fun _ _=>rfl
theorem UN (n:Nat):Je6 (K57 R n) (JaJ UgL (Jll Tryz.f57)):=pO (pC (UDu n) pN) (by kernel_rfl)
abbrev t57:Sl (List SV):=(cH (cH .n))
abbrev f57 (n:Nat) (K:List SV→O R):t57.T (O R):=fun x1 x2=>p57 n x1 x2 (fun y1=>K [vI y1])
abbrev UEq (n:Nat):FS:=fT [false,false] t57 (f57 n)
theorem UGE (n:Nat):FSound Tryz.prog GI 57 (UEq n):=gd UgL n (UpB n) Tryz.func57 (.cons (UpB n) t57 (f57 n) (fun K _ _=>(Jkq (c:=Jll Tryz.f57) (by kernel_rfl) (UN n) K).trans (by kernel_rfl)) .nil) (by kernel_rfl)
def UfI:Ann:={ loops:=[(3,ids [0,1,5,16,17],ids [4,5]),(7,ids [0,1,5,6,7,16,17,21,22],ids [0,1,4,5,6,7,16,17])],cuts:=[],frz:=[],rm:=[.id] }
abbrev UxO (n:Nat):Env:=eC 101 (UjK n) eN
theorem UpC (n:Nat):EnvOK Tryz.prog GI (UxO n):=.cons (.nil) (Una n)
def UhC (n:Nat) (l0:LP→LP→LP→Int→Int→Int→Int→Int→Int→O R) (x1 x2 x3:LP) (x4 x5 x6 x7 x8 x9:Int) (k0:LP→LP→LP→Int→Int→Int→Int→O R):O R :=
 bif (decide (x9<x8)) then (bif (inR x4 ((x1).length)) then (Jj .u32 ((x1).getD ((x4:Int).toNat) (.v (.bool false))) fun e10=>bif (inR x9 ((x2).length)) then (Jj .u32 ((x2).getD ((x9:Int).toNat) (.v (.bool false))) fun e11=>let v12:=IntKind.u64.wrap ((IntKind.u64.wrap (e10)) * (IntKind.u64.wrap (e11))); bif (inR (IntKind.i64.wrap (x4 + x9)) ((x3).length)) then (Jj .u32 ((x3).getD ((IntKind.i64.wrap (x4 + x9):Int).toNat) (.v (.bool false))) fun e13=>let v14:=IntKind.u64.wrap (v12 + (IntKind.u64.wrap (e13))); bif decide (1000000000=0) then none else (let v15:=Int.tmod (IntKind.u64.wrap (x5 + v14)) 1000000000; bif (inR (IntKind.i64.wrap (x4 + x9)) ((x3).length)) then (Jj .u32 ((x3).getD ((IntKind.i64.wrap (x4 + x9):Int).toNat) (.v (.bool false))) fun e16=>bif decide (1000000000=0) then none else (let v17:=IntKind.u64.wrap (Int.tdiv (IntKind.u64.wrap (x5 + v14)) 1000000000); l0 x1 x2 ((x3).set ((IntKind.i64.wrap (x4 + x9):Int).toNat) (.v (.int .u32 (IntKind.u32.wrap (v15))))) x4 v17 x6 x7 x8 (IntKind.i64.wrap (x9 + 1)))) else none)) else none) else none) else none) else (k0 x1 x2 x3 x4 x5 x6 x7)
def UdC (n:Nat):Nat→LP→LP→LP→Int→Int→Int→Int→Int→Int→(LP→LP→LP→Int→Int→Int→Int→O R)→O R
 | 0,_,_,_,_,_,_,_,_,_,_=>none
 | m + 1,x1,x2,x3,x4,x5,x6,x7,x8,x9,k0=>UhC n (fun x1 x2 x3 x4 x5 x6 x7 x8 x9=>UdC n m x1 x2 x3 x4 x5 x6 x7 x8 x9 k0) x1 x2 x3 x4 x5 x6 x7 x8 x9 k0
def UvO (n:Nat) (x1 x2 x3:LP) (x4 x5 x6 x7 x8 x9:Int) (k0:LP→LP→LP→Int→Int→Int→Int→O R):O R:=UdC n n x1 x2 x3 x4 x5 x6 x7 x8 x9 k0
def UhB (n:Nat) (l0:LP→LP→LP→Int→Int→O R) (x1 x2 x3:LP) (x4 x5:Int) (k0:LP→O R):O R :=
 bif (decide (x5<x4)) then (UvO n x1 x2 x3 x5 0 x4 x5 ((x2).length:Int) 0 (fun y6 y7 y8 y9 y10 y11 y12=>let v13:=IntKind.i64.wrap (y9 + ((y7).length:Int)); bif (inR v13 ((y8).length)) then (Jj .u32 ((y8).getD ((v13:Int).toNat) (.v (.bool false))) fun e14=>l0 y6 y7 ((y8).set ((v13:Int).toNat) (.v (.int .u32 (IntKind.u32.wrap (y10))))) y11 (IntKind.i64.wrap (y12 + 1))) else none)) else (k0 x3)
def UdB (n:Nat):Nat→LP→LP→LP→Int→Int→(LP→O R)→O R
 | 0,_,_,_,_,_,_=>none
 | m + 1,x1,x2,x3,x4,x5,k0=>UhB n (fun x1 x2 x3 x4 x5=>UdB n m x1 x2 x3 x4 x5 k0) x1 x2 x3 x4 x5 k0
def UvN (n:Nat) (x1 x2 x3:LP) (x4 x5:Int) (k0:LP→O R):O R:=UdB n n x1 x2 x3 x4 x5 k0
def p58 (n:Nat) (x1 x2:LP) (k0:LP→O R):O R :=
 let v3:=IntKind.i64.wrap (((x1).length:Int) + ((x2).length:Int)); bif (decide ((0:Int)≤v3)&&decide ((v3:Int)≤v3)&&Jbu (v3:Int).toNat 4) then (UvN n x1 x2 (List.replicate (v3:Int).toNat (.v (.int .u32 0):PV)) ((x1).length:Int) 0 (fun y4=>Uru n y4 (fun y5=>k0 y5))) else none
abbrev E58 (n:Nat):Code→Fr→Kc R→O R:=evC Tryz.prog (UxO n) UfI n (68,[])
noncomputable def Uur:Code:=Jj4 (Jll Tryz.f58) [1,1,0,1,0,0]
abbrev Ugm:Sl (List SV):=(cH (cH (cO 143 (cI (cI .n)))))
abbrev UqQ (n m:Nat) (K:Kc R):Ugm.T (O R):=fun x1 x2 x3 x4 x5=>UdB n m x1 x2 x3 x4 x5 (fun y1=>xL UfI 3 K (.exit 0) [dD,.own 143 y1])
abbrev UAs (n:Nat) (K:Kc R) (l0:Ugm.T (O R)):Ugm.T (O R):=fun x1 x2 x3 x4 x5=>UhB n l0 x1 x2 x3 x4 x5 (fun y1=>xL UfI 3 K (.exit 0) [dD,.own 143 y1])
noncomputable def Uus:Code:=Jj4 (Jll Tryz.f58) [1,1,0,1,0,0,1,1,0,0,1,1,0,1,0,0]
abbrev Ugn:Sl (List SV):=(cH (cH (cO 143 (cI (.c (sP (Jlv .u64)) (cI (cI (cI (cI .n)))))))))
abbrev UqR (n m:Nat) (K:Kc R):Ugn.T (O R):=fun x1 x2 x3 x4 x5 x6 x7 x8 x9=>UdC n m x1 x2 x3 x4 x5 x6 x7 x8 x9 (fun y1 y2 y3 y4 y5 y6 y7=>xL UfI 7 K (.exit 2) [vH y1,vH y2,dD,.own 143 y3,vI y4,.p (.v (.int .u64 y5)),vI y6,vI y7])
abbrev UAt (n:Nat) (K:Kc R) (l0:Ugn.T (O R)):Ugn.T (O R):=fun x1 x2 x3 x4 x5 x6 x7 x8 x9=>UhC n l0 x1 x2 x3 x4 x5 x6 x7 x8 x9 (fun y1 y2 y3 y4 y5 y6 y7=>xL UfI 7 K (.exit 2) [vH y1,vH y2,dD,.own 143 y3,vI y4,.p (.v (.int .u64 y5)),vI y6,vI y7])
abbrev UF0 (n:Nat):Orc R:=oL UfI (E58 n) n 7 Uus Ugn (UqR n n) (oL UfI (E58 n) n 3 Uur Ugm (UqQ n n) oN)
abbrev UFf (n:Nat):Orc R:=oN
abbrev K58 (R:Type) (n:Nat):=JcH (R:=R) Tryz.prog (UxO n) UfI n (68,[]) (UF0 n) (UFf n)
theorem UDw (n:Nat):K58 R n (false,7,Uus):=JkF (lo:=UF0 n) (cu:=UFf n) (pO pN (by kernel_rfl)) Ugn (UqR n n) (JiE (F:=UqR n) Ugn (UAt n) (fun K _ _ _ _ _ _ _ _ _=>rfl) (fun _ _=>rfl) (fun L K _ _ _ _ _ _ _ _ _=>by show _=_; kernel_rfl) n) fun _ _=>rfl
theorem UDv (n:Nat):K58 R n (false,3,Uur):=JkF (lo:=UF0 n) (cu:=UFf n) (pO (pC (UDw n) pN) (by kernel_rfl)) Ugm (UqQ n n) (JiE (F:=UqQ n) Ugm (UAs n) (fun K _ _ _ _ _=>rfl) (fun _ _=>rfl) (fun L K _ _ _ _ _=>by show _=_; kernel_rfl) n) fun _ _=>rfl
theorem UNa (n:Nat):Je6 (K58 R n) (JaJ UfI (Jll Tryz.f58)):=pO (pC (UDv n) pN) (by kernel_rfl)
abbrev t58:Sl (List SV):=(cH (cH .n))
abbrev f58 (n:Nat) (K:List SV→O R):t58.T (O R):=fun x1 x2=>p58 n x1 x2 (fun y1=>K [vH y1])
abbrev UCf (n:Nat):FS:=fT [false,false] t58 (f58 n)
theorem UED (n:Nat):FSound Tryz.prog GI 58 (UCf n):=gd UfI n (UpC n) Tryz.func58 (.cons (UpC n) t58 (f58 n) (fun K _ _=>(Jkq (c:=Jll Tryz.f58) (by kernel_rfl) (UNa n) K).trans (by kernel_rfl)) .nil) (by kernel_rfl)
def Ue3:Ann:={ loops:=[(4,ids [0,1,6,7,8],ids [4,5,6,7])],cuts:=[],frz:=[],rm:=[.id,.id] }
abbrev UoV (n:Nat):Env:=eC 101 (UjK n) eN
theorem UlM (n:Nat):EnvOK Tryz.prog GI (UoV n):=.cons (.nil) (Una n)
def UeL (n:Nat) (l0:LP→Int→LP→Int→Int→O R) (x1:LP) (x2:Int) (x3:LP) (x4 x5:Int) (k0:LP→Int→O R):O R :=
 bif (decide (x5≥0)) then (bif (inR x5 ((x1).length)) then (Jj .u32 ((x1).getD ((x5:Int).toNat) (.v (.bool false))) fun e6=>let v7:=IntKind.u64.wrap ((IntKind.u64.wrap (x4 * 1000000000)) + (IntKind.u64.wrap (e6))); bif decide (IntKind.u64.wrap (x2)=0) then none else (let v8:=IntKind.u64.wrap (Int.tdiv v7 (IntKind.u64.wrap (x2))); bif (inR x5 ((x3).length)) then (Jj .u32 ((x3).getD ((x5:Int).toNat) (.v (.bool false))) fun e9=>bif decide (IntKind.u64.wrap (x2)=0) then none else (let v10:=Int.tmod v7 (IntKind.u64.wrap (x2)); l0 x1 x2 ((x3).set ((x5:Int).toNat) (.v (.int .u32 (IntKind.u32.wrap (v8))))) v10 (IntKind.i64.wrap (x5 - 1)))) else none)) else none) else (k0 x3 x4)
def Ub5 (n:Nat):Nat→LP→Int→LP→Int→Int→(LP→Int→O R)→O R
 | 0,_,_,_,_,_,_=>none
 | m + 1,x1,x2,x3,x4,x5,k0=>UeL n (fun x1 x2 x3 x4 x5=>Ub5 n m x1 x2 x3 x4 x5 k0) x1 x2 x3 x4 x5 k0
def UrI (n:Nat) (x1:LP) (x2:Int) (x3:LP) (x4 x5:Int) (k0:LP→Int→O R):O R:=Ub5 n n x1 x2 x3 x4 x5 k0
def UCL (n:Nat) (x1:LP) (x2:Int) (k0:LP→Int→O R):O R :=
 bif (decide ((0:Int)≤((x1).length:Int))&&decide ((((x1).length:Int):Int)≤((x1).length:Int))&&Jbu (((x1).length:Int):Int).toNat 4) then (let v3:=IntKind.i64.wrap (((x1).length:Int) - 1); UrI n x1 x2 (List.replicate (((x1).length:Int):Int).toNat (.v (.int .u32 0):PV)) 0 v3 (fun y4 y5=>Uru n y4 (fun y6=>k0 y6 (IntKind.u32.wrap (y5))))) else none
abbrev UKl (n:Nat):Code→Fr→Kc R→O R:=evC Tryz.prog (UoV n) Ue3 n (43,[])
noncomputable def Un8:Code:=Jj4 (Jll Tryz.f137) [1,1,1,0,1,0,0]
abbrev Ud2:Sl (List SV):=(cH (.c (sP (Jlv .u32)) (cO 143 (.c (sP (Jlv .u64)) (cI .n)))))
abbrev Ujy (n m:Nat) (K:Kc R):Ud2.T (O R):=fun x1 x2 x3 x4 x5=>Ub5 n m x1 x2 x3 x4 x5 (fun y1 y2=>xL Ue3 4 K (.exit 0) [dD,dD,.own 143 y1,.p (.v (.int .u64 y2))])
abbrev UwZ (n:Nat) (K:Kc R) (l0:Ud2.T (O R)):Ud2.T (O R):=fun x1 x2 x3 x4 x5=>UeL n l0 x1 x2 x3 x4 x5 (fun y1 y2=>xL Ue3 4 K (.exit 0) [dD,dD,.own 143 y1,.p (.v (.int .u64 y2))])
abbrev UCq (n:Nat):Orc R:=oL Ue3 (UKl n) n 4 Un8 Ud2 (Ujy n n) oN
abbrev UAT (n:Nat):Orc R:=oN
abbrev UIl (R:Type) (n:Nat):=JcH (R:=R) Tryz.prog (UoV n) Ue3 n (43,[]) (UCq n) (UAT n)
theorem Uy5 (n:Nat):UIl R n (false,4,Un8):=JkF (lo:=UCq n) (cu:=UAT n) (pO pN (by kernel_rfl)) Ud2 (Ujy n n) (JiE (F:=Ujy n) Ud2 (UwZ n) (fun K _ _ _ _ _=>rfl) (fun _ _=>rfl) (fun L K _ _ _ _ _=>by show _=_; kernel_rfl) n) fun _ _=>rfl
theorem UHj (n:Nat):Je6 (UIl R n) (JaJ Ue3 (Jll Tryz.f137)):=pO (pC (Uy5 n) pN) (by kernel_rfl)
abbrev UHV:Sl (List SV):=(cH (.c (sP (Jlv .u32)) .n))
abbrev f137 (n:Nat) (K:List SV→O R):UHV.T (O R):=fun x1 x2=>UCL n x1 x2 (fun y1 y2=>K [vH y1,.p (.v (.int .u32 y2))])
abbrev UB3 (n:Nat):FS:=fT [false,false] UHV (f137 n)
theorem UGp (n:Nat):FSound Tryz.prog GI 137 (UB3 n):=gd Ue3 n (UlM n) Tryz.func137 (.cons (UlM n) UHV (f137 n) (fun K _ _=>(Jkq (c:=Jll Tryz.f137) (by kernel_rfl) (UHj n) K).trans (by kernel_rfl)) .nil) (by kernel_rfl)
def Uac:Ann:={ loops:=[(12,ids [8,9,10,11,12,13],ids [4,5,8,9,12]),(16,ids [8,9,10,11,12,13,15,16],ids [4,5,8,9,10,11,12,13,15]),(22,ids [8,9,10,11,12,13,15,17,18,151,152],ids [4,5,8,9,10,11,12,13,15,17,18]),(38,ids [8,9,10,11,12,13,15,21,22,207,208],ids [4,5,8,9,10,11,12,13,15,21,22])],cuts:=[(3,ids [0,1],ids [4,5]),(6,ids [0,1],ids [4,5]),(7,ids [0,1,8],ids [4,5]),(8,ids [8,9,10],ids [4,5]),(9,ids [8,9,10],ids [4,5]),(10,ids [8,9,10,11],ids [4,5]),(11,ids [8,9,10,11,12],ids [4,5]),(13,ids [8,9,10,11,12,13],ids [4,5,8,9,10,11,12,13]),(17,ids [8,9,10,11,12,13,15,16],ids [4,5,8,9,10,11,12,13,15,16]),(31,ids [8,9,10,11,12,13,15,17,18,19,20,151,152],ids [4,5,8,9,10,11,12,13,15,17,18,151,152]),(45,ids [8,9,10,11,12,13,15,21],ids [4,5,8,9,10,11,12,13])],frz:=[],rm:=[.sh,.id] }
abbrev UoO (n:Nat):Env:=eC 137 (UB3 n) (eC 101 (UjK n) (eC 58 (UCf n) (eC 57 (UEq n) eN)))
theorem Uly (n:Nat):EnvOK Tryz.prog GI (UoO n):=.cons (.cons (.cons (.cons (.nil) (UGE n)) (UED n)) (Una n)) (UGp n)
def Uc1 (n:Nat) (x1 x2 x3:LP) (x4:Int) (x5:LP) (x6 x7 x8:Int) (k0:LP→LP→LP→Int→LP→Int→Int→Int→O R) (k1:LP→LP→LP→Int→LP→Int→Int→Int→O R):O R :=
 bif (inR (IntKind.i64.wrap (x4 - 1)) ((x3).length)) then (Jj .u32 ((x3).getD ((IntKind.i64.wrap (x4 - 1):Int).toNat) (.v (.bool false))) fun e9=>let v10:=IntKind.u64.wrap (x8 + (IntKind.u64.wrap (e9))); bif (decide (v10≥1000000000)) then (k0 x1 x2 x3 x4 x5 x6 (IntKind.u64.wrap (x7 - 1)) v10) else (k1 x1 x2 x3 x4 x5 x6 (IntKind.u64.wrap (x7 - 1)) v10)) else none
def UbM (n:Nat) (l0:LP→LP→LP→Int→LP→Int→Int→Int→O R) (x1 x2 x3:LP) (x4:Int) (x5:LP) (x6 x7 x8:Int) (k0:LP→LP→LP→Int→LP→Int→Int→O R):O R :=
 bif (decide (x7≥1000000000)) then (Uc1 n x1 x2 x3 x4 x5 x6 x7 x8 (fun y9 y10 y11 y12 y13 y14 y15 y16=>k0 y9 y10 y11 y12 y13 y14 y15) (fun y17 y18 y19 y20 y21 y22 y23 y24=>l0 y17 y18 y19 y20 y21 y22 y23 y24)) else (bif (inR (IntKind.i64.wrap (x4 - 2)) ((x3).length)) then (Jj .u32 ((x3).getD ((IntKind.i64.wrap (x4 - 2):Int).toNat) (.v (.bool false))) fun e25=>let v26:=IntKind.u64.wrap (x7 * (IntKind.u64.wrap (e25))); let v27:=IntKind.i64.wrap ((IntKind.i64.wrap (x6 + x4)) - 2); bif (inR v27 ((x2).length)) then (Jj .u32 ((x2).getD ((v27:Int).toNat) (.v (.bool false))) fun e28=>let v29:=IntKind.u64.wrap ((IntKind.u64.wrap (x8 * 1000000000)) + (IntKind.u64.wrap (e28))); bif (bif false then true else (decide (v26>v29))) then (Uc1 n x1 x2 x3 x4 x5 x6 x7 x8 (fun y30 y31 y32 y33 y34 y35 y36 y37=>k0 y30 y31 y32 y33 y34 y35 y36) (fun y38 y39 y40 y41 y42 y43 y44 y45=>l0 y38 y39 y40 y41 y42 y43 y44 y45)) else (k0 x1 x2 x3 x4 x5 x6 x7)) else none) else none)
def Ua2 (n:Nat):Nat→LP→LP→LP→Int→LP→Int→Int→Int→(LP→LP→LP→Int→LP→Int→Int→O R)→O R
 | 0,_,_,_,_,_,_,_,_,_=>none
 | m + 1,x1,x2,x3,x4,x5,x6,x7,x8,k0=>UbM n (fun x1 x2 x3 x4 x5 x6 x7 x8=>Ua2 n m x1 x2 x3 x4 x5 x6 x7 x8 k0) x1 x2 x3 x4 x5 x6 x7 x8 k0
def Uhg (n:Nat) (x1 x2 x3:LP) (x4:Int) (x5:LP) (x6 x7 x8:Int) (k0:LP→LP→LP→Int→LP→Int→Int→O R):O R:=Ua2 n n x1 x2 x3 x4 x5 x6 x7 x8 k0
def UeF (n:Nat) (x1 x2 x3:LP) (x4:Int) (x5:LP) (x6 x7 x8 x9 x10 x11 x12 x13:Int) (k0:LP→LP→LP→Int→LP→Int→Int→Int→Int→Int→Int→O R):O R :=
 bif (inR (IntKind.i64.wrap (x6 + x10)) ((x2).length)) then (Jj .u32 ((x2).getD ((IntKind.i64.wrap (x6 + x10):Int).toNat) (.v (.bool false))) fun e14=>k0 x1 ((x2).set ((IntKind.i64.wrap (x6 + x10):Int).toNat) (.v (.int .u32 (IntKind.u32.wrap (x11))))) x3 x4 x5 x6 x7 x8 x9 x12 x13) else none
def Uc3 (n:Nat) (l0:LP→LP→LP→Int→LP→Int→Int→Int→Int→Int→Int→O R) (x1 x2 x3:LP) (x4:Int) (x5:LP) (x6 x7 x8 x9 x10 x11:Int) (k0:LP→LP→LP→Int→LP→Int→Int→Int→Int→O R):O R :=
 bif (decide (x11<x10)) then (bif (inR x11 ((x3).length)) then (Jj .u32 ((x3).getD ((x11:Int).toNat) (.v (.bool false))) fun e12=>let v13:=IntKind.u64.wrap (x7 * (IntKind.u64.wrap (e12))); bif (inR (IntKind.i64.wrap (x6 + x11)) ((x2).length)) then (Jj .u32 ((x2).getD ((IntKind.i64.wrap (x6 + x11):Int).toNat) (.v (.bool false))) fun e14=>bif decide (1000000000=0) then none else (let v15:=Int.tmod (IntKind.u64.wrap (x8 + v13)) 1000000000; let v16:=IntKind.i64.wrap ((IntKind.i64.wrap (e14)) - (IntKind.i64.wrap (v15))); bif decide (1000000000=0) then none else (let v17:=IntKind.u64.wrap (Int.tdiv (IntKind.u64.wrap (x8 + v13)) 1000000000); bif (decide (IntKind.i64.wrap (v16 - x9)<0)) then (let v18:=IntKind.i64.wrap ((IntKind.i64.wrap (v16 - x9)) + 1000000000); UeF n x1 x2 x3 x4 x5 x6 x7 v17 1 x11 v18 x10 x11 (fun y19 y20 y21 y22 y23 y24 y25 y26 y27 y28 y29=>l0 y19 y20 y21 y22 y23 y24 y25 y26 y27 y28 (IntKind.i64.wrap (y29 + 1)))) else (UeF n x1 x2 x3 x4 x5 x6 x7 v17 0 x11 (IntKind.i64.wrap (v16 - x9)) x10 x11 (fun y30 y31 y32 y33 y34 y35 y36 y37 y38 y39 y40=>l0 y30 y31 y32 y33 y34 y35 y36 y37 y38 y39 (IntKind.i64.wrap (y40 + 1))))))) else none) else none) else (k0 x1 x2 x3 x4 x5 x6 x7 x8 x9)
def UaJ (n:Nat):Nat→LP→LP→LP→Int→LP→Int→Int→Int→Int→Int→Int→(LP→LP→LP→Int→LP→Int→Int→Int→Int→O R)→O R
 | 0,_,_,_,_,_,_,_,_,_,_,_,_=>none
 | m + 1,x1,x2,x3,x4,x5,x6,x7,x8,x9,x10,x11,k0=>Uc3 n (fun x1 x2 x3 x4 x5 x6 x7 x8 x9 x10 x11=>UaJ n m x1 x2 x3 x4 x5 x6 x7 x8 x9 x10 x11 k0) x1 x2 x3 x4 x5 x6 x7 x8 x9 x10 x11 k0
def Uhh (n:Nat) (x1 x2 x3:LP) (x4:Int) (x5:LP) (x6 x7 x8 x9 x10 x11:Int) (k0:LP→LP→LP→Int→LP→Int→Int→Int→Int→O R):O R:=UaJ n n x1 x2 x3 x4 x5 x6 x7 x8 x9 x10 x11 k0
def Uc4 (n:Nat) (l0:LP→LP→LP→Int→LP→Int→Int→Int→Int→Int→Int→O R) (x1 x2 x3:LP) (x4:Int) (x5:LP) (x6 x7 x8 x9 x10 x11:Int) (k0:LP→LP→LP→Int→LP→Int→Int→Int→Int→O R):O R :=
 bif (decide (x11<x10)) then (bif (inR (IntKind.i64.wrap (x6 + x11)) ((x2).length)) then (Jj .u32 ((x2).getD ((IntKind.i64.wrap (x6 + x11):Int).toNat) (.v (.bool false))) fun e12=>bif (inR x11 ((x3).length)) then (Jj .u32 ((x3).getD ((x11:Int).toNat) (.v (.bool false))) fun e13=>let v14:=IntKind.u32.wrap (x9 + (IntKind.u32.wrap (e12 + e13))); bif decide (1000000000=0) then none else (bif (inR (IntKind.i64.wrap (x6 + x11)) ((x2).length)) then (Jj .u32 ((x2).getD ((IntKind.i64.wrap (x6 + x11):Int).toNat) (.v (.bool false))) fun e15=>bif decide (1000000000=0) then none else (let v16:=IntKind.u32.wrap (Int.tdiv v14 1000000000); l0 x1 ((x2).set ((IntKind.i64.wrap (x6 + x11):Int).toNat) (.v (.int .u32 (Int.tmod v14 1000000000)))) x3 x4 x5 x6 x7 x8 v16 x10 (IntKind.i64.wrap (x11 + 1)))) else none)) else none) else none) else (k0 x1 x2 x3 x4 x5 x6 x7 x8 x9)
def Ua3 (n:Nat):Nat→LP→LP→LP→Int→LP→Int→Int→Int→Int→Int→Int→(LP→LP→LP→Int→LP→Int→Int→Int→Int→O R)→O R
 | 0,_,_,_,_,_,_,_,_,_,_,_,_=>none
 | m + 1,x1,x2,x3,x4,x5,x6,x7,x8,x9,x10,x11,k0=>Uc4 n (fun x1 x2 x3 x4 x5 x6 x7 x8 x9 x10 x11=>Ua3 n m x1 x2 x3 x4 x5 x6 x7 x8 x9 x10 x11 k0) x1 x2 x3 x4 x5 x6 x7 x8 x9 x10 x11 k0
def Umv (n:Nat) (x1 x2 x3:LP) (x4:Int) (x5:LP) (x6 x7 x8 x9 x10 x11:Int) (k0:LP→LP→LP→Int→LP→Int→Int→Int→Int→O R):O R:=Ua3 n n x1 x2 x3 x4 x5 x6 x7 x8 x9 x10 x11 k0
def Uc2 (n:Nat) (x1 x2 x3:LP) (x4:Int) (x5:LP) (x6 x7 x8:Int) (k0:LP→LP→LP→Int→LP→Int→O R):O R :=
 bif (inR (IntKind.i64.wrap (x6 + x4)) ((x2).length)) then (Jj .u32 ((x2).getD ((IntKind.i64.wrap (x6 + x4):Int).toNat) (.v (.bool false))) fun e9=>bif (inR x6 ((x5).length)) then (Jj .u32 ((x5).getD ((x6:Int).toNat) (.v (.bool false))) fun e10=>k0 x1 ((x2).set ((IntKind.i64.wrap (x6 + x4):Int).toNat) (.v (.int .u32 (IntKind.u32.wrap (x8))))) x3 x4 ((x5).set ((x6:Int).toNat) (.v (.int .u32 (IntKind.u32.wrap (x7))))) x6) else none) else none
def Uc0 (n:Nat) (x1 x2 x3:LP) (x4:Int) (x5:LP) (x6:Int) (k0:LP→LP→LP→Int→LP→Int→O R):O R :=
 k0 x1 x2 x3 x4 x5 (IntKind.i64.wrap (x6 - 1))
def UbL (n:Nat) (l0:LP→LP→LP→Int→LP→Int→O R) (x1 x2 x3:LP) (x4:Int) (x5:LP) (x6:Int) (k0:LP→LP→LP→O R):O R :=
 bif (decide (x6≥0)) then (bif (inR (IntKind.i64.wrap (x6 + x4)) ((x2).length)) then (Jj .u32 ((x2).getD ((IntKind.i64.wrap (x6 + x4):Int).toNat) (.v (.bool false))) fun e7=>let v8:=IntKind.u64.wrap ((IntKind.u64.wrap (e7)) * 1000000000); let v9:=IntKind.i64.wrap ((IntKind.i64.wrap (x6 + x4)) - 1); bif (inR v9 ((x2).length)) then (Jj .u32 ((x2).getD ((v9:Int).toNat) (.v (.bool false))) fun e10=>let v11:=IntKind.u64.wrap (v8 + (IntKind.u64.wrap (e10))); bif (inR (IntKind.i64.wrap (x4 - 1)) ((x3).length)) then (Jj .u32 ((x3).getD ((IntKind.i64.wrap (x4 - 1):Int).toNat) (.v (.bool false))) fun e12=>bif decide (IntKind.u64.wrap (e12)=0) then none else (let v13:=IntKind.u64.wrap (Int.tdiv v11 (IntKind.u64.wrap (e12))); bif (inR (IntKind.i64.wrap (x4 - 1)) ((x3).length)) then (Jj .u32 ((x3).getD ((IntKind.i64.wrap (x4 - 1):Int).toNat) (.v (.bool false))) fun e14=>bif decide (IntKind.u64.wrap (e14)=0) then none else (let v15:=Int.tmod v11 (IntKind.u64.wrap (e14)); Uhg n x1 x2 x3 x4 x5 x6 v13 v15 (fun y16 y17 y18 y19 y20 y21 y22=>Uhh n y16 y17 y18 y19 y20 y21 y22 0 0 y19 0 (fun y23 y24 y25 y26 y27 y28 y29 y30 y31=>bif (inR (IntKind.i64.wrap (y28 + y26)) ((y24).length)) then (Jj .u32 ((y24).getD ((IntKind.i64.wrap (y28 + y26):Int).toNat) (.v (.bool false))) fun e32=>let v33:=IntKind.i64.wrap ((IntKind.i64.wrap (e32)) - (IntKind.i64.wrap (y30))); bif (decide (IntKind.i64.wrap (v33 - y31)<0)) then (Umv n y23 y24 y25 y26 y27 y28 (IntKind.u64.wrap (y29 - 1)) (IntKind.i64.wrap (v33 - y31)) 0 y26 0 (fun y34 y35 y36 y37 y38 y39 y40 y41 y42=>let v43:=IntKind.i64.wrap (y41 + (IntKind.i64.wrap (y42))); Uc2 n y34 y35 y36 y37 y38 y39 y40 v43 (fun y44 y45 y46 y47 y48 y49=>Uc0 n y44 y45 y46 y47 y48 y49 (fun y50 y51 y52 y53 y54 y55=>l0 y50 y51 y52 y53 y54 y55)))) else (Uc2 n y23 y24 y25 y26 y27 y28 y29 (IntKind.i64.wrap (v33 - y31)) (fun y56 y57 y58 y59 y60 y61=>Uc0 n y56 y57 y58 y59 y60 y61 (fun y62 y63 y64 y65 y66 y67=>l0 y62 y63 y64 y65 y66 y67)))) else none)))) else none)) else none) else none) else none) else (k0 x1 x2 x5)
def UaA (n:Nat):Nat→LP→LP→LP→Int→LP→Int→(LP→LP→LP→O R)→O R
 | 0,_,_,_,_,_,_,_=>none
 | m + 1,x1,x2,x3,x4,x5,x6,k0=>UbL n (fun x1 x2 x3 x4 x5 x6=>UaA n m x1 x2 x3 x4 x5 x6 k0) x1 x2 x3 x4 x5 x6 k0
def Umu (n:Nat) (x1 x2 x3:LP) (x4:Int) (x5:LP) (x6:Int) (k0:LP→LP→LP→O R):O R:=UaA n n x1 x2 x3 x4 x5 x6 k0
def Uhe (n:Nat) (x1 x2 x3:LP) (x4:Int) (x5:LP) (k0:LP→LP→O R):O R :=
 let v6:=IntKind.i64.wrap (((x2).length:Int) - x4); Umu n x1 x2 x3 x4 x5 (IntKind.i64.wrap (v6 - 1)) (fun y7 y8 y9=>Uru n y8 (fun y10=>bif (inR 0 ((y7).length)) then (Jj .u32 ((y7).getD ((0:Int).toNat) (.v (.bool false))) fun e11=>UCL n y10 e11 (fun y12 y13=>Uru n y9 (fun y14=>k0 y14 y12))) else none))
def Uhd (n:Nat) (x1 x2 x3:LP) (x4:Int) (k0:LP→LP→O R):O R :=
 let v5:=IntKind.i64.wrap (((x2).length:Int) - x4); bif (decide ((0:Int)≤v5)&&decide ((v5:Int)≤v5)&&Jbu (v5:Int).toNat 4) then (Uhe n x1 x2 x3 x4 (List.replicate (v5:Int).toNat (.v (.int .u32 0):PV)) (fun y6 y7=>k0 y6 y7)) else none
def UjR (n:Nat) (x1 x2 x3:LP) (k0:LP→LP→O R):O R :=
 Uhd n x1 x2 x3 ((x3).length:Int) (fun y4 y5=>k0 y4 y5)
def UjQ (n:Nat) (x1 x2 x3:LP) (k0:LP→LP→O R):O R :=
 bif (Jgx 1 x2&&Jbu (0 + (x2).length) 4) then (bif (Jbu (([]++x2).length + 1) 4) then (UjR n x1 (([]++x2)++([.v (.int .u32 0)]:LP)) x3 (fun y4 y5=>k0 y4 y5)) else none) else none
def UjP (n:Nat) (x1 x2 x3:LP) (k0:LP→LP→O R):O R :=
 p58 n x1 x3 (fun y4=>p58 n x2 x3 (fun y5=>UjQ n x3 y4 y5 (fun y6 y7=>k0 y6 y7)))
def UjO (n:Nat) (x1 x2:LP) (k0:LP→LP→O R):O R :=
 let v3:=IntKind.i64.wrap (((x2).length:Int) - 1); bif (inR v3 ((x2).length)) then (Jj .u32 ((x2).getD ((v3:Int).toNat) (.v (.bool false))) fun e4=>bif decide (IntKind.u32.wrap (e4 + 1)=0) then none else (let v5:=IntKind.u32.wrap (Int.tdiv 1000000000 (IntKind.u32.wrap (e4 + 1))); UjP n x1 x2 ([.v (.int .u32 v5)]:LP) (fun y6 y7=>k0 y6 y7))) else none
def Uhf (n:Nat) (x1 x2:LP) (k0:LP→LP→O R):O R :=
 bif (((x2).length:Int) == 1) then (bif (inR 0 ((x2).length)) then (Jj .u32 ((x2).getD ((0:Int).toNat) (.v (.bool false))) fun e3=>UCL n x1 e3 (fun y4 y5=>Uru n ([.v (.int .u32 y5)]:LP) (fun y6=>k0 y4 y6))) else none) else (UjO n x1 x2 (fun y7 y8=>k0 y7 y8))
def Uz4 (n:Nat) (x1 x2:LP) (k0:LP→LP→O R):O R :=
 p57 n x1 x2 (fun y3=>bif (decide (y3<0)) then (k0 [] x1) else (Uhf n x1 x2 (fun y4 y5=>k0 y4 y5)))
abbrev Ui5 (n:Nat):Code→Fr→Kc R→O R:=evC Tryz.prog (UoO n) Uac n (262,[])
noncomputable def UnT:Code:=Jj4 (Jll Tryz.f115) [1,1]
abbrev Uki:Sl (List SV):=(cH (cH .n))
abbrev Uqg (n:Nat) (K:Kc R):Uki.T (O R):=fun x1 x2=>Uhf n x1 x2 (fun y1 y2=>xC Uac 3 K .ret [vH y1,vH y2])
noncomputable def UnU:Code:=Jj4 (Jll Tryz.f115) [1,1,1]
abbrev Ukj:Sl (List SV):=(cH (cH .n))
abbrev Uqh (n:Nat) (K:Kc R):Ukj.T (O R):=fun x1 x2=>UjO n x1 x2 (fun y1 y2=>xC Uac 6 K .ret [vH y1,vH y2])
noncomputable def UnV:Code:=Jj4 (Jll Tryz.f115) [1,1,1,1]
abbrev Ukk:Sl (List SV):=(cH (cH (cO 143 .n)))
abbrev Uqi (n:Nat) (K:Kc R):Ukk.T (O R):=fun x1 x2 x3=>UjP n x1 x2 x3 (fun y1 y2=>xC Uac 7 K .ret [vH y1,vH y2])
noncomputable def UnW:Code:=Jj4 (Jll Tryz.f115) [1,1,1,1,1]
abbrev Ukl:Sl (List SV):=(cH (cH (cH .n)))
abbrev Uqj (n:Nat) (K:Kc R):Ukl.T (O R):=fun x1 x2 x3=>UjQ n x1 x2 x3 (fun y1 y2=>xC Uac 8 K .ret [vH y1,vH y2])
noncomputable def UnX:Code:=Jj4 (Jll Tryz.f115) [1,1,1,1,1,1]
abbrev Ukm:Sl (List SV):=(cH (cO 143 (cH .n)))
abbrev Uqk (n:Nat) (K:Kc R):Ukm.T (O R):=fun x1 x2 x3=>UjR n x1 x2 x3 (fun y1 y2=>xC Uac 9 K .ret [vH y1,vH y2])
noncomputable def UkV:Code:=Jj4 (Jll Tryz.f115) [1,1,1,1,1,1,1]
abbrev Uh6:Sl (List SV):=(cH (cO 143 (cH (cI .n))))
abbrev Ul5 (n:Nat) (K:Kc R):Uh6.T (O R):=fun x1 x2 x3 x4=>Uhd n x1 x2 x3 x4 (fun y1 y2=>xC Uac 10 K .ret [vH y1,vH y2])
noncomputable def UkW:Code:=Jj4 (Jll Tryz.f115) [1,1,1,1,1,1,1,1]
abbrev Uh7:Sl (List SV):=(cH (cO 143 (cH (cI (cO 143 .n)))))
abbrev Ul6 (n:Nat) (K:Kc R):Uh7.T (O R):=fun x1 x2 x3 x4 x5=>Uhe n x1 x2 x3 x4 x5 (fun y1 y2=>xC Uac 11 K .ret [vH y1,vH y2])
noncomputable def UkX:Code:=Jj4 (Jll Tryz.f115) [1,1,1,1,1,1,1,1,0,1,0,0,1,1]
abbrev Uh8:Sl (List SV):=(cH (cO 143 (cH (cI (cO 143 (cI .n))))))
abbrev Ul7 (n:Nat) (K:Kc R):Uh8.T (O R):=fun x1 x2 x3 x4 x5 x6=>Uc0 n x1 x2 x3 x4 x5 x6 (fun y1 y2 y3 y4 y5 y6=>xC Uac 13 K .normal [dD,dD,vH y1,.own 143 y2,vH y3,vI y4,.own 143 y5,vI y6])
noncomputable def UkY:Code:=Jj4 (Jll Tryz.f115) [1,1,1,1,1,1,1,1,0,1,0,0,1,0,0,1,1,0,0,0,1]
abbrev Uh9:Sl (List SV):=(cH (cO 143 (cH (cI (cO 143 (cI (.c (sP (Jlv .u64)) (.c (sP (Jlv .u64)) .n))))))))
abbrev Ul8 (n:Nat) (K:Kc R):Uh9.T (O R):=fun x1 x2 x3 x4 x5 x6 x7 x8=>Uc1 n x1 x2 x3 x4 x5 x6 x7 x8 (fun y1 y2 y3 y4 y5 y6 y7 y8=>xC Uac 17 K (.exit 2) [dD,dD,vH y1,.own 143 y2,vH y3,vI y4,.own 143 y5,vI y6,.p (.v (.int .u64 y7)),.p (.v (.int .u64 y8))]) (fun y1 y2 y3 y4 y5 y6 y7 y8=>xC Uac 17 K .normal [dD,dD,vH y1,.own 143 y2,vH y3,vI y4,.own 143 y5,vI y6,.p (.v (.int .u64 y7)),.p (.v (.int .u64 y8))])
noncomputable def UkZ:Code:=Jj4 (Jll Tryz.f115) [1,1,1,1,1,1,1,1,0,1,0,0,1,0,0,1,1,1,1,0,1,0,0,1,1,0,0,1,1,1,1,1,1]
abbrev Ui:Sl (List SV):=(cH (cO 143 (cH (cI (cO 143 (cI (.c (sP (Jlv .u64)) (.c (sP (Jlv .u64)) (cI (cI (cI (cI (cI .n)))))))))))))
abbrev Ul9 (n:Nat) (K:Kc R):Ui.T (O R):=fun x1 x2 x3 x4 x5 x6 x7 x8 x9 x10 x11 x12 x13=>UeF n x1 x2 x3 x4 x5 x6 x7 x8 x9 x10 x11 x12 x13 (fun y1 y2 y3 y4 y5 y6 y7 y8 y9 y10 y11=>xC Uac 31 K .normal [dD,dD,vH y1,.own 143 y2,vH y3,vI y4,.own 143 y5,vI y6,.p (.v (.int .u64 y7)),.p (.v (.int .u64 y8)),vI y9,vI y10,vI y11])
noncomputable def Uk0:Code:=Jj4 (Jll Tryz.f115) [1,1,1,1,1,1,1,1,0,1,0,0,1,0,0,1,1,1,1,1,1,1]
abbrev Uia:Sl (List SV):=(cH (cO 143 (cH (cI (cO 143 (cI (.c (sP (Jlv .u64)) (cI .n))))))))
abbrev Um (n:Nat) (K:Kc R):Uia.T (O R):=fun x1 x2 x3 x4 x5 x6 x7 x8=>Uc2 n x1 x2 x3 x4 x5 x6 x7 x8 (fun y1 y2 y3 y4 y5 y6=>xC Uac 45 K .normal [dD,dD,vH y1,.own 143 y2,vH y3,vI y4,.own 143 y5,vI y6])
noncomputable def Uk1:Code:=Jj4 (Jll Tryz.f115) [1,1,1,1,1,1,1,1,0,1,0,0]
abbrev Ucf:Sl (List SV):=(cH (cO 143 (cH (cI (cO 143 (cI .n))))))
abbrev UgT (n m:Nat) (K:Kc R):Ucf.T (O R):=fun x1 x2 x3 x4 x5 x6=>UaA n m x1 x2 x3 x4 x5 x6 (fun y1 y2 y3=>xL Uac 12 K (.exit 0) [dD,dD,vH y1,.own 143 y2,.own 143 y3])
abbrev UsJ (n:Nat) (K:Kc R) (l0:Ucf.T (O R)):Ucf.T (O R):=fun x1 x2 x3 x4 x5 x6=>UbL n l0 x1 x2 x3 x4 x5 x6 (fun y1 y2 y3=>xL Uac 12 K (.exit 0) [dD,dD,vH y1,.own 143 y2,.own 143 y3])
noncomputable def Uk2:Code:=Jj4 (Jll Tryz.f115) [1,1,1,1,1,1,1,1,0,1,0,0,1,0,0,1,1,0,0,0]
abbrev Ucg:Sl (List SV):=(cH (cO 143 (cH (cI (cO 143 (cI (.c (sP (Jlv .u64)) (.c (sP (Jlv .u64)) .n))))))))
abbrev UgU (n m:Nat) (K:Kc R):Ucg.T (O R):=fun x1 x2 x3 x4 x5 x6 x7 x8=>Ua2 n m x1 x2 x3 x4 x5 x6 x7 x8 (fun y1 y2 y3 y4 y5 y6 y7=>xL Uac 16 K (.exit 2) [dD,dD,vH y1,.own 143 y2,vH y3,vI y4,.own 143 y5,vI y6,.p (.v (.int .u64 y7))])
abbrev UsK (n:Nat) (K:Kc R) (l0:Ucg.T (O R)):Ucg.T (O R):=fun x1 x2 x3 x4 x5 x6 x7 x8=>UbM n l0 x1 x2 x3 x4 x5 x6 x7 x8 (fun y1 y2 y3 y4 y5 y6 y7=>xL Uac 16 K (.exit 2) [dD,dD,vH y1,.own 143 y2,vH y3,vI y4,.own 143 y5,vI y6,.p (.v (.int .u64 y7))])
noncomputable def Uk3:Code:=Jj4 (Jll Tryz.f115) [1,1,1,1,1,1,1,1,0,1,0,0,1,0,0,1,1,1,1,0,1,0,0]
abbrev Uch:Sl (List SV):=(cH (cO 143 (cH (cI (cO 143 (cI (.c (sP (Jlv .u64)) (.c (sP (Jlv .u64)) (cI (cI (cI .n)))))))))))
abbrev UgV (n m:Nat) (K:Kc R):Uch.T (O R):=fun x1 x2 x3 x4 x5 x6 x7 x8 x9 x10 x11=>UaJ n m x1 x2 x3 x4 x5 x6 x7 x8 x9 x10 x11 (fun y1 y2 y3 y4 y5 y6 y7 y8 y9=>xL Uac 22 K (.exit 4) [dD,dD,vH y1,.own 143 y2,vH y3,vI y4,.own 143 y5,vI y6,.p (.v (.int .u64 y7)),.p (.v (.int .u64 y8)),vI y9])
abbrev UsL (n:Nat) (K:Kc R) (l0:Uch.T (O R)):Uch.T (O R):=fun x1 x2 x3 x4 x5 x6 x7 x8 x9 x10 x11=>Uc3 n l0 x1 x2 x3 x4 x5 x6 x7 x8 x9 x10 x11 (fun y1 y2 y3 y4 y5 y6 y7 y8 y9=>xL Uac 22 K (.exit 4) [dD,dD,vH y1,.own 143 y2,vH y3,vI y4,.own 143 y5,vI y6,.p (.v (.int .u64 y7)),.p (.v (.int .u64 y8)),vI y9])
noncomputable def Uk4:Code:=Jj4 (Jll Tryz.f115) [1,1,1,1,1,1,1,1,0,1,0,0,1,0,0,1,1,1,1,1,1,0,1,0,1,1,0,1,0,0]
abbrev Uci:Sl (List SV):=(cH (cO 143 (cH (cI (cO 143 (cI (.c (sP (Jlv .u64)) (cI (.c (sP (Jlv .u32)) (cI (cI .n)))))))))))
abbrev UgW (n m:Nat) (K:Kc R):Uci.T (O R):=fun x1 x2 x3 x4 x5 x6 x7 x8 x9 x10 x11=>Ua3 n m x1 x2 x3 x4 x5 x6 x7 x8 x9 x10 x11 (fun y1 y2 y3 y4 y5 y6 y7 y8 y9=>xL Uac 38 K (.exit 6) [dD,dD,vH y1,.own 143 y2,vH y3,vI y4,.own 143 y5,vI y6,.p (.v (.int .u64 y7)),vI y8,.p (.v (.int .u32 y9))])
abbrev UsM (n:Nat) (K:Kc R) (l0:Uci.T (O R)):Uci.T (O R):=fun x1 x2 x3 x4 x5 x6 x7 x8 x9 x10 x11=>Uc4 n l0 x1 x2 x3 x4 x5 x6 x7 x8 x9 x10 x11 (fun y1 y2 y3 y4 y5 y6 y7 y8 y9=>xL Uac 38 K (.exit 6) [dD,dD,vH y1,.own 143 y2,vH y3,vI y4,.own 143 y5,vI y6,.p (.v (.int .u64 y7)),vI y8,.p (.v (.int .u32 y9))])
abbrev Ucn (n:Nat):Orc R:=oL Uac (Ui5 n) n 38 Uk4 Uci (UgW n n) (oL Uac (Ui5 n) n 22 Uk3 Uch (UgV n n) (oL Uac (Ui5 n) n 16 Uk2 Ucg (UgU n n) (oL Uac (Ui5 n) n 12 Uk1 Ucf (UgT n n) oN)))
abbrev Ucm (n:Nat):Orc R:=oC Uac (Ui5 n) 45 Uk0 Uia (Um n) (oC Uac (Ui5 n) 31 UkZ Ui (Ul9 n) (oC Uac (Ui5 n) 17 UkY Uh9 (Ul8 n) (oC Uac (Ui5 n) 13 UkX Uh8 (Ul7 n) (oC Uac (Ui5 n) 11 UkW Uh7 (Ul6 n) (oC Uac (Ui5 n) 10 UkV Uh6 (Ul5 n) (oC Uac (Ui5 n) 9 UnX Ukm (Uqk n) (oC Uac (Ui5 n) 8 UnW Ukl (Uqj n) (oC Uac (Ui5 n) 7 UnV Ukk (Uqi n) (oC Uac (Ui5 n) 6 UnU Ukj (Uqh n) (oC Uac (Ui5 n) 3 UnT Uki (Uqg n) oN))))))))))
abbrev Ui2 (R:Type) (n:Nat):=JcH (R:=R) Tryz.prog (UoO n) Uac n (262,[]) (Ucn n) (Ucm n)
theorem UtB (n:Nat):Ui2 R n (true,17,UkY):=JkW (lo:=Ucn n) (cu:=Ucm n) (pO pN (by kernel_rfl)) Uh9 (Ul8 n) (fun K _ _ _ _ _ _ _ _=>by show _=_; kernel_rfl) fun _ _=>rfl
theorem UtF (n:Nat):Ui2 R n (false,16,Uk2):=JkF (lo:=Ucn n) (cu:=Ucm n) (pO (pC (UtB n) pN) (by kernel_rfl)) Ucg (UgU n n) (JiE (F:=UgU n) Ucg (UsK n) (fun K _ _ _ _ _ _ _ _=>rfl) (fun _ _=>rfl) (fun L K _ _ _ _ _ _ _ _=>by show _=_; kernel_rfl) n) fun _ _=>rfl
theorem UtC (n:Nat):Ui2 R n (true,31,UkZ):=JkW (lo:=Ucn n) (cu:=Ucm n) (pO pN (by kernel_rfl)) Ui (Ul9 n) (fun K _ _ _ _ _ _ _ _ _ _ _ _ _=>by show _=_; kernel_rfl) fun _ _=>rfl
theorem UtG (n:Nat):Ui2 R n (false,22,Uk3):=JkF (lo:=Ucn n) (cu:=Ucm n) (pO (pC (UtC n) pN) (by kernel_rfl)) Uch (UgV n n) (JiE (F:=UgV n) Uch (UsL n) (fun K _ _ _ _ _ _ _ _ _ _ _=>rfl) (fun _ _=>rfl) (fun L K _ _ _ _ _ _ _ _ _ _ _=>by show _=_; kernel_rfl) n) fun _ _=>rfl
theorem UtH (n:Nat):Ui2 R n (false,38,Uk4):=JkF (lo:=Ucn n) (cu:=Ucm n) (pO pN (by kernel_rfl)) Uci (UgW n n) (JiE (F:=UgW n) Uci (UsM n) (fun K _ _ _ _ _ _ _ _ _ _ _=>rfl) (fun _ _=>rfl) (fun L K _ _ _ _ _ _ _ _ _ _ _=>by show _=_; kernel_rfl) n) fun _ _=>rfl
theorem UtD (n:Nat):Ui2 R n (true,45,Uk0):=JkW (lo:=Ucn n) (cu:=Ucm n) (pO pN (by kernel_rfl)) Uia (Um n) (fun K _ _ _ _ _ _ _ _=>by show _=_; kernel_rfl) fun _ _=>rfl
theorem UtA (n:Nat):Ui2 R n (true,13,UkX):=JkW (lo:=Ucn n) (cu:=Ucm n) (pO pN (by kernel_rfl)) Uh8 (Ul7 n) (fun K _ _ _ _ _ _=>by show _=_; kernel_rfl) fun _ _=>rfl
theorem UtE (n:Nat):Ui2 R n (false,12,Uk1):=JkF (lo:=Ucn n) (cu:=Ucm n) (pO (pC (UtF n) (pC (UtG n) (pC (UtH n) (pC (UtD n) (pC (UtA n) pN))))) (by kernel_rfl)) Ucf (UgT n n) (JiE (F:=UgT n) Ucf (UsJ n) (fun K _ _ _ _ _ _=>rfl) (fun _ _=>rfl) (fun L K _ _ _ _ _ _=>by show _=_; kernel_rfl) n) fun _ _=>rfl
theorem Utz (n:Nat):Ui2 R n (true,11,UkW):=JkW (lo:=Ucn n) (cu:=Ucm n) (pO (pC (UtE n) pN) (by kernel_rfl)) Uh7 (Ul6 n) (fun K _ _ _ _ _=>by show _=_; kernel_rfl) fun _ _=>rfl
theorem Uty (n:Nat):Ui2 R n (true,10,UkV):=JkW (lo:=Ucn n) (cu:=Ucm n) (pO (pC (Utz n) pN) (by kernel_rfl)) Uh6 (Ul5 n) (fun K _ _ _ _=>by show _=_; kernel_rfl) fun _ _=>rfl
theorem UyT (n:Nat):Ui2 R n (true,9,UnX):=JkW (lo:=Ucn n) (cu:=Ucm n) (pO (pC (Uty n) pN) (by kernel_rfl)) Ukm (Uqk n) (fun K _ _ _=>by show _=_; kernel_rfl) fun _ _=>rfl
theorem UyS (n:Nat):Ui2 R n (true,8,UnW):=JkW (lo:=Ucn n) (cu:=Ucm n) (pO (pC (UyT n) pN) (by kernel_rfl)) Ukl (Uqj n) (fun K _ _ _=>by show _=_; kernel_rfl) fun _ _=>rfl
theorem UyR (n:Nat):Ui2 R n (true,7,UnV):=JkW (lo:=Ucn n) (cu:=Ucm n) (pO (pC (UyS n) pN) (by kernel_rfl)) Ukk (Uqi n) (fun K _ _ _=>by show _=_; kernel_rfl) fun _ _=>rfl
theorem UyQ (n:Nat):Ui2 R n (true,6,UnU):=JkW (lo:=Ucn n) (cu:=Ucm n) (pO (pC (UyR n) pN) (by kernel_rfl)) Ukj (Uqh n) (fun K _ _=>by show _=_; kernel_rfl) fun _ _=>rfl
theorem UyP (n:Nat):Ui2 R n (true,3,UnT):=JkW (lo:=Ucn n) (cu:=Ucm n) (pO (pC (UyQ n) pN) (by kernel_rfl)) Uki (Uqg n) (fun K _ _=>by show _=_; kernel_rfl) fun _ _=>rfl
theorem UG6 (n:Nat):Je6 (Ui2 R n) (JaJ Uac (Jll Tryz.f115)):=pO (pC (UyP n) pN) (by kernel_rfl)
abbrev UHL:Sl (List SV):=(cH (cH .n))
abbrev f115 (n:Nat) (K:List SV→O R):UHL.T (O R):=fun x1 x2=>Uz4 n x1 x2 (fun y1 y2=>K [vH y1,vH y2])
abbrev Ux6 (n:Nat):FS:=fT [false,false] UHL (f115 n)
theorem UCw (n:Nat):FSound Tryz.prog GI 115 (Ux6 n):=gd Uac n (Uly n) Tryz.func115 (.cons (Uly n) UHL (f115 n) (fun K _ _=>(Jkq (c:=Jll Tryz.f115) (by kernel_rfl) (UG6 n) K).trans (by kernel_rfl)) .nil) (by kernel_rfl)
def UeZ:Ann:={ loops:=[(1,ids [0,1],ids [0,4])],cuts:=[],frz:=[],rm:=[.id] }
abbrev UoF (n:Nat):Env:=eC 115 (Ux6 n) eN
theorem Ulk (n:Nat):EnvOK Tryz.prog GI (UoF n):=.cons (.nil) (UCw n)
def Ug9 (n:Nat) (l0:LP→LP→O R) (x1 x2:LP) (k0:LP→O R):O R :=
 bif (decide (((x2).length:Int)>0)) then (Uz4 n x1 x2 (fun y3 y4=>l0 x2 y4)) else (k0 x1)
def UcV (n:Nat):Nat→LP→LP→(LP→O R)→O R
 | 0,_,_,_=>none
 | m + 1,x1,x2,k0=>Ug9 n (fun x1 x2=>UcV n m x1 x2 k0) x1 x2 k0
def Urt (n:Nat) (x1 x2:LP) (k0:LP→O R):O R:=UcV n n x1 x2 k0
def UCF (n:Nat) (x1 x2:LP) (k0:LP→O R):O R :=
 Urt n x1 x2 (fun y3=>k0 y3)
abbrev UKe (n:Nat):Code→Fr→Kc R→O R:=evC Tryz.prog (UoF n) UeZ n (19,[])
noncomputable def UnG:Code:=Jj4 (Jll Tryz.f100) [1,0,0,0]
abbrev UdO:Sl (List SV):=(cH (cH .n))
abbrev Ujk (n m:Nat) (K:Kc R):UdO.T (O R):=fun x1 x2=>UcV n m x1 x2 (fun y1=>xL UeZ 1 K (.exit 0) [vH y1,dD])
abbrev UwL (n:Nat) (K:Kc R) (l0:UdO.T (O R)):UdO.T (O R):=fun x1 x2=>Ug9 n l0 x1 x2 (fun y1=>xL UeZ 1 K (.exit 0) [vH y1,dD])
abbrev UCj (n:Nat):Orc R:=oL UeZ (UKe n) n 1 UnG UdO (Ujk n n) oN
abbrev UAM (n:Nat):Orc R:=oN
abbrev UIe (R:Type) (n:Nat):=JcH (R:=R) Tryz.prog (UoF n) UeZ n (19,[]) (UCj n) (UAM n)
theorem UyC (n:Nat):UIe R n (false,1,UnG):=JkF (lo:=UCj n) (cu:=UAM n) (pO pN (by kernel_rfl)) UdO (Ujk n n) (JiE (F:=Ujk n) UdO (UwL n) (fun K _ _=>rfl) (fun _ _=>rfl) (fun L K _ _=>by show _=_; kernel_rfl) n) fun _ _=>rfl
theorem UGS (n:Nat):Je6 (UIe R n) (JaJ UeZ (Jll Tryz.f100)):=pO (pC (UyC n) pN) (by kernel_rfl)
abbrev UHz:Sl (List SV):=(cH (cH .n))
abbrev f100 (n:Nat) (K:List SV→O R):UHz.T (O R):=fun x1 x2=>UCF n x1 x2 (fun y1=>K [vH y1])
abbrev Ux4 (n:Nat):FS:=fT [false,false] UHz (f100 n)
theorem UCu (n:Nat):FSound Tryz.prog GI 100 (Ux4 n):=gd UeZ n (Ulk n) Tryz.func100 (.cons (Ulk n) UHz (f100 n) (fun K _ _=>(Jkq (c:=Jll Tryz.f100) (by kernel_rfl) (UGS n) K).trans (by kernel_rfl)) .nil) (by kernel_rfl)
def UmY:Ann:={ loops:=[],cuts:=[(10,ids [2,5,10],ids [2,3])],frz:=[],rm:=[.id,.id] }
abbrev UxM (n:Nat):Env:=eC 100 (Ux4 n) (eC 99 (UFE n) (eC 98 (UJw n) (eC 97 (UJv n) (eC 96 (UJu n) eN))))
theorem UpA (n:Nat):EnvOK Tryz.prog GI (UxM n):=.cons (.cons (.cons (.cons (.cons (.nil) (UMy n)) (UMz n)) (UMA n)) (UJ9 n)) (UCu n)
def Uhz (n:Nat) (x1:Bool) (x2:ByteArray) (x3:Bool) (x4 x5:LP) (k0:Bool→LP→LP→Bool→O R):O R :=
 p98 n x2 (fun y6=>UCF n x4 y6 (fun y7=>bif (((y7).length:Int) == 1) then (bif (inR 0 ((y7).length)) then (Jj .u32 ((y7).getD ((0:Int).toNat) (.v (.bool false))) fun e8=>k0 x3 x4 y6 (bif true then (e8 == 1) else false)) else none) else (k0 x3 x4 y6 false)))
def p56 (n:Nat) (x1:ByteArray) (k0:Bool→LP→LP→Bool→O R):O R :=
 p96 n x1 (fun y2 y3 y4=>p97 n y2 (fun y5 y6 y7=>bif (!y7) then (k0 false [] [] false) else (p98 n y6 (fun y8=>bif (!y4) then (k0 y5 y8 ([.v (.int .u32 1)]:LP) true) else (p99 n y3 (fun y9=>bif (!y9) then (k0 false [] [] false) else (bif (bif false then true else eqS y3 (⟨#[48]⟩:ByteArray)) then (k0 false [] [] false) else (bif (bif false then true else eqS y3 (⟨#[49]⟩:ByteArray)) then (k0 false [] [] false) else (Uhz n false y3 y5 y8 ([.v (.int .u32 1)]:LP) (fun y10 y11 y12 y13=>k0 y10 y11 y12 y13))))))))))
abbrev E56 (n:Nat):Code→Fr→Kc R→O R:=evC Tryz.prog (UxM n) UmY n (65,[])
noncomputable def Uop:Code:=Jj4 (Jll Tryz.f56) [1,1,1,1,1,1,1]
abbrev UkC:Sl (List SV):=(.c (sBx 99 (cB (.c sNl (.c sNl .n)))) (cS (.c (sBx 99 (cB (cH (cH .n)))) .n)))
abbrev UqO (n:Nat) (K:Kc R):UkC.T (O R):=fun x1 x2 x3 x4 x5=>Uhz n x1 x2 x3 x4 x5 (fun y1 y2 y3 y4=>xC UmY 10 K .ret [.bx 99 [vB y1,vH y2,vH y3],vB y4])
abbrev UJG (n:Nat):Orc R:=oN
abbrev UIy (n:Nat):Orc R:=oC UmY (E56 n) 10 Uop UkC (UqO n) oN
abbrev K56 (R:Type) (n:Nat):=JcH (R:=R) Tryz.prog (UxM n) UmY n (65,[]) (UJG n) (UIy n)
theorem Uzn (n:Nat):K56 R n (true,10,Uop):=JkW (lo:=UJG n) (cu:=UIy n) (pO pN (by kernel_rfl)) UkC (UqO n) (fun K _ _ _ _ _=>by show _=_; kernel_rfl) fun _ _=>rfl
theorem UM9 (n:Nat):Je6 (K56 R n) (JaJ UmY (Jll Tryz.f56)):=pO (pC (Uzn n) pN) (by kernel_rfl)
abbrev t56:Sl (List SV):=(cS .n)
abbrev f56 (n:Nat) (K:List SV→O R):t56.T (O R):=fun x1=>p56 n x1 (fun y1 y2 y3 y4=>K [.p (.agg [.v (.bool y1),.sh y2,.sh y3]),vB y4])
abbrev UCe (n:Nat):FS:=fT [false] t56 (f56 n)
theorem UEC (n:Nat):FSound Tryz.prog GI 56 (UCe n):=gd UmY n (UpA n) Tryz.func56 (.cons (UpA n) t56 (f56 n) (fun K _=>(Jkq (c:=Jll Tryz.f56) (by kernel_rfl) (UM9 n) K).trans (by kernel_rfl)) .nil) (by kernel_rfl)
def UbG:Ann:={ loops:=[(9,ids [4,5,6,37,38],ids [2,3,4,6])],cuts:=[(2,ids [0,4],ids [2,3]),(5,ids [0,4,5],ids [2,3]),(7,ids [4,5],ids [2,3]),(17,ids [6],ids [2,3])],frz:=[],rm:=[.id,.id] }
abbrev UxZ (n:Nat):Env:=eN
theorem Up6 (n:Nat):EnvOK Tryz.prog GI (UxZ n):=.nil
def UdL (n:Nat) (l0:Bool→ByteArray→Int→Int→Int→O R) (x1:Bool) (x2:ByteArray) (x3 x4 x5:Int) (k0:Int→Bool→Bool→Int→O R) (k1:Bool→Int→O R):O R :=
 bif (decide (x5<x4)) then (bif (inR x5 (x2).size) then (bif (decide (Jc6 x2 x5<48)) then (k0 0 false x1 x3) else (bif (inR x5 (x2).size) then (bif (bif false then true else (decide (Jc6 x2 x5>57))) then (k0 0 false x1 x3) else (bif (inR x5 (x2).size) then (let v6:=IntKind.u8.wrap ((Jc6 x2 x5) - 48); let v7:=IntKind.i64.wrap ((IntKind.i64.wrap (10 * x3)) + (IntKind.i64.wrap (v6))); l0 x1 x2 v7 x4 (IntKind.i64.wrap (x5 + 1))) else none)) else none)) else none) else (k1 x1 x3)
def Ubs (n:Nat):Nat→Bool→ByteArray→Int→Int→Int→(Int→Bool→Bool→Int→O R)→(Bool→Int→O R)→O R
 | 0,_,_,_,_,_,_,_=>none
 | m + 1,x1,x2,x3,x4,x5,k0,k1=>UdL n (fun x1 x2 x3 x4 x5=>Ubs n m x1 x2 x3 x4 x5 k0 k1) x1 x2 x3 x4 x5 k0 k1
def UmG (n:Nat) (x1:Bool) (x2:ByteArray) (x3 x4 x5:Int) (k0:Int→Bool→Bool→Int→O R) (k1:Bool→Int→O R):O R:=Ubs n n x1 x2 x3 x4 x5 k0 k1
def UdK (n:Nat) (x1:Int) (k0:Int→Bool→O R):O R :=
 k0 x1 true
def UfY (n:Nat) (x1:Bool) (x2:ByteArray) (k0:Int→Bool→O R):O R :=
 UmG n x1 x2 0 ((x2).size:Int) 0 (fun y3 y4 y5 y6=>k0 y3 y4) (fun y7 y8=>bif y7 then (UdK n (IntKind.i64.wrap (0 - y8)) (fun y9 y10=>k0 y9 y10)) else (UdK n y8 (fun y11 y12=>k0 y11 y12)))
def Uc8 (n:Nat) (x1:ByteArray) (x2:Bool) (x3:ByteArray) (k0:Int→Bool→O R):O R :=
 bif (eqS x3 (⟨#[]⟩:ByteArray)) then (k0 0 false) else (bif (bif false then true else (decide (((x3).size:Int)>9))) then (k0 0 false) else (bif (inR 0 (x3).size) then (bif (Jc6 x3 0 == 48) then (bif (bif false then true else (bif true then (decide (((x1).size:Int)>1)) else false)) then (k0 0 false) else (UfY n x2 x3 (fun y4 y5=>k0 y4 y5))) else (UfY n x2 x3 (fun y6 y7=>k0 y6 y7))) else none))
def UiK (n:Nat) (x1:ByteArray) (x2:Bool) (k0:Int→Bool→O R):O R :=
 bif x2 then (bif (Je5 1 ((x1).size:Int) (x1).size) then (Uc8 n x1 x2 (ByteArray.extract x1 (1:Int).toNat (((x1).size:Int):Int).toNat) (fun y3 y4=>k0 y3 y4)) else none) else (Uc8 n x1 x2 x1 (fun y5 y6=>k0 y5 y6))
def p95 (n:Nat) (x1:ByteArray) (k0:Int→Bool→O R):O R :=
 bif (!eqS x1 (⟨#[]⟩:ByteArray)) then (bif (inR 0 (x1).size) then (UiK n x1 (bif true then (Jc6 x1 0 == 45) else false) (fun y2 y3=>k0 y2 y3)) else none) else (UiK n x1 false (fun y4 y5=>k0 y4 y5))
abbrev E95 (n:Nat):Code→Fr→Kc R→O R:=evC Tryz.prog (UxZ n) UbG n (64,[])
noncomputable def UuF:Code:=Jj4 (Jll Tryz.f95) [1,1]
abbrev Ust:Sl (List SV):=(cS (cB .n))
abbrev Uve (n:Nat) (K:Kc R):Ust.T (O R):=fun x1 x2=>UiK n x1 x2 (fun y1 y2=>xC UbG 2 K .ret [vI y1,vB y2])
noncomputable def UuG:Code:=Jj4 (Jll Tryz.f95) [1,1,1,1]
abbrev Usu:Sl (List SV):=(cS (cB (cS .n)))
abbrev Uvf (n:Nat) (K:Kc R):Usu.T (O R):=fun x1 x2 x3=>Uc8 n x1 x2 x3 (fun y1 y2=>xC UbG 5 K .ret [vI y1,vB y2])
noncomputable def UuH:Code:=Jj4 (Jll Tryz.f95) [1,1,1,1,1]
abbrev Usv:Sl (List SV):=(cB (cS .n))
abbrev Uvg (n:Nat) (K:Kc R):Usv.T (O R):=fun x1 x2=>UfY n x1 x2 (fun y1 y2=>xC UbG 7 K .ret [vI y1,vB y2])
noncomputable def Uov:Code:=Jj4 (Jll Tryz.f95) [1,1,1,1,1,1,1,1]
abbrev UkI:Sl (List SV):=(cI .n)
abbrev Uq7 (n:Nat) (K:Kc R):UkI.T (O R):=fun x1=>UdK n x1 (fun y1 y2=>xC UbG 17 K .ret [vI y1,vB y2])
noncomputable def UuI:Code:=Jj4 (Jll Tryz.f95) [1,1,1,1,1,1,0,1,0,0]
abbrev Ugy:Sl (List SV):=(cB (cS (cI (cI (cI .n)))))
abbrev Uq8 (n m:Nat) (K:Kc R):Ugy.T (O R):=fun x1 x2 x3 x4 x5=>Ubs n m x1 x2 x3 x4 x5 (fun y1 y2 y3 y4=>xL UbG 9 K .ret [vI y1,vB y2,vB y3,vI y4]) (fun y1 y2=>xL UbG 9 K (.exit 0) [dD,dD,vB y1,vI y2])
abbrev UAE (n:Nat) (K:Kc R) (l0:Ugy.T (O R)):Ugy.T (O R):=fun x1 x2 x3 x4 x5=>UdL n l0 x1 x2 x3 x4 x5 (fun y1 y2 y3 y4=>xL UbG 9 K .ret [vI y1,vB y2,vB y3,vI y4]) (fun y1 y2=>xL UbG 9 K (.exit 0) [dD,dD,vB y1,vI y2])
abbrev UzZ (n:Nat):Orc R:=oL UbG (E95 n) n 9 UuI Ugy (Uq8 n n) oN
abbrev UzV (n:Nat):Orc R:=oC UbG (E95 n) 17 Uov UkI (Uq7 n) (oC UbG (E95 n) 7 UuH Usv (Uvg n) (oC UbG (E95 n) 5 UuG Usu (Uvf n) (oC UbG (E95 n) 2 UuF Ust (Uve n) oN)))
abbrev K95 (R:Type) (n:Nat):=JcH (R:=R) Tryz.prog (UxZ n) UbG n (64,[]) (UzZ n) (UzV n)
theorem UDO (n:Nat):K95 R n (false,9,UuI):=JkF (lo:=UzZ n) (cu:=UzV n) (pO pN (by kernel_rfl)) Ugy (Uq8 n n) (JiE (F:=Uq8 n) Ugy (UAE n) (fun K _ _ _ _ _=>rfl) (fun _ _=>rfl) (fun L K _ _ _ _ _=>by show _=_; kernel_rfl) n) fun _ _=>rfl
theorem Uzs (n:Nat):K95 R n (true,17,Uov):=JkW (lo:=UzZ n) (cu:=UzV n) (pO pN (by kernel_rfl)) UkI (Uq7 n) (fun K _=>by show _=_; kernel_rfl) fun _ _=>rfl
theorem UDN (n:Nat):K95 R n (true,7,UuH):=JkW (lo:=UzZ n) (cu:=UzV n) (pO (pC (UDO n) (pC (Uzs n) pN)) (by kernel_rfl)) Usv (Uvg n) (fun K _ _=>by show _=_; kernel_rfl) fun _ _=>rfl
theorem UDM (n:Nat):K95 R n (true,5,UuG):=JkW (lo:=UzZ n) (cu:=UzV n) (pO (pC (UDN n) pN) (by kernel_rfl)) Usu (Uvf n) (fun K _ _ _=>by show _=_; kernel_rfl) fun _ _=>rfl
theorem UDL (n:Nat):K95 R n (true,2,UuF):=JkW (lo:=UzZ n) (cu:=UzV n) (pO (pC (UDM n) pN) (by kernel_rfl)) Ust (Uve n) (fun K _ _=>by show _=_; kernel_rfl) fun _ _=>rfl
theorem UNE (n:Nat):Je6 (K95 R n) (JaJ UbG (Jll Tryz.f95)):=pO (pC (UDL n) pN) (by kernel_rfl)
abbrev t95:Sl (List SV):=(cS .n)
abbrev f95 (n:Nat) (K:List SV→O R):t95.T (O R):=fun x1=>p95 n x1 (fun y1 y2=>K [vI y1,vB y2])
abbrev UFD (n:Nat):FS:=fT [false] t95 (f95 n)
theorem UJ8 (n:Nat):FSound Tryz.prog GI 95 (UFD n):=gd UbG n (Up6 n) Tryz.func95 (.cons (Up6 n) t95 (f95 n) (fun K _=>(Jkq (c:=Jll Tryz.f95) (by kernel_rfl) (UNE n) K).trans (by kernel_rfl)) .nil) (by kernel_rfl)
def Uwk:Ann:={ loops:=[],cuts:=[],frz:=[],rm:=[.id] }
abbrev UBa (n:Nat):Env:=eC 95 (UFD n) (eC 56 (UCe n) eN)
theorem Upx (n:Nat):EnvOK Tryz.prog GI (UBa n):=.cons (.cons (.nil) (UEC n)) (UJ8 n)
def p53 (n:Nat) (x1:ByteArray) (k0:Bool→O R):O R :=
 p95 n x1 (fun y2 y3=>bif y3 then (k0 true) else (p56 n x1 (fun y4 y5 y6 y7=>k0 y7)))
abbrev ULx (n:Nat):Orc R:=oN
abbrev UKS (n:Nat):Orc R:=oN
abbrev K53 (R:Type) (n:Nat):=JcH (R:=R) Tryz.prog (UBa n) Uwk n (19,[]) (ULx n) (UKS n)
theorem UM6 (n:Nat):Je6 (K53 R n) (JaJ Uwk (Jll Tryz.f53)):=pO pN (by kernel_rfl)
abbrev t53:Sl (List SV):=(cS .n)
abbrev f53 (n:Nat) (K:List SV→O R):t53.T (O R):=fun x1=>p53 n x1 (fun y1=>K [vB y1])
abbrev Uyd (n:Nat):FS:=fT [false] t53 (f53 n)
theorem Uz1 (n:Nat):FSound Tryz.prog GI 53 (Uyd n):=gd Uwk n (Upx n) Tryz.func53 (.cons (Upx n) t53 (f53 n) (fun K _=>(Jkq (c:=Jll Tryz.f53) (by kernel_rfl) (UM6 n) K).trans (by kernel_rfl)) .nil) (by kernel_rfl)
end
end Go.Proofs.YtmgfmlhdnadglaaGreatDoor
set_option linter.unusedVariables false
set_option linter.unusedSimpArgs false
namespace Go.Proofs.YtmgfmlhdnadglaaGreatDoor
open Go Th Go.Proofs
def val (b:Nat):List Nat→Nat
 | []=>0
 | d::r=>d + b * val b r
def toL (b:Nat) (n:Nat):List Nat :=
 if h:n=0∨b<2 then [] else n % b::toL b (n / b)
termination_by n
decreasing_by
 have:2≤b:=by omega
 exact Nat.div_lt_self (by omega) this
theorem Uai (b:Nat):toL b 0=[]:=by unfold toL; simp
theorem UbA {b n:Nat} (hb:2≤b) (h:n≠0):toL b n=n % b::toL b (n / b):=by
 conv=>lhs; unfold toL
 rw [dif_neg (by omega)]
theorem Uan {b:Nat} (hb:2≤b) (n:Nat):val b (toL b n)=n:=by
 induction n using Nat.strongRecOn with
 | _ n ih =>
  by_cases h:n=0
  · subst h; rw [Uai]; rfl
  · rw [UbA hb h,val,ih (n / b) (Nat.div_lt_self (by omega) hb)]
    exact Nat.mod_add_div n b
theorem UaK {b:Nat} (hb:2≤b) (n:Nat):∀ d∈toL b n,d<b:=by
 induction n using Nat.strongRecOn with
 | _ n ih =>
  by_cases h:n=0
  · subst h; rw [Uai]; intro d hd; cases hd
  · rw [UbA hb h]
    intro d hd
    rcases List.mem_cons.1 hd with rfl | hd
    · exact Nat.mod_lt _ (by omega)
    · exact ih (n / b) (Nat.div_lt_self (by omega) hb) d hd
theorem Ubg {b n:Nat} (hb:2≤b):toL b n=[]↔n=0:=by
 constructor
 · intro h
   have:=Uan hb n
   rw [h] at this
   exact this.symm
 · rintro rfl; exact Uai b
theorem Uck (b:Nat):∀ (x y:List Nat),val b (x++y)=val b x + b ^ x.length * val b y
 | [],y=>by simp [val]
 | d::x,y=>by
  simp only [List.cons_append,val,List.length_cons,Uck b x y,Nat.pow_succ]
  rw [Nat.mul_add,←Nat.mul_assoc,Nat.mul_comm (b ^ x.length) b]; omega
theorem Ua7 (b:Nat) (x:List Nat) (d:Nat):val b (x++[d])=val b x + b ^ x.length * d:=by
 rw [Uck]; simp [val]
theorem UiZ (b k:Nat):val b (List.replicate k 0)=0:=by
 induction k with
 | zero=>rfl
 | succ k ih=>simp [List.replicate_succ,val,ih]
theorem Uej {b:Nat} (hb:2≤b):∀ (l:List Nat),(∀ d∈l,d<b)→val b l<b ^ l.length
 | [],_=>by simp [val]
 | d::r,h=>by
  have h1:=Uej hb r fun x hx=>h x (List.mem_cons_of_mem _ hx)
  have h2:=h d (List.mem_cons_self ..)
  simp only [val,List.length_cons,Nat.pow_succ]
  have:b * val b r + b≤b ^ r.length * b:=by
   rw [Nat.mul_comm (b ^ r.length) b,←Nat.mul_succ]
   exact Nat.mul_le_mul_left b h1
  omega
theorem UkJ {b:Nat} (hb:2≤b):∀ (l:List Nat),(∀ d∈l,d<b)→l.getLast? ≠ some 0→toL b (val b l)=l
 | [],_,_=>Uai b
 | d::r,h,hl=>by
  have hd:=h d (List.mem_cons_self ..)
  have hr:r.getLast? ≠ some 0:=by
   intro e
   cases r with
   | nil=>cases e
   | cons x r=>rw [List.getLast?_cons_cons] at hl; exact hl e
  have ih:=UkJ hb r (fun x hx=>h x (List.mem_cons_of_mem _ hx)) hr
  have hne:val b (d::r)≠0:=by
   intro e
   simp only [val,Nat.add_eq_zero_iff,Nat.mul_eq_zero] at e
   have hv:val b r=0:=by omega
   rw [hv,Uai] at ih
   rw [←ih] at hl
   exact hl (by rw [e.1]; rfl)
  rw [UbA hb hne]
  simp only [val]
  rw [Nat.add_mul_mod_self_left,Nat.mod_eq_of_lt hd,Nat.add_mul_div_left _ _ (by omega),Nat.div_eq_of_lt hd,Nat.zero_add,ih]
theorem Udf (b:Nat) (l:List Nat):val b (l++[0])=val b l:=by rw [Ua7]; simp
theorem Uah {b:Nat} (hb:2≤b) (n k:Nat):(toL b n).length≤k↔n<b ^ k:=by
 induction k generalizing n with
 | zero =>
  rw [Nat.pow_zero]
  constructor
  · intro h
    have:toL b n=[]:=List.eq_nil_of_length_eq_zero (by omega)
    rw [Ubg hb] at this; omega
  · intro h
    have:n=0:=by omega
    subst this
    rw [Uai]; exact Nat.le_refl _
 | succ k ih =>
  by_cases h:n=0
  · subst h; rw [Uai]; simp; exact Nat.pow_pos (by omega)
  · rw [UbA hb h,List.length_cons,Nat.succ_le_succ_iff,ih,Nat.pow_succ,Nat.mul_comm,Nat.div_lt_iff_lt_mul (by omega),Nat.mul_comm]
theorem Ubh {b:Nat} (hb:2≤b) {x y:Nat} (h:(toL b x).length<(toL b y).length):x<y:=by
 have h1:=(Uah hb x (toL b x).length).1 (Nat.le_refl _)
 have h2:¬ y<b ^ (toL b x).length:=fun q=>by have:=(Uah hb y _).2 q; omega
 omega
theorem UmR {b:Nat} (hb:2≤b) (n:Nat):(toL b n).getLast? ≠ some 0:=by
 induction n using Nat.strongRecOn with
 | _ n ih =>
  by_cases h:n=0
  · subst h; rw [Uai]; simp
  · rw [UbA hb h]
    by_cases h2:n / b=0
    · rw [h2,Uai]
      have:n<b:=by
       rcases (Nat.div_eq_zero_iff).1 h2 with q | q <;> omega
      rw [Nat.mod_eq_of_lt this]
      simpa using h
    · have:=ih (n / b) (Nat.div_lt_self (by omega) hb)
      rw [UbA hb h2] at this ⊢
      rw [List.getLast?_cons_cons]
      exact this
theorem Uba {l:List Nat} {i:Nat} (h:i<l.length):l.take (i + 1)=l.take i++[l.getD i 0]:=by
 rw [List.take_succ_eq_append_getElem h,List.getD_eq_getElem?_getD,List.getElem?_eq_getElem h]; rfl
theorem UaV (b:Nat) {l:List Nat} {i:Nat} (h:i<l.length):val b (l.take (i + 1))=val b (l.take i) + b ^ i * l.getD i 0:=by
 rw [Uba h,Ua7,List.length_take,Nat.min_eq_left (by omega)]
theorem Uaj {b:Nat} (hb:2≤b) {l:List Nat} (hl:∀ d∈l,d<b) {i:Nat} (h:i≤l.length):val b (l.take i)<b ^ i:=by
 have:=Uej hb (l.take i) fun x hx=>hl x (List.mem_of_mem_take hx)
 rwa [List.length_take,Nat.min_eq_left h] at this
theorem Uab {b:Nat} (hb:2≤b) {l:List Nat} (hl:∀ d∈l,d<b) (i:Nat):l.getD i 0<b:=by
 rw [List.getD_eq_getElem?_getD]
 cases h:l[i]? with
 | none=>simp; omega
 | some x=>exact hl x (List.mem_of_getElem? h)
theorem Uao (b:Nat) (l:List Nat) (i:Nat) (h:i≤l.length):val b l=val b (l.take i) + b ^ i * val b (l.drop i):=by
 conv=>lhs; rw [←List.take_append_drop i l]
 rw [Uck,List.length_take,Nat.min_eq_left h]
theorem UeX {l:List Nat} {i:Nat} (d:Nat) (h:i<l.length):(l.set i d).take (i + 1)=l.take i++[d]:=by
 rw [Uba (by rw [List.length_set]; exact h),List.take_set_of_le (Nat.le_refl _),List.getD_eq_getElem?_getD,List.getElem?_set_self h]; rfl
theorem Ubf {b:Nat} {l:List Nat} (hl:∀ d∈l,d<b) {x:Nat} (hx:x<b) (i:Nat):∀ d∈l.set i x,d<b:=by
 intro d hd
 rcases List.mem_or_eq_of_mem_set hd with h | h
 · exact hl d h
 · rw [h]; exact hx
theorem Uee (b:Nat) {l:List Nat} {i:Nat} (d:Nat) (h:i<l.length):val b (l.set i d) + b ^ i * l.getD i 0=val b l + b ^ i * d:=by
 have h1:=Uao b (l.set i d) (i + 1) (by rw [List.length_set]; omega)
 have h2:=Uao b l (i + 1) (by omega)
 rw [UeX d h,List.drop_set_of_lt (by omega),Ua7,List.length_take,Nat.min_eq_left (by omega)] at h1
 rw [UaV b h] at h2
 omega
theorem Uf1 {b:Nat} (hb:2≤b) (n:Nat):∀ d∈List.replicate n 0,d<b:=by
 intro d hd
 rw [List.mem_replicate] at hd
 omega
theorem Uak (b:Nat) (l:List Nat) (i:Nat):val b (l.take (i + 1))=val b (l.take i) + b ^ i * l.getD i 0:=by
 by_cases h:i<l.length
 · exact UaV b h
 · rw [List.take_of_length_le (by omega),List.take_of_length_le (by omega),List.getD_eq_getElem?_getD,List.getElem?_eq_none (by omega)]; simp
theorem Ubm {l:List Nat} {i:Nat} (h:l.length≤i):l.getD i 0=0:=by rw [List.getD_eq_getElem?_getD,List.getElem?_eq_none h]; rfl
theorem Um3 (b i v c s:Nat) (hb:0<b):v + b ^ i * (s % b) + b ^ (i + 1) * (s / b)=v + b ^ i * s:=by
 rw [Nat.pow_succ,Nat.mul_assoc,Nat.add_assoc,←Nat.mul_add,Nat.mod_add_div]
theorem UiU {l:List Nat} {i:Nat} (h:l.length=i + 1) (d:Nat):l.set i d=l.take i++[d]:=by
 have:=UeX d (l:=l) (i:=i) (by omega)
 rw [List.take_of_length_le (by rw [List.length_set]; omega)] at this
 exact this
theorem hT2:2≤10:=by decide
def ch (d:Nat):UInt8:=UInt8.ofNat (48 + d)
theorem Uen {d:Nat} (h:d<10):(ch d).toNat=48 + d:=by
 unfold ch; rw [UInt8.toNat_ofNat']; omega
def DL (a:Nat):List Nat:=(toL 10 a).reverse
abbrev dec (a:Nat):List UInt8:=Lib.decDigits a
theorem UaZ {a:Nat} (h:a<10):dec a=[ch a]:=by unfold dec; rw [Lib.decDigits,dif_pos h]; rfl
theorem Ujf {a:Nat} (h:10≤a):dec a=dec (a / 10)++[ch (a % 10)]:=by
 unfold dec; rw [Lib.decDigits,dif_neg (by omega)]; rfl
theorem Ual:dec 0=[48]:=UaZ (by omega)
theorem UfD {x:Nat} (h0:x≠0) (hx:x<10):toL 10 x=[x]:=by
 rw [UbA hT2 h0,Nat.mod_eq_of_lt hx,Nat.div_eq_of_lt hx,Uai]
theorem Ucq (a:Nat) (h:a≠0):dec a=(DL a).map ch:=by
 induction a using Nat.strongRecOn with
 | _ a ih =>
  unfold DL
  by_cases h1:a<10
  · rw [UaZ h1,UfD h h1]; rfl
  · rw [Ujf (by omega),ih (a / 10) (by omega) (by omega),UbA hT2 h,List.reverse_cons,List.map_append]; rfl
theorem Uek (a:Nat):∀ d∈DL a,d<10:=fun d h=>UaK hT2 a d (List.mem_reverse.1 h)
theorem Ui4:DL 0=[]:=by unfold DL; rw [Uai]; rfl
theorem Uz6 {a:Nat}:DL a=[]↔a=0:=by unfold DL; rw [List.reverse_eq_nil_iff,Ubg hT2]
theorem Uz5 (a k:Nat):(DL a).length≤k↔a<10 ^ k:=by unfold DL; rw [List.length_reverse,Uah hT2]
def vb (l:List Nat):Nat:=val 10 l.reverse
theorem UmS:vb []=0:=rfl
theorem UkK (l:List Nat) (d:Nat):vb (l++[d])=10 * vb l + d:=by unfold vb; rw [List.reverse_append]; simp [val]; omega
theorem Udg (x y:List Nat):vb (x++y)=vb x * 10 ^ y.length + vb y:=by
 unfold vb; rw [List.reverse_append,Uck,List.length_reverse,Nat.mul_comm]; omega
theorem UcF (d:Nat) (l:List Nat):vb (d::l)=d * 10 ^ l.length + vb l:=by
 have:=Udg [d] l
 rw [show vb [d]=d from by simp [vb,val]] at this
 exact this
theorem UfE (a:Nat):vb (DL a)=a:=by unfold vb DL; rw [List.reverse_reverse,Uan hT2]
theorem UzK (l:List Nat) (h:∀ d∈l,d<10):vb l<10 ^ l.length:=by
 have:=Uej hT2 l.reverse fun d hd=>h d (List.mem_reverse.1 hd)
 rwa [List.length_reverse] at this
theorem Uz7 {l:List Nat} (h:∀ d∈l,d<10) (hl:l.head? ≠ some 0):DL (vb l)=l:=by
 unfold DL vb
 rw [UkJ hT2 l.reverse (fun d hd=>h d (List.mem_reverse.1 hd)) (by rw [List.getLast?_reverse]; exact hl),List.reverse_reverse]
theorem Uv4 (a:Nat):(DL a).head? ≠ some 0:=by
 unfold DL; rw [List.head?_reverse]; exact UmR hT2 a
def isD (c:UInt8):Bool:=decide (48≤c.toNat)&&decide (c.toNat≤57)
theorem Uax {c:UInt8}:isD c=true↔48≤c.toNat∧c.toNat≤57:=by simp [isD]
def dg (s:List UInt8):List Nat:=s.map fun c=>c.toNat - 48
theorem Uxo {s:List UInt8} (h:∀ c∈s,isD c=true):∀ d∈dg s,d<10:=by
 intro d hd
 simp only [dg,List.mem_map] at hd
 obtain ⟨c,hc,rfl⟩:=hd
 have:=Uax.1 (h c hc)
 omega
theorem UEW {s:List UInt8} (h:∀ c∈s,isD c=true):(dg s).map ch=s:=by
 unfold dg
 rw [List.map_map]
 conv=>rhs; rw [←List.map_id s]
 apply List.map_congr_left
 intro c hc
 have:=Uax.1 (h c hc)
 simp only [Function.comp,id]
 apply UInt8.toNat_inj.1
 rw [Uen (by omega)]; omega
theorem UFi {l:List Nat} (h:∀ d∈l,d<10):dg (l.map ch)=l:=by
 unfold dg
 rw [List.map_map]
 conv=>rhs; rw [←List.map_id l]
 apply List.map_congr_left
 intro d hd
 simp only [Function.comp,id]
 rw [Uen (h d hd)]; omega
theorem UCh {l:List Nat} (h:∀ d∈l,d<10):∀ c∈l.map ch,isD c=true:=by
 intro c hc
 rw [List.mem_map] at hc
 obtain ⟨d,hd,rfl⟩:=hc
 have:=h d hd
 rw [Uax,Uen this]; omega
def ofD (s:List UInt8):Nat:=vb (dg s)
theorem Un (s t:List UInt8):ofD (s++t)=ofD s * 10 ^ t.length + ofD t:=by
 unfold ofD dg; rw [List.map_append,Udg,List.length_map]
theorem Urq {s:List UInt8} (h:∀ c∈s,isD c=true):ofD s<10 ^ s.length:=by
 have:=UzK (dg s) (Uxo h)
 rwa [dg,List.length_map] at this
theorem UaY (a:Nat):∀ c∈dec a,isD c=true:=by
 by_cases h:a=0
 · subst h; rw [Ual]; intro c hc; simp at hc; subst hc; rfl
 · rw [Ucq a h]; exact UCh (Uek a)
theorem Uct (a:Nat):ofD (dec a)=a:=by
 by_cases h:a=0
 · subst h; rw [Ual]; rfl
 · rw [Ucq a h,ofD,UFi (Uek a),UfE]
theorem Ucp {a b:Nat} (h:dec a=dec b):a=b:=by rw [←Uct a,h,Uct]
theorem UoA (a:Nat):dec a≠[]:=by
 by_cases h:a=0
 · subst h; rw [Ual]; simp
 · rw [Ucq a h]; simp [Uz6,h]
theorem Ubk (a k:Nat) (hk:1≤k):(dec a).length≤k↔a<10 ^ k:=by
 by_cases h:a=0
 · subst h; rw [Ual]
   have:0<10 ^ k:=Nat.pow_pos (by omega)
   simp [hk,this]
 · rw [Ucq a h,List.length_map,Uz5]
theorem UoB {s:List UInt8} (h:∀ c∈s,isD c=true) (h0:s≠[]) (h1:s.head? ≠ some 48∨s.length=1):dec (ofD s)=s:=by
 by_cases hz:s=[48]
 · subst hz; rw [show ofD [48]=0 from rfl,Ual]
 · have hh:s.head? ≠ some 48:=by
    rcases h1 with h1 | h1
    · exact h1
    · intro e
      match s,h1,e with
      | [c],_,e=>simp at e; subst e; exact hz rfl
   have hd:(dg s).head? ≠ some 0:=by
    match s,h0 with
    | c::r,_ =>
     simp only [dg,List.map_cons,List.head?_cons,ne_eq,Option.some.injEq] at hh ⊢
     have:=Uax.1 (h c (List.mem_cons_self ..))
     intro e
     exact hh (by apply UInt8.toNat_inj.1; show c.toNat=48; omega)
   have hD:=Uz7 (Uxo h) hd
   have hne:ofD s≠0:=by
    intro e
    unfold ofD at e
    rw [e,Ui4] at hD
    simp [dg] at hD
    exact h0 (by first | exact hD | exact hD.symm)
   rw [Ucq _ hne]
   unfold ofD
   rw [hD,UEW h]
theorem Ulb (a:Nat):(dec a).head? ≠ some 48∨(dec a).length=1:=by
 by_cases h:a=0
 · subst h; rw [Ual]; right; rfl
 · left
   rw [Ucq a h]
   have:=Uv4 a
   have hl:=Uek a
   cases hD:DL a with
   | nil=>simp
   | cons d r =>
    rw [hD] at this hl
    simp only [List.map_cons,List.head?_cons,ne_eq,Option.some.injEq] at this ⊢
    intro e
    have h2:=congrArg UInt8.toNat e
    rw [Uen (hl d (List.mem_cons_self ..))] at h2
    have:(48:UInt8).toNat=48:=rfl
    omega
def pad:Nat→Nat→List UInt8
 | 0,_=>[]
 | k + 1,d=>pad k (d / 10)++[ch (d % 10)]
theorem Utp (k:Nat):pad k 0=List.replicate k 48:=by
 induction k with
 | zero=>rfl
 | succ k ih=>rw [pad,Nat.zero_div,ih,List.replicate_succ']; rfl
theorem UvX:∀ (k d:Nat),d<10 ^ (k + 1)→List.replicate (k + 1 - (dec d).length) 48++dec d=pad (k + 1) d
 | 0,d,h=>by
  have h':d<10:=by simpa using h
  rw [UaZ h',pad,pad,Nat.mod_eq_of_lt h']; rfl
 | k + 1,d,h=>by
  by_cases h1:d<10
  · rw [UaZ h1,pad,Nat.mod_eq_of_lt h1,Nat.div_eq_of_lt h1,Utp]; rfl
  · have ih:=UvX k (d / 10) (by rw [Nat.pow_succ] at h; omega)
    rw [Ujf (by omega),pad,←ih,List.length_append,List.length_singleton,←List.append_assoc]
    congr 3
    omega
theorem Ulc:∀ (k h d:Nat),h≠0→d<10 ^ k→dec (h * 10 ^ k + d)=dec h++pad k d
 | 0,h,d,h0,hd=>by
  have:d=0:=by simpa using hd
  subst this
  simp [pad]
 | k + 1,h,d,h0,hd=>by
  have hp:0<10 ^ k:=Nat.pow_pos (by omega)
  have e:h * 10 ^ (k + 1)=10 * (h * 10 ^ k):=by rw [Nat.pow_succ]; grind
  have hge:1 * 1≤h * 10 ^ k:=Nat.mul_le_mul (by omega) hp
  rw [Nat.pow_succ] at hd
  rw [Ujf (by omega),pad,←List.append_assoc,←Ulc k h (d / 10) h0 (by omega)]
  congr 3
  · omega
  · omega
theorem Uc9:∀ (s:List UInt8) (acc:Nat),(∀ c∈s,isD c=true)→(acc + 1) * 10 ^ s.length≤1000000000000000000→Lib.parseUint10 acc s=.ok (acc * 10 ^ s.length + ofD s)
 | [],acc,_,_=>by simp [Lib.parseUint10,ofD,dg,UmS]
 | c::r,acc,h,hb=>by
  have hc:=Uax.1 (h c (List.mem_cons_self ..))
  rw [List.length_cons,Nat.pow_succ] at hb
  have hp:0<10 ^ r.length:=Nat.pow_pos (by omega)
  have h1:(acc + 1) * 10≤(acc + 1) * (10 ^ r.length * 10):=Nat.mul_le_mul_left _ (by omega)
  have ih:=Uc9 r (acc * 10 + (c.toNat - 48)) (fun x hx=>h x (List.mem_cons_of_mem _ hx)) (by
   have:(acc * 10 + (c.toNat - 48) + 1) * 10 ^ r.length≤((acc + 1) * 10) * 10 ^ r.length:=Nat.mul_le_mul_right _ (by omega)
   have e:(acc + 1) * (10 ^ r.length * 10)=((acc + 1) * 10) * 10 ^ r.length:=by grind
   omega)
  rw [Lib.parseUint10,if_pos hc,if_neg (by omega),if_neg (by omega),ih]
  congr 1
  have:ofD (c::r)=(c.toNat - 48) * 10 ^ r.length + ofD r:=by
   unfold ofD dg; rw [List.map_cons,UcF,List.length_map]
  rw [this,List.length_cons,Nat.pow_succ]
  grind
theorem UsI (s:List UInt8) (h:∀ c∈s,isD c=true) (h0:s≠[]) (hl:s.length≤18):Lib.atoiAll s=.ok (ofD s:Int):=by
 match s,h0 with
 | c::r,_ =>
  have hc:=Uax.1 (h c (List.mem_cons_self ..))
  have hlt:=Urq h
  have hp:10 ^ (c::r).length≤10 ^ 18:=Nat.pow_le_pow_right (by omega) hl
  have hu:=Uc9 (c::r) 0 h (by rw [Nat.zero_add,Nat.one_mul]; exact hp)
  rw [Nat.zero_mul,Nat.zero_add] at hu
  have e1:¬ (c.toNat=43∨c.toNat=45):=by omega
  have e2:¬ c.toNat=45:=by omega
  unfold Lib.atoiAll
  simp only [if_neg e1,Lib.parseMag,List.cons_ne_nil,if_false,hu]
  rw [if_neg (by omega),if_neg (by omega),if_neg e2]
end Go.Proofs.YtmgfmlhdnadglaaGreatDoor
set_option linter.unusedVariables false
set_option maxRecDepth 100000
namespace Go.Proofs.YtmgfmlhdnadglaaGreatDoor
open Go Th Go.Proofs
noncomputable section
variable {R:Type}
def UbD:Ann:={ loops:=[(6,ids [0,1,5,6,20,21],ids [0,4,5,6])],cuts:=[(3,ids [0,1],ids [4]),(11,ids [0,1,5,6,7,20,21],ids [0,1,4,5,6,20,21])],frz:=[],rm:=[.id] }
abbrev UoH (n:Nat):Env:=eC 101 (UjK n) eN
theorem Ulm (n:Nat):EnvOK Tryz.prog GI (UoH n):=.cons (.nil) (Una n)
def Uey (n:Nat) (x1 x2 x3:LP) (x4 x5 x6 x7:Int) (k0:LP→LP→LP→Int→Int→Int→O R):O R :=
 bif decide (1000000000=0) then none else (bif (inR x5 ((x3).length)) then (Jj .u32 ((x3).getD ((x5:Int).toNat) (.v (.bool false))) fun e8=>bif decide (1000000000=0) then none else (let v9:=IntKind.u32.wrap (Int.tdiv x4 1000000000); k0 x1 x2 ((x3).set ((x5:Int).toNat) (.v (.int .u32 (Int.tmod x4 1000000000)))) v9 x6 x7)) else none)
def Uez (n:Nat) (l0:LP→LP→LP→Int→Int→Int→O R) (x1 x2 x3:LP) (x4 x5 x6:Int) (k0:LP→LP→Int→O R):O R :=
 bif (decide (x6<x5)) then (bif (inR x6 ((x1).length)) then (Jj .u32 ((x1).getD ((x6:Int).toNat) (.v (.bool false))) fun e7=>bif (decide (x6<((x2).length:Int))) then (bif (inR x6 ((x2).length)) then (Jj .u32 ((x2).getD ((x6:Int).toNat) (.v (.bool false))) fun e8=>let v9:=IntKind.u32.wrap ((IntKind.u32.wrap (x4 + e7)) + e8); Uey n x1 x2 x3 v9 x6 x5 x6 (fun y10 y11 y12 y13 y14 y15=>l0 y10 y11 y12 y13 y14 (IntKind.i64.wrap (y15 + 1)))) else none) else (Uey n x1 x2 x3 (IntKind.u32.wrap (x4 + e7)) x6 x5 x6 (fun y16 y17 y18 y19 y20 y21=>l0 y16 y17 y18 y19 y20 (IntKind.i64.wrap (y21 + 1))))) else none) else (k0 x1 x3 x4)
def UbW (n:Nat):Nat→LP→LP→LP→Int→Int→Int→(LP→LP→Int→O R)→O R
 | 0,_,_,_,_,_,_,_=>none
 | m + 1,x1,x2,x3,x4,x5,x6,k0=>Uez n (fun x1 x2 x3 x4 x5 x6=>UbW n m x1 x2 x3 x4 x5 x6 k0) x1 x2 x3 x4 x5 x6 k0
def Urw (n:Nat) (x1 x2 x3:LP) (x4 x5 x6:Int) (k0:LP→LP→Int→O R):O R:=UbW n n x1 x2 x3 x4 x5 x6 k0
def Ufg (n:Nat) (x1 x2:LP) (k0:LP→O R):O R :=
 let v3:=IntKind.i64.wrap (((x1).length:Int) + 1); bif (decide ((0:Int)≤v3)&&decide ((v3:Int)≤v3)&&Jbu (v3:Int).toNat 4) then (Urw n x1 x2 (List.replicate (v3:Int).toNat (.v (.int .u32 0):PV)) 0 ((x1).length:Int) 0 (fun y4 y5 y6=>bif (inR ((y4).length:Int) ((y5).length)) then (Jj .u32 ((y5).getD ((((y4).length:Int):Int).toNat) (.v (.bool false))) fun e7=>Uru n ((y5).set ((((y4).length:Int):Int).toNat) (.v (.int .u32 y6))) (fun y8=>k0 y8)) else none)) else none
def UEF (n:Nat) (x1 x2:LP) (k0:LP→O R):O R :=
 bif (decide (((x1).length:Int)<((x2).length:Int))) then (Ufg n x2 x1 (fun y3=>k0 y3)) else (Ufg n x1 x2 (fun y4=>k0 y4))
abbrev UEN (n:Nat):Code→Fr→Kc R→O R:=evC Tryz.prog (UoH n) UbD n (55,[])
noncomputable def UnI:Code:=Jj4 (Jll Tryz.f103) [1,1]
abbrev Uke:Sl (List SV):=(cH (cH .n))
abbrev Uqb (n:Nat) (K:Kc R):Uke.T (O R):=fun x1 x2=>Ufg n x1 x2 (fun y1=>xC UbD 3 K .ret [vH y1])
noncomputable def UkN:Code:=Jj4 (Jll Tryz.f103) [1,1,1,1,0,1,0,0,1,1,0,0,1,1,1]
abbrev UhY:Sl (List SV):=(cH (cH (cO 143 (.c (sP (Jlv .u32)) (cI (cI (cI .n)))))))
abbrev UlX (n:Nat) (K:Kc R):UhY.T (O R):=fun x1 x2 x3 x4 x5 x6 x7=>Uey n x1 x2 x3 x4 x5 x6 x7 (fun y1 y2 y3 y4 y5 y6=>xC UbD 11 K .normal [vH y1,vH y2,dD,.own 143 y3,.p (.v (.int .u32 y4)),vI y5,vI y6])
noncomputable def UnJ:Code:=Jj4 (Jll Tryz.f103) [1,1,1,1,0,1,0,0]
abbrev UdQ:Sl (List SV):=(cH (cH (cO 143 (.c (sP (Jlv .u32)) (cI (cI .n))))))
abbrev Ujm (n m:Nat) (K:Kc R):UdQ.T (O R):=fun x1 x2 x3 x4 x5 x6=>UbW n m x1 x2 x3 x4 x5 x6 (fun y1 y2 y3=>xL UbD 6 K (.exit 0) [vH y1,dD,.own 143 y2,.p (.v (.int .u32 y3))])
abbrev UwN (n:Nat) (K:Kc R) (l0:UdQ.T (O R)):UdQ.T (O R):=fun x1 x2 x3 x4 x5 x6=>Uez n l0 x1 x2 x3 x4 x5 x6 (fun y1 y2 y3=>xL UbD 6 K (.exit 0) [vH y1,dD,.own 143 y2,.p (.v (.int .u32 y3))])
abbrev Uta (n:Nat):Orc R:=oL UbD (UEN n) n 6 UnJ UdQ (Ujm n n) oN
abbrev UsU (n:Nat):Orc R:=oC UbD (UEN n) 11 UkN UhY (UlX n) (oC UbD (UEN n) 3 UnI Uke (Uqb n) oN)
abbrev UEd (R:Type) (n:Nat):=JcH (R:=R) Tryz.prog (UoH n) UbD n (55,[]) (Uta n) (UsU n)
theorem Utq (n:Nat):UEd R n (true,11,UkN):=JkW (lo:=Uta n) (cu:=UsU n) (pO pN (by kernel_rfl)) UhY (UlX n) (fun K _ _ _ _ _ _ _=>by show _=_; kernel_rfl) fun _ _=>rfl
theorem UyF (n:Nat):UEd R n (false,6,UnJ):=JkF (lo:=Uta n) (cu:=UsU n) (pO (pC (Utq n) pN) (by kernel_rfl)) UdQ (Ujm n n) (JiE (F:=Ujm n) UdQ (UwN n) (fun K _ _ _ _ _ _=>rfl) (fun _ _=>rfl) (fun L K _ _ _ _ _ _=>by show _=_; kernel_rfl) n) fun _ _=>rfl
theorem UyE (n:Nat):UEd R n (true,3,UnI):=JkW (lo:=Uta n) (cu:=UsU n) (pO (pC (UyF n) pN) (by kernel_rfl)) Uke (Uqb n) (fun K _ _=>by show _=_; kernel_rfl) fun _ _=>rfl
theorem UGU (n:Nat):Je6 (UEd R n) (JaJ UbD (Jll Tryz.f103)):=pO (pC (UyE n) pN) (by kernel_rfl)
abbrev UHB:Sl (List SV):=(cH (cH .n))
abbrev f103 (n:Nat) (K:List SV→O R):UHB.T (O R):=fun x1 x2=>UEF n x1 x2 (fun y1=>K [vH y1])
abbrev UBJ (n:Nat):FS:=fT [false,false] UHB (f103 n)
theorem UF6 (n:Nat):FSound Tryz.prog GI 103 (UBJ n):=gd UbD n (Ulm n) Tryz.func103 (.cons (Ulm n) UHB (f103 n) (fun K _ _=>(Jkq (c:=Jll Tryz.f103) (by kernel_rfl) (UGU n) K).trans (by kernel_rfl)) .nil) (by kernel_rfl)
def UbE:Ann:={ loops:=[(4,ids [0,1,5,6,13,14],ids [4,5])],cuts:=[(9,ids [0,1,5,7,8,13,14],ids [0,1,4,5,6,13,14]),(13,ids [0,1,5,6,7,8,13,14],ids [0,1,4,5,6,13,14])],frz:=[],rm:=[.id] }
abbrev UoI (n:Nat):Env:=eC 101 (UjK n) eN
theorem Uln (n:Nat):EnvOK Tryz.prog GI (UoI n):=.cons (.nil) (Una n)
def UcX (n:Nat) (x1 x2 x3:LP) (x4 x5 x6 x7 x8:Int) (k0:LP→LP→LP→Int→Int→Int→O R):O R :=
 bif (inR x5 ((x3).length)) then (Jj .u32 ((x3).getD ((x5:Int).toNat) (.v (.bool false))) fun e9=>k0 x1 x2 ((x3).set ((x5:Int).toNat) (.v (.int .u32 (IntKind.u32.wrap (x6))))) x4 x7 x8) else none
def Ufh (n:Nat) (x1 x2 x3:LP) (x4 x5 x6 x7:Int) (k0:LP→LP→LP→Int→Int→Int→O R):O R :=
 bif (decide (x5<0)) then (UcX n x1 x2 x3 1 x4 (IntKind.i64.wrap (x5 + 1000000000)) x6 x7 (fun y8 y9 y10 y11 y12 y13=>k0 y8 y9 y10 y11 y12 y13)) else (UcX n x1 x2 x3 0 x4 x5 x6 x7 (fun y14 y15 y16 y17 y18 y19=>k0 y14 y15 y16 y17 y18 y19))
def UcY (n:Nat) (l0:LP→LP→LP→Int→Int→Int→O R) (x1 x2 x3:LP) (x4 x5 x6:Int) (k0:LP→O R):O R :=
 bif (decide (x6<x5)) then (bif (inR x6 ((x1).length)) then (Jj .u32 ((x1).getD ((x6:Int).toNat) (.v (.bool false))) fun e7=>let v8:=IntKind.i64.wrap ((IntKind.i64.wrap (e7)) - x4); bif (decide (x6<((x2).length:Int))) then (bif (inR x6 ((x2).length)) then (Jj .u32 ((x2).getD ((x6:Int).toNat) (.v (.bool false))) fun e9=>let v10:=IntKind.i64.wrap (v8 - (IntKind.i64.wrap (e9))); Ufh n x1 x2 x3 x6 v10 x5 x6 (fun y11 y12 y13 y14 y15 y16=>l0 y11 y12 y13 y14 y15 (IntKind.i64.wrap (y16 + 1)))) else none) else (Ufh n x1 x2 x3 x6 v8 x5 x6 (fun y17 y18 y19 y20 y21 y22=>l0 y17 y18 y19 y20 y21 (IntKind.i64.wrap (y22 + 1))))) else none) else (k0 x3)
def Ubn (n:Nat):Nat→LP→LP→LP→Int→Int→Int→(LP→O R)→O R
 | 0,_,_,_,_,_,_,_=>none
 | m + 1,x1,x2,x3,x4,x5,x6,k0=>UcY n (fun x1 x2 x3 x4 x5 x6=>Ubn n m x1 x2 x3 x4 x5 x6 k0) x1 x2 x3 x4 x5 x6 k0
def Urx (n:Nat) (x1 x2 x3:LP) (x4 x5 x6:Int) (k0:LP→O R):O R:=Ubn n n x1 x2 x3 x4 x5 x6 k0
def UCG (n:Nat) (x1 x2:LP) (k0:LP→O R):O R :=
 bif (decide ((0:Int)≤((x1).length:Int))&&decide ((((x1).length:Int):Int)≤((x1).length:Int))&&Jbu (((x1).length:Int):Int).toNat 4) then (Urx n x1 x2 (List.replicate (((x1).length:Int):Int).toNat (.v (.int .u32 0):PV)) 0 ((x1).length:Int) 0 (fun y3=>Uru n y3 (fun y4=>k0 y4))) else none
abbrev UEO (n:Nat):Code→Fr→Kc R→O R:=evC Tryz.prog (UoI n) UbE n (47,[])
noncomputable def UnK:Code:=Jj4 (Jll Tryz.f104) [1,1,1,0,1,0,0,1,1,0,0,1,1,1]
abbrev Ukf:Sl (List SV):=(cH (cH (cO 143 (cI (cI (cI (cI .n)))))))
abbrev Uqc (n:Nat) (K:Kc R):Ukf.T (O R):=fun x1 x2 x3 x4 x5 x6 x7=>Ufh n x1 x2 x3 x4 x5 x6 x7 (fun y1 y2 y3 y4 y5 y6=>xC UbE 9 K .normal [vH y1,vH y2,dD,.own 143 y3,vI y4,vI y5,vI y6])
noncomputable def UkO:Code:=Jj4 (Jll Tryz.f104) [1,1,1,0,1,0,0,1,1,0,0,1,1,1,1,1]
abbrev UhZ:Sl (List SV):=(cH (cH (cO 143 (cI (cI (cI (cI (cI .n))))))))
abbrev UlY (n:Nat) (K:Kc R):UhZ.T (O R):=fun x1 x2 x3 x4 x5 x6 x7 x8=>UcX n x1 x2 x3 x4 x5 x6 x7 x8 (fun y1 y2 y3 y4 y5 y6=>xC UbE 13 K .normal [vH y1,vH y2,dD,.own 143 y3,vI y4,vI y5,vI y6])
noncomputable def UnL:Code:=Jj4 (Jll Tryz.f104) [1,1,1,0,1,0,0]
abbrev UdR:Sl (List SV):=(cH (cH (cO 143 (cI (cI (cI .n))))))
abbrev Ujn (n m:Nat) (K:Kc R):UdR.T (O R):=fun x1 x2 x3 x4 x5 x6=>Ubn n m x1 x2 x3 x4 x5 x6 (fun y1=>xL UbE 4 K (.exit 0) [dD,.own 143 y1])
abbrev UwO (n:Nat) (K:Kc R) (l0:UdR.T (O R)):UdR.T (O R):=fun x1 x2 x3 x4 x5 x6=>UcY n l0 x1 x2 x3 x4 x5 x6 (fun y1=>xL UbE 4 K (.exit 0) [dD,.own 143 y1])
abbrev Utb (n:Nat):Orc R:=oL UbE (UEO n) n 4 UnL UdR (Ujn n n) oN
abbrev UsV (n:Nat):Orc R:=oC UbE (UEO n) 13 UkO UhZ (UlY n) (oC UbE (UEO n) 9 UnK Ukf (Uqc n) oN)
abbrev UEe (R:Type) (n:Nat):=JcH (R:=R) Tryz.prog (UoI n) UbE n (47,[]) (Utb n) (UsV n)
theorem Utr (n:Nat):UEe R n (true,13,UkO):=JkW (lo:=Utb n) (cu:=UsV n) (pO pN (by kernel_rfl)) UhZ (UlY n) (fun K _ _ _ _ _ _ _ _=>by show _=_; kernel_rfl) fun _ _=>rfl
theorem UyG (n:Nat):UEe R n (true,9,UnK):=JkW (lo:=Utb n) (cu:=UsV n) (pO (pC (Utr n) pN) (by kernel_rfl)) Ukf (Uqc n) (fun K _ _ _ _ _ _ _=>by show _=_; kernel_rfl) fun _ _=>rfl
theorem UyH (n:Nat):UEe R n (false,4,UnL):=JkF (lo:=Utb n) (cu:=UsV n) (pO (pC (UyG n) pN) (by kernel_rfl)) UdR (Ujn n n) (JiE (F:=Ujn n) UdR (UwO n) (fun K _ _ _ _ _ _=>rfl) (fun _ _=>rfl) (fun L K _ _ _ _ _ _=>by show _=_; kernel_rfl) n) fun _ _=>rfl
theorem UGV (n:Nat):Je6 (UEe R n) (JaJ UbE (Jll Tryz.f104)):=pO (pC (UyH n) pN) (by kernel_rfl)
abbrev UHC:Sl (List SV):=(cH (cH .n))
abbrev f104 (n:Nat) (K:List SV→O R):UHC.T (O R):=fun x1 x2=>UCG n x1 x2 (fun y1=>K [vH y1])
abbrev UBK (n:Nat):FS:=fT [false,false] UHC (f104 n)
theorem UF7 (n:Nat):FSound Tryz.prog GI 104 (UBK n):=gd UbE n (Uln n) Tryz.func104 (.cons (Uln n) UHC (f104 n) (fun K _ _=>(Jkq (c:=Jll Tryz.f104) (by kernel_rfl) (UGV n) K).trans (by kernel_rfl)) .nil) (by kernel_rfl)
end
end Go.Proofs.YtmgfmlhdnadglaaGreatDoor
set_option linter.unusedVariables false
set_option linter.unusedSimpArgs false
namespace Go.Proofs.YtmgfmlhdnadglaaGreatDoor
open Go Th Go.Proofs
variable {R:Type}
theorem hB2:2≤1000000000:=by decide
def NN (a:Nat):List PV:=nl .u32 (toL 1000000000 a)
theorem UiY (n:Nat) (k0:List PV→Option R):∀ (m:Nat) (l:List Nat),(∀ d∈l,d<1000000000)→l.length<m→l.length<2 ^ 40→UcW n m (nl .u32 l) k0=k0 (NN (val 1000000000 l))
 | m + 1,l,hl,hm,hb=>by
  simp only [UcW,Uh]
  rcases List.eq_nil_or_concat l with rfl | ⟨r,d,rfl⟩
  · simp (disch:=(first | omega | (simp only [JlE]; omega))) only [↓JlH,JlF,JlG]
    unfold NN
    rw [show val 1000000000 []=0 from rfl,Uai]
  · rw [List.concat_eq_append] at *
    have hlen:(r++[d]).length=r.length + 1:=by simp
    have hg:(r++[d]).getD r.length 0=d:=by rw [List.getD_eq_getElem?_getD,List.getElem?_append_right (Nat.le_refl _)]; simp
    have ht:(r++[d]).take r.length=r:=List.take_left
    have e1:((r.length + (0 + 1):Nat):Int) - 1=(r.length:Int):=by omega
    rw [hlen] at hm hb
    by_cases hd:d=0
    · subst hd
      have ih:=UiY n k0 m r (fun x hx=>hl x (by simp [hx])) (by omega) (by omega)
      simp (disch:=(first | omega | (simp only [JlE]; omega))) only [↓JlH,JlF,JlG,e1,hg,Jk0,ht,ih]
      rw [Udf]
      rfl
    · have hne:(d == 0)=false:=by simpa using hd
      simp (disch:=(first | omega | (simp only [JlE]; omega))) only [↓JlH,JlF,JlG,e1,hg,Jk0,hne]
      congr 1
      unfold NN
      rw [UkJ hB2 _ hl (by rw [List.getLast?_append]; simpa using hd)]
theorem UbS (n:Nat) (l:List Nat) (hl:∀ d∈l,d<1000000000) (hn:l.length<n) (hb:l.length<2 ^ 40) (k0:List PV→Option R):Uru n (nl .u32 l) k0=k0 (NN (val 1000000000 l)):=by
 unfold Uru Urv
 exact UiY n _ n l hl hn hb
def UfF (a b:Nat):Int:=if a<b then -1 else if b<a then 1 else 0
theorem Ul (n:Nat) (la lb:List Nat) (ha:∀ d∈la,d<1000000000) (hb:∀ d∈lb,d<1000000000) (hlen:la.length=lb.length) (hl:la.length<2 ^ 40) (k0:Int→Option R) (k1:Option R) :
 ∀ (i m:Nat),i≤la.length→i<m→UdA n m (nl .u32 la) (nl .u32 lb) ((i:Int) - 1) k0 k1 =
  if val 1000000000 (la.take i)<val 1000000000 (lb.take i) then k0 (-1) else if val 1000000000 (lb.take i)<val 1000000000 (la.take i) then k0 1 else k1
 | 0,m + 1,_,_=>by
  simp only [UdA,UhA]
  simp (disch:=(first | omega | (simp only [JlE]; omega))) only [↓JlH,JlF,JlG]
  rfl
 | i + 1,m + 1,h,hm=>by
  have ih:=Ul n la lb ha hb hlen hl k0 k1 i m (by omega) (by omega)
  have e1:((i + 1:Nat):Int) - 1=(i:Int):=by omega
  have va:=Uaj hB2 ha (i:=i) (by omega)
  have vb:=Uaj hB2 hb (i:=i) (by omega)
  rw [UaV 1000000000 (by omega:i<la.length),UaV 1000000000 (by omega:i<lb.length)]
  simp only [UdA,UhA]
  simp (disch:=(first | omega | (simp only [JlE]; omega))) only [↓JlH,JlF,JlG,e1,JjY]
  have hd:=Uab hB2 ha i
  have hd2:=Uab hB2 hb i
  generalize la.getD i 0=x at *
  generalize lb.getD i 0=y at *
  by_cases he:x=y
  · subst he
    rw [bne_self_eq_false,cond_false,ih]
    simp only [Nat.add_lt_add_iff_right]
  · rw [bne_iff_ne.2 he,cond_true]
    by_cases hlt:x<y
    · have:1000000000 ^ i * x + 1000000000 ^ i≤1000000000 ^ i * y:=by rw [←Nat.mul_succ]; exact Nat.mul_le_mul_left _ hlt
      rw [Jkf (by omega),if_pos (by omega)]
    · have hgt:y<x:=by omega
      have:1000000000 ^ i * y + 1000000000 ^ i≤1000000000 ^ i * x:=by rw [←Nat.mul_succ]; exact Nat.mul_le_mul_left _ hgt
      rw [c_neg (by omega),if_neg (by omega),if_pos (by omega)]
theorem UuK (n a b:Nat) (hla:(toL 1000000000 a).length<2 ^ 40) (hlb:(toL 1000000000 b).length<2 ^ 40) (hn:(toL 1000000000 a).length<n) (k0:Int→Option R):p57 n (NN a) (NN b) k0=k0 (UfF a b):=by
 unfold p57 NN UfF
 by_cases he:(toL 1000000000 a).length=(toL 1000000000 b).length
 · have:((toL 1000000000 a).length != (toL 1000000000 b).length)=false:=by simp [he]
   have hlp:=Ul n _ _ (UaK hB2 a) (UaK hB2 b) he hla (fun y4=>k0 y4) (k0 0) (toL 1000000000 a).length n (Nat.le_refl _) hn
   rw [List.take_length,show (toL 1000000000 b).take (toL 1000000000 a).length=toL 1000000000 b from by rw [he,List.take_length],Uan hB2,Uan hB2] at hlp
   simp only [Jjd]
   rw [JjY,this,cond_false,w64 (by omega) (by omega)]
   unfold UvM
   rw [hlp]
   split
   · rfl
   · split <;> rfl
 · have:((toL 1000000000 a).length != (toL 1000000000 b).length)=true:=by simpa using he
   by_cases hlt:(toL 1000000000 a).length<(toL 1000000000 b).length
   · have h2:=Ubh hB2 hlt
     simp (disch:=(first | omega | (simp only [JlE]; omega))) only [↓JlH,JlF,JlG,JjY,this]
   · have h2:=Ubh hB2 (x:=b) (y:=a) (by omega)
     simp (disch:=(first | omega | (simp only [JlE]; omega))) only [↓JlH,JlF,JlG,JjY,this]
theorem UiL (n:Nat) (la lb:List Nat) (ha:∀ d∈la,d<1000000000) (hb:∀ d∈lb,d<1000000000) (hab:lb.length≤la.length) (hl:la.length<2 ^ 40) :
 ∀ (d m i:Nat) (o:List Nat) (c:Nat),d + i=la.length→d<m→o.length=la.length + 1→(∀ x∈o,x<1000000000)→c≤1→val 1000000000 (o.take i) + 1000000000 ^ i * c=val 1000000000 (la.take i) + val 1000000000 (lb.take i) →
  ∃ (o':List Nat) (c':Nat),(∀ k0:List PV→List PV→Int→Option R,UbW n m (nl .u32 la) (nl .u32 lb) (nl .u32 o) c la.length i k0=k0 (nl .u32 la) (nl .u32 o') c')∧o'.length=la.length + 1∧(∀ x∈o',x<1000000000)∧c'≤1 ∧
   val 1000000000 (o'.take la.length) + 1000000000 ^ la.length * c'=val 1000000000 la + val 1000000000 lb
 | 0,m + 1,i,o,c,hd,hm,ho,hlt,hc,hv=>by
  have hi:i=la.length:=by omega
  subst hi
  refine ⟨o,c,fun k0=>?_,ho,hlt,hc,?_⟩
  · simp only [UbW,Uez]
    simp (disch:=(first | omega | (simp only [JlE]; omega))) only [↓JlH,JlF,JlG]
  · rw [hv,List.take_length,List.take_of_length_le hab]
 | d + 1,m + 1,i,o,c,hd,hm,ho,hlt,hc,hv=>by
  have hx:=Uab hB2 ha i
  have hy:=Uab hB2 hb i
  have hs2:c + la.getD i 0 + lb.getD i 0<2 * 1000000000:=by omega
  have step:=UiL n la lb ha hb hab hl d m (i + 1) (o.set i ((c + la.getD i 0 + lb.getD i 0) % 1000000000)) ((c + la.getD i 0 + lb.getD i 0) / 1000000000) (by omega) (by omega) (by rw [List.length_set]; exact ho)
   (Ubf hlt (Nat.mod_lt _ (by decide)) i) (by have:=Nat.div_lt_of_lt_mul (show c + la.getD i 0 + lb.getD i 0<1000000000 * 2 by omega); omega)
   (by rw [UeX _ (by omega),Ua7,List.length_take,Nat.min_eq_left (by omega),Um3 1000000000 i _ c _ (by decide),Uak 1000000000 la,Uak 1000000000 lb,Nat.mul_add,Nat.mul_add]; omega)
  obtain ⟨o',c',h1,h2⟩:=step
  refine ⟨o',c',fun k0=>?_,h2⟩
  rw [←h1 k0]
  have e2:((i:Int) + 1)=((i + 1:Nat):Int):=by omega
  simp only [UbW,Uez,Uey]
  by_cases hi:i<lb.length
  · have e3:((c:Int) + ((la.getD i 0:Nat):Int) + ((lb.getD i 0:Nat):Int))=((c + la.getD i 0 + lb.getD i 0:Nat):Int):=by omega
    simp (disch:=(first | omega | (simp only [JlE]; omega))) only [↓JlH,JlF,JlG,e3,e2,JlB,JlC]
  · have h0:=Ubm (l:=lb) (i:=i) (by omega)
    rw [h0] at *
    have e3:((c:Int) + ((la.getD i 0:Nat):Int))=((c + la.getD i 0 + 0:Nat):Int):=by omega
    simp (disch:=(first | omega | (simp only [JlE]; omega))) only [↓JlH,JlF,JlG,e3,e2,JlB,JlC]
theorem UyB (n a b:Nat) (hla:(toL 1000000000 a).length<2 ^ 30) (hlb:(toL 1000000000 b).length<2 ^ 30) (hna:(toL 1000000000 a).length + 1<n) (hnb:(toL 1000000000 b).length + 1<n) (k0:List PV→Option R):UEF n (NN a) (NN b) k0=k0 (NN (a + b)):=by
 have key:∀ x y:Nat,(toL 1000000000 x).length<2 ^ 30→(toL 1000000000 y).length≤(toL 1000000000 x).length→(toL 1000000000 x).length + 1<n→Ufg n (NN x) (NN y) k0=k0 (NN (x + y)):=by
  intro x y hx hyx hn
  obtain ⟨o',c',h1,h2,h3,h4,h5⟩:=UiL (R:=R) n (toL 1000000000 x) (toL 1000000000 y) (UaK hB2 x) (UaK hB2 y) hyx (by omega)
   (toL 1000000000 x).length n 0 (List.replicate ((toL 1000000000 x).length + 1) 0) 0 (by omega) (by omega) (by rw [List.length_replicate]) (Uf1 hB2 _) (by omega) (by simp [val])
  rw [Uan hB2,Uan hB2] at h5
  have ht:=UbS n (o'.set (toL 1000000000 x).length c') (Ubf h3 (by omega) _) (by rw [List.length_set]; omega) (by rw [List.length_set]; omega) k0
  rw [UiU h2,Ua7,List.length_take,Nat.min_eq_left (by omega),h5] at ht
  have e1:((toL 1000000000 x).length:Int) + 1=(((toL 1000000000 x).length + 1:Nat):Int):=by omega
  unfold Ufg NN Urw
  rw [show ((0:Nat):Int)=0 from rfl] at h1
  simp (disch:=(first | omega | (simp only [JlE]; omega))) only [↓JlH,JlF,JlG,e1,h1,UiU h2]
  exact ht
 unfold UEF
 have l1:(NN a).length=(toL 1000000000 a).length:=Jjd _ _
 have l2:(NN b).length=(toL 1000000000 b).length:=Jjd _ _
 rw [l1,l2]
 by_cases h:(toL 1000000000 a).length<(toL 1000000000 b).length
 · rw [Jkf (by omega),Nat.add_comm]
   exact key b a hlb (by omega) hnb
 · rw [c_neg (by omega)]
   exact key a b hla (by omega) hna
theorem UfT (n:Nat) (la lb:List Nat) (ha:∀ d∈la,d<1000000000) (hb:∀ d∈lb,d<1000000000) (hab:lb.length≤la.length) (hl:la.length<2 ^ 40) :
 ∀ (d m i:Nat) (o:List Nat) (c:Nat),d + i=la.length→d<m→o.length=la.length→(∀ x∈o,x<1000000000)→c≤1→val 1000000000 (la.take i) + 1000000000 ^ i * c=val 1000000000 (o.take i) + val 1000000000 (lb.take i) →
  ∃ (o':List Nat) (c':Nat),(∀ k0:List PV→Option R,Ubn n m (nl .u32 la) (nl .u32 lb) (nl .u32 o) c la.length i k0=k0 (nl .u32 o'))∧o'.length=la.length∧(∀ x∈o',x<1000000000)∧c'≤1 ∧
   val 1000000000 la + 1000000000 ^ la.length * c'=val 1000000000 o' + val 1000000000 lb
 | 0,m + 1,i,o,c,hd,hm,ho,hlt,hc,hv=>by
  have hi:i=la.length:=by omega
  subst hi
  refine ⟨o,c,fun k0=>?_,ho,hlt,hc,?_⟩
  · simp only [Ubn,UcY]
    simp (disch:=(first | omega | (simp only [JlE]; omega))) only [↓JlH,JlF,JlG]
  · rw [List.take_length,List.take_of_length_le (by omega),List.take_of_length_le hab] at hv
    exact hv
 | d + 1,m + 1,i,o,c,hd,hm,ho,hlt,hc,hv=>by
  have hx:=Uab hB2 ha i
  have hy:=Uab hB2 hb i
  have step:∀ (dg c':Nat),dg<1000000000→c'≤1→la.getD i 0 + 1000000000 * c'=dg + c + lb.getD i 0→_:=fun dg c' h1 h2 h3 =>
   UfT n la lb ha hb hab hl d m (i + 1) (o.set i dg) c' (by omega) (by omega) (by rw [List.length_set]; exact ho) (Ubf hlt h1 i) h2
   (by
     rw [UeX _ (by omega),Ua7,List.length_take,Nat.min_eq_left (by omega),Uak 1000000000 la,Uak 1000000000 lb,Nat.pow_succ,Nat.mul_assoc]
     have:1000000000 ^ i * (la.getD i 0 + 1000000000 * c')=1000000000 ^ i * (dg + c + lb.getD i 0):=by rw [h3]
     rw [Nat.mul_add,Nat.mul_add,Nat.mul_add] at this
     omega)
  have e2:((i:Int) + 1)=((i + 1:Nat):Int):=by omega
  by_cases hneg:la.getD i 0<c + lb.getD i 0
  · obtain ⟨o',c',h1,h2⟩:=step (la.getD i 0 + 1000000000 - c - lb.getD i 0) 1 (by omega) (by omega) (by omega)
    refine ⟨o',c',fun k0=>?_,h2⟩
    rw [←h1 k0]
    simp only [Ubn,UcY,Ufh,UcX]
    by_cases hi:i<lb.length
    · have e3:((la.getD i 0:Nat):Int) - (c:Int) - ((lb.getD i 0:Nat):Int) + 1000000000=((la.getD i 0 + 1000000000 - c - lb.getD i 0:Nat):Int):=by omega
      simp (disch:=(first | omega | (simp only [JlE]; omega))) only [↓JlH,JlF,JlG,e3,e2]
      rfl
    · have h0:=Ubm (l:=lb) (i:=i) (by omega)
      have e3:((la.getD i 0:Nat):Int) - (c:Int) + 1000000000=((la.getD i 0 + 1000000000 - c - lb.getD i 0:Nat):Int):=by omega
      simp (disch:=(first | omega | (simp only [JlE]; omega))) only [↓JlH,JlF,JlG,e3,e2]
      rfl
  · obtain ⟨o',c',h1,h2⟩:=step (la.getD i 0 - c - lb.getD i 0) 0 (by omega) (by omega) (by omega)
    refine ⟨o',c',fun k0=>?_,h2⟩
    rw [←h1 k0]
    simp only [Ubn,UcY,Ufh,UcX]
    by_cases hi:i<lb.length
    · have e3:((la.getD i 0:Nat):Int) - (c:Int) - ((lb.getD i 0:Nat):Int)=((la.getD i 0 - c - lb.getD i 0:Nat):Int):=by omega
      simp (disch:=(first | omega | (simp only [JlE]; omega))) only [↓JlH,JlF,JlG,e3,e2]
      rfl
    · have h0:=Ubm (l:=lb) (i:=i) (by omega)
      have e3:((la.getD i 0:Nat):Int) - (c:Int)=((la.getD i 0 - c - lb.getD i 0:Nat):Int):=by omega
      simp (disch:=(first | omega | (simp only [JlE]; omega))) only [↓JlH,JlF,JlG,e3,e2]
      rfl
theorem UtZ {x y:Nat} (h:x≤y):(toL 1000000000 x).length≤(toL 1000000000 y).length:=by
 by_cases hq:(toL 1000000000 x).length≤(toL 1000000000 y).length
 · exact hq
 · have:=Ubh hB2 (x:=y) (y:=x) (by omega); omega
theorem Umq (n a b:Nat) (hba:b≤a) (hla:(toL 1000000000 a).length<2 ^ 30) (hna:(toL 1000000000 a).length + 1<n) (k0:List PV→Option R):UCG n (NN a) (NN b) k0=k0 (NN (a - b)):=by
 obtain ⟨o',c',h1,h2,h3,h4,h5⟩:=UfT (R:=R) n (toL 1000000000 a) (toL 1000000000 b) (UaK hB2 a) (UaK hB2 b) (UtZ hba) (by omega)
  (toL 1000000000 a).length n 0 (List.replicate (toL 1000000000 a).length 0) 0 (by omega) (by omega) (by rw [List.length_replicate]) (Uf1 hB2 _) (by omega) (by simp [val])
 rw [Uan hB2,Uan hB2] at h5
 have hlt:=Uej hB2 o' h3
 rw [h2] at hlt
 have hc:c'=0:=by
  rcases Nat.lt_or_ge 0 c' with q | q
  · have:c'=1:=by omega
    subst this; omega
  · omega
 subst hc
 have ht:=UbS n o' h3 (by omega) (by omega) k0
 rw [show val 1000000000 o'=a - b from by omega] at ht
 unfold UCG NN Urx
 rw [show ((0:Nat):Int)=0 from rfl] at h1
 simp (disch:=(first | omega | (simp only [JlE]; omega))) only [↓JlH,JlF,JlG,h1]
 exact ht
theorem Uf5 (n:Nat) (la:List Nat) (by_:Nat) (hby:0<by_) (hby2:by_<4294967296) (ha:∀ d∈la,d<1000000000) (hl:la.length<2 ^ 40) :
 ∀ (i m:Nat) (o:List Nat) (r:Nat),i≤la.length→i<m→o.length=la.length→(∀ x∈o,x<1000000000)→r<by_ →
  val 1000000000 (la.drop i)=by_ * val 1000000000 (o.drop i) + r →
  ∃ (o':List Nat) (r':Nat),(∀ k0:List PV→Int→Option R,Ub5 n m (nl .u32 la) by_ (nl .u32 o) r ((i:Int) - 1) k0=k0 (nl .u32 o') r')∧o'.length=la.length∧(∀ x∈o',x<1000000000)∧r'<by_∧val 1000000000 la=by_ * val 1000000000 o' + r'
 | 0,m + 1,o,r,hi,hm,ho,hlt,hr,hv=>by
  refine ⟨o,r,fun k0=>?_,ho,hlt,hr,by simpa using hv⟩
  simp only [Ub5,UeL]
  simp (disch:=(first | omega | (simp only [JlE]; omega))) only [↓JlH,JlF,JlG]
 | i + 1,m + 1,o,r,hi,hm,ho,hlt,hr,hv=>by
  have hx:=Uab hB2 ha i
  have hs:r * 1000000000 + la.getD i 0<by_ * 1000000000:=by
   have:(r + 1) * 1000000000≤by_ * 1000000000:=Nat.mul_le_mul_right _ hr
   omega
  have hq:(r * 1000000000 + la.getD i 0) / by_<1000000000:=Nat.div_lt_of_lt_mul hs
  have hmod:(r * 1000000000 + la.getD i 0) % by_<by_:=Nat.mod_lt _ hby
  have hdm:=Nat.div_add_mod (r * 1000000000 + la.getD i 0) by_
  have dropSucc:∀ l:List Nat,i<l.length→val 1000000000 (l.drop i)=l.getD i 0 + 1000000000 * val 1000000000 (l.drop (i + 1)):=fun l h=>by
   rw [List.drop_eq_getElem_cons h,val,List.getD_eq_getElem?_getD,List.getElem?_eq_getElem h]; rfl
  obtain ⟨o',r',h1,h2⟩:=Uf5 n la by_ hby hby2 ha hl i m (o.set i ((r * 1000000000 + la.getD i 0) / by_)) ((r * 1000000000 + la.getD i 0) % by_) (by omega) (by omega) (by rw [List.length_set]; exact ho) (Ubf hlt hq i) hmod
   (by
     rw [dropSucc la (by omega),dropSucc _ (by rw [List.length_set]; omega),List.drop_set_of_lt (by omega),hv,List.getD_eq_getElem?_getD,List.getD_eq_getElem?_getD,List.getElem?_set_self (by omega)]
     simp only [Option.getD_some]
     rw [List.getD_eq_getElem?_getD] at hdm
     rw [Nat.mul_add,Nat.mul_add,Nat.mul_left_comm by_ 1000000000]
     omega)
  refine ⟨o',r',fun k0=>?_,h2⟩
  rw [←h1 k0]
  have e1:((i + 1:Nat):Int) - 1=(i:Int):=by omega
  have e3:(r:Int) * 1000000000 + ((la.getD i 0:Nat):Int)=((r * 1000000000 + la.getD i 0:Nat):Int):=by omega
  have hd0:¬ ((by_:Int)=0):=by omega
  have t1:Int.tdiv ((r * 1000000000 + la.getD i 0:Nat):Int) (by_:Int)=(((r * 1000000000 + la.getD i 0) / by_:Nat):Int):=Jlj _ _
  have t2:Int.tmod ((r * 1000000000 + la.getD i 0:Nat):Int) (by_:Int)=(((r * 1000000000 + la.getD i 0) % by_:Nat):Int):=Jlk _ _
  generalize (r * 1000000000 + la.getD i 0) / by_=q at *
  generalize (r * 1000000000 + la.getD i 0) % by_=md at *
  simp only [Ub5,UeL]
  simp (disch:=(first | omega | (simp only [JlE]; omega))) only [↓JlH,JlF,JlG,e1,e3,t1,t2]
theorem UmP (n a by_:Nat) (hby:0<by_) (hby2:by_<4294967296) (hla:(toL 1000000000 a).length<2 ^ 30) (hna:(toL 1000000000 a).length + 1<n) (k0:List PV→Int→Option R):UCL n (NN a) by_ k0=k0 (NN (a / by_)) ((a % by_:Nat):Int):=by
 obtain ⟨o',r',h1,h2,h3,h4,h5⟩:=Uf5 (R:=R) n (toL 1000000000 a) by_ hby hby2 (UaK hB2 a) (by omega)
  (toL 1000000000 a).length n (List.replicate (toL 1000000000 a).length 0) 0 (Nat.le_refl _) (by omega) (by rw [List.length_replicate]) (Uf1 hB2 _) hby (by simp [val])
 rw [Uan hB2] at h5
 have hq:val 1000000000 o'=a / by_:=by rw [h5,Nat.mul_add_div hby,Nat.div_eq_of_lt h4]; omega
 have hr:r'=a % by_:=by rw [h5,Nat.mul_add_mod,Nat.mod_eq_of_lt h4]
 have ht:=fun k0=>UbS (R:=R) n o' h3 (by omega) (by omega) k0
 rw [hq] at ht
 rw [←hr]
 unfold UCL UrI
 have hN:NN a=nl .u32 (toL 1000000000 a):=rfl
 rw [hN]
 rw [show ((0:Nat):Int)=0 from rfl] at h1
 simp (disch:=(first | omega | (simp only [JlE]; omega))) only [↓JlH,JlF,JlG,h1,ht]
theorem Ubl {l:List Nat} {i:Nat} (h:i<l.length):val 1000000000 (l.drop i)=l.getD i 0 + 1000000000 * val 1000000000 (l.drop (i + 1)):=by
 rw [List.drop_eq_getElem_cons h,val,List.getD_eq_getElem?_getD,List.getElem?_eq_getElem h]; rfl
theorem UmQ (n:Nat) (la lb:List Nat) (ha:∀ d∈la,d<1000000000) (hb:∀ d∈lb,d<1000000000) (hl:la.length + lb.length<2 ^ 40) (i:Nat) (hi:i<la.length) :
 ∀ (d m k:Nat) (o:List Nat) (c:Nat),d + k=lb.length→d<m→o.length=la.length + lb.length→(∀ x∈o,x<1000000000)→c<1000000000 →
  ∃ (o':List Nat) (c':Nat),(∀ k0:List PV→List PV→List PV→Int→Int→Int→Int→Option R,UdC n m (nl .u32 la) (nl .u32 lb) (nl .u32 o) i c la.length i lb.length k k0=k0 (nl .u32 la) (nl .u32 lb) (nl .u32 o') i c' la.length i) ∧
   o'.length=la.length + lb.length∧(∀ x∈o',x<1000000000)∧c'<1000000000∧o'.drop (i + lb.length)=o.drop (i + lb.length) ∧
   val 1000000000 o' + 1000000000 ^ (i + lb.length) * c'=val 1000000000 o + 1000000000 ^ (i + k) * c + la.getD i 0 * (1000000000 ^ (i + k) * val 1000000000 (lb.drop k))
 | 0,m + 1,k,o,c,hd,hm,ho,hlt,hc=>by
  have hk:k=lb.length:=by omega
  subst hk
  refine ⟨o,c,fun k0=>?_,ho,hlt,hc,rfl,?_⟩
  · simp only [UdC,UhC]
    simp (disch:=(first | omega | (simp only [JlE]; omega))) only [↓JlH,JlF,JlG]
  · rw [List.drop_length]; simp [val]
 | d + 1,m + 1,k,o,c,hd,hm,ho,hlt,hc=>by
  have hx:=Uab hB2 ha i
  have hy:=Uab hB2 hb k
  have hz:=Uab hB2 hlt (i + k)
  have hxy:la.getD i 0 * lb.getD k 0≤999999999 * 999999999:=Nat.mul_le_mul (by omega) (by omega)
  obtain ⟨s,hs⟩:∃ s,s=c + (la.getD i 0 * lb.getD k 0 + o.getD (i + k) 0):=⟨_,rfl⟩
  have hs2:s / 1000000000<1000000000:=by omega
  obtain ⟨o',c',h1,h2,h3,h4,h5,h6⟩:=UmQ n la lb ha hb hl i hi d m (k + 1) (o.set (i + k) (s % 1000000000)) (s / 1000000000) (by omega) (by omega) (by rw [List.length_set]; exact ho) (Ubf hlt (Nat.mod_lt _ (by omega)) _) hs2
  refine ⟨o',c',fun k0=>?_,h2,h3,h4,by rw [h5,List.drop_set_of_lt (by omega)],?_⟩
  · rw [←h1 k0]
    have e1:(i:Int) + (k:Int)=((i + k:Nat):Int):=by omega
    have e2:(k:Int) + 1=((k + 1:Nat):Int):=by omega
    have e4:((la.getD i 0:Nat):Int) * ((lb.getD k 0:Nat):Int)=((la.getD i 0 * lb.getD k 0:Nat):Int):=by rw [Int.natCast_mul]
    generalize la.getD i 0 * lb.getD k 0=xy at *
    have e3:(c:Int) + ((xy:Int) + ((o.getD (i + k) 0:Nat):Int))=(s:Int):=by omega
    simp only [UdC,UhC]
    simp (disch:=(first | omega | (simp only [JlE]; omega))) only [↓JlH,JlF,JlG,e1,e2,e4,e3,JlB,JlC]
  · rw [h6,Ubl (by omega:k<lb.length)]
    have hv:=Uee 1000000000 (s % 1000000000) (l:=o) (i:=i + k) (by omega)
    have hm:=Nat.mod_add_div s 1000000000
    rw [show i + (k + 1)=(i + k) + 1 from by omega,Nat.pow_succ]
    generalize 1000000000 ^ (i + k)=P at *
    generalize val 1000000000 (List.drop (k + 1) lb)=V at *
    generalize val 1000000000 (o.set (i + k) (s % 1000000000))=W at *
    generalize val 1000000000 o=U at *
    generalize s % 1000000000=q at *
    generalize s / 1000000000=t at *
    generalize la.getD i 0=x at *
    generalize lb.getD k 0=y at *
    generalize o.getD (i + k) 0=z at *
    clear h1 h3 h4 h5 hlt ha hb
    have h7:P * q + P * (1000000000 * t)=P * c + P * (x * y) + P * z:=by rw [←Nat.mul_add,hm,hs]; grind
    grind
theorem UiW (n:Nat) (la lb:List Nat) (ha:∀ d∈la,d<1000000000) (hb:∀ d∈lb,d<1000000000) (hl:la.length + lb.length<2 ^ 40) (hn:lb.length<n) :
 ∀ (d m i:Nat) (o:List Nat),d + i=la.length→d<m→o.length=la.length + lb.length→(∀ x∈o,x<1000000000)→o.drop (i + lb.length)=List.replicate (la.length - i) 0→val 1000000000 o=val 1000000000 (la.take i) * val 1000000000 lb →
  ∃ (o':List Nat),(∀ k0:List PV→Option R,UdB n m (nl .u32 la) (nl .u32 lb) (nl .u32 o) la.length i k0=k0 (nl .u32 o'))∧o'.length=la.length + lb.length∧(∀ x∈o',x<1000000000)∧val 1000000000 o'=val 1000000000 la * val 1000000000 lb
 | 0,m + 1,i,o,hd,hm,ho,hlt,hz,hv=>by
  have hi:i=la.length:=by omega
  subst hi
  refine ⟨o,fun k0=>?_,ho,hlt,by rw [hv,List.take_length]⟩
  simp only [UdB,UhB]
  simp (disch:=(first | omega | (simp only [JlE]; omega))) only [↓JlH,JlF,JlG]
 | d + 1,m + 1,i,o,hd,hm,ho,hlt,hz,hv=>by
  obtain ⟨o1,c1,h1,h2,h3,h4,h5,h6⟩:=UmQ (R:=R) n la lb ha hb hl i (by omega) lb.length n 0 o 0 (by omega) hn ho hlt (by omega)
  have hg:o1.getD (i + lb.length) 0=0:=by
   have:=congrArg (fun l:List Nat=>l.getD 0 0) h5
   simp only [List.getD_eq_getElem?_getD,List.getElem?_drop,Nat.add_zero] at this
   rw [List.getD_eq_getElem?_getD,this]
   have h0:=congrArg (fun l:List Nat=>l.getD 0 0) hz
   simp only [List.getD_eq_getElem?_getD,List.getElem?_drop,Nat.add_zero] at h0
   rw [h0,List.getElem?_replicate]
   split <;> rfl
  have hvs:=Uee 1000000000 c1 (l:=o1) (i:=i + lb.length) (by omega)
  rw [hg] at hvs
  obtain ⟨o',q1,q2⟩:=UiW n la lb ha hb hl hn d m (i + 1) (o1.set (i + lb.length) c1) (by omega) (by omega) (by rw [List.length_set]; exact h2) (Ubf h3 h4 _)
   (by
     rw [show i + 1 + lb.length=(i + lb.length) + 1 from by omega,List.drop_set_of_lt (by omega),←List.drop_drop,h5,hz,List.drop_replicate]
     congr 1)
   (by
     rw [Uak 1000000000 la]
     rw [List.drop_zero,Nat.add_zero,Nat.mul_zero,Nat.add_zero,hv] at h6
     rw [Nat.mul_zero,Nat.add_zero] at hvs
     rw [hvs,h6]
     grind)
  refine ⟨o',fun k0=>?_,q2⟩
  rw [←q1 k0]
  have e1:(i:Int) + (lb.length:Int)=((i + lb.length:Nat):Int):=by omega
  have e2:(i:Int) + 1=((i + 1:Nat):Int):=by omega
  rw [show ((0:Nat):Int)=0 from rfl] at h1
  simp only [UdB,UhB,UvO]
  simp (disch:=(first | omega | (simp only [JlE]; omega))) only [↓JlH,JlF,JlG,h1,e1,e2]
theorem Ubz (n a b:Nat) (hla:(toL 1000000000 a).length<2 ^ 30) (hlb:(toL 1000000000 b).length<2 ^ 30) (hn:(toL 1000000000 a).length + (toL 1000000000 b).length<n) (k0:List PV→Option R):p58 n (NN a) (NN b) k0=k0 (NN (a * b)):=by
 obtain ⟨o',h1,h2,h3,h4⟩:=UiW (R:=R) n (toL 1000000000 a) (toL 1000000000 b) (UaK hB2 a) (UaK hB2 b) (by omega) (by omega)
  (toL 1000000000 a).length n 0 (List.replicate ((toL 1000000000 a).length + (toL 1000000000 b).length) 0) (by omega) (by omega) (by rw [List.length_replicate]) (Uf1 hB2 _)
  (by rw [List.drop_replicate]; congr 1; omega) (by rw [UiZ]; simp [val])
 rw [Uan hB2,Uan hB2] at h4
 have ht:=fun k0=>UbS (R:=R) n o' h3 (by omega) (by omega) k0
 rw [h4] at ht
 have e1:((toL 1000000000 a).length:Int) + ((toL 1000000000 b).length:Int)=(((toL 1000000000 a).length + (toL 1000000000 b).length:Nat):Int):=by omega
 have hN:NN a=nl .u32 (toL 1000000000 a):=rfl
 have hM:NN b=nl .u32 (toL 1000000000 b):=rfl
 unfold p58 UvN
 rw [hN,hM]
 rw [show ((0:Nat):Int)=0 from rfl] at h1
 simp (disch:=(first | omega | (simp only [JlE]; omega))) only [↓JlH,JlF,JlG,e1,h1,ht]
end Go.Proofs.YtmgfmlhdnadglaaGreatDoor
set_option linter.unusedVariables false
set_option maxRecDepth 100000
namespace Go.Proofs.YtmgfmlhdnadglaaGreatDoor
open Go Th Go.Proofs
noncomputable section
variable {R:Type}
def Ue2:Ann:={ loops:=[(1,ids [0,1,4],ids [0,1,4])],cuts:=[],frz:=[],rm:=[.id] }
abbrev UoQ (n:Nat):Env:=eN
theorem UlD (n:Nat):EnvOK Tryz.prog GI (UoQ n):=.nil
def UeH (n:Nat) (l0:Bool→LP→Bool→O R) (x1:Bool) (x2:LP) (x3:Bool) (k0:Bool→LP→Bool→O R):O R :=
 bif (decide (((x2).length:Int)>0)) then (bif (inR 0 ((x2).length)) then (Jj .i64 ((x2).getD ((0:Int).toNat) (.v (.bool false))) fun e4=>bif (bif true then (e4 == 0) else false) then (bif (Jgx 1 x2&&Je5 1 ((x2).length:Int) ((x2).length)) then (l0 x1 (((x2).take (((x2).length:Int):Int).toNat).drop (1:Int).toNat) x3) else none) else (k0 x1 x2 x3)) else none) else (k0 x1 x2 x3)
def Ub3 (n:Nat):Nat→Bool→LP→Bool→(Bool→LP→Bool→O R)→O R
 | 0,_,_,_,_=>none
 | m + 1,x1,x2,x3,k0=>UeH n (fun x1 x2 x3=>Ub3 n m x1 x2 x3 k0) x1 x2 x3 k0
def UrE (n:Nat) (x1:Bool) (x2:LP) (x3:Bool) (k0:Bool→LP→Bool→O R):O R:=Ub3 n n x1 x2 x3 k0
def Umx (n:Nat) (x1:Bool) (x2:LP) (k0:Bool→LP→O R):O R :=
 UrE n x1 x2 false (fun y3 y4 y5=>bif (((y4).length:Int) == 0) then (k0 false []) else (k0 y3 y4))
abbrev UKj (n:Nat):Code→Fr→Kc R→O R:=evC Tryz.prog (UoQ n) Ue2 n (23,[])
noncomputable def Un0:Code:=Jj4 (Jll Tryz.f122) [1,0,0,0]
abbrev UdY:Sl (List SV):=(cB (cH (.c (sBx 55 (cB (.c sNl .n))) .n)))
abbrev Uju (n m:Nat) (K:Kc R):UdY.T (O R):=fun x1 x2 x3=>Ub3 n m x1 x2 x3 (fun y1 y2 y3=>xL Ue2 1 K (.exit 0) [vB y1,vH y2,.bx 55 [vB y3,.nl]])
abbrev UwV (n:Nat) (K:Kc R) (l0:UdY.T (O R)):UdY.T (O R):=fun x1 x2 x3=>UeH n l0 x1 x2 x3 (fun y1 y2 y3=>xL Ue2 1 K (.exit 0) [vB y1,vH y2,.bx 55 [vB y3,.nl]])
abbrev UCo (n:Nat):Orc R:=oL Ue2 (UKj n) n 1 Un0 UdY (Uju n n) oN
abbrev UAR (n:Nat):Orc R:=oN
abbrev UIj (R:Type) (n:Nat):=JcH (R:=R) Tryz.prog (UoQ n) Ue2 n (23,[]) (UCo n) (UAR n)
theorem UyX (n:Nat):UIj R n (false,1,Un0):=JkF (lo:=UCo n) (cu:=UAR n) (pO pN (by kernel_rfl)) UdY (Uju n n) (JiE (F:=Uju n) UdY (UwV n) (fun K _ _ _=>rfl) (fun _ _=>rfl) (fun L K _ _ _=>by show _=_; kernel_rfl) n) fun _ _=>rfl
theorem UHa (n:Nat):Je6 (UIj R n) (JaJ Ue2 (Jll Tryz.f122)):=pO (pC (UyX n) pN) (by kernel_rfl)
abbrev UHO:Sl (List SV):=(cB (cH .n))
abbrev f122 (n:Nat) (K:List SV→O R):UHO.T (O R):=fun x1 x2=>Umx n x1 x2 (fun y1 y2=>K [.p (.agg [.v (.bool y1),.sh y2])])
abbrev UiB (n:Nat):FS:=fT [false,false] UHO (f122 n)
theorem UjN (n:Nat):FSound Tryz.prog GI 122 (UiB n):=gd Ue2 n (UlD n) Tryz.func122 (.cons (UlD n) UHO (f122 n) (fun K _ _=>(Jkq (c:=Jll Tryz.f122) (by kernel_rfl) (UHa n) K).trans (by kernel_rfl)) .nil) (by kernel_rfl)
def UcL:Ann:={ loops:=[(6,ids [0,1,5],ids [4])],cuts:=[],frz:=[],rm:=[.id] }
abbrev UoZ (n:Nat):Env:=eN
theorem UlR (n:Nat):EnvOK Tryz.prog GI (UoZ n):=.nil
def UeN (n:Nat) (l0:LP→LP→Int→O R) (x1 x2:LP) (x3:Int) (k0:Int→O R) (k1:O R):O R :=
 bif (decide (x3<((x1).length:Int))) then (bif (inR x3 ((x1).length)) then (Jj .i64 ((x1).getD ((x3:Int).toNat) (.v (.bool false))) fun e4=>bif (inR x3 ((x2).length)) then (Jj .i64 ((x2).getD ((x3:Int).toNat) (.v (.bool false))) fun e5=>bif (decide (e4<e5)) then (k0 (-1)) else (bif (inR x3 ((x1).length)) then (Jj .i64 ((x1).getD ((x3:Int).toNat) (.v (.bool false))) fun e6=>bif (inR x3 ((x2).length)) then (Jj .i64 ((x2).getD ((x3:Int).toNat) (.v (.bool false))) fun e7=>bif (decide (e6>e7)) then (k0 1) else (l0 x1 x2 (IntKind.i64.wrap (x3 + 1)))) else none) else none)) else none) else none) else (k1)
def Ub8 (n:Nat):Nat→LP→LP→Int→(Int→O R)→(O R)→O R
 | 0,_,_,_,_,_=>none
 | m + 1,x1,x2,x3,k0,k1=>UeN n (fun x1 x2 x3=>Ub8 n m x1 x2 x3 k0 k1) x1 x2 x3 k0 k1
def UrM (n:Nat) (x1 x2:LP) (x3:Int) (k0:Int→O R) (k1:O R):O R:=Ub8 n n x1 x2 x3 k0 k1
def UCM (n:Nat) (x1 x2:LP) (k0:Int→O R):O R :=
 bif (((x1).length:Int) != ((x2).length:Int)) then (bif (decide (((x1).length:Int)<((x2).length:Int))) then (k0 (-1)) else (k0 1)) else (UrM n x1 x2 0 (fun y3=>k0 y3) (k0 0))
abbrev UKn (n:Nat):Code→Fr→Kc R→O R:=evC Tryz.prog (UoZ n) UcL n (40,[])
noncomputable def Uod:Code:=Jj4 (Jll Tryz.f147) [1,1,0,1,0,0]
abbrev Ud6:Sl (List SV):=(cH (cH (cI .n)))
abbrev UjC (n m:Nat) (K:Kc R):Ud6.T (O R):=fun x1 x2 x3=>Ub8 n m x1 x2 x3 (fun y1=>xL UcL 6 K .ret [vI y1]) (xL UcL 6 K (.exit 0) [dD])
abbrev Uw3 (n:Nat) (K:Kc R) (l0:Ud6.T (O R)):Ud6.T (O R):=fun x1 x2 x3=>UeN n l0 x1 x2 x3 (fun y1=>xL UcL 6 K .ret [vI y1]) (xL UcL 6 K (.exit 0) [dD])
abbrev UCs (n:Nat):Orc R:=oL UcL (UKn n) n 6 Uod Ud6 (UjC n n) oN
abbrev UAV (n:Nat):Orc R:=oN
abbrev UIn (R:Type) (n:Nat):=JcH (R:=R) Tryz.prog (UoZ n) UcL n (40,[]) (UCs n) (UAV n)
theorem Uza (n:Nat):UIn R n (false,6,Uod):=JkF (lo:=UCs n) (cu:=UAV n) (pO pN (by kernel_rfl)) Ud6 (UjC n n) (JiE (F:=UjC n) Ud6 (Uw3 n) (fun K _ _ _=>rfl) (fun _ _=>rfl) (fun L K _ _ _=>by show _=_; kernel_rfl) n) fun _ _=>rfl
theorem UHo (n:Nat):Je6 (UIn R n) (JaJ UcL (Jll Tryz.f147)):=pO (pC (Uza n) pN) (by kernel_rfl)
abbrev UHX:Sl (List SV):=(cH (cH .n))
abbrev f147 (n:Nat) (K:List SV→O R):UHX.T (O R):=fun x1 x2=>UCM n x1 x2 (fun y1=>K [vI y1])
abbrev Uyb (n:Nat):FS:=fT [false,false] UHX (f147 n)
theorem UCC (n:Nat):FSound Tryz.prog GI 147 (Uyb n):=gd UcL n (UlR n) Tryz.func147 (.cons (UlR n) UHX (f147 n) (fun K _ _=>(Jkq (c:=Jll Tryz.f147) (by kernel_rfl) (UHo n) K).trans (by kernel_rfl)) .nil) (by kernel_rfl)
def UnA:Ann:={ loops:=[],cuts:=[],frz:=[],rm:=[.id] }
abbrev Uu1 (n:Nat):Env:=eN
theorem UlU (n:Nat):EnvOK Tryz.prog GI (Uu1 n):=.nil
def UCN (n:Nat) (x1:LP) (x2:Int) (k0:Int→O R):O R :=
 bif (decide (x2≥((x1).length:Int))) then (k0 0) else (let v3:=IntKind.i64.wrap (((x1).length:Int) - 1); bif (inR (IntKind.i64.wrap (v3 - x2)) ((x1).length)) then (Jj .i64 ((x1).getD ((IntKind.i64.wrap (v3 - x2):Int).toNat) (.v (.bool false))) fun e4=>k0 e4) else none)
abbrev UFU (n:Nat):Orc R:=oN
abbrev UF (n:Nat):Orc R:=oN
abbrev UKB (R:Type) (n:Nat):=JcH (R:=R) Tryz.prog (Uu1 n) UnA n (17,[]) (UFU n) (UF n)
theorem UHr (n:Nat):Je6 (UKB R n) (JaJ UnA (Jll Tryz.f172)):=pO pN (by kernel_rfl)
abbrev UHZ:Sl (List SV):=(cH (cI .n))
abbrev f172 (n:Nat) (K:List SV→O R):UHZ.T (O R):=fun x1 x2=>UCN n x1 x2 (fun y1=>K [vI y1])
abbrev UCc (n:Nat):FS:=fT [false,false] UHZ (f172 n)
theorem UGz (n:Nat):FSound Tryz.prog GI 172 (UCc n):=gd UnA n (UlU n) Tryz.func172 (.cons (UlU n) UHZ (f172 n) (fun K _ _=>(Jkq (c:=Jll Tryz.f172) (by kernel_rfl) (UHr n) K).trans (by kernel_rfl)) .nil) (by kernel_rfl)
def UaX:Ann:={ loops:=[(4,[(0,.id),(1,.id),(2,.id),(7,.own 3),(8,.id),(9,.id)],ids [6,7])],cuts:=[(5,ids [0,1,2,7,8,9],ids [0,1,2,6,7,8,9]),(6,ids [0,1,2,7,8,9],ids [0,1,2,6,7,8,9]),(11,ids [0,1,2,7,8,9,10],ids [0,1,2,6,7,8,9]),(14,ids [0,1,2,7,8,9,10],ids [0,1,2,6,7,8,9])],frz:=[],rm:=[.id] }
abbrev UoY (n:Nat):Env:=eC 172 (UCc n) eN
theorem UlQ (n:Nat):EnvOK Tryz.prog GI (UoY n):=.cons (.nil) (UGz n)
def UaT (n:Nat) (x1 x2:LP) (x3:Int) (x4:LP) (x5 x6 x7:Int) (k0:LP→LP→Int→LP→Int→Int→O R):O R :=
 bif (Jbu (1 + (x4).length) 8) then (k0 x1 x2 x3 (([.v (.int .i64 x7)]:LP)++x4) x5 x6) else none
def UaS (n:Nat) (x1 x2:LP) (x3:Int) (x4:LP) (x5 x6 x7:Int) (k0:LP→LP→Int→LP→Int→Int→O R):O R :=
 bif (decide (x7>9)) then (UaT n x1 x2 x3 x4 1 x6 (IntKind.i64.wrap (x7 - 10)) (fun y8 y9 y10 y11 y12 y13=>k0 y8 y9 y10 y11 y12 y13)) else (UaT n x1 x2 x3 x4 x5 x6 x7 (fun y14 y15 y16 y17 y18 y19=>k0 y14 y15 y16 y17 y18 y19))
def Ubr (n:Nat) (x1 x2:LP) (x3:Int) (x4:LP) (x5 x6:Int) (k0:LP→LP→Int→LP→Int→Int→O R):O R :=
 k0 x1 x2 x3 x4 x5 (IntKind.i64.wrap (x6 + 1))
def UaN (n:Nat) (x1 x2:LP) (x3:Int) (x4:LP) (x5 x6:Int) (k0:LP→LP→Int→LP→Int→Int→O R):O R :=
 UCN n x1 x6 (fun y7=>UCN n x2 x6 (fun y8=>let v9:=IntKind.i64.wrap (y7 + (IntKind.i64.wrap (x3 * y8))); bif (decide (IntKind.i64.wrap (v9 + x5)<0)) then (let v10:=IntKind.i64.wrap ((IntKind.i64.wrap (v9 + x5)) + 10); UaS n x1 x2 x3 x4 (-1) x6 v10 (fun y11 y12 y13 y14 y15 y16=>Ubr n y11 y12 y13 y14 y15 y16 (fun y17 y18 y19 y20 y21 y22=>k0 y17 y18 y19 y20 y21 y22))) else (UaS n x1 x2 x3 x4 0 x6 (IntKind.i64.wrap (v9 + x5)) (fun y23 y24 y25 y26 y27 y28=>Ubr n y23 y24 y25 y26 y27 y28 (fun y29 y30 y31 y32 y33 y34=>k0 y29 y30 y31 y32 y33 y34)))))
def Uhl (n:Nat) (l0:LP→LP→Int→LP→Int→Int→O R) (x1 x2:LP) (x3:Int) (x4:LP) (x5 x6:Int) (k0:LP→O R):O R :=
 bif (decide (x6<((x1).length:Int))) then (UaN n x1 x2 x3 x4 x5 x6 (fun y7 y8 y9 y10 y11 y12=>l0 y7 y8 y9 y10 y11 y12)) else (bif (bif false then true else (decide (x6<((x2).length:Int)))) then (UaN n x1 x2 x3 x4 x5 x6 (fun y13 y14 y15 y16 y17 y18=>l0 y13 y14 y15 y16 y17 y18)) else (bif (bif false then true else (x5 != 0)) then (UaN n x1 x2 x3 x4 x5 x6 (fun y19 y20 y21 y22 y23 y24=>l0 y19 y20 y21 y22 y23 y24)) else (k0 x4)))
def Ub7 (n:Nat):Nat→LP→LP→Int→LP→Int→Int→(LP→O R)→O R
 | 0,_,_,_,_,_,_,_=>none
 | m + 1,x1,x2,x3,x4,x5,x6,k0=>Uhl n (fun x1 x2 x3 x4 x5 x6=>Ub7 n m x1 x2 x3 x4 x5 x6 k0) x1 x2 x3 x4 x5 x6 k0
def UrL (n:Nat) (x1 x2:LP) (x3:Int) (x4:LP) (x5 x6:Int) (k0:LP→O R):O R:=Ub7 n n x1 x2 x3 x4 x5 x6 k0
def Uyw (n:Nat) (x1 x2:LP) (x3:Int) (k0:LP→O R):O R :=
 UrL n x1 x2 x3 [] 0 0 (fun y4=>k0 y4)
abbrev Uz9 (n:Nat):Code→Fr→Kc R→O R:=evC Tryz.prog (UoY n) UaX n (51,[])
noncomputable def Uoa:Code:=Jj4 (Jll Tryz.f146) [1,1,1,0,1,0,0,1,1]
abbrev Uks:Sl (List SV):=(cH (cH (cI (cO 3 (cI (cI .n))))))
abbrev Uqq (n:Nat) (K:Kc R):Uks.T (O R):=fun x1 x2 x3 x4 x5 x6=>Ubr n x1 x2 x3 x4 x5 x6 (fun y1 y2 y3 y4 y5 y6=>xC UaX 5 K .normal [vH y1,vH y2,vI y3,dD,.own 3 y4,vI y5,vI y6])
noncomputable def Uob:Code:=Jj4 (Jll Tryz.f146) [1,1,1,0,1,0,0,1]
abbrev Ukt:Sl (List SV):=(cH (cH (cI (cO 3 (cI (cI .n))))))
abbrev Uqr (n:Nat) (K:Kc R):Ukt.T (O R):=fun x1 x2 x3 x4 x5 x6=>UaN n x1 x2 x3 x4 x5 x6 (fun y1 y2 y3 y4 y5 y6=>xC UaX 6 K .normal [vH y1,vH y2,vI y3,dD,.own 3 y4,vI y5,vI y6])
noncomputable def Uk8:Code:=Jj4 (Jll Tryz.f146) [1,1,1,0,1,0,0,1,0,0,1,1,1]
abbrev Uid:Sl (List SV):=(cH (cH (cI (cO 3 (cI (cI (cI .n)))))))
abbrev Umc (n:Nat) (K:Kc R):Uid.T (O R):=fun x1 x2 x3 x4 x5 x6 x7=>UaS n x1 x2 x3 x4 x5 x6 x7 (fun y1 y2 y3 y4 y5 y6=>xC UaX 11 K .normal [vH y1,vH y2,vI y3,dD,.own 3 y4,vI y5,vI y6])
noncomputable def Uk9:Code:=Jj4 (Jll Tryz.f146) [1,1,1,0,1,0,0,1,0,0,1,1,1,1]
abbrev Uie:Sl (List SV):=(cH (cH (cI (cO 3 (cI (cI (cI .n)))))))
abbrev Umd (n:Nat) (K:Kc R):Uie.T (O R):=fun x1 x2 x3 x4 x5 x6 x7=>UaT n x1 x2 x3 x4 x5 x6 x7 (fun y1 y2 y3 y4 y5 y6=>xC UaX 14 K .normal [vH y1,vH y2,vI y3,dD,.own 3 y4,vI y5,vI y6])
noncomputable def Uoc:Code:=Jj4 (Jll Tryz.f146) [1,1,1,0,1,0,0]
abbrev Ud5:Sl (List SV):=(cH (cH (cI (cO 3 (cI (cI .n))))))
abbrev UjB (n m:Nat) (K:Kc R):Ud5.T (O R):=fun x1 x2 x3 x4 x5 x6=>Ub7 n m x1 x2 x3 x4 x5 x6 (fun y1=>xL UaX 4 K (.exit 0) [dD,.own 3 y1])
abbrev Uw2 (n:Nat) (K:Kc R) (l0:Ud5.T (O R)):Ud5.T (O R):=fun x1 x2 x3 x4 x5 x6=>Uhl n l0 x1 x2 x3 x4 x5 x6 (fun y1=>xL UaX 4 K (.exit 0) [dD,.own 3 y1])
abbrev Um7 (n:Nat):Orc R:=oL UaX (Uz9 n) n 4 Uoc Ud5 (UjB n n) oN
abbrev Um2 (n:Nat):Orc R:=oC UaX (Uz9 n) 14 Uk9 Uie (Umd n) (oC UaX (Uz9 n) 11 Uk8 Uid (Umc n) (oC UaX (Uz9 n) 6 Uob Ukt (Uqr n) (oC UaX (Uz9 n) 5 Uoa Uks (Uqq n) oN)))
abbrev UzO (R:Type) (n:Nat):=JcH (R:=R) Tryz.prog (UoY n) UaX n (51,[]) (Um7 n) (Um2 n)
theorem UtM (n:Nat):UzO R n (true,14,Uk9):=JkW (lo:=Um7 n) (cu:=Um2 n) (pO pN (by kernel_rfl)) Uie (Umd n) (fun K _ _ _ _ _ _ _=>by show _=_; kernel_rfl) fun _ _=>rfl
theorem UtL (n:Nat):UzO R n (true,11,Uk8):=JkW (lo:=Um7 n) (cu:=Um2 n) (pO (pC (UtM n) pN) (by kernel_rfl)) Uid (Umc n) (fun K _ _ _ _ _ _ _=>by show _=_; kernel_rfl) fun _ _=>rfl
theorem Uy8 (n:Nat):UzO R n (true,5,Uoa):=JkW (lo:=Um7 n) (cu:=Um2 n) (pO pN (by kernel_rfl)) Uks (Uqq n) (fun K _ _ _ _ _ _=>by show _=_; kernel_rfl) fun _ _=>rfl
theorem Uy9 (n:Nat):UzO R n (true,6,Uob):=JkW (lo:=Um7 n) (cu:=Um2 n) (pO (pC (UtL n) (pC (Uy8 n) pN)) (by kernel_rfl)) Ukt (Uqr n) (fun K _ _ _ _ _ _=>by show _=_; kernel_rfl) fun _ _=>rfl
theorem Uz (n:Nat):UzO R n (false,4,Uoc):=JkF (lo:=Um7 n) (cu:=Um2 n) (pO (pC (Uy9 n) pN) (by kernel_rfl)) Ud5 (UjB n n) (JiE (F:=UjB n) Ud5 (Uw2 n) (fun K _ _ _ _ _ _=>rfl) (fun _ _=>rfl) (fun L K _ _ _ _ _ _=>by show _=_; kernel_rfl) n) fun _ _=>rfl
theorem UHn (n:Nat):Je6 (UzO R n) (JaJ UaX (Jll Tryz.f146)):=pO (pC (Uz n) pN) (by kernel_rfl)
abbrev t146:Sl (List SV):=(cH (cH (cI .n)))
abbrev f146 (n:Nat) (K:List SV→O R):t146.T (O R):=fun x1 x2 x3=>Uyw n x1 x2 x3 (fun y1=>K [vH y1])
abbrev Uya (n:Nat):FS:=fT [false,false,false] t146 (f146 n)
theorem UCB (n:Nat):FSound Tryz.prog GI 146 (Uya n):=gd UaX n (UlQ n) Tryz.func146 (.cons (UlQ n) t146 (f146 n) (fun K _ _ _=>(Jkq (c:=Jll Tryz.f146) (by kernel_rfl) (UHn n) K).trans (by kernel_rfl)) .nil) (by kernel_rfl)
def Unu:Ann:={ loops:=[],cuts:=[],frz:=[],rm:=[.id] }
abbrev UuV (n:Nat):Env:=eC 147 (Uyb n) (eC 146 (Uya n) (eC 122 (UiB n) eN))
theorem UlF (n:Nat):EnvOK Tryz.prog GI (UuV n):=.cons (.cons (.cons (.nil) (UjN n)) (UCB n)) (UCC n)
def UCJ (n:Nat) (x1:Bool) (x2:LP) (x3:Bool) (x4:LP) (k0:Bool→LP→O R):O R :=
 bif (x1 == x3) then (Uyw n x2 x4 1 (fun y5=>Umx n x1 y5 (fun y6 y7=>k0 y6 y7))) else (UCM n x2 x4 (fun y8=>bif (decide (y8<0)) then (Uyw n x4 x2 (-1) (fun y9=>Umx n x3 y9 (fun y10 y11=>k0 y10 y11))) else (Uyw n x2 x4 (-1) (fun y12=>Umx n x1 y12 (fun y13 y14=>k0 y13 y14)))))
abbrev UFO (n:Nat):Orc R:=oN
abbrev UE4 (n:Nat):Orc R:=oN
abbrev UKv (R:Type) (n:Nat):=JcH (R:=R) Tryz.prog (UuV n) Unu n (40,[]) (UFO n) (UE4 n)
theorem UHc (n:Nat):Je6 (UKv R n) (JaJ Unu (Jll Tryz.f124)):=pO pN (by kernel_rfl)
abbrev t124:Sl (List SV):=(.c (sP (JlI (.c Jlf (.c sSh .n)))) (.c (sP (JlI (.c Jlf (.c sSh .n)))) .n))
abbrev f124 (n:Nat) (K:List SV→O R):t124.T (O R):=fun x1 x2 x3 x4=>UCJ n x1 x2 x3 x4 (fun y1 y2=>K [.p (.agg [.v (.bool y1),.sh y2])])
abbrev Ux8 (n:Nat):FS:=fT [false,false] t124 (f124 n)
theorem UCy (n:Nat):FSound Tryz.prog GI 124 (Ux8 n):=gd Unu n (UlF n) Tryz.func124 (.cons (UlF n) t124 (f124 n) (fun K _ _ _ _=>(Jkq (c:=Jll Tryz.f124) (by kernel_rfl) (UHc n) K).trans (by kernel_rfl)) .nil) (by kernel_rfl)
def UwD:Ann:={ loops:=[],cuts:=[],frz:=[],rm:=[.id] }
abbrev UBt (n:Nat):Env:=eC 122 (UiB n) eN
theorem Up2 (n:Nat):EnvOK Tryz.prog GI (UBt n):=.cons (.nil) (UjN n)
def p90 (n:Nat) (x1:Bool) (x2:LP) (k0:Bool→LP→O R):O R :=
 Umx n (!x1) x2 (fun y3 y4=>k0 y3 y4)
abbrev ULQ (n:Nat):Orc R:=oN
abbrev ULa (n:Nat):Orc R:=oN
abbrev K90 (R:Type) (n:Nat):=JcH (R:=R) Tryz.prog (UBt n) UwD n (9,[]) (ULQ n) (ULa n)
theorem UNA (n:Nat):Je6 (K90 R n) (JaJ UwD (Jll Tryz.f90)):=pO pN (by kernel_rfl)
abbrev t90:Sl (List SV):=(.c (sP (JlI (.c Jlf (.c sSh .n)))) .n)
abbrev f90 (n:Nat) (K:List SV→O R):t90.T (O R):=fun x1 x2=>p90 n x1 x2 (fun y1 y2=>K [.p (.agg [.v (.bool y1),.sh y2])])
abbrev UFA (n:Nat):FS:=fT [false] t90 (f90 n)
theorem UJ5 (n:Nat):FSound Tryz.prog GI 90 (UFA n):=gd UwD n (Up2 n) Tryz.func90 (.cons (Up2 n) t90 (f90 n) (fun K _ _=>(Jkq (c:=Jll Tryz.f90) (by kernel_rfl) (UNA n) K).trans (by kernel_rfl)) .nil) (by kernel_rfl)
def Unt:Ann:={ loops:=[],cuts:=[],frz:=[],rm:=[.id] }
abbrev UuU (n:Nat):Env:=eC 124 (Ux8 n) (eC 90 (UFA n) eN)
theorem UlC (n:Nat):EnvOK Tryz.prog GI (UuU n):=.cons (.cons (.nil) (UJ5 n)) (UCy n)
def Uyu (n:Nat) (x1:Bool) (x2:LP) (x3:Bool) (x4:LP) (k0:Bool→LP→O R):O R :=
 p90 n x3 x4 (fun y5 y6=>UCJ n x1 x2 y5 y6 (fun y7 y8=>k0 y7 y8))
abbrev UFN (n:Nat):Orc R:=oN
abbrev UE3 (n:Nat):Orc R:=oN
abbrev UKu (R:Type) (n:Nat):=JcH (R:=R) Tryz.prog (UuU n) Unt n (9,[]) (UFN n) (UE3 n)
theorem UH (n:Nat):Je6 (UKu R n) (JaJ Unt (Jll Tryz.f121)):=pO pN (by kernel_rfl)
abbrev UHN:Sl (List SV):=(.c (sP (JlI (.c Jlf (.c sSh .n)))) (.c (sP (JlI (.c Jlf (.c sSh .n)))) .n))
abbrev f121 (n:Nat) (K:List SV→O R):UHN.T (O R):=fun x1 x2 x3 x4=>Uyu n x1 x2 x3 x4 (fun y1 y2=>K [.p (.agg [.v (.bool y1),.sh y2])])
abbrev Ux7 (n:Nat):FS:=fT [false,false] UHN (f121 n)
theorem UCx (n:Nat):FSound Tryz.prog GI 121 (Ux7 n):=gd Unt n (UlC n) Tryz.func121 (.cons (UlC n) UHN (f121 n) (fun K _ _ _ _=>(Jkq (c:=Jll Tryz.f121) (by kernel_rfl) (UH n) K).trans (by kernel_rfl)) .nil) (by kernel_rfl)
def UwC:Ann:={ loops:=[],cuts:=[],frz:=[],rm:=[.id] }
abbrev UBs (n:Nat):Env:=eC 121 (Ux7 n) eN
theorem Up0 (n:Nat):EnvOK Tryz.prog GI (UBs n):=.cons (.nil) (UCx n)
def p88 (n:Nat) (x1:Bool) (x2:LP) (x3:Bool) (x4:LP) (k0:Int→O R):O R :=
 Uyu n x1 x2 x3 x4 (fun y5 y6=>bif (((y6).length:Int) == 0) then (k0 0) else (bif y5 then (k0 (-1)) else (k0 1)))
abbrev ULP (n:Nat):Orc R:=oN
abbrev UL (n:Nat):Orc R:=oN
abbrev K88 (R:Type) (n:Nat):=JcH (R:=R) Tryz.prog (UBs n) UwC n (15,[]) (ULP n) (UL n)
theorem UNy (n:Nat):Je6 (K88 R n) (JaJ UwC (Jll Tryz.f88)):=pO pN (by kernel_rfl)
abbrev t88:Sl (List SV):=(.c (sP (JlI (.c Jlf (.c sSh .n)))) (.c (sP (JlI (.c Jlf (.c sSh .n)))) .n))
abbrev f88 (n:Nat) (K:List SV→O R):t88.T (O R):=fun x1 x2 x3 x4=>p88 n x1 x2 x3 x4 (fun y1=>K [vI y1])
abbrev UJr (n:Nat):FS:=fT [false,false] t88 (f88 n)
theorem UMv (n:Nat):FSound Tryz.prog GI 88 (UJr n):=gd UwC n (Up0 n) Tryz.func88 (.cons (Up0 n) t88 (f88 n) (fun K _ _ _ _=>(Jkq (c:=Jll Tryz.f88) (by kernel_rfl) (UNy n) K).trans (by kernel_rfl)) .nil) (by kernel_rfl)
end
end Go.Proofs.YtmgfmlhdnadglaaGreatDoor
set_option linter.unusedVariables false
set_option linter.unusedSimpArgs false
namespace Go.Proofs.YtmgfmlhdnadglaaGreatDoor
open Go Th Go.Proofs
variable {R:Type}
def II (a:Nat):List PV:=nl .i64 (DL a)
def ll (a:Nat):Nat:=(toL 10 a).length
theorem Uaa (a:Nat):(DL a).length=ll a:=by unfold DL ll; rw [List.length_reverse]
theorem Uap (a:Nat):(II a).length=ll a:=by unfold II; rw [Jjd,Uaa]
theorem Udn {a k:Nat}:ll a≤k↔a<10 ^ k:=Uah hT2 a k
theorem Ua1 {a b:Nat} (h:a≤b):ll a≤ll b:=Udn.2 (Nat.lt_of_le_of_lt h (Udn.1 (Nat.le_refl _)))
theorem Ump (a b:Nat):ll (a * b)≤ll a + ll b:=by
 rw [Udn,Nat.pow_add]
 exact Nat.mul_lt_mul_of_lt_of_lt (Udn.1 (Nat.le_refl _)) (Udn.1 (Nat.le_refl _))
theorem Uvo {a b k:Nat} (ha:ll a≤k) (hb:ll b≤k):ll (a + b)≤k + 1:=by
 rw [Udn] at *
 rw [Nat.pow_succ]; omega
theorem UbJ:ll 0=0:=by unfold ll; rw [Uai]; rfl
theorem UcT {a:Nat}:ll a=0↔a=0:=by
 constructor
 · intro h; exact (Ubg hT2).1 (List.eq_nil_of_length_eq_zero h)
 · intro h; rw [h,UbJ]
theorem Unk:II 0=[]:=by unfold II; rw [Ui4]; rfl
theorem UfK (l:List Nat):(l.dropWhile (· == 0)).head? ≠ some 0:=by
 induction l with
 | nil=>simp
 | cons d r ih =>
  rw [List.dropWhile_cons]
  by_cases h:d=0
  · rw [if_pos (by simpa using h)]; exact ih
  · rw [if_neg (by simpa using h)]; simpa using h
theorem Ui1 (l:List Nat):vb (l.dropWhile (· == 0))=vb l:=by
 induction l with
 | nil=>rfl
 | cons d r ih =>
  rw [List.dropWhile_cons]
  by_cases h:d=0
  · rw [if_pos (by simpa using h),ih,h,UcF]; omega
  · rw [if_neg (by simpa using h)]
theorem Uip {l:List Nat} (h:∀ d∈l,d<10):DL (vb l)=l.dropWhile (· == 0):=by
 rw [←Ui1]
 exact Uz7 (fun d hd=>h d ((List.dropWhile_sublist _).subset hd)) (UfK l)
theorem UfS (n:Nat) (neg x3:Bool) (k0:Bool→List PV→Bool→Option R):∀ (m:Nat) (l:List Nat),l.length<m→l.length<2 ^ 40→Ub3 n m neg (nl .i64 l) x3 k0=k0 neg (nl .i64 (l.dropWhile (· == 0))) x3
 | m + 1,[],hm,hl=>by
  simp only [Ub3,UeH]
  simp (disch:=(first | omega | (simp only [JlE]; omega))) only [↓JlH,JlF,JlG]
  rfl
 | m + 1,d::r,hm,hl=>by
  rw [List.length_cons] at hm hl
  simp only [Ub3,UeH]
  have hg:∀ (K:Int→Option R),Jj .i64 ((nl .i64 (d::r)).getD (0:Int).toNat (PV.v (Value.bool false))) K=K (d:Int):=fun K=>Jhl (l:=d::r) (i:=0) (by simp)
  have e1:List.drop (1:Int).toNat (List.take (r.length + 1) (d::r))=r:=by
   show List.drop 1 (d::List.take r.length r)=r
   rw [List.take_length]; rfl
  have e2:List.drop (0 + 1) (List.take (r.length + 1) (d::r))=r:=e1
  rw [List.dropWhile_cons]
  by_cases h:d=0
  · have ih:=UfS n neg x3 k0 m r (by omega) (by omega)
    rw [if_pos (by simpa using h)]
    subst h
    have e3:((0:Nat) == 0)=true:=rfl
    simp (disch:=(first | omega | (simp only [JlE]; omega))) only [↓JlH,JlF,JlG,hg,Jk0,e1,e2,e3,ih,List.length_cons]
  · have e3:(d == 0)=false:=by simpa using h
    rw [if_neg (by simpa using h)]
    simp (disch:=(first | omega | (simp only [JlE]; omega))) only [↓JlH,JlF,JlG,hg,Jk0,e1,e2,e3,List.length_cons]
theorem Uay (n:Nat) (neg:Bool) (l:List Nat) (h:∀ d∈l,d<10) (hn:l.length<n) (hl:l.length<2 ^ 40) (k0:Bool→List PV→Option R):Umx n neg (nl .i64 l) k0=k0 (neg&&!(vb l == 0)) (II (vb l)):=by
 unfold Umx UrE
 rw [UfS n neg false _ n l hn hl,←Uip h]
 by_cases h0:vb l=0
 · rw [h0,Unk,Ui4]
   simp [nl]
 · have e1:((ll (vb l):Int) == 0)=false:=by
    rw [Jk0]; simp only [beq_eq_false_iff_ne,ne_eq]
    intro e; exact h0 (UcT.1 e)
   have e2:(vb l == 0)=false:=by simpa using h0
   rw [Jjd,Uaa,e1,e2]
   simp [II]
theorem UcP {l:List Nat} {i:Nat} (h:i<l.length):l.drop i=l.getD i 0::l.drop (i + 1):=by
 rw [List.drop_eq_getElem_cons h,List.getD_eq_getElem?_getD,List.getElem?_eq_getElem h]; rfl
theorem UiP (n:Nat) (la lb:List Nat) (ha:∀ d∈la,d<10) (hb:∀ d∈lb,d<10) (hlen:la.length=lb.length) (hl:la.length<2 ^ 40) (k0:Int→Option R) (k1:Option R) :
 ∀ (d m i:Nat),d + i=la.length→d<m→Ub8 n m (nl .i64 la) (nl .i64 lb) (i:Int) k0 k1 =
  if vb (la.drop i)<vb (lb.drop i) then k0 (-1) else if vb (lb.drop i)<vb (la.drop i) then k0 1 else k1
 | 0,m + 1,i,h,hm=>by
  rw [List.drop_eq_nil_of_le (by omega),List.drop_eq_nil_of_le (by omega)]
  simp only [Ub8,UeN]
  simp (disch:=(first | omega | (simp only [JlE]; omega))) only [↓JlH,JlF,JlG]
 | d + 1,m + 1,i,h,hm=>by
  have ih:=UiP n la lb ha hb hlen hl k0 k1 d m (i + 1) (by omega) (by omega)
  have e1:(i:Int) + 1=((i + 1:Nat):Int):=by omega
  have va:=UzK (la.drop (i + 1)) (fun x hx=>ha x (List.mem_of_mem_drop hx))
  have vb':=UzK (lb.drop (i + 1)) (fun x hx=>hb x (List.mem_of_mem_drop hx))
  rw [UcP (by omega:i<la.length),UcP (by omega:i<lb.length),UcF,UcF]
  have el:(lb.drop (i + 1)).length=(la.drop (i + 1)).length:=by rw [List.length_drop,List.length_drop,hlen]
  rw [el] at vb' ⊢
  simp only [Ub8,UeN]
  by_cases h1:la.getD i 0<lb.getD i 0
  · simp (disch:=(first | omega | (simp only [JlE]; omega))) only [↓JlH,JlF,JlG,e1]
    have:(la.getD i 0 + 1) * 10 ^ (la.drop (i + 1)).length≤lb.getD i 0 * 10 ^ (la.drop (i + 1)).length:=Nat.mul_le_mul_right _ h1
    rw [Nat.succ_mul] at this
    rw [if_pos (by omega)]
  · by_cases h2:lb.getD i 0<la.getD i 0
    · simp (disch:=(first | omega | (simp only [JlE]; omega))) only [↓JlH,JlF,JlG,e1]
      have:(lb.getD i 0 + 1) * 10 ^ (la.drop (i + 1)).length≤la.getD i 0 * 10 ^ (la.drop (i + 1)).length:=Nat.mul_le_mul_right _ h2
      rw [Nat.succ_mul] at this
      rw [if_neg (by omega),if_pos (by omega)]
    · have h3:la.getD i 0=lb.getD i 0:=by omega
      simp (disch:=(first | omega | (simp only [JlE]; omega))) only [↓JlH,JlF,JlG,e1,ih]
      rw [h3]
      simp only [Nat.add_lt_add_iff_left]
theorem Usa (n a b:Nat) (ha:ll a<2 ^ 40) (hb:ll b<2 ^ 40) (hn:ll a<n) (k0:Int→Option R):UCM n (II a) (II b) k0=k0 (UfF a b):=by
 unfold UCM UrM
 rw [Uap,Uap,JjY]
 by_cases he:ll a=ll b
 · have e1:(ll a != ll b)=false:=by simp [he]
   have hlp:=UiP n (DL a) (DL b) (Uek a) (Uek b) (by rw [Uaa,Uaa,he]) (by rw [Uaa]; exact ha) (fun y=>k0 y) (k0 0) (ll a) n 0 (by rw [Uaa]; omega) hn
   rw [List.drop_zero,List.drop_zero,UfE,UfE] at hlp
   rw [e1,cond_false]
   unfold II
   rw [show ((0:Nat):Int)=0 from rfl] at hlp
   rw [hlp]
   unfold UfF
   split
   · rfl
   · split <;> rfl
 · have e1:(ll a != ll b)=true:=by simpa using he
   rw [e1,cond_true]
   unfold UfF
   by_cases hlt:ll a<ll b
   · have h2:=Ubh hT2 hlt
     rw [Jkf (by omega),if_pos h2]
   · have h2:=Ubh hT2 (x:=b) (y:=a) (by unfold ll at *; omega)
     rw [c_neg (by omega),if_neg (by omega),if_pos h2]
theorem Uld (n a i:Nat) (ha:ll a<2 ^ 40) (hi:i<2 ^ 40) (k0:Int→Option R):UCN n (II a) i k0=k0 (((toL 10 a).getD i 0:Nat):Int):=by
 unfold UCN II
 have hll:(toL 10 a).length=ll a:=rfl
 by_cases h:ll a≤i
 · rw [Ubm h]
   simp (disch:=(first | omega | (simp only [JlE]; omega))) only [↓JlH,JlF,JlG,Uaa]
   rfl
 · have hr:(DL a).getD (ll a - 1 - i) 0=(toL 10 a).getD i 0:=by
    unfold DL
    rw [List.getD_eq_getElem?_getD,List.getD_eq_getElem?_getD,List.getElem?_reverse (by omega)]
    congr 2
    omega
   have e1:((ll a:Int) - 1) - (i:Int)=((ll a - 1 - i:Nat):Int):=by omega
   have hg:∀ (K:Int→Option R),Jj .i64 ((nl .i64 (DL a)).getD (ll a - 1 - i) (PV.v (Value.bool false))) K=K (((toL 10 a).getD i 0:Nat):Int):=fun K=>by
    rw [Jhl (by rw [Uaa]; omega),hr]
   simp (disch:=(first | omega | (simp only [JlE]; omega))) only [↓JlH,JlF,JlG,Uaa,e1,hg]
theorem Une (n a b:Nat) (f:Int) (hf:f=1∨f=-1) (ha:ll a<2 ^ 30) (hb:ll b<2 ^ 30) (o:List Nat) (c:Int) (hc:-1≤c∧c≤1) (i:Nat) (hi:i<2 ^ 31) (ho:o.length=i) :
 ∃ (r:Nat) (c':Int),(∀ k0:List PV→List PV→Int→List PV→Int→Int→Option R,UaN n (II a) (II b) f (nl .i64 o.reverse) c i k0=k0 (II a) (II b) f (nl .i64 (o++[r]).reverse) c' ((i + 1:Nat):Int))∧r<10∧-1≤c'∧c'≤1 ∧
  (((toL 10 a).getD i 0:Nat):Int) + f * (((toL 10 b).getD i 0:Nat):Int) + c=(r:Int) + 10 * c':=by
 have hx:=Uab hT2 (UaK hT2 a) i
 have hy:=Uab hT2 (UaK hT2 b) i
 have d1:=fun k0=>Uld (R:=R) n a i (by omega) (by omega) k0
 have d2:=fun k0=>Uld (R:=R) n b i (by omega) (by omega) k0
 generalize (toL 10 a).getD i 0=x at *
 generalize (toL 10 b).getD i 0=y at *
 obtain ⟨v,hv⟩:∃ v:Int,v=(x:Int) + f * (y:Int) + c:=⟨_,rfl⟩
 have hv2:-11<v∧v<20:=by rcases hf with rfl | rfl <;> omega
 have e1:(i:Int) + 1=((i + 1:Nat):Int):=by omega
 have e2:∀ r:Nat,nl .i64 (o++[r]).reverse=nl .i64 [r]++nl .i64 o.reverse:=fun r=>by rw [List.reverse_append,←Jjc]; rfl
 have hol:o.reverse.length=i:=by rw [List.length_reverse,ho]
 by_cases h1:v<0
 · obtain ⟨r,hr⟩:∃ r:Nat,(r:Int)=v + 10:=⟨(v + 10).toNat,by omega⟩
   refine ⟨r,-1,fun k0=>?_,by omega,by omega,by omega,by omega⟩
   rw [e2]
   rcases hf with rfl | rfl
   · have e3:(x:Int) + 1 * (y:Int) + c + 10=(r:Int):=by omega
     simp only [UaN,UaS,UaT,Ubr,d1,d2]
     simp (disch:=(first | omega | (simp only [JlE]; omega))) only [↓JlH,JlF,JlG,e1,e3,hol,Jln]
   · have e3:(x:Int) + -1 * (y:Int) + c + 10=(r:Int):=by omega
     simp only [UaN,UaS,UaT,Ubr,d1,d2]
     simp (disch:=(first | omega | (simp only [JlE]; omega))) only [↓JlH,JlF,JlG,e1,e3,hol,Jln]
 · by_cases h2:v>9
   · obtain ⟨r,hr⟩:∃ r:Nat,(r:Int)=v - 10:=⟨(v - 10).toNat,by omega⟩
     refine ⟨r,1,fun k0=>?_,by omega,by omega,by omega,by omega⟩
     rw [e2]
     rcases hf with rfl | rfl
     · have e3:(x:Int) + 1 * (y:Int) + c - 10=(r:Int):=by omega
       simp only [UaN,UaS,UaT,Ubr,d1,d2]
       simp (disch:=(first | omega | (simp only [JlE]; omega))) only [↓JlH,JlF,JlG,e1,e3,hol,Jln]
     · have e3:(x:Int) + -1 * (y:Int) + c - 10=(r:Int):=by omega
       simp only [UaN,UaS,UaT,Ubr,d1,d2]
       simp (disch:=(first | omega | (simp only [JlE]; omega))) only [↓JlH,JlF,JlG,e1,e3,hol,Jln]
   · obtain ⟨r,hr⟩:∃ r:Nat,(r:Int)=v:=⟨v.toNat,by omega⟩
     refine ⟨r,0,fun k0=>?_,by omega,by omega,by omega,by omega⟩
     rw [e2]
     rcases hf with rfl | rfl
     · have e3:(x:Int) + 1 * (y:Int) + c=(r:Int):=by omega
       simp only [UaN,UaS,UaT,Ubr,d1,d2]
       simp (disch:=(first | omega | (simp only [JlE]; omega))) only [↓JlH,JlF,JlG,e1,e3,hol,Jln]
     · have e3:(x:Int) + -1 * (y:Int) + c=(r:Int):=by omega
       simp only [UaN,UaS,UaT,Ubr,d1,d2]
       simp (disch:=(first | omega | (simp only [JlE]; omega))) only [↓JlH,JlF,JlG,e1,e3,hol,Jln]
theorem Uf2 (n a b:Nat) (f:Int) (hf:f=1∨f=-1) (ha:ll a<2 ^ 30) (hb:ll b<2 ^ 30) (hab:0≤(a:Int) + f * (b:Int)) (K:Nat) (hK:K=max (ll a) (ll b)) :
 ∀ (m i:Nat) (o:List Nat) (c:Int),K + 2≤m + i→i≤K + 1→(i≤K∨c=0)→o.length=i→(∀ d∈o,d<10)→(-1≤c∧c≤1)→(val 10 o:Int) + (10 ^ i:Nat) * c=(val 10 ((toL 10 a).take i):Int) + f * (val 10 ((toL 10 b).take i):Int) →
  ∃ o':List Nat,(∀ k0:List PV→Option R,Ub7 n m (II a) (II b) f (nl .i64 o.reverse) c i k0=k0 (nl .i64 o'.reverse))∧(∀ d∈o',d<10)∧(val 10 o':Int)=(a:Int) + f * (b:Int)∧o'.length≤K + 1
 | 0,i,o,c,hm,hi,hic,ho,hd,hc,hv=>by omega
 | m + 1,i,o,c,hm,hi,hic,ho,hd,hc,hv=>by
  have go:(i<ll a∨i<ll b∨c≠0)→i≤K→(i=K→c=1) →
   ∃ o':List Nat,(∀ k0:List PV→Option R,UaN n (II a) (II b) f (nl .i64 o.reverse) c i (fun x1 x2 x3 x4 x5 x6=>Ub7 n m x1 x2 x3 x4 x5 x6 k0)=k0 (nl .i64 o'.reverse))∧(∀ d∈o',d<10)∧(val 10 o':Int)=(a:Int) + f * (b:Int)∧o'.length≤K + 1:=by
   intro _ hiK hc1
   obtain ⟨r,c',s1,s2,s3,s4,s5⟩:=Une (R:=R) n a b f hf ha hb o c hc i (by omega) ho
   have hcK:i + 1≤K∨c'=0:=by
    by_cases h:i=K
    · right
      have:=hc1 h
      rw [Ubm (by unfold ll at *; omega),Ubm (by unfold ll at *; omega)] at s5
      simp at s5
      omega
    · left; omega
   obtain ⟨o',q1,q2,q3,q4⟩:=Uf2 n a b f hf ha hb hab K hK m (i + 1) (o++[r]) c' (by omega) (by omega) hcK (by rw [List.length_append,ho]; rfl) (by
    intro d h
    rcases List.mem_append.1 h with h | h
    · exact hd d h
    · rw [List.mem_singleton.1 h]; exact s2) ⟨s3,s4⟩ (by
      rw [Ua7,ho,Uak,Uak,Nat.pow_succ]
      generalize (toL 10 a).getD i 0=x at *
      generalize (toL 10 b).getD i 0=y at *
      generalize val 10 ((toL 10 a).take i)=A at *
      generalize val 10 ((toL 10 b).take i)=B at *
      generalize val 10 o=O at *
      generalize 10 ^ i=P at *
      push_cast
      have:(P:Int) * ((x:Int) + f * (y:Int) + c)=(P:Int) * ((r:Int) + 10 * c'):=by rw [s5]
      clear s1 hf hab
      grind)
   exact ⟨o',fun k0=>by rw [s1,q1],q2,q3,q4⟩
  simp only [Ub7,Uhl]
  have hA:i<ll a∨¬ i<ll a:=Decidable.em _
  have hB:i<ll b∨¬ i<ll b:=Decidable.em _
  rcases hA with hA | hA
  · have g1:i≤K:=by clear go; omega
    have g2:i=K→c=1:=by clear go; omega
    obtain ⟨o',q1,q2⟩:=go (Or.inl hA) g1 g2
    refine ⟨o',fun k0=>?_,q2⟩
    rw [←q1 k0]
    simp (disch:=(first | omega | (simp only [JlE]; omega))) only [↓JlH,JlF,JlG,Uap]
  rcases hB with hB | hB
  · have g1:i≤K:=by clear go; omega
    have g2:i=K→c=1:=by clear go; omega
    obtain ⟨o',q1,q2⟩:=go (Or.inr (Or.inl hB)) g1 g2
    refine ⟨o',fun k0=>?_,q2⟩
    rw [←q1 k0]
    simp (disch:=(first | omega | (simp only [JlE]; omega))) only [↓JlH,JlF,JlG,Uap]
  rw [List.take_of_length_le (by unfold ll at *; omega),List.take_of_length_le (by unfold ll at *; omega),Uan hT2,Uan hT2] at hv
  have hol:=Uej hT2 o hd
  rw [ho] at hol
  by_cases h0:c=0
  · subst h0
    rw [Int.mul_zero,Int.add_zero] at hv
    refine ⟨o,fun k0=>?_,hd,hv,by omega⟩
    have e:((0:Int) != 0)=false:=rfl
    simp (disch:=(first | omega | (simp only [JlE]; omega))) only [↓JlH,JlF,JlG,Uap,e]
  · have h1:c=1:=by
     by_cases h:c=-1
     · exfalso
       subst h
       generalize 10 ^ i=P at *
       omega
     · omega
    have g1:i≤K:=by clear go; omega
    obtain ⟨o',q1,q2⟩:=go (Or.inr (Or.inr h0)) g1 (fun _=>h1)
    refine ⟨o',fun k0=>?_,q2⟩
    rw [←q1 k0]
    have e:(c != 0)=true:=by simpa using h0
    simp (disch:=(first | omega | (simp only [JlE]; omega))) only [↓JlH,JlF,JlG,Uap,e]
theorem UeV (n a b:Nat) (f:Int) (hf:f=1∨f=-1) (ha:ll a<2 ^ 30) (hb:ll b<2 ^ 30) (hab:0≤(a:Int) + f * (b:Int)) (hn:max (ll a) (ll b) + 2≤n) :
 ∃ l:List Nat,(∀ k0:List PV→Option R,Uyw n (II a) (II b) f k0=k0 (nl .i64 l))∧(∀ d∈l,d<10)∧(vb l:Int)=(a:Int) + f * (b:Int)∧l.length≤max (ll a) (ll b) + 1:=by
 obtain ⟨o',q1,q2,q3,q4⟩:=Uf2 (R:=R) n a b f hf ha hb hab _ rfl n 0 [] 0 (by omega) (by omega) (by omega) rfl (by intro d h; cases h) (by omega) (by simp [val])
 refine ⟨o'.reverse,fun k0=>?_,fun d h=>q2 d (List.mem_reverse.1 h),by unfold vb; rw [List.reverse_reverse]; exact q3,by rw [List.length_reverse]; exact q4⟩
 unfold Uyw UrL
 exact q1 _
abbrev sg (z:Int):Bool:=decide (z<0)
theorem Us (n:Nat) (x y:Int) (hx:ll x.natAbs≤50000) (hy:ll y.natAbs≤50000) (hn:200000≤n) (k0:Bool→List PV→Option R) :
 UCJ n (sg x) (II x.natAbs) (sg y) (II y.natAbs) k0=k0 (sg (x + y)) (II (x + y).natAbs):=by
 unfold UCJ
 by_cases hs:sg x=sg y
 · obtain ⟨l,q1,q2,q3,q4⟩:=UeV (R:=R) n x.natAbs y.natAbs 1 (Or.inl rfl) (by omega) (by omega) (by omega) (by omega)
   have e1:(sg x == sg y)=true:=by simpa using hs
   have e2:vb l=(x + y).natAbs:=by
    have:x<0↔y<0:=by simpa [sg] using hs
    omega
   have e3:(sg x&&!((x + y).natAbs == 0))=sg (x + y):=by
    have:x<0↔y<0:=by simpa [sg] using hs
    rw [Bool.eq_iff_iff]
    simp only [sg,Bool.and_eq_true,decide_eq_true_eq,Bool.not_eq_true',beq_eq_false_iff_ne]
    omega
   rw [e1,cond_true,q1,Uay n _ l q2 (by omega) (by omega),e2,e3]
 · have e1:(sg x == sg y)=false:=by simpa using hs
   have hxy:¬ (x<0↔y<0):=by simpa [sg] using hs
   rw [e1,cond_false,Usa n _ _ (by omega) (by omega) (by omega)]
   by_cases hlt:x.natAbs<y.natAbs
   · obtain ⟨l,q1,q2,q3,q4⟩:=UeV (R:=R) n y.natAbs x.natAbs (-1) (Or.inr rfl) (by omega) (by omega) (by omega) (by omega)
     have e2:vb l=(x + y).natAbs:=by omega
     have e3:(sg y&&!((x + y).natAbs == 0))=sg (x + y):=by
      rw [Bool.eq_iff_iff]
      simp only [sg,Bool.and_eq_true,decide_eq_true_eq,Bool.not_eq_true',beq_eq_false_iff_ne]
      omega
     have e4:UfF x.natAbs y.natAbs=-1:=by unfold UfF; rw [if_pos hlt]
     rw [e4,Jkf (by omega),q1,Uay n _ l q2 (by omega) (by omega),e2,e3]
   · obtain ⟨l,q1,q2,q3,q4⟩:=UeV (R:=R) n x.natAbs y.natAbs (-1) (Or.inr rfl) (by omega) (by omega) (by omega) (by omega)
     have e2:vb l=(x + y).natAbs:=by omega
     have e3:(sg x&&!((x + y).natAbs == 0))=sg (x + y):=by
      rw [Bool.eq_iff_iff]
      simp only [sg,Bool.and_eq_true,decide_eq_true_eq,Bool.not_eq_true',beq_eq_false_iff_ne]
      omega
     have e4:¬ UfF x.natAbs y.natAbs<0:=by unfold UfF; rw [if_neg hlt]; split <;> omega
     rw [c_neg e4,q1,Uay n _ l q2 (by omega) (by omega),e2,e3]
theorem UhT (n:Nat) (x:Int) (hx:ll x.natAbs≤50000) (hn:200000≤n) (k0:Bool→List PV→Option R):p90 n (sg x) (II x.natAbs) k0=k0 (sg (-x)) (II (-x).natAbs):=by
 unfold p90 II
 rw [Uay n _ _ (Uek _) (by rw [Uaa]; omega) (by rw [Uaa]; omega),UfE,Int.natAbs_neg]
 have e3:(!(sg x)&&!(x.natAbs == 0))=sg (-x):=by
  rw [Bool.eq_iff_iff]
  simp only [sg,Bool.and_eq_true,decide_eq_true_eq,Bool.not_eq_true',beq_eq_false_iff_ne,decide_eq_false_iff_not]
  omega
 rw [e3]; rfl
theorem Ukd (n:Nat) (x y:Int) (hx:ll x.natAbs≤50000) (hy:ll y.natAbs≤50000) (hn:200000≤n) (k0:Bool→List PV→Option R) :
 Uyu n (sg x) (II x.natAbs) (sg y) (II y.natAbs) k0=k0 (sg (x - y)) (II (x - y).natAbs):=by
 unfold Uyu
 rw [UhT n y hy hn,Us n x (-y) hx (by rw [Int.natAbs_neg]; exact hy) hn,Int.sub_eq_add_neg]
def UzT (x y:Int):Int:=if x<y then -1 else if x=y then 0 else 1
theorem UtN (n:Nat) (x y:Int) (hx:ll x.natAbs≤50000) (hy:ll y.natAbs≤50000) (hn:200000≤n) (k0:Int→Option R) :
 p88 n (sg x) (II x.natAbs) (sg y) (II y.natAbs) k0=k0 (UzT x y):=by
 unfold p88 UzT
 rw [Ukd n x y hx hy hn,Uap,Jk0]
 by_cases h:x=y
 · have e:(ll (x - y).natAbs == 0)=true:=by simp only [beq_iff_eq,UcT]; omega
   rw [e,if_neg (by omega),if_pos h]; rfl
 · have e:(ll (x - y).natAbs == 0)=false:=by simp only [beq_eq_false_iff_ne,ne_eq,UcT]; omega
   rw [e,cond_false]
   by_cases h2:x<y
   · have e2:sg (x - y)=true:=by simp [sg]; omega
     rw [e2,if_pos h2]; rfl
   · have e2:sg (x - y)=false:=by simp [sg]; omega
     rw [e2,if_neg h2,if_neg h]; rfl
end Go.Proofs.YtmgfmlhdnadglaaGreatDoor
set_option linter.unusedVariables false
set_option maxRecDepth 100000
namespace Go.Proofs.YtmgfmlhdnadglaaGreatDoor
open Go Th Go.Proofs
noncomputable section
variable {R:Type}
def Udh:Ann:={ loops:=[(3,ids [2,3,4,5,6],ids [2,3,4,5]),(6,ids [2,3,4,5,6,7],ids [2,3,4,5,6]),(12,ids [2,3,4,5,6,7,8,9],ids [2,3,4,5,6,7])],cuts:=[],frz:=[],rm:=[.id] }
abbrev UxY (n:Nat):Env:=eC 122 (UiB n) eN
theorem Up1 (n:Nat):EnvOK Tryz.prog GI (UxY n):=.cons (.nil) (UjN n)
def UeS (n:Nat) (l0:Bool→LP→Bool→LP→Bool→LP→Int→Int→Int→Int→O R) (x1:Bool) (x2:LP) (x3:Bool) (x4:LP) (x5:Bool) (x6:LP) (x7 x8 x9 x10:Int) (k0:Bool→LP→Bool→LP→Bool→LP→Int→Int→O R):O R :=
 bif (decide (x10>0)) then (bif (inR (IntKind.i64.wrap (x9 - 1)) ((x6).length)) then (Jj .i64 ((x6).getD ((IntKind.i64.wrap (x9 - 1):Int).toNat) (.v (.bool false))) fun e11=>bif decide (10=0) then none else (let v12:=Int.tmod (IntKind.i64.wrap (x10 + e11)) 10; bif (inR (IntKind.i64.wrap (x9 - 1)) ((x6).length)) then (Jj .i64 ((x6).getD ((IntKind.i64.wrap (x9 - 1):Int).toNat) (.v (.bool false))) fun e13=>bif decide (10=0) then none else (let v14:=IntKind.i64.wrap (Int.tdiv (IntKind.i64.wrap (x10 + e11)) 10); l0 x1 x2 x3 x4 x5 ((x6).set ((IntKind.i64.wrap (x9 - 1):Int).toNat) (.v (.int .i64 v12))) x7 x8 (IntKind.i64.wrap (x9 - 1)) v14)) else none)) else none) else (k0 x1 x2 x3 x4 x5 x6 x7 x8)
def Ucd (n:Nat):Nat→Bool→LP→Bool→LP→Bool→LP→Int→Int→Int→Int→(Bool→LP→Bool→LP→Bool→LP→Int→Int→O R)→O R
 | 0,_,_,_,_,_,_,_,_,_,_,_=>none
 | m + 1,x1,x2,x3,x4,x5,x6,x7,x8,x9,x10,k0=>UeS n (fun x1 x2 x3 x4 x5 x6 x7 x8 x9 x10=>Ucd n m x1 x2 x3 x4 x5 x6 x7 x8 x9 x10 k0) x1 x2 x3 x4 x5 x6 x7 x8 x9 x10 k0
def Ur2 (n:Nat) (x1:Bool) (x2:LP) (x3:Bool) (x4:LP) (x5:Bool) (x6:LP) (x7 x8 x9 x10:Int) (k0:Bool→LP→Bool→LP→Bool→LP→Int→Int→O R):O R:=Ucd n n x1 x2 x3 x4 x5 x6 x7 x8 x9 x10 k0
def UhM (n:Nat) (l0:Bool→LP→Bool→LP→Bool→LP→Int→Int→O R) (x1:Bool) (x2:LP) (x3:Bool) (x4:LP) (x5:Bool) (x6:LP) (x7 x8:Int) (k0:Bool→LP→Bool→LP→Bool→LP→Int→O R):O R :=
 bif (decide (x8≥0)) then (let v9:=IntKind.i64.wrap ((IntKind.i64.wrap (x7 + x8)) + 1); bif (inR v9 ((x6).length)) then (Jj .i64 ((x6).getD ((v9:Int).toNat) (.v (.bool false))) fun e10=>bif (inR x7 ((x2).length)) then (Jj .i64 ((x2).getD ((x7:Int).toNat) (.v (.bool false))) fun e11=>bif (inR x8 ((x4).length)) then (Jj .i64 ((x4).getD ((x8:Int).toNat) (.v (.bool false))) fun e12=>let v13:=IntKind.i64.wrap (e10 + (IntKind.i64.wrap (e11 * e12))); bif decide (10=0) then none else (bif (inR v9 ((x6).length)) then (Jj .i64 ((x6).getD ((v9:Int).toNat) (.v (.bool false))) fun e14=>bif decide (10=0) then none else (Ur2 n x1 x2 x3 x4 x5 ((x6).set ((v9:Int).toNat) (.v (.int .i64 (Int.tmod v13 10)))) x7 x8 v9 (IntKind.i64.wrap (Int.tdiv v13 10)) (fun y15 y16 y17 y18 y19 y20 y21 y22=>l0 y15 y16 y17 y18 y19 y20 y21 (IntKind.i64.wrap (y22 - 1))))) else none)) else none) else none) else none) else (k0 x1 x2 x3 x4 x5 x6 x7)
def UdJ (n:Nat):Nat→Bool→LP→Bool→LP→Bool→LP→Int→Int→(Bool→LP→Bool→LP→Bool→LP→Int→O R)→O R
 | 0,_,_,_,_,_,_,_,_,_=>none
 | m + 1,x1,x2,x3,x4,x5,x6,x7,x8,k0=>UhM n (fun x1 x2 x3 x4 x5 x6 x7 x8=>UdJ n m x1 x2 x3 x4 x5 x6 x7 x8 k0) x1 x2 x3 x4 x5 x6 x7 x8 k0
def UvV (n:Nat) (x1:Bool) (x2:LP) (x3:Bool) (x4:LP) (x5:Bool) (x6:LP) (x7 x8:Int) (k0:Bool→LP→Bool→LP→Bool→LP→Int→O R):O R:=UdJ n n x1 x2 x3 x4 x5 x6 x7 x8 k0
def UhL (n:Nat) (l0:Bool→LP→Bool→LP→Bool→LP→Int→O R) (x1:Bool) (x2:LP) (x3:Bool) (x4:LP) (x5:Bool) (x6:LP) (x7:Int) (k0:Bool→LP→Bool→LP→Bool→LP→O R):O R :=
 bif (decide (x7≥0)) then (let v8:=IntKind.i64.wrap (((x4).length:Int) - 1); UvV n x1 x2 x3 x4 x5 x6 x7 v8 (fun y9 y10 y11 y12 y13 y14 y15=>l0 y9 y10 y11 y12 y13 y14 (IntKind.i64.wrap (y15 - 1)))) else (k0 x1 x2 x3 x4 x5 x6)
def UdI (n:Nat):Nat→Bool→LP→Bool→LP→Bool→LP→Int→(Bool→LP→Bool→LP→Bool→LP→O R)→O R
 | 0,_,_,_,_,_,_,_,_=>none
 | m + 1,x1,x2,x3,x4,x5,x6,x7,k0=>UhL n (fun x1 x2 x3 x4 x5 x6 x7=>UdI n m x1 x2 x3 x4 x5 x6 x7 k0) x1 x2 x3 x4 x5 x6 x7 k0
def UvU (n:Nat) (x1:Bool) (x2:LP) (x3:Bool) (x4:LP) (x5:Bool) (x6:LP) (x7:Int) (k0:Bool→LP→Bool→LP→Bool→LP→O R):O R:=UdI n n x1 x2 x3 x4 x5 x6 x7 k0
def p89 (n:Nat) (x1:Bool) (x2:LP) (x3:Bool) (x4:LP) (k0:Bool→LP→O R):O R :=
 let v5:=IntKind.i64.wrap (((x2).length:Int) + ((x4).length:Int)); bif (decide ((0:Int)≤v5)&&decide ((v5:Int)≤v5)&&Jbu (v5:Int).toNat 8) then (let v6:=IntKind.i64.wrap (((x2).length:Int) - 1); UvU n x1 x2 x3 x4 false (List.replicate (v5:Int).toNat (.v (.int .i64 0):PV)) v6 (fun y7 y8 y9 y10 y11 y12=>Umx n (!(y7 == y9)) y12 (fun y13 y14=>k0 y13 y14))) else none
abbrev E89 (n:Nat):Code→Fr→Kc R→O R:=evC Tryz.prog (UxY n) Udh n (85,[])
noncomputable def UuD:Code:=Jj4 (Jll Tryz.f89) [1,1,0,1,0,0]
abbrev Ugw:Sl (List SV):=(.c (sBx 55 (cB (cH .n))) (.c (sBx 55 (cB (cH .n))) (.c (sBx 55 (cB (.c sNl .n))) (cO 3 (cI .n)))))
abbrev Uq5 (n m:Nat) (K:Kc R):Ugw.T (O R):=fun x1 x2 x3 x4 x5 x6 x7=>UdI n m x1 x2 x3 x4 x5 x6 x7 (fun y1 y2 y3 y4 y5 y6=>xL Udh 3 K (.exit 0) [.bx 55 [vB y1,vH y2],.bx 55 [vB y3,vH y4],.bx 55 [vB y5,.nl],.own 3 y6])
abbrev UAC (n:Nat) (K:Kc R) (l0:Ugw.T (O R)):Ugw.T (O R):=fun x1 x2 x3 x4 x5 x6 x7=>UhL n l0 x1 x2 x3 x4 x5 x6 x7 (fun y1 y2 y3 y4 y5 y6=>xL Udh 3 K (.exit 0) [.bx 55 [vB y1,vH y2],.bx 55 [vB y3,vH y4],.bx 55 [vB y5,.nl],.own 3 y6])
noncomputable def UuE:Code:=Jj4 (Jll Tryz.f89) [1,1,0,1,0,0,1,0,0,1,0,0]
abbrev Ugx:Sl (List SV):=(.c (sBx 55 (cB (cH .n))) (.c (sBx 55 (cB (cH .n))) (.c (sBx 55 (cB (.c sNl .n))) (cO 3 (cI (cI .n))))))
abbrev Uq6 (n m:Nat) (K:Kc R):Ugx.T (O R):=fun x1 x2 x3 x4 x5 x6 x7 x8=>UdJ n m x1 x2 x3 x4 x5 x6 x7 x8 (fun y1 y2 y3 y4 y5 y6 y7=>xL Udh 6 K (.exit 2) [.bx 55 [vB y1,vH y2],.bx 55 [vB y3,vH y4],.bx 55 [vB y5,.nl],.own 3 y6,vI y7])
abbrev UAD (n:Nat) (K:Kc R) (l0:Ugx.T (O R)):Ugx.T (O R):=fun x1 x2 x3 x4 x5 x6 x7 x8=>UhM n l0 x1 x2 x3 x4 x5 x6 x7 x8 (fun y1 y2 y3 y4 y5 y6 y7=>xL Udh 6 K (.exit 2) [.bx 55 [vB y1,vH y2],.bx 55 [vB y3,vH y4],.bx 55 [vB y5,.nl],.own 3 y6,vI y7])
noncomputable def Uou:Code:=Jj4 (Jll Tryz.f89) [1,1,0,1,0,0,1,0,0,1,0,0,1,0,0,1,1,1,1,0,0]
abbrev Uec:Sl (List SV):=(.c (sBx 55 (cB (cH .n))) (.c (sBx 55 (cB (cH .n))) (.c (sBx 55 (cB (.c sNl .n))) (cO 3 (cI (cI (cI (cI .n))))))))
abbrev UjJ (n m:Nat) (K:Kc R):Uec.T (O R):=fun x1 x2 x3 x4 x5 x6 x7 x8 x9 x10=>Ucd n m x1 x2 x3 x4 x5 x6 x7 x8 x9 x10 (fun y1 y2 y3 y4 y5 y6 y7 y8=>xL Udh 12 K (.exit 4) [.bx 55 [vB y1,vH y2],.bx 55 [vB y3,vH y4],.bx 55 [vB y5,.nl],.own 3 y6,vI y7,vI y8])
abbrev Uxe (n:Nat) (K:Kc R) (l0:Uec.T (O R)):Uec.T (O R):=fun x1 x2 x3 x4 x5 x6 x7 x8 x9 x10=>UeS n l0 x1 x2 x3 x4 x5 x6 x7 x8 x9 x10 (fun y1 y2 y3 y4 y5 y6 y7 y8=>xL Udh 12 K (.exit 4) [.bx 55 [vB y1,vH y2],.bx 55 [vB y3,vH y4],.bx 55 [vB y5,.nl],.own 3 y6,vI y7,vI y8])
abbrev UEA (n:Nat):Orc R:=oL Udh (E89 n) n 12 Uou Uec (UjJ n n) (oL Udh (E89 n) n 6 UuE Ugx (Uq6 n n) (oL Udh (E89 n) n 3 UuD Ugw (Uq5 n n) oN))
abbrev UEm (n:Nat):Orc R:=oN
abbrev K89 (R:Type) (n:Nat):=JcH (R:=R) Tryz.prog (UxY n) Udh n (85,[]) (UEA n) (UEm n)
theorem Uzr (n:Nat):K89 R n (false,12,Uou):=JkF (lo:=UEA n) (cu:=UEm n) (pO pN (by kernel_rfl)) Uec (UjJ n n) (JiE (F:=UjJ n) Uec (Uxe n) (fun K _ _ _ _ _ _ _ _ _ _=>rfl) (fun _ _=>rfl) (fun L K _ _ _ _ _ _ _ _ _ _=>by show _=_; kernel_rfl) n) fun _ _=>rfl
theorem UDJ (n:Nat):K89 R n (false,6,UuE):=JkF (lo:=UEA n) (cu:=UEm n) (pO (pC (Uzr n) pN) (by kernel_rfl)) Ugx (Uq6 n n) (JiE (F:=Uq6 n) Ugx (UAD n) (fun K _ _ _ _ _ _ _ _=>rfl) (fun _ _=>rfl) (fun L K _ _ _ _ _ _ _ _=>by show _=_; kernel_rfl) n) fun _ _=>rfl
theorem UDI (n:Nat):K89 R n (false,3,UuD):=JkF (lo:=UEA n) (cu:=UEm n) (pO (pC (UDJ n) pN) (by kernel_rfl)) Ugw (Uq5 n n) (JiE (F:=Uq5 n) Ugw (UAC n) (fun K _ _ _ _ _ _ _=>rfl) (fun _ _=>rfl) (fun L K _ _ _ _ _ _ _=>by show _=_; kernel_rfl) n) fun _ _=>rfl
theorem UNz (n:Nat):Je6 (K89 R n) (JaJ Udh (Jll Tryz.f89)):=pO (pC (UDI n) pN) (by kernel_rfl)
abbrev t89:Sl (List SV):=(.c (sP (JlI (.c Jlf (.c sSh .n)))) (.c (sP (JlI (.c Jlf (.c sSh .n)))) .n))
abbrev f89 (n:Nat) (K:List SV→O R):t89.T (O R):=fun x1 x2 x3 x4=>p89 n x1 x2 x3 x4 (fun y1 y2=>K [.p (.agg [.v (.bool y1),.sh y2])])
abbrev UEu (n:Nat):FS:=fT [false,false] t89 (f89 n)
theorem UGI (n:Nat):FSound Tryz.prog GI 89 (UEu n):=gd Udh n (Up1 n) Tryz.func89 (.cons (Up1 n) t89 (f89 n) (fun K _ _ _ _=>(Jkq (c:=Jll Tryz.f89) (by kernel_rfl) (UNz n) K).trans (by kernel_rfl)) .nil) (by kernel_rfl)
def UcM:Ann:={ loops:=[(3,[(0,.id),(2,.id),(3,.id),(4,.own 3)],ids [2,3,4])],cuts:=[(7,ids [0,2,3,4,5],ids [0,2,3,4])],frz:=[],rm:=[.id] }
abbrev Uo0 (n:Nat):Env:=eC 122 (UiB n) eN
theorem UlT (n:Nat):EnvOK Tryz.prog GI (Uo0 n):=.cons (.nil) (UjN n)
def UjT (n:Nat) (x1:Int) (x2 x3:Bool) (x4:LP) (x5:Int) (k0:Int→Bool→Bool→LP→O R):O R :=
 bif (Jbu (1 + (x4).length) 8) then (bif decide (10=0) then none else (k0 (IntKind.i64.wrap (Int.tdiv x1 10)) x2 x3 (([.v (.int .i64 x5)]:LP)++x4))) else none
def Umz (n:Nat) (l0:Int→Bool→Bool→LP→O R) (x1:Int) (x2 x3:Bool) (x4:LP) (k0:Bool→Bool→LP→O R):O R :=
 bif (x1 != 0) then (bif decide (10=0) then none else (bif (decide (Int.tmod x1 10<0)) then (let v5:=IntKind.i64.wrap (0 - (Int.tmod x1 10)); UjT n x1 x2 x3 x4 v5 (fun y6 y7 y8 y9=>l0 y6 y7 y8 y9)) else (UjT n x1 x2 x3 x4 (Int.tmod x1 10) (fun y10 y11 y12 y13=>l0 y10 y11 y12 y13)))) else (k0 x2 x3 x4)
def Uhm (n:Nat):Nat→Int→Bool→Bool→LP→(Bool→Bool→LP→O R)→O R
 | 0,_,_,_,_,_=>none
 | m + 1,x1,x2,x3,x4,k0=>Umz n (fun x1 x2 x3 x4=>Uhm n m x1 x2 x3 x4 k0) x1 x2 x3 x4 k0
def Uyx (n:Nat) (x1:Int) (x2 x3:Bool) (x4:LP) (k0:Bool→Bool→LP→O R):O R:=Uhm n n x1 x2 x3 x4 k0
def UGQ (n:Nat) (x1:Int) (k0:Bool→LP→O R):O R :=
 Uyx n x1 false (decide (x1<0)) [] (fun y2 y3 y4=>Umx n y3 y4 (fun y5 y6=>k0 y5 y6))
abbrev UId (n:Nat):Code→Fr→Kc R→O R:=evC Tryz.prog (Uo0 n) UcM n (25,[])
noncomputable def Uoe:Code:=Jj4 (Jll Tryz.f171) [1,1,1,0,0,0,1,0,1,1]
abbrev Uku:Sl (List SV):=(cI (.c (sBx 55 (cB (.c sNl .n))) (cB (cO 3 (cI .n)))))
abbrev Uqs (n:Nat) (K:Kc R):Uku.T (O R):=fun x1 x2 x3 x4 x5=>UjT n x1 x2 x3 x4 x5 (fun y1 y2 y3 y4=>xC UcM 7 K .normal [vI y1,.bx 55 [vB y2,.nl],vB y3,.own 3 y4])
noncomputable def Uof:Code:=Jj4 (Jll Tryz.f171) [1,1,1,0,0,0]
abbrev Ud7:Sl (List SV):=(cI (.c (sBx 55 (cB (.c sNl .n))) (cB (cO 3 .n))))
abbrev UjD (n m:Nat) (K:Kc R):Ud7.T (O R):=fun x1 x2 x3 x4=>Uhm n m x1 x2 x3 x4 (fun y1 y2 y3=>xL UcM 3 K (.exit 0) [.bx 55 [vB y1,.nl],vB y2,.own 3 y3])
abbrev Uw4 (n:Nat) (K:Kc R) (l0:Ud7.T (O R)):Ud7.T (O R):=fun x1 x2 x3 x4=>Umz n l0 x1 x2 x3 x4 (fun y1 y2 y3=>xL UcM 3 K (.exit 0) [.bx 55 [vB y1,.nl],vB y2,.own 3 y3])
abbrev Uyo (n:Nat):Orc R:=oL UcM (UId n) n 3 Uof Ud7 (UjD n n) oN
abbrev Uxn (n:Nat):Orc R:=oC UcM (UId n) 7 Uoe Uku (Uqs n) oN
abbrev UEU (R:Type) (n:Nat):=JcH (R:=R) Tryz.prog (Uo0 n) UcM n (25,[]) (Uyo n) (Uxn n)
theorem Uzb (n:Nat):UEU R n (true,7,Uoe):=JkW (lo:=Uyo n) (cu:=Uxn n) (pO pN (by kernel_rfl)) Uku (Uqs n) (fun K _ _ _ _ _=>by show _=_; kernel_rfl) fun _ _=>rfl
theorem Uzc (n:Nat):UEU R n (false,3,Uof):=JkF (lo:=Uyo n) (cu:=Uxn n) (pO (pC (Uzb n) pN) (by kernel_rfl)) Ud7 (UjD n n) (JiE (F:=UjD n) Ud7 (Uw4 n) (fun K _ _ _ _=>rfl) (fun _ _=>rfl) (fun L K _ _ _ _=>by show _=_; kernel_rfl) n) fun _ _=>rfl
theorem UHq (n:Nat):Je6 (UEU R n) (JaJ UcM (Jll Tryz.f171)):=pO (pC (Uzc n) pN) (by kernel_rfl)
abbrev t171:Sl (List SV):=(cI .n)
abbrev f171 (n:Nat) (K:List SV→O R):t171.T (O R):=fun x1=>UGQ n x1 (fun y1 y2=>K [.p (.agg [.v (.bool y1),.sh y2])])
abbrev UCb (n:Nat):FS:=fT [false] t171 (f171 n)
theorem UGy (n:Nat):FSound Tryz.prog GI 171 (UCb n):=gd UcM n (UlT n) Tryz.func171 (.cons (UlT n) t171 (f171 n) (fun K _=>(Jkq (c:=Jll Tryz.f171) (by kernel_rfl) (UHq n) K).trans (by kernel_rfl)) .nil) (by kernel_rfl)
def UbB:Ann:={ loops:=[(4,[(2,.id),(3,.id),(4,.id),(5,.id),(6,.id),(7,.own 3),(8,.id)],ids [2,3,4,5,6,7]),(10,ids [2,3,4,5,6,7,8,10],ids [2,3,4,5,6,7,8,10])],cuts:=[(17,ids [2,3,4,5,11],ids [4,5])],frz:=[],rm:=[.id,.id] }
abbrev UoX (n:Nat):Env:=eC 171 (UCb n) (eC 147 (Uyb n) (eC 146 (Uya n) (eC 122 (UiB n) (eC 121 (Ux7 n) (eC 89 (UEu n) eN)))))
theorem UlP (n:Nat):EnvOK Tryz.prog GI (UoX n):=.cons (.cons (.cons (.cons (.cons (.cons (.nil) (UGI n)) (UCx n)) (UjN n)) (UCB n)) (UCC n)) (UGy n)
def Ufl (n:Nat) (l0:Bool→LP→Bool→LP→Bool→Bool→Bool→LP→LP→Int→Int→O R) (x1:Bool) (x2:LP) (x3:Bool) (x4:LP) (x5 x6 x7:Bool) (x8 x9:LP) (x10 x11:Int) (k0:Bool→LP→Bool→LP→Bool→Bool→Bool→LP→LP→Int→Int→O R):O R :=
 UCM n x8 x4 (fun y12=>bif (decide (y12≥0)) then (Uyw n x8 x4 (-1) (fun y13=>Umx n false y13 (fun y14 y15=>l0 x1 x2 x3 x4 x5 x6 y14 y15 x9 x10 (IntKind.i64.wrap (x11 + 1))))) else (k0 x1 x2 x3 x4 x5 x6 x7 x8 x9 x10 x11))
def UbN (n:Nat):Nat→Bool→LP→Bool→LP→Bool→Bool→Bool→LP→LP→Int→Int→(Bool→LP→Bool→LP→Bool→Bool→Bool→LP→LP→Int→Int→O R)→O R
 | 0,_,_,_,_,_,_,_,_,_,_,_,_=>none
 | m + 1,x1,x2,x3,x4,x5,x6,x7,x8,x9,x10,x11,k0=>Ufl n (fun x1 x2 x3 x4 x5 x6 x7 x8 x9 x10 x11=>UbN n m x1 x2 x3 x4 x5 x6 x7 x8 x9 x10 x11 k0) x1 x2 x3 x4 x5 x6 x7 x8 x9 x10 x11 k0
def Umy (n:Nat) (x1:Bool) (x2:LP) (x3:Bool) (x4:LP) (x5 x6 x7:Bool) (x8 x9:LP) (x10 x11:Int) (k0:Bool→LP→Bool→LP→Bool→Bool→Bool→LP→LP→Int→Int→O R):O R:=UbN n n x1 x2 x3 x4 x5 x6 x7 x8 x9 x10 x11 k0
def UeM (n:Nat) (l0:Bool→LP→Bool→LP→Bool→Bool→Bool→LP→LP→Int→O R) (x1:Bool) (x2:LP) (x3:Bool) (x4:LP) (x5 x6 x7:Bool) (x8 x9:LP) (x10:Int) (k0:Bool→LP→Bool→LP→Bool→Bool→Bool→LP→LP→O R):O R :=
 bif (decide (x10<((x2).length:Int))) then (bif (Jgx 1 x8&&Jbu ((x8).length) 8) then (bif (inR x10 ((x2).length)) then (Jj .i64 ((x2).getD ((x10:Int).toNat) (.v (.bool false))) fun e11=>bif (Jbu ((x8).length + 1) 8) then (Umx n false (x8++([.v (.int .i64 e11)]:LP)) (fun y12 y13=>Umy n x1 x2 x3 x4 x5 x6 y12 y13 x9 x10 0 (fun y14 y15 y16 y17 y18 y19 y20 y21 y22 y23 y24=>bif (Jbu ((y22).length + 1) 8) then (l0 y14 y15 y16 y17 y18 y19 y20 y21 (y22++([.v (.int .i64 y24)]:LP)) (IntKind.i64.wrap (y23 + 1))) else none))) else none) else none) else none) else (k0 x1 x2 x3 x4 x5 x6 x7 x8 x9)
def Ubq (n:Nat):Nat→Bool→LP→Bool→LP→Bool→Bool→Bool→LP→LP→Int→(Bool→LP→Bool→LP→Bool→Bool→Bool→LP→LP→O R)→O R
 | 0,_,_,_,_,_,_,_,_,_,_,_=>none
 | m + 1,x1,x2,x3,x4,x5,x6,x7,x8,x9,x10,k0=>UeM n (fun x1 x2 x3 x4 x5 x6 x7 x8 x9 x10=>Ubq n m x1 x2 x3 x4 x5 x6 x7 x8 x9 x10 k0) x1 x2 x3 x4 x5 x6 x7 x8 x9 x10 k0
def UrK (n:Nat) (x1:Bool) (x2:LP) (x3:Bool) (x4:LP) (x5 x6 x7:Bool) (x8 x9:LP) (x10:Int) (k0:Bool→LP→Bool→LP→Bool→Bool→Bool→LP→LP→O R):O R:=Ubq n n x1 x2 x3 x4 x5 x6 x7 x8 x9 x10 k0
def Ub6 (n:Nat) (x1:Bool) (x2:LP) (x3:Bool) (x4:LP) (x5 x6 x7:Bool) (x8:LP) (k0:Bool→LP→Bool→LP→O R):O R :=
 p89 n x7 x8 x3 x4 (fun y9 y10=>Uyu n x1 x2 y9 y10 (fun y11 y12=>k0 x7 x8 y11 y12))
def Uyv (n:Nat) (x1:Bool) (x2:LP) (x3:Bool) (x4:LP) (k0:Bool→LP→Bool→LP→O R):O R :=
 UrK n x1 x2 x3 x4 false false false [] [] 0 (fun y5 y6 y7 y8 y9 y10 y11 y12 y13=>Umx n (!(y5 == y7)) y13 (fun y14 y15=>bif (decide (((y12).length:Int)>0)) then (bif (bif true then (!(y5 == y7)) else false) then (UGQ n 1 (fun y16 y17=>Uyu n y14 y15 y16 y17 (fun y18 y19=>Ub6 n y5 y6 y7 y8 y9 y10 y18 y19 (fun y20 y21 y22 y23=>k0 y20 y21 y22 y23)))) else (Ub6 n y5 y6 y7 y8 y9 y10 y14 y15 (fun y24 y25 y26 y27=>k0 y24 y25 y26 y27))) else (Ub6 n y5 y6 y7 y8 y9 y10 y14 y15 (fun y28 y29 y30 y31=>k0 y28 y29 y30 y31))))
abbrev UEQ (n:Nat):Code→Fr→Kc R→O R:=evC Tryz.prog (UoX n) UbB n (78,[])
noncomputable def Uk6:Code:=Jj4 (Jll Tryz.f145) [1,1,1,1,1,1]
abbrev Uic:Sl (List SV):=(.c (sBx 55 (cB (cH .n))) (.c (sBx 55 (cB (cH .n))) (.c (sBx 55 (cB (.c sNl .n))) (.c (sBx 55 (cB (.c sNl .n))) (.c (sBx 55 (cB (cH .n))) .n)))))
abbrev Umb (n:Nat) (K:Kc R):Uic.T (O R):=fun x1 x2 x3 x4 x5 x6 x7 x8=>Ub6 n x1 x2 x3 x4 x5 x6 x7 x8 (fun y1 y2 y3 y4=>xC UbB 17 K .ret [.bx 55 [vB y1,vH y2],.bx 55 [vB y3,vH y4]])
noncomputable def Uo:Code:=Jj4 (Jll Tryz.f145) [1,1,1,0,1,0,0]
abbrev Ud4:Sl (List SV):=(.c (sBx 55 (cB (cH .n))) (.c (sBx 55 (cB (cH .n))) (.c (sBx 55 (cB (.c sNl .n))) (.c (sBx 55 (cB (.c sNl .n))) (.c (sBx 55 (cB (cH .n))) (cO 3 (cI .n)))))))
abbrev UjA (n m:Nat) (K:Kc R):Ud4.T (O R):=fun x1 x2 x3 x4 x5 x6 x7 x8 x9 x10=>Ubq n m x1 x2 x3 x4 x5 x6 x7 x8 x9 x10 (fun y1 y2 y3 y4 y5 y6 y7 y8 y9=>xL UbB 4 K (.exit 0) [.bx 55 [vB y1,vH y2],.bx 55 [vB y3,vH y4],.bx 55 [vB y5,.nl],.bx 55 [vB y6,.nl],.bx 55 [vB y7,vH y8],.own 3 y9])
abbrev Uw1 (n:Nat) (K:Kc R) (l0:Ud4.T (O R)):Ud4.T (O R):=fun x1 x2 x3 x4 x5 x6 x7 x8 x9 x10=>UeM n l0 x1 x2 x3 x4 x5 x6 x7 x8 x9 x10 (fun y1 y2 y3 y4 y5 y6 y7 y8 y9=>xL UbB 4 K (.exit 0) [.bx 55 [vB y1,vH y2],.bx 55 [vB y3,vH y4],.bx 55 [vB y5,.nl],.bx 55 [vB y6,.nl],.bx 55 [vB y7,vH y8],.own 3 y9])
noncomputable def Uk7:Code:=Jj4 (Jll Tryz.f145) [1,1,1,0,1,0,0,1,0,0,1,1,1,1,0,0,0]
abbrev Ucj:Sl (List SV):=(.c (sBx 55 (cB (cH .n))) (.c (sBx 55 (cB (cH .n))) (.c (sBx 55 (cB (.c sNl .n))) (.c (sBx 55 (cB (.c sNl .n))) (.c (sBx 55 (cB (cH .n))) (cO 3 (cI (cI .n))))))))
abbrev UgX (n m:Nat) (K:Kc R):Ucj.T (O R):=fun x1 x2 x3 x4 x5 x6 x7 x8 x9 x10 x11=>UbN n m x1 x2 x3 x4 x5 x6 x7 x8 x9 x10 x11 (fun y1 y2 y3 y4 y5 y6 y7 y8 y9 y10 y11=>xL UbB 10 K (.exit 2) [.bx 55 [vB y1,vH y2],.bx 55 [vB y3,vH y4],.bx 55 [vB y5,.nl],.bx 55 [vB y6,.nl],.bx 55 [vB y7,vH y8],.own 3 y9,vI y10,vI y11])
abbrev UsP (n:Nat) (K:Kc R) (l0:Ucj.T (O R)):Ucj.T (O R):=fun x1 x2 x3 x4 x5 x6 x7 x8 x9 x10 x11=>Ufl n l0 x1 x2 x3 x4 x5 x6 x7 x8 x9 x10 x11 (fun y1 y2 y3 y4 y5 y6 y7 y8 y9 y10 y11=>xL UbB 10 K (.exit 2) [.bx 55 [vB y1,vH y2],.bx 55 [vB y3,vH y4],.bx 55 [vB y5,.nl],.bx 55 [vB y6,.nl],.bx 55 [vB y7,vH y8],.own 3 y9,vI y10,vI y11])
abbrev Utd (n:Nat):Orc R:=oL UbB (UEQ n) n 10 Uk7 Ucj (UgX n n) (oL UbB (UEQ n) n 4 Uo Ud4 (UjA n n) oN)
abbrev UsX (n:Nat):Orc R:=oC UbB (UEQ n) 17 Uk6 Uic (Umb n) oN
abbrev UEh (R:Type) (n:Nat):=JcH (R:=R) Tryz.prog (UoX n) UbB n (78,[]) (Utd n) (UsX n)
theorem UtK (n:Nat):UEh R n (false,10,Uk7):=JkF (lo:=Utd n) (cu:=UsX n) (pO pN (by kernel_rfl)) Ucj (UgX n n) (JiE (F:=UgX n) Ucj (UsP n) (fun K _ _ _ _ _ _ _ _ _ _ _=>rfl) (fun _ _=>rfl) (fun L K _ _ _ _ _ _ _ _ _ _ _=>by show _=_; kernel_rfl) n) fun _ _=>rfl
theorem Uy7 (n:Nat):UEh R n (false,4,Uo):=JkF (lo:=Utd n) (cu:=UsX n) (pO (pC (UtK n) pN) (by kernel_rfl)) Ud4 (UjA n n) (JiE (F:=UjA n) Ud4 (Uw1 n) (fun K _ _ _ _ _ _ _ _ _ _=>rfl) (fun _ _=>rfl) (fun L K _ _ _ _ _ _ _ _ _ _=>by show _=_; kernel_rfl) n) fun _ _=>rfl
theorem UtJ (n:Nat):UEh R n (true,17,Uk6):=JkW (lo:=Utd n) (cu:=UsX n) (pO pN (by kernel_rfl)) Uic (Umb n) (fun K _ _ _ _ _ _ _ _=>by show _=_; kernel_rfl) fun _ _=>rfl
theorem UHm (n:Nat):Je6 (UEh R n) (JaJ UbB (Jll Tryz.f145)):=pO (pC (Uy7 n) (pC (UtJ n) pN)) (by kernel_rfl)
abbrev t145:Sl (List SV):=(.c (sP (JlI (.c Jlf (.c sSh .n)))) (.c (sP (JlI (.c Jlf (.c sSh .n)))) .n))
abbrev f145 (n:Nat) (K:List SV→O R):t145.T (O R):=fun x1 x2 x3 x4=>Uyv n x1 x2 x3 x4 (fun y1 y2 y3 y4=>K [.p (.agg [.v (.bool y1),.sh y2]),.p (.agg [.v (.bool y3),.sh y4])])
abbrev Uy (n:Nat):FS:=fT [false,false] t145 (f145 n)
theorem UCA (n:Nat):FSound Tryz.prog GI 145 (Uy n):=gd UbB n (UlP n) Tryz.func145 (.cons (UlP n) t145 (f145 n) (fun K _ _ _ _=>(Jkq (c:=Jll Tryz.f145) (by kernel_rfl) (UHm n) K).trans (by kernel_rfl)) .nil) (by kernel_rfl)
def Ue4:Ann:={ loops:=[(1,ids [2,3,4],ids [2,4])],cuts:=[],frz:=[],rm:=[.id] }
abbrev UoW (n:Nat):Env:=eC 145 (Uy n) (eC 122 (UiB n) eN)
theorem UlN (n:Nat):EnvOK Tryz.prog GI (UoW n):=.cons (.cons (.nil) (UjN n)) (UCA n)
def Uhk (n:Nat) (l0:Bool→LP→Bool→LP→Bool→O R) (x1:Bool) (x2:LP) (x3:Bool) (x4:LP) (x5:Bool) (k0:Bool→LP→Bool→O R):O R :=
 bif (decide (((x4).length:Int)>0)) then (Uyv n x1 x2 x3 x4 (fun y6 y7 y8 y9=>l0 x3 x4 y8 y9 x5)) else (k0 x1 x2 x5)
def Uc6 (n:Nat):Nat→Bool→LP→Bool→LP→Bool→(Bool→LP→Bool→O R)→O R
 | 0,_,_,_,_,_,_=>none
 | m + 1,x1,x2,x3,x4,x5,k0=>Uhk n (fun x1 x2 x3 x4 x5=>Uc6 n m x1 x2 x3 x4 x5 k0) x1 x2 x3 x4 x5 k0
def UrJ (n:Nat) (x1:Bool) (x2:LP) (x3:Bool) (x4:LP) (x5:Bool) (k0:Bool→LP→Bool→O R):O R:=Uc6 n n x1 x2 x3 x4 x5 k0
def UEL (n:Nat) (x1:Bool) (x2:LP) (x3:Bool) (x4:LP) (k0:Bool→LP→O R):O R :=
 UrJ n x1 x2 x3 x4 false (fun y5 y6 y7=>Umx n false y6 (fun y8 y9=>k0 y8 y9))
abbrev UKm (n:Nat):Code→Fr→Kc R→O R:=evC Tryz.prog (UoW n) Ue4 n (22,[])
noncomputable def Un9:Code:=Jj4 (Jll Tryz.f143) [1,0,0,0]
abbrev Ud3:Sl (List SV):=(.c (sBx 55 (cB (cH .n))) (.c (sBx 55 (cB (cH .n))) (.c (sBx 55 (cB (.c sNl .n))) .n)))
abbrev Ujz (n m:Nat) (K:Kc R):Ud3.T (O R):=fun x1 x2 x3 x4 x5=>Uc6 n m x1 x2 x3 x4 x5 (fun y1 y2 y3=>xL Ue4 1 K (.exit 0) [.bx 55 [vB y1,vH y2],.bx 55 [vB y3,.nl]])
abbrev Uw0 (n:Nat) (K:Kc R) (l0:Ud3.T (O R)):Ud3.T (O R):=fun x1 x2 x3 x4 x5=>Uhk n l0 x1 x2 x3 x4 x5 (fun y1 y2 y3=>xL Ue4 1 K (.exit 0) [.bx 55 [vB y1,vH y2],.bx 55 [vB y3,.nl]])
abbrev UCr (n:Nat):Orc R:=oL Ue4 (UKm n) n 1 Un9 Ud3 (Ujz n n) oN
abbrev UAU (n:Nat):Orc R:=oN
abbrev UIm (R:Type) (n:Nat):=JcH (R:=R) Tryz.prog (UoW n) Ue4 n (22,[]) (UCr n) (UAU n)
theorem Uy6 (n:Nat):UIm R n (false,1,Un9):=JkF (lo:=UCr n) (cu:=UAU n) (pO pN (by kernel_rfl)) Ud3 (Ujz n n) (JiE (F:=Ujz n) Ud3 (Uw0 n) (fun K _ _ _ _ _=>rfl) (fun _ _=>rfl) (fun L K _ _ _ _ _=>by show _=_; kernel_rfl) n) fun _ _=>rfl
theorem UHk (n:Nat):Je6 (UIm R n) (JaJ Ue4 (Jll Tryz.f143)):=pO (pC (Uy6 n) pN) (by kernel_rfl)
abbrev t143:Sl (List SV):=(.c (sP (JlI (.c Jlf (.c sSh .n)))) (.c (sP (JlI (.c Jlf (.c sSh .n)))) .n))
abbrev f143 (n:Nat) (K:List SV→O R):t143.T (O R):=fun x1 x2 x3 x4=>UEL n x1 x2 x3 x4 (fun y1 y2=>K [.p (.agg [.v (.bool y1),.sh y2])])
abbrev UB8 (n:Nat):FS:=fT [false,false] t143 (f143 n)
theorem UGu (n:Nat):FSound Tryz.prog GI 143 (UB8 n):=gd Ue4 n (UlN n) Tryz.func143 (.cons (UlN n) t143 (f143 n) (fun K _ _ _ _=>(Jkq (c:=Jll Tryz.f143) (by kernel_rfl) (UHk n) K).trans (by kernel_rfl)) .nil) (by kernel_rfl)
def UcH:Ann:={ loops:=[(7,ids [1,3,4],ids [2,3])],cuts:=[(6,ids [1,3],ids [2])],frz:=[],rm:=[.id] }
abbrev UoL (n:Nat):Env:=eN
theorem Ulv (n:Nat):EnvOK Tryz.prog GI (UoL n):=.nil
def UeD (n:Nat) (l0:Bool→LP→ByteArray→Int→O R) (x1:Bool) (x2:LP) (x3:ByteArray) (x4:Int) (k0:ByteArray→O R):O R :=
 bif (decide (x4<((x2).length:Int))) then (bif (inR x4 ((x2).length)) then (Jj .i64 ((x2).getD ((x4:Int).toNat) (.v (.bool false))) fun e5=>bif (inR x4 ((x2).length)) then (Jj .i64 ((x2).getD ((x4:Int).toNat) (.v (.bool false))) fun e6=>bif (Je5 e5 (IntKind.i64.wrap (e6 + 1)) ((⟨#[48,49,50,51,52,53,54,55,56,57]⟩:ByteArray)).size) then (Jj0 x3 (ByteArray.extract (⟨#[48,49,50,51,52,53,54,55,56,57]⟩:ByteArray) (e5:Int).toNat (IntKind.i64.wrap (e6 + 1):Int).toNat) fun s7=>l0 x1 x2 s7 (IntKind.i64.wrap (x4 + 1))) else none) else none) else none) else (k0 x3)
def UbZ (n:Nat):Nat→Bool→LP→ByteArray→Int→(ByteArray→O R)→O R
 | 0,_,_,_,_,_=>none
 | m + 1,x1,x2,x3,x4,k0=>UeD n (fun x1 x2 x3 x4=>UbZ n m x1 x2 x3 x4 k0) x1 x2 x3 x4 k0
def UrA (n:Nat) (x1:Bool) (x2:LP) (x3:ByteArray) (x4:Int) (k0:ByteArray→O R):O R:=UbZ n n x1 x2 x3 x4 k0
def Uhb (n:Nat) (x1:Bool) (x2:LP) (x3:ByteArray) (k0:ByteArray→O R):O R :=
 UrA n x1 x2 x3 0 (fun y4=>k0 y4)
def Uz3 (n:Nat) (x1:Bool) (x2:LP) (k0:ByteArray→O R):O R :=
 bif (((x2).length:Int) == 0) then (k0 ⟨#[48]⟩) else (bif x1 then (Uhb n x1 x2 ⟨#[45]⟩ (fun y3=>k0 y3)) else (Uhb n x1 x2 ⟨#[]⟩ (fun y4=>k0 y4)))
abbrev UI (n:Nat):Code→Fr→Kc R→O R:=evC Tryz.prog (UoL n) UcH n (33,[])
noncomputable def UnP:Code:=Jj4 (Jll Tryz.f112) [1,1,1,1]
abbrev Ukh:Sl (List SV):=(.c (sBx 55 (cB (cH .n))) (cS .n))
abbrev Uqf (n:Nat) (K:Kc R):Ukh.T (O R):=fun x1 x2 x3=>Uhb n x1 x2 x3 (fun y1=>xC UcH 6 K .ret [vS y1])
noncomputable def UnQ:Code:=Jj4 (Jll Tryz.f112) [1,1,1,1,0,1,0,0]
abbrev UdU:Sl (List SV):=(.c (sBx 55 (cB (cH .n))) (cS (cI .n)))
abbrev Ujq (n m:Nat) (K:Kc R):UdU.T (O R):=fun x1 x2 x3 x4=>UbZ n m x1 x2 x3 x4 (fun y1=>xL UcH 7 K (.exit 0) [dD,vS y1])
abbrev UwR (n:Nat) (K:Kc R) (l0:UdU.T (O R)):UdU.T (O R):=fun x1 x2 x3 x4=>UeD n l0 x1 x2 x3 x4 (fun y1=>xL UcH 7 K (.exit 0) [dD,vS y1])
abbrev Uyl (n:Nat):Orc R:=oL UcH (UI n) n 7 UnQ UdU (Ujq n n) oN
abbrev Uxk (n:Nat):Orc R:=oC UcH (UI n) 6 UnP Ukh (Uqf n) oN
abbrev UER (R:Type) (n:Nat):=JcH (R:=R) Tryz.prog (UoL n) UcH n (33,[]) (Uyl n) (Uxk n)
theorem UyM (n:Nat):UER R n (false,7,UnQ):=JkF (lo:=Uyl n) (cu:=Uxk n) (pO pN (by kernel_rfl)) UdU (Ujq n n) (JiE (F:=Ujq n) UdU (UwR n) (fun K _ _ _ _=>rfl) (fun _ _=>rfl) (fun L K _ _ _ _=>by show _=_; kernel_rfl) n) fun _ _=>rfl
theorem UyL (n:Nat):UER R n (true,6,UnP):=JkW (lo:=Uyl n) (cu:=Uxk n) (pO (pC (UyM n) pN) (by kernel_rfl)) Ukh (Uqf n) (fun K _ _ _=>by show _=_; kernel_rfl) fun _ _=>rfl
theorem UG3 (n:Nat):Je6 (UER R n) (JaJ UcH (Jll Tryz.f112)):=pO (pC (UyL n) pN) (by kernel_rfl)
abbrev UHI:Sl (List SV):=(.c (sP (JlI (.c Jlf (.c sSh .n)))) .n)
abbrev f112 (n:Nat) (K:List SV→O R):UHI.T (O R):=fun x1 x2=>Uz3 n x1 x2 (fun y1=>K [vS y1])
abbrev UBQ (n:Nat):FS:=fT [false] UHI (f112 n)
theorem UGc (n:Nat):FSound Tryz.prog GI 112 (UBQ n):=gd UcH n (Ulv n) Tryz.func112 (.cons (Ulv n) UHI (f112 n) (fun K _ _=>(Jkq (c:=Jll Tryz.f112) (by kernel_rfl) (UG3 n) K).trans (by kernel_rfl)) .nil) (by kernel_rfl)
def UcJ:Ann:={ loops:=[(4,[(0,.id),(2,.id),(3,.id),(4,.own 3),(5,.id)],ids [2,3,4])],cuts:=[(5,ids [0,2,3,4,5],ids [0,2,3,4,5])],frz:=[],rm:=[.id] }
abbrev UoS (n:Nat):Env:=eC 122 (UiB n) eN
theorem UlG (n:Nat):EnvOK Tryz.prog GI (UoS n):=.cons (.nil) (UjN n)
def Ufk (n:Nat) (x1:ByteArray) (x2 x3:Bool) (x4:LP) (x5:Int) (k0:ByteArray→Bool→Bool→LP→Int→O R):O R :=
 k0 x1 x2 x3 x4 (IntKind.i64.wrap (x5 + 1))
def Uc5 (n:Nat) (l0:ByteArray→Bool→Bool→LP→Int→O R) (x1:ByteArray) (x2 x3:Bool) (x4:LP) (x5:Int) (k0:Bool→Bool→LP→O R):O R :=
 bif (decide (x5<((x1).size:Int))) then (bif (inR x5 (x1).size) then (bif (Jc6 x1 x5 == 45) then (Ufk n x1 x2 true x4 x5 (fun y6 y7 y8 y9 y10=>l0 y6 y7 y8 y9 y10)) else (bif (inR x5 (x1).size) then (let v11:=IntKind.u8.wrap ((Jc6 x1 x5) - 48); bif (Jbu ((x4).length + 1) 8) then (Ufk n x1 x2 x3 (x4++([.v (.int .i64 (IntKind.i64.wrap (v11)))]:LP)) x5 (fun y12 y13 y14 y15 y16=>l0 y12 y13 y14 y15 y16)) else none) else none)) else none) else (k0 x2 x3 x4)
def Ubo (n:Nat):Nat→ByteArray→Bool→Bool→LP→Int→(Bool→Bool→LP→O R)→O R
 | 0,_,_,_,_,_,_=>none
 | m + 1,x1,x2,x3,x4,x5,k0=>Uc5 n (fun x1 x2 x3 x4 x5=>Ubo n m x1 x2 x3 x4 x5 k0) x1 x2 x3 x4 x5 k0
def UrF (n:Nat) (x1:ByteArray) (x2 x3:Bool) (x4:LP) (x5:Int) (k0:Bool→Bool→LP→O R):O R:=Ubo n n x1 x2 x3 x4 x5 k0
def Uvy (n:Nat) (x1:ByteArray) (k0:Bool→LP→O R):O R :=
 UrF n x1 false false [] 0 (fun y2 y3 y4=>Umx n y3 y4 (fun y5 y6=>k0 y5 y6))
abbrev UIc (n:Nat):Code→Fr→Kc R→O R:=evC Tryz.prog (UoS n) UcJ n (27,[])
noncomputable def Un2:Code:=Jj4 (Jll Tryz.f125) [1,1,1,0,1,0,0,1,1]
abbrev Ukp:Sl (List SV):=(cS (.c (sBx 55 (cB (.c sNl .n))) (cB (cO 3 (cI .n)))))
abbrev Uqn (n:Nat) (K:Kc R):Ukp.T (O R):=fun x1 x2 x3 x4 x5=>Ufk n x1 x2 x3 x4 x5 (fun y1 y2 y3 y4 y5=>xC UcJ 5 K .normal [vS y1,.bx 55 [vB y2,.nl],vB y3,.own 3 y4,vI y5])
noncomputable def Un3:Code:=Jj4 (Jll Tryz.f125) [1,1,1,0,1,0,0]
abbrev UdZ:Sl (List SV):=(cS (.c (sBx 55 (cB (.c sNl .n))) (cB (cO 3 (cI .n)))))
abbrev Ujv (n m:Nat) (K:Kc R):UdZ.T (O R):=fun x1 x2 x3 x4 x5=>Ubo n m x1 x2 x3 x4 x5 (fun y1 y2 y3=>xL UcJ 4 K (.exit 0) [.bx 55 [vB y1,.nl],vB y2,.own 3 y3])
abbrev UwW (n:Nat) (K:Kc R) (l0:UdZ.T (O R)):UdZ.T (O R):=fun x1 x2 x3 x4 x5=>Uc5 n l0 x1 x2 x3 x4 x5 (fun y1 y2 y3=>xL UcJ 4 K (.exit 0) [.bx 55 [vB y1,.nl],vB y2,.own 3 y3])
abbrev Uyn (n:Nat):Orc R:=oL UcJ (UIc n) n 4 Un3 UdZ (Ujv n n) oN
abbrev Uxm (n:Nat):Orc R:=oC UcJ (UIc n) 5 Un2 Ukp (Uqn n) oN
abbrev UET (R:Type) (n:Nat):=JcH (R:=R) Tryz.prog (UoS n) UcJ n (27,[]) (Uyn n) (Uxm n)
theorem UyZ (n:Nat):UET R n (true,5,Un2):=JkW (lo:=Uyn n) (cu:=Uxm n) (pO pN (by kernel_rfl)) Ukp (Uqn n) (fun K _ _ _ _ _=>by show _=_; kernel_rfl) fun _ _=>rfl
theorem Uy0 (n:Nat):UET R n (false,4,Un3):=JkF (lo:=Uyn n) (cu:=Uxm n) (pO (pC (UyZ n) pN) (by kernel_rfl)) UdZ (Ujv n n) (JiE (F:=Ujv n) UdZ (UwW n) (fun K _ _ _ _ _=>rfl) (fun _ _=>rfl) (fun L K _ _ _ _ _=>by show _=_; kernel_rfl) n) fun _ _=>rfl
theorem UHd (n:Nat):Je6 (UET R n) (JaJ UcJ (Jll Tryz.f125)):=pO (pC (Uy0 n) pN) (by kernel_rfl)
abbrev UHQ:Sl (List SV):=(cS .n)
abbrev f125 (n:Nat) (K:List SV→O R):UHQ.T (O R):=fun x1=>Uvy n x1 (fun y1 y2=>K [.p (.agg [.v (.bool y1),.sh y2])])
abbrev Ux9 (n:Nat):FS:=fT [false] UHQ (f125 n)
theorem UCz (n:Nat):FSound Tryz.prog GI 125 (Ux9 n):=gd UcJ n (UlG n) Tryz.func125 (.cons (UlG n) UHQ (f125 n) (fun K _=>(Jkq (c:=Jll Tryz.f125) (by kernel_rfl) (UHd n) K).trans (by kernel_rfl)) .nil) (by kernel_rfl)
end
end Go.Proofs.YtmgfmlhdnadglaaGreatDoor
set_option linter.unusedVariables false
set_option linter.unusedSimpArgs false
namespace Go.Proofs.YtmgfmlhdnadglaaGreatDoor
open Go Th Go.Proofs
variable {R:Type}
theorem UfM {l:List Nat} {i:Nat} (h:i<l.length):l=l.take i++l.getD i 0::l.drop (i + 1):=by
 conv=>lhs; rw [←List.take_append_drop i l]
 rw [UcP h]
theorem Uv3 {l:List Nat} {i:Nat} (d:Nat) (h:i<l.length):vb (l.set i d) + l.getD i 0 * 10 ^ (l.length - 1 - i)=vb l + d * 10 ^ (l.length - 1 - i):=by
 have e1:vb l=vb (l.take i) * 10 ^ (l.length - i) + (l.getD i 0 * 10 ^ (l.length - 1 - i) + vb (l.drop (i + 1))):=by
  conv=>lhs; rw [UfM h]
  rw [Udg,UcF,List.length_cons,List.length_drop]
  congr 2
  · congr 1; omega
  · congr 2; omega
 have e2:vb (l.set i d)=vb (l.take i) * 10 ^ (l.length - i) + (d * 10 ^ (l.length - 1 - i) + vb (l.drop (i + 1))):=by
  rw [List.set_eq_take_append_cons_drop,if_pos h,Udg,UcF,List.length_cons,List.length_drop]
  congr 2
  · congr 1; omega
  · congr 2; omega
 omega
theorem UbT {l:List Nat} {i:Nat} (h:i<l.length):vb (l.take (i + 1))=10 * vb (l.take i) + l.getD i 0:=by
 rw [Uba h,UkK]
theorem Uv2 (a:Nat):Int.tmod (a:Int) 10=((a % 10:Nat):Int):=Jlk a 10
theorem Uv0 (a:Nat):Int.tdiv (a:Int) 10=((a / 10:Nat):Int):=Jlj a 10
theorem UfO (n:Nat) (x1:Bool) (x2:List PV) (x3:Bool) (x4:List PV) (x5:Bool) (i k:Int):∀ (m at_ x:Nat) (o:List Nat),at_<m→(∀ d∈o,d<10)→at_<o.length→o.length<2 ^ 40→x<100→vb o + x * 10 ^ (o.length - at_)<10 ^ o.length →
 ∃ o':List Nat,(∀ k0:Bool→List PV→Bool→List PV→Bool→List PV→Int→Int→Option R,Ucd n m x1 x2 x3 x4 x5 (nl .i64 o) i k at_ x k0=k0 x1 x2 x3 x4 x5 (nl .i64 o') i k)∧(∀ d∈o',d<10)∧o'.length=o.length∧vb o'=vb o + x * 10 ^ (o.length - at_)
 | m + 1,at_,x,o,hm,ho,hat,hl,hx,hv=>by
  by_cases h0:x=0
  · subst h0
    refine ⟨o,fun k0=>?_,ho,rfl,by simp⟩
    simp only [Ucd,UeS]
    simp (disch:=(first | omega | (simp only [JlE]; omega))) only [↓JlH,JlF,JlG]
  · have hat0:at_≠0:=by
     intro e
     subst e
     rw [Nat.sub_zero] at hv
     have:1 * 10 ^ o.length≤x * 10 ^ o.length:=Nat.mul_le_mul_right _ (by omega)
     omega
    obtain ⟨p,rfl⟩:∃ p,at_=p + 1:=⟨at_ - 1,by omega⟩
    have hd:=Uab hT2 ho p
    have hs:=Uv3 ((x + o.getD p 0) % 10) (l:=o) (i:=p) (by omega)
    have hdm:=Nat.div_add_mod (x + o.getD p 0) 10
    have e1:o.length - (p + 1)=o.length - 1 - p:=by omega
    have e2:o.length - p=(o.length - 1 - p) + 1:=by omega
    have key:vb (o.set p ((x + o.getD p 0) % 10)) + (x + o.getD p 0) / 10 * 10 ^ (o.length - p)=vb o + x * 10 ^ (o.length - (p + 1)):=by
     rw [e1,e2,Nat.pow_succ]
     generalize 10 ^ (o.length - 1 - p)=P at *
     generalize o.getD p 0=y at *
     generalize (x + y) / 10=q at *
     generalize (x + y) % 10=r at *
     have:(10 * q + r) * P=(x + y) * P:=by rw [hdm]
     clear hv e1 e2
     grind
    obtain ⟨o',q1,q2,q3,q4⟩:=UfO n x1 x2 x3 x4 x5 i k m p ((x + o.getD p 0) / 10) (o.set p ((x + o.getD p 0) % 10)) (by omega) (Ubf ho (Nat.mod_lt _ (by omega)) _) (by rw [List.length_set]; omega) (by rw [List.length_set]; exact hl) (by omega) (by rw [List.length_set,key]; exact hv)
    rw [List.length_set] at q3 q4
    refine ⟨o',fun k0=>?_,q2,q3,by rw [q4,key]⟩
    rw [←q1 k0]
    have w1:((p + 1:Nat):Int) - 1=(p:Int):=by omega
    have w2:(x:Int) + ((o.getD p 0:Nat):Int)=((x + o.getD p 0:Nat):Int):=by omega
    have w3:decide ((10:Int)=0)=false:=rfl
    simp only [Ucd,UeS]
    simp (disch:=(first | omega | (simp only [JlE]; omega))) only [↓JlH,JlF,JlG,w1,w2,w3,Uv2,Uv0]
theorem Uvt (n:Nat) (x1 x3 x5:Bool) (la lb:List Nat) (ha:∀ d∈la,d<10) (hb:∀ d∈lb,d<10) (hla:la.length + lb.length<2 ^ 30) (hn:la.length + lb.length<n) (i:Nat) (hi:i<la.length) :
 ∀ (k m:Nat) (o:List Nat),k<m→k≤lb.length→(∀ d∈o,d<10)→o.length=la.length + lb.length→vb o + la.getD i 0 * (vb (lb.take k) * 10 ^ (lb.length - k)) * 10 ^ (la.length - 1 - i)<10 ^ o.length →
  ∃ o':List Nat,(∀ k0:Bool→List PV→Bool→List PV→Bool→List PV→Int→Option R,UdJ n m x1 (nl .i64 la) x3 (nl .i64 lb) x5 (nl .i64 o) i ((k:Int) - 1) k0=k0 x1 (nl .i64 la) x3 (nl .i64 lb) x5 (nl .i64 o') i)∧(∀ d∈o',d<10)∧o'.length=o.length ∧
   vb o'=vb o + la.getD i 0 * (vb (lb.take k) * 10 ^ (lb.length - k)) * 10 ^ (la.length - 1 - i)
 | 0,m + 1,o,hm,hk,ho,hol,hv=>by
  refine ⟨o,fun k0=>?_,ho,rfl,by rw [List.take_zero,UmS]; simp⟩
  simp only [UdJ,UhM]
  simp (disch:=(first | omega | (simp only [JlE]; omega))) only [↓JlH,JlF,JlG]
 | k + 1,m + 1,o,hm,hk,ho,hol,hv=>by
  have hx:=Uab hT2 ha i
  have hy:=Uab hT2 hb k
  have hz:=Uab hT2 ho (i + k + 1)
  have hxy:la.getD i 0 * lb.getD k 0≤9 * 9:=Nat.mul_le_mul (by omega) (by omega)
  obtain ⟨v,hve⟩:∃ v,v=o.getD (i + k + 1) 0 + la.getD i 0 * lb.getD k 0:=⟨_,rfl⟩
  have hs:=Uv3 (v % 10) (l:=o) (i:=i + k + 1) (by omega)
  have hdm:=Nat.div_add_mod v 10
  rw [UbT (by omega:k<lb.length)] at hv ⊢
  have eW:o.length - 1 - (i + k + 1)=(lb.length - (k + 1)) + (la.length - 1 - i):=by omega
  have eW2:o.length - (i + k + 1)=(lb.length - (k + 1)) + (la.length - 1 - i) + 1:=by omega
  have eW3:lb.length - k=(lb.length - (k + 1)) + 1:=by omega
  rw [eW,Nat.pow_add] at hs
  have key:vb (o.set (i + k + 1) (v % 10)) + v / 10 * 10 ^ (o.length - (i + k + 1))=vb o + la.getD i 0 * lb.getD k 0 * (10 ^ (lb.length - (k + 1)) * 10 ^ (la.length - 1 - i)):=by
   rw [eW2,Nat.pow_succ,Nat.pow_add]
   generalize 10 ^ (lb.length - (k + 1))=P at *
   generalize 10 ^ (la.length - 1 - i)=Q at *
   generalize o.getD (i + k + 1) 0=z at *
   generalize la.getD i 0 * lb.getD k 0=xy at *
   have:(10 * (v / 10) + v % 10) * (P * Q)=(z + xy) * (P * Q):=by rw [hdm,hve]
   generalize v / 10=q at *
   generalize v % 10=r at *
   clear hv eW eW2 eW3
   grind
  have split:la.getD i 0 * ((10 * vb (lb.take k) + lb.getD k 0) * 10 ^ (lb.length - (k + 1))) * 10 ^ (la.length - 1 - i)=la.getD i 0 * (vb (lb.take k) * 10 ^ (lb.length - k)) * 10 ^ (la.length - 1 - i) + la.getD i 0 * lb.getD k 0 * (10 ^ (lb.length - (k + 1)) * 10 ^ (la.length - 1 - i)):=by
   rw [eW3,Nat.pow_succ]
   clear hv hs key
   grind
  rw [split] at hv ⊢
  obtain ⟨o1,q1,q2,q3,q4⟩:=UfO (R:=R) n x1 (nl .i64 la) x3 (nl .i64 lb) x5 i k n (i + k + 1) (v / 10) (o.set (i + k + 1) (v % 10)) (by omega) (Ubf ho (Nat.mod_lt _ (by omega)) _) (by rw [List.length_set]; omega) (by rw [List.length_set]; omega) (by omega) (by rw [List.length_set,key]; omega)
  rw [List.length_set] at q3 q4
  rw [key] at q4
  obtain ⟨o',s1,s2,s3,s4⟩:=Uvt n x1 x3 x5 la lb ha hb hla hn i hi k m o1 (by omega) (by omega) q2 (by omega) (by rw [q4,q3]; omega)
  refine ⟨o',fun k0=>?_,s2,by omega,by rw [s4,q4]; omega⟩
  rw [←s1 k0]
  have w0:((k + 1:Nat):Int) - 1=(k:Int):=by omega
  have w1:(i:Int) + (k:Int) + 1=((i + k + 1:Nat):Int):=by omega
  have w2:((la.getD i 0:Nat):Int) * ((lb.getD k 0:Nat):Int)=((la.getD i 0 * lb.getD k 0:Nat):Int):=by rw [Int.natCast_mul]
  have w4:decide ((10:Int)=0)=false:=rfl
  clear hs key split s4 q4 hv
  generalize la.getD i 0 * lb.getD k 0=xy at *
  have w3:((o.getD (i + k + 1) 0:Nat):Int) + (xy:Int)=(v:Int):=by omega
  simp only [UdJ,UhM,Ur2]
  simp (disch:=(first | omega | (simp only [JlE]; omega))) only [↓JlH,JlF,JlG,w0,w1,w2,w3,w4,Uv2,Uv0,q1]
theorem Urn (n:Nat) (x1 x3 x5:Bool) (la lb:List Nat) (ha:∀ d∈la,d<10) (hb:∀ d∈lb,d<10) (hla:la.length + lb.length<2 ^ 30) (hn:la.length + lb.length<n) :
 ∀ (i m:Nat) (o:List Nat),i<m→i≤la.length→(∀ d∈o,d<10)→o.length=la.length + lb.length→vb o + vb (la.take i) * 10 ^ (la.length - i) * vb lb<10 ^ o.length →
  ∃ o':List Nat,(∀ k0:Bool→List PV→Bool→List PV→Bool→List PV→Option R,UdI n m x1 (nl .i64 la) x3 (nl .i64 lb) x5 (nl .i64 o) ((i:Int) - 1) k0=k0 x1 (nl .i64 la) x3 (nl .i64 lb) x5 (nl .i64 o'))∧(∀ d∈o',d<10)∧o'.length=o.length ∧
   vb o'=vb o + vb (la.take i) * 10 ^ (la.length - i) * vb lb
 | 0,m + 1,o,hm,hi,ho,hol,hv=>by
  refine ⟨o,fun k0=>?_,ho,rfl,by rw [List.take_zero,UmS]; simp⟩
  simp only [UdI,UhL]
  simp (disch:=(first | omega | (simp only [JlE]; omega))) only [↓JlH,JlF,JlG]
 | i + 1,m + 1,o,hm,hi,ho,hol,hv=>by
  rw [UbT (by omega:i<la.length)] at hv ⊢
  have eW3:la.length - i=(la.length - (i + 1)) + 1:=by omega
  have eW4:la.length - 1 - i=la.length - (i + 1):=by omega
  have split:(10 * vb (la.take i) + la.getD i 0) * 10 ^ (la.length - (i + 1)) * vb lb=vb (la.take i) * 10 ^ (la.length - i) * vb lb + la.getD i 0 * (vb lb * 10 ^ (lb.length - lb.length)) * 10 ^ (la.length - 1 - i):=by
   rw [eW3,eW4,Nat.pow_succ,Nat.sub_self,Nat.pow_zero]
   clear hv
   grind
  rw [split] at hv ⊢
  obtain ⟨o1,q1,q2,q3,q4⟩:=Uvt (R:=R) n x1 x3 x5 la lb ha hb hla hn i (by omega) lb.length n o (by omega) (Nat.le_refl _) ho hol (by rw [List.take_length]; omega)
  rw [List.take_length] at q4
  obtain ⟨o',s1,s2,s3,s4⟩:=Urn n x1 x3 x5 la lb ha hb hla hn i m o1 (by omega) (by omega) q2 (by omega) (by rw [q4,q3]; omega)
  refine ⟨o',fun k0=>?_,s2,by omega,by rw [s4,q4]; omega⟩
  rw [←s1 k0]
  have w0:((i + 1:Nat):Int) - 1=(i:Int):=by omega
  clear split s4 q4 hv
  simp only [UdI,UhL,UvV]
  simp (disch:=(first | omega | (simp only [JlE]; omega))) only [↓JlH,JlF,JlG,w0,q1]
theorem UdN (n:Nat) (x y:Int) (hx:ll x.natAbs≤50000) (hy:ll y.natAbs≤50000) (hn:200000≤n) (k0:Bool→List PV→Option R) :
 p89 n (sg x) (II x.natAbs) (sg y) (II y.natAbs) k0=k0 (sg (x * y)) (II (x * y).natAbs):=by
 obtain ⟨L,hL⟩:∃ L,ll x.natAbs + ll y.natAbs=L:=⟨_,rfl⟩
 have hlt:x.natAbs * y.natAbs<10 ^ L:=by rw [←hL,Nat.pow_add]; exact Nat.mul_lt_mul_of_lt_of_lt (Udn.1 (Nat.le_refl _)) (Udn.1 (Nat.le_refl _))
 have hz:vb (List.replicate L 0)=0:=by unfold vb; rw [List.reverse_replicate,UiZ]
 obtain ⟨o',q1,q2,q3,q4⟩:=Urn (R:=R) n (sg x) (sg y) false (DL x.natAbs) (DL y.natAbs) (Uek _) (Uek _) (by rw [Uaa,Uaa]; omega) (by rw [Uaa,Uaa]; omega) (ll x.natAbs) n (List.replicate L 0) (by omega) (by rw [Uaa]; omega) (Uf1 hT2 _) (by rw [List.length_replicate,Uaa,Uaa]; omega)
  (by
    rw [List.take_of_length_le (by rw [Uaa]; omega),UfE,UfE,Uaa,Nat.sub_self,hz,List.length_replicate]
    simpa using hlt)
 rw [List.take_of_length_le (by rw [Uaa]; omega),UfE,UfE,Uaa,Nat.sub_self,hz,Nat.pow_zero,Nat.mul_one,Nat.zero_add] at q4
 rw [List.length_replicate] at q3
 have hm:=fun k0=>Uay (R:=R) n (!(sg x == sg y)) o' q2 (by omega) (by omega) k0
 rw [q4] at hm
 have e3:(!(sg x == sg y)&&!(x.natAbs * y.natAbs == 0))=sg (x * y):=by
  rw [Bool.eq_iff_iff]
  simp only [sg,Bool.and_eq_true,decide_eq_true_eq,Bool.not_eq_true',beq_eq_false_iff_ne,ne_eq,Nat.mul_eq_zero,decide_eq_decide]
  constructor
  · rintro ⟨h1,h2⟩
    by_cases hx0:x<0
    · exact Int.mul_neg_of_neg_of_pos hx0 (by omega)
    · exact Int.mul_neg_of_pos_of_neg (by omega) (by omega)
  · intro h
    refine ⟨fun h1=>?_,fun h2=>?_⟩
    · by_cases hx0:x<0
      · have:=Int.mul_pos_of_neg_of_neg hx0 (h1.1 hx0); omega
      · have:=Int.mul_nonneg (by omega:0≤x) (by omega:0≤y); omega
    · rcases h2 with h2 | h2
      · rw [show x=0 from by omega] at h; simp at h
      · rw [show y=0 from by omega] at h; simp at h
 rw [e3] at hm
 have w1:(ll x.natAbs:Int) + (ll y.natAbs:Int)=(L:Int):=by omega
 have hrep:List.replicate L (PV.v (.int .i64 0))=nl .i64 (List.replicate L 0):=Jje .i64 L
 unfold p89 UvU
 rw [Int.natAbs_mul]
 rw [Uap,Uap]
 unfold II at *
 simp (disch:=(first | omega | (simp only [JlE]; omega))) only [↓JlH,JlF,JlG,w1,hrep,q1,hm]
end Go.Proofs.YtmgfmlhdnadglaaGreatDoor
set_option linter.unusedVariables false
set_option maxRecDepth 100000
namespace Go.Proofs.YtmgfmlhdnadglaaGreatDoor
open Go Th Go.Proofs
noncomputable section
variable {R:Type}
def UaD:Ann:={ loops:=[(5,ids [0,3,4],ids [2,3])],cuts:=[(6,ids [0,3,4],ids [0,2,3,4])],frz:=[],rm:=[.id] }
abbrev UiA (n:Nat):Env:=eC 141 (UB7 n) (eC 140 (UB6 n) (eC 139 (UB5 n) (eC 138 (UB4 n) eN)))
theorem Ulz (n:Nat):EnvOK Tryz.prog GI (UiA n):=.cons (.cons (.cons (.cons (.nil) (UGq n)) (UGr n)) (UGs n)) (UGt n)
def Ucu (n:Nat) (x1:LP) (x2:ByteArray) (x3:Int) (k0:LP→ByteArray→Int→O R):O R :=
 k0 x1 x2 (IntKind.i64.wrap (x3 - 1))
def Ub2 (n:Nat) (l0:LP→ByteArray→Int→O R) (x1:LP) (x2:ByteArray) (x3:Int) (k0:ByteArray→O R):O R :=
 bif (decide (x3≥0)) then (bif (inR x3 ((x1).length)) then (Jj .u32 ((x1).getD ((x3:Int).toNat) (.v (.bool false))) fun e4=>bif (JkT (IntKind.i64.wrap (e4))) then (let v5:=IntKind.i64.wrap (((x1).length:Int) - 1); bif (decide (x3<v5)) then (let v6:=IntKind.i64.wrap (9 - ((JiB (IntKind.i64.wrap (e4))).size:Int)); bif (decide ((0:Int)≤v6)&&decide ((v6:Int)≤9223372036854775807)&&JiU (((⟨#[48]⟩:ByteArray)).size * (v6:Int).toNat)) then (Jj0 (Jld (⟨#[48]⟩:ByteArray) v6) (JiB (IntKind.i64.wrap (e4))) fun s7=>bif (JiU ((x2).size + (s7).size)) then (Ucu n x1 (x2++s7) x3 (fun y8 y9 y10=>l0 y8 y9 y10)) else none) else none) else (bif (JiU ((x2).size + (JiB (IntKind.i64.wrap (e4))).size)) then (Ucu n x1 (x2++(JiB (IntKind.i64.wrap (e4)))) x3 (fun y11 y12 y13=>l0 y11 y12 y13)) else none)) else none) else none) else (k0 x2)
def UaW (n:Nat):Nat→LP→ByteArray→Int→(ByteArray→O R)→O R
 | 0,_,_,_,_=>none
 | m + 1,x1,x2,x3,k0=>Ub2 n (fun x1 x2 x3=>UaW n m x1 x2 x3 k0) x1 x2 x3 k0
def Uhi (n:Nat) (l0:LP→Int→O R) (l1:LP→ByteArray→Int→O R) (x1:LP) (x2:Int) (k0:ByteArray→O R) (k1:O R):O R :=
 bif (decide (x2≥0)) then (bif (inR x2 ((x1).length)) then (Jj .u32 ((x1).getD ((x2:Int).toNat) (.v (.bool false))) fun e3=>bif (JkT (IntKind.i64.wrap (e3))) then (let v4:=IntKind.i64.wrap (((x1).length:Int) - 1); bif (decide (x2<v4)) then (let v5:=IntKind.i64.wrap (9 - ((JiB (IntKind.i64.wrap (e3))).size:Int)); bif (decide ((0:Int)≤v5)&&decide ((v5:Int)≤9223372036854775807)&&JiU (((⟨#[48]⟩:ByteArray)).size * (v5:Int).toNat)) then (Jj0 (Jld (⟨#[48]⟩:ByteArray) v5) (JiB (IntKind.i64.wrap (e3))) fun s6=>bif (JiU ((ByteArray.empty).size + (s6).size)) then (Ucu n x1 (ByteArray.empty++s6) x2 (fun y7 y8 y9=>l1 y7 y8 y9)) else none) else none) else (bif (JiU ((ByteArray.empty).size + (JiB (IntKind.i64.wrap (e3))).size)) then (Ucu n x1 (ByteArray.empty++(JiB (IntKind.i64.wrap (e3)))) x2 (fun y10 y11 y12=>l1 y10 y11 y12)) else none)) else none) else none) else (k1)
def UeG (n:Nat):Nat→LP→Int→(ByteArray→O R)→(O R)→O R
 | 0,_,_,_,_=>none
 | m + 1,x1,x2,k0,k1=>Uhi n (fun x1 x2=>UeG n m x1 x2 k0 k1) (fun x1 x2 x3=>UaW n m x1 x2 x3 k0) x1 x2 k0 k1
def UrD (n:Nat) (x1:LP) (x2:Int) (k0:ByteArray→O R) (k1:O R):O R:=UeG n n x1 x2 k0 k1
def UCH (n:Nat) (x1:LP) (k0:ByteArray→O R):O R :=
 bif (((x1).length:Int) == 0) then (k0 ⟨#[48]⟩) else (let v2:=IntKind.i64.wrap (((x1).length:Int) - 1); UrD n x1 v2 (fun y3=>k0 y3) (k0 ByteArray.empty))
abbrev UIa (n:Nat):Code→Fr→Kc R→O R:=evC Tryz.prog (UiA n) UaD n (36,[])
noncomputable def UnY:Code:=Jj4 (Jll Tryz.f116) [1,1,1,0,1,0,0,1,1]
abbrev Ukn:Sl (List SV):=(cH (.c (sOb 181 5) (cI .n)))
abbrev Uql (n:Nat) (K:Kc R):Ukn.T (O R):=fun x1 x2 x3=>Ucu n x1 x2 x3 (fun y1 y2 y3=>xC UaD 6 K .normal [vH y1,dD,.ob 181 5 y2,vI y3])
noncomputable def Ue7:Code:=Jj4 (Jll Tryz.f116) [1,1,1,0,1,0,0]
abbrev UaU:Sl (List SV):=(cH (.c (sOb 181 5) (cI .n)))
abbrev Ubu:Sl (List SV):=(cH (.c (sBx 181 (.c (sP Jlg) (.c sNl .n))) (cI .n)))
abbrev UcQ (n m:Nat) (K:Kc R):UaU.T (O R):=fun x1 x2 x3=>UaW n m x1 x2 x3 (fun y1=>xL UaD 5 K (.exit 0) [dD,.ob 181 5 y1])
abbrev UsN (n:Nat) (K:Kc R) (l0:UaU.T (O R)):UaU.T (O R):=fun x1 x2 x3=>Ub2 n l0 x1 x2 x3 (fun y1=>xL UaD 5 K (.exit 0) [dD,.ob 181 5 y1])
abbrev Ueo (n m:Nat) (K:Kc R):Ubu.T (O R):=fun x1 x2=>UeG n m x1 x2 (fun y1=>xL UaD 5 K (.exit 0) [dD,.ob 181 5 y1]) (xL UaD 5 K (.exit 0) [dD,.bx 181 [.p (.v (.pointer none)),.nl]])
abbrev UsO (n:Nat) (K:Kc R) (l0:Ubu.T (O R)) (l1:UaU.T (O R)):Ubu.T (O R):=fun x1 x2=>Uhi n l0 l1 x1 x2 (fun y1=>xL UaD 5 K (.exit 0) [dD,.ob 181 5 y1]) (xL UaD 5 K (.exit 0) [dD,.bx 181 [.p (.v (.pointer none)),.nl]])
abbrev Um6 (n:Nat):Orc R:=fun i vs K=>JfK (Nat.beq i 5) (Jjg (UaU.ap vs (UcQ n n K)) (Jjg (Ubu.ap vs (Ueo n n K)) (JcB UaD 5 (UIa n Ue7) n vs K))) (oN i vs K)
abbrev Um1 (n:Nat):Orc R:=oC UaD (UIa n) 6 UnY Ukn (Uql n) oN
abbrev UEf (R:Type) (n:Nat):=JcH (R:=R) Tryz.prog (UiA n) UaD n (36,[]) (Um6 n) (Um1 n)
theorem UyU (n:Nat):UEf R n (true,6,UnY):=JkW (lo:=Um6 n) (cu:=Um1 n) (pO pN (by kernel_rfl)) Ukn (Uql n) (fun K _ _ _=>by show _=_; kernel_rfl) fun _ _=>rfl
theorem UmH (n:Nat):Je6 (UEf R n) (JaJ UaD Ue7):=pO (pC (UyU n) pN) (by kernel_rfl)
theorem Ulj (n:Nat):∀ m (K:Kc R),UaU.all (fun vs r=>JcB UaD 5 (JcU Tryz.prog (UiA n) UaD (36,[]) (Um6 n) (Um1 n) Ue7) m vs K=r) (UcQ n m K):=JiE (F:=UcQ n) UaU (UsN n) (fun K _ _ _=>rfl) (fun _ _=>rfl) (fun L K _ _ _=>by show _=_; kernel_rfl)
theorem Us0 (n:Nat):∀ m (K:Kc R),Ubu.all (fun vs r=>JcB UaD 5 (JcU Tryz.prog (UiA n) UaD (36,[]) (Um6 n) (Um1 n) Ue7) m vs K=r) (Ueo n m K):=Jhw (F1:=UcQ n) (F:=Ueo n) Ubu UaU (UsO n) (fun K _ _=>rfl) (fun _ _=>rfl) (Ulj n) (fun L K _ _=>by show _=_; kernel_rfl)
theorem UyV (n:Nat):UEf R n (false,5,Ue7):=JkF (lo:=Um6 n) (cu:=Um1 n) (UmH n) UaU (UcQ n n) (Ulj n n) (JkF (lo:=Um6 n) (cu:=Um1 n) (UmH n) Ubu (Ueo n n) (Us0 n n) fun _ _=>rfl)
theorem UG7 (n:Nat):Je6 (UEf R n) (JaJ UaD (Jll Tryz.f116)):=pO (pC (UyV n) pN) (by kernel_rfl)
abbrev t116:Sl (List SV):=(cH .n)
abbrev f116 (n:Nat) (K:List SV→O R):t116.T (O R):=fun x1=>UCH n x1 (fun y1=>K [vS y1])
abbrev UBT (n:Nat):FS:=fT [false] t116 (f116 n)
theorem UGf (n:Nat):FSound Tryz.prog GI 116 (UBT n):=gd UaD n (Ulz n) Tryz.func116 (.cons (Ulz n) t116 (f116 n) (fun K _=>(Jkq (c:=Jll Tryz.f116) (by kernel_rfl) (UG7 n) K).trans (by kernel_rfl)) .nil) (by kernel_rfl)
def UcN:Ann:={ loops:=[],cuts:=[(5,ids [1,4,24],ids [1,2,3]),(7,ids [1],ids [2,3]),(10,ids [1,5,6],ids [2,3]),(12,ids [5,6],ids [2,3]),(14,ids [5],ids [2,3])],frz:=[],rm:=[.id,.id] }
abbrev UxW (n:Nat):Env:=eC 116 (UBT n) (eC 115 (Ux6 n) (eC 100 (Ux4 n) eN))
theorem UpV (n:Nat):EnvOK Tryz.prog GI (UxW n):=.cons (.cons (.cons (.nil) (UCu n)) (UCw n)) (UGf n)
def UfX (n:Nat) (x1:Bool) (x2 x3 x4:LP) (x5:Bool) (k0:Bool→LP→LP→O R):O R :=
 bif x5 then (Uz4 n x2 x4 (fun y6 y7=>Uz4 n x3 x4 (fun y8 y9=>k0 x1 y6 y8))) else (k0 x1 x2 x3)
def UhJ (n:Nat) (x1:ByteArray) (k0:ByteArray→Int→O R):O R :=
 k0 x1 0
def UhI (n:Nat) (x1 x2:ByteArray) (k0:ByteArray→Int→O R):O R :=
 bif (!eqS x2 (⟨#[49]⟩:ByteArray)) then (Jj0 (⟨#[47]⟩:ByteArray) x2 fun s3=>Jj0 x1 s3 fun s4=>UhJ n s4 (fun y5 y6=>k0 y5 y6)) else (UhJ n x1 (fun y7 y8=>k0 y7 y8))
def Uj7 (n:Nat) (x1:Bool) (x2 x3:LP) (x4 x5:ByteArray) (k0:ByteArray→Int→O R):O R :=
 bif x1 then (Jj0 (⟨#[45]⟩:ByteArray) x4 fun s6=>UhI n s6 x5 (fun y7 y8=>k0 y7 y8)) else (UhI n x4 x5 (fun y9 y10=>k0 y9 y10))
def UiI (n:Nat) (x1:Bool) (x2 x3:LP) (k0:ByteArray→Int→O R):O R :=
 UCH n x2 (fun y4=>UCH n x3 (fun y5=>bif (decide (((y4).size:Int)>400)) then (k0 ⟨#[]⟩ 5) else (bif (bif false then true else (decide (((y5).size:Int)>400))) then (k0 ⟨#[]⟩ 5) else (Uj7 n x1 x2 x3 y4 y5 (fun y6 y7=>k0 y6 y7)))))
def p79 (n:Nat) (x1:Bool) (x2 x3:LP) (k0:ByteArray→Int→O R):O R :=
 bif (((x2).length:Int) == 0) then (k0 ⟨#[48]⟩ 0) else (UCF n x2 x3 (fun y4=>bif (decide (((y4).length:Int)>1)) then (UfX n x1 x2 x3 y4 true (fun y5 y6 y7=>UiI n y5 y6 y7 (fun y8 y9=>k0 y8 y9))) else (bif (inR 0 ((y4).length)) then (Jj .u32 ((y4).getD ((0:Int).toNat) (.v (.bool false))) fun e10=>UfX n x1 x2 x3 y4 (bif false then true else (decide (e10>1))) (fun y11 y12 y13=>UiI n y11 y12 y13 (fun y14 y15=>k0 y14 y15))) else none)))
abbrev E79 (n:Nat):Code→Fr→Kc R→O R:=evC Tryz.prog (UxW n) UcN n (66,[])
noncomputable def UuA:Code:=Jj4 (Jll Tryz.f79) [1,1,0,1,1]
abbrev Usr:Sl (List SV):=(.c (sBx 99 (cB (cH (cH .n)))) (cH (cB .n)))
abbrev Uvc (n:Nat) (K:Kc R):Usr.T (O R):=fun x1 x2 x3 x4 x5=>UfX n x1 x2 x3 x4 x5 (fun y1 y2 y3=>xC UcN 5 K .normal [.bx 99 [vB y1,vH y2,vH y3],dD,dD])
noncomputable def UuB:Code:=Jj4 (Jll Tryz.f79) [1,1,1]
abbrev Uss:Sl (List SV):=(.c (sBx 99 (cB (cH (cH .n)))) .n)
abbrev Uvd (n:Nat) (K:Kc R):Uss.T (O R):=fun x1 x2 x3=>UiI n x1 x2 x3 (fun y1 y2=>xC UcN 7 K .ret [vS y1,vI y2])
noncomputable def Uor:Code:=Jj4 (Jll Tryz.f79) [1,1,1,1,1]
abbrev UkF:Sl (List SV):=(.c (sBx 99 (cB (cH (cH .n)))) (cS (cS .n)))
abbrev Uq1 (n:Nat) (K:Kc R):UkF.T (O R):=fun x1 x2 x3 x4 x5=>Uj7 n x1 x2 x3 x4 x5 (fun y1 y2=>xC UcN 10 K .ret [vS y1,vI y2])
noncomputable def Uos:Code:=Jj4 (Jll Tryz.f79) [1,1,1,1,1,1]
abbrev UkG:Sl (List SV):=(cS (cS .n))
abbrev Uq2 (n:Nat) (K:Kc R):UkG.T (O R):=fun x1 x2=>UhI n x1 x2 (fun y1 y2=>xC UcN 12 K .ret [vS y1,vI y2])
noncomputable def Uot:Code:=Jj4 (Jll Tryz.f79) [1,1,1,1,1,1,1]
abbrev UkH:Sl (List SV):=(cS .n)
abbrev Uq3 (n:Nat) (K:Kc R):UkH.T (O R):=fun x1=>UhJ n x1 (fun y1 y2=>xC UcN 14 K .ret [vS y1,vI y2])
abbrev UzY (n:Nat):Orc R:=oN
abbrev UzU (n:Nat):Orc R:=oC UcN (E79 n) 14 Uot UkH (Uq3 n) (oC UcN (E79 n) 12 Uos UkG (Uq2 n) (oC UcN (E79 n) 10 Uor UkF (Uq1 n) (oC UcN (E79 n) 7 UuB Uss (Uvd n) (oC UcN (E79 n) 5 UuA Usr (Uvc n) oN))))
abbrev K79 (R:Type) (n:Nat):=JcH (R:=R) Tryz.prog (UxW n) UcN n (66,[]) (UzY n) (UzU n)
theorem UDF (n:Nat):K79 R n (true,5,UuA):=JkW (lo:=UzY n) (cu:=UzU n) (pO pN (by kernel_rfl)) Usr (Uvc n) (fun K _ _ _ _ _=>by show _=_; kernel_rfl) fun _ _=>rfl
theorem Uzq (n:Nat):K79 R n (true,14,Uot):=JkW (lo:=UzY n) (cu:=UzU n) (pO pN (by kernel_rfl)) UkH (Uq3 n) (fun K _=>by show _=_; kernel_rfl) fun _ _=>rfl
theorem Uzp (n:Nat):K79 R n (true,12,Uos):=JkW (lo:=UzY n) (cu:=UzU n) (pO (pC (Uzq n) pN) (by kernel_rfl)) UkG (Uq2 n) (fun K _ _=>by show _=_; kernel_rfl) fun _ _=>rfl
theorem Uzo (n:Nat):K79 R n (true,10,Uor):=JkW (lo:=UzY n) (cu:=UzU n) (pO (pC (Uzp n) pN) (by kernel_rfl)) UkF (Uq1 n) (fun K _ _ _ _ _=>by show _=_; kernel_rfl) fun _ _=>rfl
theorem UDG (n:Nat):K79 R n (true,7,UuB):=JkW (lo:=UzY n) (cu:=UzU n) (pO (pC (Uzo n) pN) (by kernel_rfl)) Uss (Uvd n) (fun K _ _ _=>by show _=_; kernel_rfl) fun _ _=>rfl
theorem UNt (n:Nat):Je6 (K79 R n) (JaJ UcN (Jll Tryz.f79)):=pO (pC (UDF n) (pC (UDG n) pN)) (by kernel_rfl)
abbrev t79:Sl (List SV):=(.c (sP (JlI (.c Jlf (.c sSh (.c sSh .n))))) .n)
abbrev f79 (n:Nat) (K:List SV→O R):t79.T (O R):=fun x1 x2 x3=>p79 n x1 x2 x3 (fun y1 y2=>K [vS y1,vI y2])
abbrev UFy (n:Nat):FS:=fT [false] t79 (f79 n)
theorem UJ3 (n:Nat):FSound Tryz.prog GI 79 (UFy n):=gd UcN n (UpV n) Tryz.func79 (.cons (UpV n) t79 (f79 n) (fun K _ _ _=>(Jkq (c:=Jll Tryz.f79) (by kernel_rfl) (UNt n) K).trans (by kernel_rfl)) .nil) (by kernel_rfl)
end
end Go.Proofs.YtmgfmlhdnadglaaGreatDoor
