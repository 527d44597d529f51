/- Proved: part 4 of the proof that the law CertifyLeast returns true at all its arguments (no further conditions). -/
import Derived.Test.YtmgfmlhdnadglaaGreatDoorT1
import Derived.Test.YtmgfmlhdnadglaaGreatDoorProg
import Derived.Test.YtmgfmlhdnadglaaGreatDoorT2
import Derived.Lib.ItoaNum
import Derived.Lib.AtoiAll
set_option linter.unusedVariables false
set_option maxRecDepth 100000
namespace Go.Proofs.YtmgfmlhdnadglaaGreatDoor
open Go Th Go.Proofs
abbrev GI:GInv:=GInv.tab Tryz.prog "internal/strconv.uint64pow10" .u64 Lib.pow10Tab 0 (by kernel_rfl)
def layr166:Go.Shelf.Ren:=⟨fun | 166=>140 | 240=>169 | 276=>192 | n=>n,fun | 0=>0 | 3=>3 | 4=>4 | 5=>5 | 9=>9 | 20=>20 | 37=>173 | 70=>179 | 72=>181 | 75=>166 | 80=>154 | 164=>227 | n=>n,fun | n=>n⟩
theorem UB6:Go.Proofs.Lays.n166 Tryz.prog layr166:={
 mixed:=by kernel_rfl
 f166:=Tryz.func140.trans (congrArg some (by kernel_rfl))
 f240:=Tryz.func169.trans (congrArg some (by kernel_rfl))
 f276:=Tryz.func192.trans (congrArg some (by kernel_rfl))
 t0:=Tryz.underlying0
 a0:=Tryz.isAgg0
 z0:=Tryz.sizeOf0
 v0:=Tryz.zeroValue0
 t3:=Tryz.underlying3
 a3:=Tryz.isAgg3
 z3:=Tryz.sizeOf3
 v3:=Tryz.zeroValue3
 t4:=Tryz.underlying4
 a4:=Tryz.isAgg4
 z4:=Tryz.sizeOf4
 v4:=Tryz.zeroValue4
 t9:=Tryz.underlying9
 a9:=Tryz.isAgg9
 z9:=Tryz.sizeOf9
 v9:=Tryz.zeroValue9
 t20:=Tryz.underlying20
 a20:=Tryz.isAgg20
 z20:=Tryz.sizeOf20
 v20:=Tryz.zeroValue20
 t37:=Tryz.underlying173
 a37:=Tryz.isAgg173
 z37:=Tryz.sizeOf173
 v37:=Tryz.zeroValue173
 t70:=Tryz.underlying179
 a70:=Tryz.isAgg179
 z70:=Tryz.sizeOf179
 v70:=Tryz.zeroValue179
 t72:=Tryz.underlying181
 a72:=Tryz.isAgg181
 z72:=Tryz.sizeOf181
 v72:=Tryz.zeroValue181
 t75:=Tryz.underlying166
 a75:=Tryz.isAgg166
 z75:=Tryz.sizeOf166
 v75:=Tryz.zeroValue166
 t164:=Tryz.underlying227
 a164:=Tryz.isAgg227
 z164:=Tryz.sizeOf227
 v164:=Tryz.zeroValue227 }
theorem UB7:Builder.Extra Tryz.prog layr166:={
 sizeBuilder:=by kernel_rfl
 liesBuilder:=by kernel_rfl
 t5:=Tryz.underlying5
 a5:=Tryz.isAgg5
 z5:=Tryz.sizeOf5
 v5:=Tryz.zeroValue5
 infoByte:=by kernel_rfl
 cellsByte:=by kernel_rfl
 sizeByte:=by kernel_rfl
 neB5:=by decide }
noncomputable def UJ6 (n:Nat):FS:=fsFormatInt
theorem UOX (n:Nat):FSound Tryz.prog GI 60 (UJ6 n):=Jjh (Jlu Tryz.func60 (by kernel_rfl) (by kernel_rfl)) (fun F W h=>h.2) Tryz.strconv_FormatInt_10
noncomputable def UF9 (n:Nat):FS:=fsAtoi
theorem UK0 (n:Nat):FSound Tryz.prog GI 129 (UF9 n):=Jk6 (Jlu Tryz.func129 (by kernel_rfl) (by kernel_rfl)) (fun s h1 v h2 w=>Tryz.strconv_Atoi_ok s h1 v h2 w)
noncomputable def UG (n:Nat):FS:=fsTrim
theorem UK1 (n:Nat):FSound Tryz.prog GI 130 (UG n):=Jk8 (Jlu Tryz.func130 (by kernel_rfl) (by kernel_rfl)) (fun s t w h1 h2 h3=>Any.strings_Trim_laid Tryz.lays160 (by kernel_rfl) s t w h1 h2 h3)
noncomputable def UGd (n:Nat):FS:=fsItoa
theorem UK5 (n:Nat):FSound Tryz.prog GI 138 (UGd n):=Jk7 (Jlu Tryz.func138 (by kernel_rfl) (by kernel_rfl)) (fun F W h=>h.2) Tryz.strconv_Itoa
noncomputable def UGe (n:Nat):FS:=fsRepeat
theorem UK6 (n:Nat):FSound Tryz.prog GI 139 (UGe n):=JkA (Jlu Tryz.func139 (by kernel_rfl) (by kernel_rfl)) (fun s c w h1 h2=>Tryz.strings_Repeat s c w h1 h2)
noncomputable def UGf (n:Nat):FS:=JaV 181 5
theorem UK7 (n:Nat):FSound Tryz.prog GI 140 (UGf n):=Jh6 UB6 UB7 (Jlu Tryz.func140 (by kernel_rfl) (by kernel_rfl))
noncomputable def UGg (n:Nat):FS:=Jcn 181 5
theorem UK8 (n:Nat):FSound Tryz.prog GI 141 (UGg n):=JkB Tryz.lays169 Tryz.Builder_Extra_169 (Jlu Tryz.func141 (by kernel_rfl) (by kernel_rfl))
noncomputable def UGk (n:Nat):FS:=fsIndex1
theorem ULb (n:Nat):FSound Tryz.prog GI 148 (UGk n):=Jkz (Jlu Tryz.func148 (by kernel_rfl) (by kernel_rfl)) Tryz.stringslite_Index_one
end Go.Proofs.YtmgfmlhdnadglaaGreatDoor
set_option linter.unusedVariables false
set_option maxRecDepth 100000
namespace Go.Proofs.YtmgfmlhdnadglaaGreatDoor
open Go Th Go.Proofs
noncomputable section
variable {R:Type}
def Ups:Ann:={ loops:=[],cuts:=[],frz:=[],rm:=[.id,.id,.id] }
abbrev Ux6 (n:Nat):Env:=eC 148 (UGk n) eN
theorem Unw (n:Nat):EnvOK Tryz.prog GI (Ux6 n):=.cons (.nil) (ULb n)
def ULu (n:Nat) (x1:ByteArray) (k0:ByteArray→ByteArray→Bool→O R):O R :=
 let v2:=Lib.indexByte (x1).data.toList (((⟨#[47]⟩:ByteArray)).data.toList.headD 0); bif (decide (v2≥0)) then (bif (Je5 0 v2 (x1).size) then (let v3:=IntKind.i64.wrap (v2 + ((⟨#[47]⟩:ByteArray).size:Int)); bif (Je5 v3 ((x1).size:Int) (x1).size) then (k0 (ByteArray.extract x1 (0:Int).toNat (v2:Int).toNat) (ByteArray.extract x1 (v3:Int).toNat (((x1).size:Int):Int).toNat) true) else none) else none) else (k0 x1 ⟨#[]⟩ false)
abbrev UKt (n:Nat):Orc R:=oN
abbrev UJG (n:Nat):Orc R:=oN
abbrev UPA (R:Type) (n:Nat):=JcH (R:=R) Tryz.prog (Ux6 n) Ups n (23,[]) (UKt n) (UJG n)
theorem ULZ (n:Nat):Je6 (UPA R n) (JaJ Ups (Jll Tryz.f127)):=pO pN (by kernel_rfl)
abbrev t127:Sl (List SV):=(cS (.c (sP (Jlz (⟨#[47]⟩:ByteArray))) .n))
abbrev f127 (n:Nat) (K:List SV→O R):t127.T (O R):=fun x1=>ULu n x1 (fun y1 y2 y3=>K [vS y1,vS y2,vB y3])
abbrev UF7 (n:Nat):FS:=fT [false,false] t127 (f127 n)
theorem UKY (n:Nat):FSound Tryz.prog GI 127 (UF7 n):=gd Ups n (Unw n) Tryz.func127 (.cons (Unw n) t127 (f127 n) (fun K _=>(Jkq (c:=Jll Tryz.f127) (by kernel_rfl) (ULZ n) K).trans (by kernel_rfl)) .nil) (by kernel_rfl)
def UAd:Ann:={ loops:=[],cuts:=[],frz:=[],rm:=[.id,.id,.id] }
abbrev UFI (n:Nat):Env:=eC 127 (UF7 n) eN
theorem Ust (n:Nat):EnvOK Tryz.prog GI (UFI n):=.cons (.nil) (UKY n)
def p96 (n:Nat) (x1:ByteArray) (k0:ByteArray→ByteArray→Bool→O R):O R :=
 ULu n x1 (fun y2 y3 y4=>k0 y2 y3 y4)
abbrev UR (n:Nat):Orc R:=oN
abbrev UQo (n:Nat):Orc R:=oN
abbrev K96 (R:Type) (n:Nat):=JcH (R:=R) Tryz.prog (UFI n) UAd n (13,[]) (UR n) (UQo n)
theorem UTb (n:Nat):Je6 (K96 R n) (JaJ UAd (Jll Tryz.f96)):=pO pN (by kernel_rfl)
abbrev t96:Sl (List SV):=(cS (.c (sP (Jlz (⟨#[47]⟩:ByteArray))) .n))
abbrev f96 (n:Nat) (K:List SV→O R):t96.T (O R):=fun x1=>p96 n x1 (fun y1 y2 y3=>K [vS y1,vS y2,vB y3])
abbrev UOq (n:Nat):FS:=fT [false,false] t96 (f96 n)
theorem URT (n:Nat):FSound Tryz.prog GI 96 (UOq n):=gd UAd n (Ust n) Tryz.func96 (.cons (Ust n) t96 (f96 n) (fun K _=>(Jkq (c:=Jll Tryz.f96) (by kernel_rfl) (UTb n) K).trans (by kernel_rfl)) .nil) (by kernel_rfl)
def UAf:Ann:={ loops:=[],cuts:=[],frz:=[],rm:=[.id] }
abbrev UFK (n:Nat):Env:=eC 130 (UG n) eN
theorem Usw (n:Nat):EnvOK Tryz.prog GI (UFK n):=.cons (.nil) (UK1 n)
def p99 (n:Nat) (x1:ByteArray) (k0:Bool→O R):O R :=
 bif (eqS x1 (⟨#[]⟩:ByteArray)) then (k0 false) else (bif (bif false then true else (decide (((x1).size:Int)>400))) then (k0 false) else (bif (inR 0 (x1).size) then (bif (Jc6 x1 0 == 48) then (bif (bif false then true else (bif true then (decide (((x1).size:Int)>1)) else false)) then (k0 false) else (bif (Jjj x1 (⟨#[48,49,50,51,52,53,54,55,56,57]⟩:ByteArray)) then (k0 (eqS (JkL x1 (⟨#[48,49,50,51,52,53,54,55,56,57]⟩:ByteArray)) (⟨#[]⟩:ByteArray))) else none)) else (bif (Jjj x1 (⟨#[48,49,50,51,52,53,54,55,56,57]⟩:ByteArray)) then (k0 (eqS (JkL x1 (⟨#[48,49,50,51,52,53,54,55,56,57]⟩:ByteArray)) (⟨#[]⟩:ByteArray))) else none)) else none))
abbrev URb (n:Nat):Orc R:=oN
abbrev UQq (n:Nat):Orc R:=oN
abbrev K99 (R:Type) (n:Nat):=JcH (R:=R) Tryz.prog (UFK n) UAf n (23,[]) (URb n) (UQq n)
theorem UTe (n:Nat):Je6 (K99 R n) (JaJ UAf (Jll Tryz.f99)):=pO pN (by kernel_rfl)
abbrev t99:Sl (List SV):=(cS .n)
abbrev f99 (n:Nat) (K:List SV→O R):t99.T (O R):=fun x1=>p99 n x1 (fun y1=>K [vB y1])
abbrev UKh (n:Nat):FS:=fT [false] t99 (f99 n)
theorem UO9 (n:Nat):FSound Tryz.prog GI 99 (UKh n):=gd UAf n (Usw n) Tryz.func99 (.cons (Usw n) t99 (f99 n) (fun K _=>(Jkq (c:=Jll Tryz.f99) (by kernel_rfl) (UTe n) K).trans (by kernel_rfl)) .nil) (by kernel_rfl)
def Upy:Ann:={ loops:=[],cuts:=[],frz:=[],rm:=[.id] }
abbrev Uyb (n:Nat):Env:=eN
theorem UnL (n:Nat):EnvOK Tryz.prog GI (Uyb n):=.nil
def ULy (n:Nat) (x1 x2:ByteArray) (k0:Bool→O R):O R :=
 bif (decide (((x1).size:Int)≥((x2).size:Int))) then (bif (Je5 0 ((x2).size:Int) (x1).size) then (k0 (bif true then eqS (ByteArray.extract x1 (0:Int).toNat (((x2).size:Int):Int).toNat) x2 else false)) else none) else (k0 false)
abbrev UKz (n:Nat):Orc R:=oN
abbrev UJM (n:Nat):Orc R:=oN
abbrev UPG (R:Type) (n:Nat):=JcH (R:=R) Tryz.prog (Uyb n) Upy n (18,[]) (UKz n) (UJM n)
theorem UMd (n:Nat):Je6 (UPG R n) (JaJ Upy (Jll Tryz.f177)):=pO pN (by kernel_rfl)
abbrev UMM:Sl (List SV):=(cS (cS .n))
abbrev f177 (n:Nat) (K:List SV→O R):UMM.T (O R):=fun x1 x2=>ULy n x1 x2 (fun y1=>K [vB y1])
abbrev UGp (n:Nat):FS:=fT [false,false] UMM (f177 n)
theorem ULg (n:Nat):FSound Tryz.prog GI 177 (UGp n):=gd Upy n (UnL n) Tryz.func177 (.cons (UnL n) UMM (f177 n) (fun K _ _=>(Jkq (c:=Jll Tryz.f177) (by kernel_rfl) (UMd n) K).trans (by kernel_rfl)) .nil) (by kernel_rfl)
def Upw:Ann:={ loops:=[],cuts:=[],frz:=[],rm:=[.id,.id] }
abbrev Uy (n:Nat):Env:=eC 177 (UGp n) eN
theorem UnH (n:Nat):EnvOK Tryz.prog GI (Uy n):=.cons (.nil) (ULg n)
def ULw (n:Nat) (x1 x2:ByteArray) (k0:ByteArray→Bool→O R):O R :=
 ULy n x1 x2 (fun y3=>bif (!y3) then (k0 x1 false) else (bif (Je5 ((x2).size:Int) ((x1).size:Int) (x1).size) then (k0 (ByteArray.extract x1 (((x2).size:Int):Int).toNat (((x1).size:Int):Int).toNat) true) else none))
abbrev UKx (n:Nat):Orc R:=oN
abbrev UJK (n:Nat):Orc R:=oN
abbrev UPE (R:Type) (n:Nat):=JcH (R:=R) Tryz.prog (Uy n) Upw n (15,[]) (UKx n) (UJK n)
theorem UM (n:Nat):Je6 (UPE R n) (JaJ Upw (Jll Tryz.f149)):=pO pN (by kernel_rfl)
abbrev UMJ:Sl (List SV):=(cS (cS .n))
abbrev f149 (n:Nat) (K:List SV→O R):UMJ.T (O R):=fun x1 x2=>ULw n x1 x2 (fun y1 y2=>K [vS y1,vB y2])
abbrev UGl (n:Nat):FS:=fT [false,false] UMJ (f149 n)
theorem ULc (n:Nat):FSound Tryz.prog GI 149 (UGl n):=gd Upw n (UnH n) Tryz.func149 (.cons (UnH n) UMJ (f149 n) (fun K _ _=>(Jkq (c:=Jll Tryz.f149) (by kernel_rfl) (UM n) K).trans (by kernel_rfl)) .nil) (by kernel_rfl)
def Upt:Ann:={ loops:=[],cuts:=[],frz:=[],rm:=[.id,.id] }
abbrev Ux7 (n:Nat):Env:=eC 149 (UGl n) eN
theorem Unx (n:Nat):EnvOK Tryz.prog GI (Ux7 n):=.cons (.nil) (ULc n)
def UJe (n:Nat) (x1 x2:ByteArray) (k0:ByteArray→Bool→O R):O R :=
 ULw n x1 x2 (fun y3 y4=>k0 y3 y4)
abbrev UKu (n:Nat):Orc R:=oN
abbrev UJH (n:Nat):Orc R:=oN
abbrev UPB (R:Type) (n:Nat):=JcH (R:=R) Tryz.prog (Ux7 n) Upt n (11,[]) (UKu n) (UJH n)
theorem UL0 (n:Nat):Je6 (UPB R n) (JaJ Upt (Jll Tryz.f128)):=pO pN (by kernel_rfl)
abbrev UMC:Sl (List SV):=(cS (cS .n))
abbrev f128 (n:Nat) (K:List SV→O R):UMC.T (O R):=fun x1 x2=>UJe n x1 x2 (fun y1 y2=>K [vS y1,vB y2])
abbrev UF8 (n:Nat):FS:=fT [false,false] UMC (f128 n)
theorem UKZ (n:Nat):FSound Tryz.prog GI 128 (UF8 n):=gd Upt n (Unx n) Tryz.func128 (.cons (Unx n) UMC (f128 n) (fun K _ _=>(Jkq (c:=Jll Tryz.f128) (by kernel_rfl) (UL0 n) K).trans (by kernel_rfl)) .nil) (by kernel_rfl)
def UAe:Ann:={ loops:=[],cuts:=[],frz:=[],rm:=[.id,.id,.id] }
abbrev UFJ (n:Nat):Env:=eC 128 (UF8 n) (eC 99 (UKh n) eN)
theorem Usu (n:Nat):EnvOK Tryz.prog GI (UFJ n):=.cons (.cons (.nil) (UO9 n)) (UKZ n)
def p97 (n:Nat) (x1:ByteArray) (k0:Bool→ByteArray→Bool→O R):O R :=
 UJe n x1 ⟨#[45]⟩ (fun y2 y3=>p99 n y2 (fun y4=>bif y4 then (bif y3 then (k0 y3 y2 (bif true then (!(bif true then eqS y2 (⟨#[48]⟩:ByteArray) else false)) else false)) else (k0 y3 y2 true)) else (k0 y3 y2 false)))
abbrev URa (n:Nat):Orc R:=oN
abbrev UQp (n:Nat):Orc R:=oN
abbrev K97 (R:Type) (n:Nat):=JcH (R:=R) Tryz.prog (UFJ n) UAe n (24,[]) (URa n) (UQp n)
theorem UTc (n:Nat):Je6 (K97 R n) (JaJ UAe (Jll Tryz.f97)):=pO pN (by kernel_rfl)
abbrev t97:Sl (List SV):=(cS .n)
abbrev f97 (n:Nat) (K:List SV→O R):t97.T (O R):=fun x1=>p97 n x1 (fun y1 y2 y3=>K [vB y1,vS y2,vB y3])
abbrev UOr (n:Nat):FS:=fT [false] t97 (f97 n)
theorem URU (n:Nat):FSound Tryz.prog GI 97 (UOr n):=gd UAe n (Usu n) Tryz.func97 (.cons (Usu n) t97 (f97 n) (fun K _=>(Jkq (c:=Jll Tryz.f97) (by kernel_rfl) (UTc n) K).trans (by kernel_rfl)) .nil) (by kernel_rfl)
def Uf9:Ann:={ loops:=[(1,ids [0],ids [0,2])],cuts:=[],frz:=[],rm:=[.id] }
abbrev UqO (n:Nat):Env:=eN
theorem Um8 (n:Nat):EnvOK Tryz.prog GI (UqO n):=.nil
def Uiy (n:Nat) (l0:LP→O R) (x1:LP) (k0:LP→O R):O R :=
 bif (decide (((x1).length:Int)>0)) then (let v2:=IntKind.i64.wrap (((x1).length:Int) - 1); bif (inR v2 ((x1).length)) then (Jj .u32 ((x1).getD ((v2:Int).toNat) (.v (.bool false))) fun e3=>bif (bif true then (e3 == 0) else false) then (let v4:=IntKind.i64.wrap (((x1).length:Int) - 1); bif (Jgx 1 x1&&Je5 0 v4 ((x1).length)) then (l0 (((x1).take (v4:Int).toNat).drop (0:Int).toNat)) else none) else (k0 x1)) else none) else (k0 x1)
def UdD (n:Nat):Nat→LP→(LP→O R)→O R
 | 0,_,_=>none
 | m + 1,x1,k0=>Uiy n (fun x1=>UdD n m x1 k0) x1 k0
def Ut0 (n:Nat) (x1:LP) (k0:LP→O R):O R:=UdD n n x1 k0
def UtZ (n:Nat) (x1:LP) (k0:LP→O R):O R :=
 Ut0 n x1 (fun y2=>k0 y2)
abbrev UPf (n:Nat):Code→Fr→Kc R→O R:=evC Tryz.prog (UqO n) Uf9 n (21,[])
noncomputable def UpG:Code:=Jj4 (Jll Tryz.f101) [1,0,0,0]
abbrev UeL:Sl (List SV):=(cH .n)
abbrev Uk1 (n m:Nat) (K:Kc R):UeL.T (O R):=fun x1=>UdD n m x1 (fun y1=>xL Uf9 1 K (.exit 0) [vH y1,dD])
abbrev UAh (n:Nat) (K:Kc R) (l0:UeL.T (O R)):UeL.T (O R):=fun x1=>Uiy n l0 x1 (fun y1=>xL Uf9 1 K (.exit 0) [vH y1,dD])
abbrev UGz (n:Nat):Orc R:=oL Uf9 (UPf n) n 1 UpG UeL (Uk1 n n) oN
abbrev UEM (n:Nat):Orc R:=oN
abbrev UM3 (R:Type) (n:Nat):=JcH (R:=R) Tryz.prog (UqO n) Uf9 n (21,[]) (UGz n) (UEM n)
theorem UCs (n:Nat):UM3 R n (false,1,UpG):=JkF (lo:=UGz n) (cu:=UEM n) (pO pN (by kernel_rfl)) UeL (Uk1 n n) (JiE (F:=Uk1 n) UeL (UAh n) (fun K _=>rfl) (fun _ _=>rfl) (fun L K _=>by show _=_; kernel_rfl) n) fun _ _=>rfl
theorem ULA (n:Nat):Je6 (UM3 R n) (JaJ Uf9 (Jll Tryz.f101)):=pO (pC (UCs n) pN) (by kernel_rfl)
abbrev UMj:Sl (List SV):=(cH .n)
abbrev f101 (n:Nat) (K:List SV→O R):UMj.T (O R):=fun x1=>UtZ n x1 (fun y1=>K [vH y1])
abbrev Ult (n:Nat):FS:=fT [false] UMj (f101 n)
theorem Uo4 (n:Nat):FSound Tryz.prog GI 101 (Ult n):=gd Uf9 n (Um8 n) Tryz.func101 (.cons (Um8 n) UMj (f101 n) (fun K _=>(Jkq (c:=Jll Tryz.f101) (by kernel_rfl) (ULA n) K).trans (by kernel_rfl)) .nil) (by kernel_rfl)
def UkO:Ann:={ loops:=[(2,[(0,.id),(3,.own 143)],ids [2,3])],cuts:=[],frz:=[],rm:=[.id] }
abbrev UBJ (n:Nat):Env:=eC 129 (UF9 n) (eC 101 (Ult n) eN)
theorem Usv (n:Nat):EnvOK Tryz.prog GI (UBJ n):=.cons (.cons (.nil) (Uo4 n)) (UK0 n)
def Ujl (n:Nat) (l0:ByteArray→LP→O R) (x1:ByteArray) (x2:LP) (k0:LP→O R):O R :=
 bif (decide (((x1).size:Int)>0)) then (let v3:=IntKind.i64.wrap (((x1).size:Int) - 9); bif (Je5 (JkU 0 v3) ((x1).size:Int) (x1).size) then (Jib (ByteArray.extract x1 (JkU 0 v3:Int).toNat (((x1).size:Int):Int).toNat) fun v4=>bif (Jbu ((x2).length + 1) 4) then (bif (Je5 0 (JkU 0 v3) (x1).size) then (l0 (ByteArray.extract x1 (0:Int).toNat (JkU 0 v3:Int).toNat) (x2++([.v (.int .u32 (IntKind.u32.wrap (v4)))]:LP))) else none) else none) else none) else (k0 x2)
def UeJ (n:Nat):Nat→ByteArray→LP→(LP→O R)→O R
 | 0,_,_,_=>none
 | m + 1,x1,x2,k0=>Ujl n (fun x1 x2=>UeJ n m x1 x2 k0) x1 x2 k0
def Uzi (n:Nat) (x1:ByteArray) (x2:LP) (k0:LP→O R):O R:=UeJ n n x1 x2 k0
def p98 (n:Nat) (x1:ByteArray) (k0:LP→O R):O R :=
 Uzi n x1 [] (fun y2=>UtZ n y2 (fun y3=>k0 y3))
abbrev E98 (n:Nat):Code→Fr→Kc R→O R:=evC Tryz.prog (UBJ n) UkO n (31,[])
noncomputable def UxT:Code:=Jj4 (Jll Tryz.f98) [1,1,0,0,0]
abbrev UhP:Sl (List SV):=(cS (cO 143 .n))
abbrev UtB (n m:Nat) (K:Kc R):UhP.T (O R):=fun x1 x2=>UeJ n m x1 x2 (fun y1=>xL UkO 2 K (.exit 0) [dD,.own 143 y1])
abbrev UEF (n:Nat) (K:Kc R) (l0:UhP.T (O R)):UhP.T (O R):=fun x1 x2=>Ujl n l0 x1 x2 (fun y1=>xL UkO 2 K (.exit 0) [dD,.own 143 y1])
abbrev UON (n:Nat):Orc R:=oL UkO (E98 n) n 2 UxT UhP (UtB n n) oN
abbrev UNy (n:Nat):Orc R:=oN
abbrev K98 (R:Type) (n:Nat):=JcH (R:=R) Tryz.prog (UBJ n) UkO n (31,[]) (UON n) (UNy n)
theorem UId (n:Nat):K98 R n (false,2,UxT):=JkF (lo:=UON n) (cu:=UNy n) (pO pN (by kernel_rfl)) UhP (UtB n n) (JiE (F:=UtB n) UhP (UEF n) (fun K _ _=>rfl) (fun _ _=>rfl) (fun L K _ _=>by show _=_; kernel_rfl) n) fun _ _=>rfl
theorem UTd (n:Nat):Je6 (K98 R n) (JaJ UkO (Jll Tryz.f98)):=pO (pC (UId n) pN) (by kernel_rfl)
abbrev t98:Sl (List SV):=(cS .n)
abbrev f98 (n:Nat) (K:List SV→O R):t98.T (O R):=fun x1=>p98 n x1 (fun y1=>K [vH y1])
abbrev UOs (n:Nat):FS:=fT [false] t98 (f98 n)
theorem URV (n:Nat):FSound Tryz.prog GI 98 (UOs n):=gd UkO n (Usv n) Tryz.func98 (.cons (Usv n) t98 (f98 n) (fun K _=>(Jkq (c:=Jll Tryz.f98) (by kernel_rfl) (UTd n) K).trans (by kernel_rfl)) .nil) (by kernel_rfl)
def Uh3:Ann:={ loops:=[(6,ids [0,1,5],ids [4])],cuts:=[],frz:=[],rm:=[.id] }
abbrev UBs (n:Nat):Env:=eN
theorem UrU (n:Nat):EnvOK Tryz.prog GI (UBs n):=.nil
def Ui3 (n:Nat) (l0:LP→LP→Int→O R) (x1 x2:LP) (x3:Int) (k0:Int→O R) (k1:O R):O R :=
 bif (decide (x3≥0)) then (bif (inR x3 ((x1).length)) then (Jj .u32 ((x1).getD ((x3:Int).toNat) (.v (.bool false))) fun e4=>bif (inR x3 ((x2).length)) then (Jj .u32 ((x2).getD ((x3:Int).toNat) (.v (.bool false))) fun e5=>bif (e4 != e5) then (bif (inR x3 ((x1).length)) then (Jj .u32 ((x1).getD ((x3:Int).toNat) (.v (.bool false))) fun e6=>bif (inR x3 ((x2).length)) then (Jj .u32 ((x2).getD ((x3:Int).toNat) (.v (.bool false))) fun e7=>bif (decide (e6<e7)) then (k0 (-1)) else (k0 1)) else none) else none) else (l0 x1 x2 (IntKind.i64.wrap (x3 - 1)))) else none) else none) else (k1)
def Ues (n:Nat):Nat→LP→LP→Int→(Int→O R)→(O R)→O R
 | 0,_,_,_,_,_=>none
 | m + 1,x1,x2,x3,k0,k1=>Ui3 n (fun x1 x2 x3=>Ues n m x1 x2 x3 k0 k1) x1 x2 x3 k0 k1
def Uy2 (n:Nat) (x1 x2:LP) (x3:Int) (k0:Int→O R) (k1:O R):O R:=Ues n n x1 x2 x3 k0 k1
def p57 (n:Nat) (x1 x2:LP) (k0:Int→O R):O R :=
 bif (((x1).length:Int) != ((x2).length:Int)) then (bif (decide (((x1).length:Int)<((x2).length:Int))) then (k0 (-1)) else (k0 1)) else (let v3:=IntKind.i64.wrap (((x1).length:Int) - 1); Uy2 n x1 x2 v3 (fun y4=>k0 y4) (k0 0))
abbrev E57 (n:Nat):Code→Fr→Kc R→O R:=evC Tryz.prog (UBs n) Uh3 n (41,[])
noncomputable def Uxt:Code:=Jj4 (Jll Tryz.f57) [1,1,0,1,0,0]
abbrev Uhx:Sl (List SV):=(cH (cH (cI .n)))
abbrev Utd (n m:Nat) (K:Kc R):Uhx.T (O R):=fun x1 x2 x3=>Ues n m x1 x2 x3 (fun y1=>xL Uh3 6 K .ret [vI y1]) (xL Uh3 6 K (.exit 0) [dD])
abbrev UEn (n:Nat) (K:Kc R) (l0:Uhx.T (O R)):Uhx.T (O R):=fun x1 x2 x3=>Ui3 n l0 x1 x2 x3 (fun y1=>xL Uh3 6 K .ret [vI y1]) (xL Uh3 6 K (.exit 0) [dD])
abbrev UOE (n:Nat):Orc R:=oL Uh3 (E57 n) n 6 Uxt Uhx (Utd n n) oN
abbrev UNp (n:Nat):Orc R:=oN
abbrev K57 (R:Type) (n:Nat):=JcH (R:=R) Tryz.prog (UBs n) Uh3 n (41,[]) (UOE n) (UNp n)
theorem UHM (n:Nat):K57 R n (false,6,Uxt):=JkF (lo:=UOE n) (cu:=UNp n) (pO pN (by kernel_rfl)) Uhx (Utd n n) (JiE (F:=Utd n) Uhx (UEn n) (fun K _ _ _=>rfl) (fun _ _=>rfl) (fun L K _ _ _=>by show _=_; kernel_rfl) n) fun _ _=>rfl
theorem USC (n:Nat):Je6 (K57 R n) (JaJ Uh3 (Jll Tryz.f57)):=pO (pC (UHM n) pN) (by kernel_rfl)
abbrev t57:Sl (List SV):=(cH (cH .n))
abbrev f57 (n:Nat) (K:List SV→O R):t57.T (O R):=fun x1 x2=>p57 n x1 x2 (fun y1=>K [vI y1])
abbrev UIR (n:Nat):FS:=fT [false,false] t57 (f57 n)
theorem ULm (n:Nat):FSound Tryz.prog GI 57 (UIR n):=gd Uh3 n (UrU n) Tryz.func57 (.cons (UrU n) t57 (f57 n) (fun K _ _=>(Jkq (c:=Jll Tryz.f57) (by kernel_rfl) (USC n) K).trans (by kernel_rfl)) .nil) (by kernel_rfl)
def UgR:Ann:={ loops:=[(3,ids [0,1,5,16,17],ids [4,5]),(7,ids [0,1,5,6,7,16,17,21,22],ids [0,1,4,5,6,7,16,17])],cuts:=[],frz:=[],rm:=[.id] }
abbrev UBt (n:Nat):Env:=eC 101 (Ult n) eN
theorem UrV (n:Nat):EnvOK Tryz.prog GI (UBt n):=.cons (.nil) (Uo4 n)
def Ui5 (n:Nat) (l0:LP→LP→LP→Int→Int→Int→Int→Int→Int→O R) (x1 x2 x3:LP) (x4 x5 x6 x7 x8 x9:Int) (k0:LP→LP→LP→Int→Int→Int→Int→O R):O R :=
 bif (decide (x9<x8)) then (bif (inR x4 ((x1).length)) then (Jj .u32 ((x1).getD ((x4:Int).toNat) (.v (.bool false))) fun e10=>bif (inR x9 ((x2).length)) then (Jj .u32 ((x2).getD ((x9:Int).toNat) (.v (.bool false))) fun e11=>let v12:=IntKind.u64.wrap ((IntKind.u64.wrap (e10)) * (IntKind.u64.wrap (e11))); bif (inR (IntKind.i64.wrap (x4 + x9)) ((x3).length)) then (Jj .u32 ((x3).getD ((IntKind.i64.wrap (x4 + x9):Int).toNat) (.v (.bool false))) fun e13=>let v14:=IntKind.u64.wrap (v12 + (IntKind.u64.wrap (e13))); bif decide (1000000000=0) then none else (let v15:=Int.tmod (IntKind.u64.wrap (x5 + v14)) 1000000000; bif (inR (IntKind.i64.wrap (x4 + x9)) ((x3).length)) then (Jj .u32 ((x3).getD ((IntKind.i64.wrap (x4 + x9):Int).toNat) (.v (.bool false))) fun e16=>bif decide (1000000000=0) then none else (let v17:=IntKind.u64.wrap (Int.tdiv (IntKind.u64.wrap (x5 + v14)) 1000000000); l0 x1 x2 ((x3).set ((IntKind.i64.wrap (x4 + x9):Int).toNat) (.v (.int .u32 (IntKind.u32.wrap (v15))))) x4 v17 x6 x7 x8 (IntKind.i64.wrap (x9 + 1)))) else none)) else none) else none) else none) else (k0 x1 x2 x3 x4 x5 x6 x7)
def Ueu (n:Nat):Nat→LP→LP→LP→Int→Int→Int→Int→Int→Int→(LP→LP→LP→Int→Int→Int→Int→O R)→O R
 | 0,_,_,_,_,_,_,_,_,_,_=>none
 | m + 1,x1,x2,x3,x4,x5,x6,x7,x8,x9,k0=>Ui5 n (fun x1 x2 x3 x4 x5 x6 x7 x8 x9=>Ueu n m x1 x2 x3 x4 x5 x6 x7 x8 x9 k0) x1 x2 x3 x4 x5 x6 x7 x8 x9 k0
def Uy4 (n:Nat) (x1 x2 x3:LP) (x4 x5 x6 x7 x8 x9:Int) (k0:LP→LP→LP→Int→Int→Int→Int→O R):O R:=Ueu n n x1 x2 x3 x4 x5 x6 x7 x8 x9 k0
def Ui4 (n:Nat) (l0:LP→LP→LP→Int→Int→O R) (x1 x2 x3:LP) (x4 x5:Int) (k0:LP→O R):O R :=
 bif (decide (x5<x4)) then (Uy4 n x1 x2 x3 x5 0 x4 x5 ((x2).length:Int) 0 (fun y6 y7 y8 y9 y10 y11 y12=>let v13:=IntKind.i64.wrap (y9 + ((y7).length:Int)); bif (inR v13 ((y8).length)) then (Jj .u32 ((y8).getD ((v13:Int).toNat) (.v (.bool false))) fun e14=>l0 y6 y7 ((y8).set ((v13:Int).toNat) (.v (.int .u32 (IntKind.u32.wrap (y10))))) y11 (IntKind.i64.wrap (y12 + 1))) else none)) else (k0 x3)
def Uet (n:Nat):Nat→LP→LP→LP→Int→Int→(LP→O R)→O R
 | 0,_,_,_,_,_,_=>none
 | m + 1,x1,x2,x3,x4,x5,k0=>Ui4 n (fun x1 x2 x3 x4 x5=>Uet n m x1 x2 x3 x4 x5 k0) x1 x2 x3 x4 x5 k0
def Uy3 (n:Nat) (x1 x2 x3:LP) (x4 x5:Int) (k0:LP→O R):O R:=Uet n n x1 x2 x3 x4 x5 k0
def p58 (n:Nat) (x1 x2:LP) (k0:LP→O R):O R :=
 let v3:=IntKind.i64.wrap (((x1).length:Int) + ((x2).length:Int)); bif (decide ((0:Int)≤v3)&&decide ((v3:Int)≤v3)&&Jbu (v3:Int).toNat 4) then (Uy3 n x1 x2 (List.replicate (v3:Int).toNat (.v (.int .u32 0):PV)) ((x1).length:Int) 0 (fun y4=>UtZ n y4 (fun y5=>k0 y5))) else none
abbrev E58 (n:Nat):Code→Fr→Kc R→O R:=evC Tryz.prog (UBt n) UgR n (68,[])
noncomputable def Uxu:Code:=Jj4 (Jll Tryz.f58) [1,1,0,1,0,0]
abbrev Uhy:Sl (List SV):=(cH (cH (cO 143 (cI (cI .n)))))
abbrev Ute (n m:Nat) (K:Kc R):Uhy.T (O R):=fun x1 x2 x3 x4 x5=>Uet n m x1 x2 x3 x4 x5 (fun y1=>xL UgR 3 K (.exit 0) [dD,.own 143 y1])
abbrev UEo (n:Nat) (K:Kc R) (l0:Uhy.T (O R)):Uhy.T (O R):=fun x1 x2 x3 x4 x5=>Ui4 n l0 x1 x2 x3 x4 x5 (fun y1=>xL UgR 3 K (.exit 0) [dD,.own 143 y1])
noncomputable def Uxv:Code:=Jj4 (Jll Tryz.f58) [1,1,0,1,0,0,1,1,0,0,1,1,0,1,0,0]
abbrev Uhz:Sl (List SV):=(cH (cH (cO 143 (cI (.c (sP (Jlv .u64)) (cI (cI (cI (cI .n)))))))))
abbrev Utf (n m:Nat) (K:Kc R):Uhz.T (O R):=fun x1 x2 x3 x4 x5 x6 x7 x8 x9=>Ueu n m x1 x2 x3 x4 x5 x6 x7 x8 x9 (fun y1 y2 y3 y4 y5 y6 y7=>xL UgR 7 K (.exit 2) [vH y1,vH y2,dD,.own 143 y3,vI y4,.p (.v (.int .u64 y5)),vI y6,vI y7])
abbrev UEp (n:Nat) (K:Kc R) (l0:Uhz.T (O R)):Uhz.T (O R):=fun x1 x2 x3 x4 x5 x6 x7 x8 x9=>Ui5 n l0 x1 x2 x3 x4 x5 x6 x7 x8 x9 (fun y1 y2 y3 y4 y5 y6 y7=>xL UgR 7 K (.exit 2) [vH y1,vH y2,dD,.own 143 y3,vI y4,.p (.v (.int .u64 y5)),vI y6,vI y7])
abbrev UKE (n:Nat):Orc R:=oL UgR (E58 n) n 7 Uxv Uhz (Utf n n) (oL UgR (E58 n) n 3 Uxu Uhy (Ute n n) oN)
abbrev UJR (n:Nat):Orc R:=oN
abbrev K58 (R:Type) (n:Nat):=JcH (R:=R) Tryz.prog (UBt n) UgR n (68,[]) (UKE n) (UJR n)
theorem UHO (n:Nat):K58 R n (false,7,Uxv):=JkF (lo:=UKE n) (cu:=UJR n) (pO pN (by kernel_rfl)) Uhz (Utf n n) (JiE (F:=Utf n) Uhz (UEp n) (fun K _ _ _ _ _ _ _ _ _=>rfl) (fun _ _=>rfl) (fun L K _ _ _ _ _ _ _ _ _=>by show _=_; kernel_rfl) n) fun _ _=>rfl
theorem UHN (n:Nat):K58 R n (false,3,Uxu):=JkF (lo:=UKE n) (cu:=UJR n) (pO (pC (UHO n) pN) (by kernel_rfl)) Uhy (Ute n n) (JiE (F:=Ute n) Uhy (UEo n) (fun K _ _ _ _ _=>rfl) (fun _ _=>rfl) (fun L K _ _ _ _ _=>by show _=_; kernel_rfl) n) fun _ _=>rfl
theorem USD (n:Nat):Je6 (K58 R n) (JaJ UgR (Jll Tryz.f58)):=pO (pC (UHN n) pN) (by kernel_rfl)
abbrev t58:Sl (List SV):=(cH (cH .n))
abbrev f58 (n:Nat) (K:List SV→O R):t58.T (O R):=fun x1 x2=>p58 n x1 x2 (fun y1=>K [vH y1])
abbrev UGr (n:Nat):FS:=fT [false,false] t58 (f58 n)
theorem UI4 (n:Nat):FSound Tryz.prog GI 58 (UGr n):=gd UgR n (UrV n) Tryz.func58 (.cons (UrV n) t58 (f58 n) (fun K _ _=>(Jkq (c:=Jll Tryz.f58) (by kernel_rfl) (USD n) K).trans (by kernel_rfl)) .nil) (by kernel_rfl)
def Ugb:Ann:={ loops:=[(4,ids [0,1,6,7,8],ids [4,5,6,7])],cuts:=[],frz:=[],rm:=[.id,.id] }
abbrev Uq5 (n:Nat):Env:=eC 101 (Ult n) eN
theorem UnA (n:Nat):EnvOK Tryz.prog GI (Uq5 n):=.cons (.nil) (Uo4 n)
def UfR (n:Nat) (l0:LP→Int→LP→Int→Int→O R) (x1:LP) (x2:Int) (x3:LP) (x4 x5:Int) (k0:LP→Int→O R):O R :=
 bif (decide (x5≥0)) then (bif (inR x5 ((x1).length)) then (Jj .u32 ((x1).getD ((x5:Int).toNat) (.v (.bool false))) fun e6=>let v7:=IntKind.u64.wrap ((IntKind.u64.wrap (x4 * 1000000000)) + (IntKind.u64.wrap (e6))); bif decide (IntKind.u64.wrap (x2)=0) then none else (let v8:=IntKind.u64.wrap (Int.tdiv v7 (IntKind.u64.wrap (x2))); bif (inR x5 ((x3).length)) then (Jj .u32 ((x3).getD ((x5:Int).toNat) (.v (.bool false))) fun e9=>bif decide (IntKind.u64.wrap (x2)=0) then none else (let v10:=Int.tmod v7 (IntKind.u64.wrap (x2)); l0 x1 x2 ((x3).set ((x5:Int).toNat) (.v (.int .u32 (IntKind.u32.wrap (v8))))) v10 (IntKind.i64.wrap (x5 - 1)))) else none)) else none) else (k0 x3 x4)
def Ucr (n:Nat):Nat→LP→Int→LP→Int→Int→(LP→Int→O R)→O R
 | 0,_,_,_,_,_,_=>none
 | m + 1,x1,x2,x3,x4,x5,k0=>UfR n (fun x1 x2 x3 x4 x5=>Ucr n m x1 x2 x3 x4 x5 k0) x1 x2 x3 x4 x5 k0
def Uuf (n:Nat) (x1:LP) (x2:Int) (x3:LP) (x4 x5:Int) (k0:LP→Int→O R):O R:=Ucr n n x1 x2 x3 x4 x5 k0
def UHa (n:Nat) (x1:LP) (x2:Int) (k0:LP→Int→O R):O R :=
 bif (decide ((0:Int)≤((x1).length:Int))&&decide ((((x1).length:Int):Int)≤((x1).length:Int))&&Jbu (((x1).length:Int):Int).toNat 4) then (let v3:=IntKind.i64.wrap (((x1).length:Int) - 1); Uuf n x1 x2 (List.replicate (((x1).length:Int):Int).toNat (.v (.int .u32 0):PV)) 0 v3 (fun y4 y5=>UtZ n y4 (fun y6=>k0 y6 (IntKind.u32.wrap (y5))))) else none
abbrev UPn (n:Nat):Code→Fr→Kc R→O R:=evC Tryz.prog (Uq5 n) Ugb n (43,[])
noncomputable def Up9:Code:=Jj4 (Jll Tryz.f137) [1,1,1,0,1,0,0]
abbrev Ue0:Sl (List SV):=(cH (.c (sP (Jlv .u32)) (cO 143 (.c (sP (Jlv .u64)) (cI .n)))))
abbrev Ulf (n m:Nat) (K:Kc R):Ue0.T (O R):=fun x1 x2 x3 x4 x5=>Ucr n m x1 x2 x3 x4 x5 (fun y1 y2=>xL Ugb 4 K (.exit 0) [dD,dD,.own 143 y1,.p (.v (.int .u64 y2))])
abbrev UAw (n:Nat) (K:Kc R) (l0:Ue0.T (O R)):Ue0.T (O R):=fun x1 x2 x3 x4 x5=>UfR n l0 x1 x2 x3 x4 x5 (fun y1 y2=>xL Ugb 4 K (.exit 0) [dD,dD,.own 143 y1,.p (.v (.int .u64 y2))])
abbrev UGH (n:Nat):Orc R:=oL Ugb (UPn n) n 4 Up9 Ue0 (Ulf n n) oN
abbrev UEU (n:Nat):Orc R:=oN
abbrev UNa (R:Type) (n:Nat):=JcH (R:=R) Tryz.prog (Uq5 n) Ugb n (43,[]) (UGH n) (UEU n)
theorem UCW (n:Nat):UNa R n (false,4,Up9):=JkF (lo:=UGH n) (cu:=UEU n) (pO pN (by kernel_rfl)) Ue0 (Ulf n n) (JiE (F:=Ulf n) Ue0 (UAw n) (fun K _ _ _ _ _=>rfl) (fun _ _=>rfl) (fun L K _ _ _ _ _=>by show _=_; kernel_rfl) n) fun _ _=>rfl
theorem UL3 (n:Nat):Je6 (UNa R n) (JaJ Ugb (Jll Tryz.f137)):=pO (pC (UCW n) pN) (by kernel_rfl)
abbrev UMF:Sl (List SV):=(cH (.c (sP (Jlv .u32)) .n))
abbrev f137 (n:Nat) (K:List SV→O R):UMF.T (O R):=fun x1 x2=>UHa n x1 x2 (fun y1 y2=>K [vH y1,.p (.v (.int .u32 y2))])
abbrev UGc (n:Nat):FS:=fT [false,false] UMF (f137 n)
theorem UK4 (n:Nat):FSound Tryz.prog GI 137 (UGc n):=gd Ugb n (UnA n) Tryz.func137 (.cons (UnA n) UMF (f137 n) (fun K _ _=>(Jkq (c:=Jll Tryz.f137) (by kernel_rfl) (UL3 n) K).trans (by kernel_rfl)) .nil) (by kernel_rfl)
def Uag:Ann:={ loops:=[(12,ids [8,9,10,11,12,13],ids [4,5,8,9,12]),(16,ids [8,9,10,11,12,13,15,16],ids [4,5,8,9,10,11,12,13,15]),(22,ids [8,9,10,11,12,13,15,17,18,151,152],ids [4,5,8,9,10,11,12,13,15,17,18]),(38,ids [8,9,10,11,12,13,15,21,22,207,208],ids [4,5,8,9,10,11,12,13,15,21,22])],cuts:=[(3,ids [0,1],ids [4,5]),(6,ids [0,1],ids [4,5]),(7,ids [0,1,8],ids [4,5]),(8,ids [8,9,10],ids [4,5]),(9,ids [8,9,10],ids [4,5]),(10,ids [8,9,10,11],ids [4,5]),(11,ids [8,9,10,11,12],ids [4,5]),(13,ids [8,9,10,11,12,13],ids [4,5,8,9,10,11,12,13]),(17,ids [8,9,10,11,12,13,15,16],ids [4,5,8,9,10,11,12,13,15,16]),(31,ids [8,9,10,11,12,13,15,17,18,19,20,151,152],ids [4,5,8,9,10,11,12,13,15,17,18,151,152]),(45,ids [8,9,10,11,12,13,15,21],ids [4,5,8,9,10,11,12,13])],frz:=[],rm:=[.sh,.id] }
abbrev UqW (n:Nat):Env:=eC 137 (UGc n) (eC 101 (Ult n) (eC 58 (UGr n) (eC 57 (UIR n) eN)))
theorem Unk (n:Nat):EnvOK Tryz.prog GI (UqW n):=.cons (.cons (.cons (.cons (.nil) (ULm n)) (UI4 n)) (Uo4 n)) (UK4 n)
def UdI (n:Nat) (x1 x2 x3:LP) (x4:Int) (x5:LP) (x6 x7 x8:Int) (k0:LP→LP→LP→Int→LP→Int→Int→Int→O R) (k1:LP→LP→LP→Int→LP→Int→Int→Int→O R):O R :=
 bif (inR (IntKind.i64.wrap (x4 - 1)) ((x3).length)) then (Jj .u32 ((x3).getD ((IntKind.i64.wrap (x4 - 1):Int).toNat) (.v (.bool false))) fun e9=>let v10:=IntKind.u64.wrap (x8 + (IntKind.u64.wrap (e9))); bif (decide (v10≥1000000000)) then (k0 x1 x2 x3 x4 x5 x6 (IntKind.u64.wrap (x7 - 1)) v10) else (k1 x1 x2 x3 x4 x5 x6 (IntKind.u64.wrap (x7 - 1)) v10)) else none
def Ub7 (n:Nat) (l0:LP→LP→LP→Int→LP→Int→Int→Int→O R) (x1 x2 x3:LP) (x4:Int) (x5:LP) (x6 x7 x8:Int) (k0:LP→LP→LP→Int→LP→Int→Int→O R):O R :=
 bif (decide (x7≥1000000000)) then (UdI n x1 x2 x3 x4 x5 x6 x7 x8 (fun y9 y10 y11 y12 y13 y14 y15 y16=>k0 y9 y10 y11 y12 y13 y14 y15) (fun y17 y18 y19 y20 y21 y22 y23 y24=>l0 y17 y18 y19 y20 y21 y22 y23 y24)) else (bif (inR (IntKind.i64.wrap (x4 - 2)) ((x3).length)) then (Jj .u32 ((x3).getD ((IntKind.i64.wrap (x4 - 2):Int).toNat) (.v (.bool false))) fun e25=>let v26:=IntKind.u64.wrap (x7 * (IntKind.u64.wrap (e25))); let v27:=IntKind.i64.wrap ((IntKind.i64.wrap (x6 + x4)) - 2); bif (inR v27 ((x2).length)) then (Jj .u32 ((x2).getD ((v27:Int).toNat) (.v (.bool false))) fun e28=>let v29:=IntKind.u64.wrap ((IntKind.u64.wrap (x8 * 1000000000)) + (IntKind.u64.wrap (e28))); bif (bif false then true else (decide (v26>v29))) then (UdI n x1 x2 x3 x4 x5 x6 x7 x8 (fun y30 y31 y32 y33 y34 y35 y36 y37=>k0 y30 y31 y32 y33 y34 y35 y36) (fun y38 y39 y40 y41 y42 y43 y44 y45=>l0 y38 y39 y40 y41 y42 y43 y44 y45)) else (k0 x1 x2 x3 x4 x5 x6 x7)) else none) else none)
def Ubc (n:Nat):Nat→LP→LP→LP→Int→LP→Int→Int→Int→(LP→LP→LP→Int→LP→Int→Int→O R)→O R
 | 0,_,_,_,_,_,_,_,_,_=>none
 | m + 1,x1,x2,x3,x4,x5,x6,x7,x8,k0=>Ub7 n (fun x1 x2 x3 x4 x5 x6 x7 x8=>Ubc n m x1 x2 x3 x4 x5 x6 x7 x8 k0) x1 x2 x3 x4 x5 x6 x7 x8 k0
def UiF (n:Nat) (x1 x2 x3:LP) (x4:Int) (x5:LP) (x6 x7 x8:Int) (k0:LP→LP→LP→Int→LP→Int→Int→O R):O R:=Ubc n n x1 x2 x3 x4 x5 x6 x7 x8 k0
def UfJ (n:Nat) (x1 x2 x3:LP) (x4:Int) (x5:LP) (x6 x7 x8 x9 x10 x11 x12 x13:Int) (k0:LP→LP→LP→Int→LP→Int→Int→Int→Int→Int→Int→O R):O R :=
 bif (inR (IntKind.i64.wrap (x6 + x10)) ((x2).length)) then (Jj .u32 ((x2).getD ((IntKind.i64.wrap (x6 + x10):Int).toNat) (.v (.bool false))) fun e14=>k0 x1 ((x2).set ((IntKind.i64.wrap (x6 + x10):Int).toNat) (.v (.int .u32 (IntKind.u32.wrap (x11))))) x3 x4 x5 x6 x7 x8 x9 x12 x13) else none
def UdK (n:Nat) (l0:LP→LP→LP→Int→LP→Int→Int→Int→Int→Int→Int→O R) (x1 x2 x3:LP) (x4:Int) (x5:LP) (x6 x7 x8 x9 x10 x11:Int) (k0:LP→LP→LP→Int→LP→Int→Int→Int→Int→O R):O R :=
 bif (decide (x11<x10)) then (bif (inR x11 ((x3).length)) then (Jj .u32 ((x3).getD ((x11:Int).toNat) (.v (.bool false))) fun e12=>let v13:=IntKind.u64.wrap (x7 * (IntKind.u64.wrap (e12))); bif (inR (IntKind.i64.wrap (x6 + x11)) ((x2).length)) then (Jj .u32 ((x2).getD ((IntKind.i64.wrap (x6 + x11):Int).toNat) (.v (.bool false))) fun e14=>bif decide (1000000000=0) then none else (let v15:=Int.tmod (IntKind.u64.wrap (x8 + v13)) 1000000000; let v16:=IntKind.i64.wrap ((IntKind.i64.wrap (e14)) - (IntKind.i64.wrap (v15))); bif decide (1000000000=0) then none else (let v17:=IntKind.u64.wrap (Int.tdiv (IntKind.u64.wrap (x8 + v13)) 1000000000); bif (decide (IntKind.i64.wrap (v16 - x9)<0)) then (let v18:=IntKind.i64.wrap ((IntKind.i64.wrap (v16 - x9)) + 1000000000); UfJ n x1 x2 x3 x4 x5 x6 x7 v17 1 x11 v18 x10 x11 (fun y19 y20 y21 y22 y23 y24 y25 y26 y27 y28 y29=>l0 y19 y20 y21 y22 y23 y24 y25 y26 y27 y28 (IntKind.i64.wrap (y29 + 1)))) else (UfJ n x1 x2 x3 x4 x5 x6 x7 v17 0 x11 (IntKind.i64.wrap (v16 - x9)) x10 x11 (fun y30 y31 y32 y33 y34 y35 y36 y37 y38 y39 y40=>l0 y30 y31 y32 y33 y34 y35 y36 y37 y38 y39 (IntKind.i64.wrap (y40 + 1))))))) else none) else none) else (k0 x1 x2 x3 x4 x5 x6 x7 x8 x9)
def UaX (n:Nat):Nat→LP→LP→LP→Int→LP→Int→Int→Int→Int→Int→Int→(LP→LP→LP→Int→LP→Int→Int→Int→Int→O R)→O R
 | 0,_,_,_,_,_,_,_,_,_,_,_,_=>none
 | m + 1,x1,x2,x3,x4,x5,x6,x7,x8,x9,x10,x11,k0=>UdK n (fun x1 x2 x3 x4 x5 x6 x7 x8 x9 x10 x11=>UaX n m x1 x2 x3 x4 x5 x6 x7 x8 x9 x10 x11 k0) x1 x2 x3 x4 x5 x6 x7 x8 x9 x10 x11 k0
def UiG (n:Nat) (x1 x2 x3:LP) (x4:Int) (x5:LP) (x6 x7 x8 x9 x10 x11:Int) (k0:LP→LP→LP→Int→LP→Int→Int→Int→Int→O R):O R:=UaX n n x1 x2 x3 x4 x5 x6 x7 x8 x9 x10 x11 k0
def UdL (n:Nat) (l0:LP→LP→LP→Int→LP→Int→Int→Int→Int→Int→Int→O R) (x1 x2 x3:LP) (x4:Int) (x5:LP) (x6 x7 x8 x9 x10 x11:Int) (k0:LP→LP→LP→Int→LP→Int→Int→Int→Int→O R):O R :=
 bif (decide (x11<x10)) then (bif (inR (IntKind.i64.wrap (x6 + x11)) ((x2).length)) then (Jj .u32 ((x2).getD ((IntKind.i64.wrap (x6 + x11):Int).toNat) (.v (.bool false))) fun e12=>bif (inR x11 ((x3).length)) then (Jj .u32 ((x3).getD ((x11:Int).toNat) (.v (.bool false))) fun e13=>let v14:=IntKind.u32.wrap (x9 + (IntKind.u32.wrap (e12 + e13))); bif decide (1000000000=0) then none else (bif (inR (IntKind.i64.wrap (x6 + x11)) ((x2).length)) then (Jj .u32 ((x2).getD ((IntKind.i64.wrap (x6 + x11):Int).toNat) (.v (.bool false))) fun e15=>bif decide (1000000000=0) then none else (let v16:=IntKind.u32.wrap (Int.tdiv v14 1000000000); l0 x1 ((x2).set ((IntKind.i64.wrap (x6 + x11):Int).toNat) (.v (.int .u32 (Int.tmod v14 1000000000)))) x3 x4 x5 x6 x7 x8 v16 x10 (IntKind.i64.wrap (x11 + 1)))) else none)) else none) else none) else (k0 x1 x2 x3 x4 x5 x6 x7 x8 x9)
def Ubd (n:Nat):Nat→LP→LP→LP→Int→LP→Int→Int→Int→Int→Int→Int→(LP→LP→LP→Int→LP→Int→Int→Int→Int→O R)→O R
 | 0,_,_,_,_,_,_,_,_,_,_,_,_=>none
 | m + 1,x1,x2,x3,x4,x5,x6,x7,x8,x9,x10,x11,k0=>UdL n (fun x1 x2 x3 x4 x5 x6 x7 x8 x9 x10 x11=>Ubd n m x1 x2 x3 x4 x5 x6 x7 x8 x9 x10 x11 k0) x1 x2 x3 x4 x5 x6 x7 x8 x9 x10 x11 k0
def Uoo (n:Nat) (x1 x2 x3:LP) (x4:Int) (x5:LP) (x6 x7 x8 x9 x10 x11:Int) (k0:LP→LP→LP→Int→LP→Int→Int→Int→Int→O R):O R:=Ubd n n x1 x2 x3 x4 x5 x6 x7 x8 x9 x10 x11 k0
def UdJ (n:Nat) (x1 x2 x3:LP) (x4:Int) (x5:LP) (x6 x7 x8:Int) (k0:LP→LP→LP→Int→LP→Int→O R):O R :=
 bif (inR (IntKind.i64.wrap (x6 + x4)) ((x2).length)) then (Jj .u32 ((x2).getD ((IntKind.i64.wrap (x6 + x4):Int).toNat) (.v (.bool false))) fun e9=>bif (inR x6 ((x5).length)) then (Jj .u32 ((x5).getD ((x6:Int).toNat) (.v (.bool false))) fun e10=>k0 x1 ((x2).set ((IntKind.i64.wrap (x6 + x4):Int).toNat) (.v (.int .u32 (IntKind.u32.wrap (x8))))) x3 x4 ((x5).set ((x6:Int).toNat) (.v (.int .u32 (IntKind.u32.wrap (x7))))) x6) else none) else none
def UdH (n:Nat) (x1 x2 x3:LP) (x4:Int) (x5:LP) (x6:Int) (k0:LP→LP→LP→Int→LP→Int→O R):O R :=
 k0 x1 x2 x3 x4 x5 (IntKind.i64.wrap (x6 - 1))
def Ub6 (n:Nat) (l0:LP→LP→LP→Int→LP→Int→O R) (x1 x2 x3:LP) (x4:Int) (x5:LP) (x6:Int) (k0:LP→LP→LP→O R):O R :=
 bif (decide (x6≥0)) then (bif (inR (IntKind.i64.wrap (x6 + x4)) ((x2).length)) then (Jj .u32 ((x2).getD ((IntKind.i64.wrap (x6 + x4):Int).toNat) (.v (.bool false))) fun e7=>let v8:=IntKind.u64.wrap ((IntKind.u64.wrap (e7)) * 1000000000); let v9:=IntKind.i64.wrap ((IntKind.i64.wrap (x6 + x4)) - 1); bif (inR v9 ((x2).length)) then (Jj .u32 ((x2).getD ((v9:Int).toNat) (.v (.bool false))) fun e10=>let v11:=IntKind.u64.wrap (v8 + (IntKind.u64.wrap (e10))); bif (inR (IntKind.i64.wrap (x4 - 1)) ((x3).length)) then (Jj .u32 ((x3).getD ((IntKind.i64.wrap (x4 - 1):Int).toNat) (.v (.bool false))) fun e12=>bif decide (IntKind.u64.wrap (e12)=0) then none else (let v13:=IntKind.u64.wrap (Int.tdiv v11 (IntKind.u64.wrap (e12))); bif (inR (IntKind.i64.wrap (x4 - 1)) ((x3).length)) then (Jj .u32 ((x3).getD ((IntKind.i64.wrap (x4 - 1):Int).toNat) (.v (.bool false))) fun e14=>bif decide (IntKind.u64.wrap (e14)=0) then none else (let v15:=Int.tmod v11 (IntKind.u64.wrap (e14)); UiF n x1 x2 x3 x4 x5 x6 v13 v15 (fun y16 y17 y18 y19 y20 y21 y22=>UiG n y16 y17 y18 y19 y20 y21 y22 0 0 y19 0 (fun y23 y24 y25 y26 y27 y28 y29 y30 y31=>bif (inR (IntKind.i64.wrap (y28 + y26)) ((y24).length)) then (Jj .u32 ((y24).getD ((IntKind.i64.wrap (y28 + y26):Int).toNat) (.v (.bool false))) fun e32=>let v33:=IntKind.i64.wrap ((IntKind.i64.wrap (e32)) - (IntKind.i64.wrap (y30))); bif (decide (IntKind.i64.wrap (v33 - y31)<0)) then (Uoo n y23 y24 y25 y26 y27 y28 (IntKind.u64.wrap (y29 - 1)) (IntKind.i64.wrap (v33 - y31)) 0 y26 0 (fun y34 y35 y36 y37 y38 y39 y40 y41 y42=>let v43:=IntKind.i64.wrap (y41 + (IntKind.i64.wrap (y42))); UdJ n y34 y35 y36 y37 y38 y39 y40 v43 (fun y44 y45 y46 y47 y48 y49=>UdH n y44 y45 y46 y47 y48 y49 (fun y50 y51 y52 y53 y54 y55=>l0 y50 y51 y52 y53 y54 y55)))) else (UdJ n y23 y24 y25 y26 y27 y28 y29 (IntKind.i64.wrap (v33 - y31)) (fun y56 y57 y58 y59 y60 y61=>UdH n y56 y57 y58 y59 y60 y61 (fun y62 y63 y64 y65 y66 y67=>l0 y62 y63 y64 y65 y66 y67)))) else none)))) else none)) else none) else none) else none) else (k0 x1 x2 x5)
def UaN (n:Nat):Nat→LP→LP→LP→Int→LP→Int→(LP→LP→LP→O R)→O R
 | 0,_,_,_,_,_,_,_=>none
 | m + 1,x1,x2,x3,x4,x5,x6,k0=>Ub6 n (fun x1 x2 x3 x4 x5 x6=>UaN n m x1 x2 x3 x4 x5 x6 k0) x1 x2 x3 x4 x5 x6 k0
def Uon (n:Nat) (x1 x2 x3:LP) (x4:Int) (x5:LP) (x6:Int) (k0:LP→LP→LP→O R):O R:=UaN n n x1 x2 x3 x4 x5 x6 k0
def UiD (n:Nat) (x1 x2 x3:LP) (x4:Int) (x5:LP) (k0:LP→LP→O R):O R :=
 let v6:=IntKind.i64.wrap (((x2).length:Int) - x4); Uon n x1 x2 x3 x4 x5 (IntKind.i64.wrap (v6 - 1)) (fun y7 y8 y9=>UtZ n y8 (fun y10=>bif (inR 0 ((y7).length)) then (Jj .u32 ((y7).getD ((0:Int).toNat) (.v (.bool false))) fun e11=>UHa n y10 e11 (fun y12 y13=>UtZ n y9 (fun y14=>k0 y14 y12))) else none))
def UiC (n:Nat) (x1 x2 x3:LP) (x4:Int) (k0:LP→LP→O R):O R :=
 let v5:=IntKind.i64.wrap (((x2).length:Int) - x4); bif (decide ((0:Int)≤v5)&&decide ((v5:Int)≤v5)&&Jbu (v5:Int).toNat 4) then (UiD n x1 x2 x3 x4 (List.replicate (v5:Int).toNat (.v (.int .u32 0):PV)) (fun y6 y7=>k0 y6 y7)) else none
def Ulz (n:Nat) (x1 x2 x3:LP) (k0:LP→LP→O R):O R :=
 UiC n x1 x2 x3 ((x3).length:Int) (fun y4 y5=>k0 y4 y5)
def Uly (n:Nat) (x1 x2 x3:LP) (k0:LP→LP→O R):O R :=
 bif (Jgx 1 x2&&Jbu (0 + (x2).length) 4) then (bif (Jbu (([]++x2).length + 1) 4) then (Ulz n x1 (([]++x2)++([.v (.int .u32 0)]:LP)) x3 (fun y4 y5=>k0 y4 y5)) else none) else none
def Ulx (n:Nat) (x1 x2 x3:LP) (k0:LP→LP→O R):O R :=
 p58 n x1 x3 (fun y4=>p58 n x2 x3 (fun y5=>Uly n x3 y4 y5 (fun y6 y7=>k0 y6 y7)))
def Ulw (n:Nat) (x1 x2:LP) (k0:LP→LP→O R):O R :=
 let v3:=IntKind.i64.wrap (((x2).length:Int) - 1); bif (inR v3 ((x2).length)) then (Jj .u32 ((x2).getD ((v3:Int).toNat) (.v (.bool false))) fun e4=>bif decide (IntKind.u32.wrap (e4 + 1)=0) then none else (let v5:=IntKind.u32.wrap (Int.tdiv 1000000000 (IntKind.u32.wrap (e4 + 1))); Ulx n x1 x2 ([.v (.int .u32 v5)]:LP) (fun y6 y7=>k0 y6 y7))) else none
def UiE (n:Nat) (x1 x2:LP) (k0:LP→LP→O R):O R :=
 bif (((x2).length:Int) == 1) then (bif (inR 0 ((x2).length)) then (Jj .u32 ((x2).getD ((0:Int).toNat) (.v (.bool false))) fun e3=>UHa n x1 e3 (fun y4 y5=>UtZ n ([.v (.int .u32 y5)]:LP) (fun y6=>k0 y4 y6))) else none) else (Ulw n x1 x2 (fun y7 y8=>k0 y7 y8))
def UDT (n:Nat) (x1 x2:LP) (k0:LP→LP→O R):O R :=
 p57 n x1 x2 (fun y3=>bif (decide (y3<0)) then (k0 [] x1) else (UiE n x1 x2 (fun y4 y5=>k0 y4 y5)))
abbrev UkJ (n:Nat):Code→Fr→Kc R→O R:=evC Tryz.prog (UqW n) Uag n (262,[])
noncomputable def UpS:Code:=Jj4 (Jll Tryz.f115) [1,1]
abbrev UlZ:Sl (List SV):=(cH (cH .n))
abbrev UsD (n:Nat) (K:Kc R):UlZ.T (O R):=fun x1 x2=>UiE n x1 x2 (fun y1 y2=>xC Uag 3 K .ret [vH y1,vH y2])
noncomputable def UpT:Code:=Jj4 (Jll Tryz.f115) [1,1,1]
abbrev Ul0:Sl (List SV):=(cH (cH .n))
abbrev UsE (n:Nat) (K:Kc R):Ul0.T (O R):=fun x1 x2=>Ulw n x1 x2 (fun y1 y2=>xC Uag 6 K .ret [vH y1,vH y2])
noncomputable def UpU:Code:=Jj4 (Jll Tryz.f115) [1,1,1,1]
abbrev Ul1:Sl (List SV):=(cH (cH (cO 143 .n)))
abbrev UsF (n:Nat) (K:Kc R):Ul1.T (O R):=fun x1 x2 x3=>Ulx n x1 x2 x3 (fun y1 y2=>xC Uag 7 K .ret [vH y1,vH y2])
noncomputable def UpV:Code:=Jj4 (Jll Tryz.f115) [1,1,1,1,1]
abbrev Ul2:Sl (List SV):=(cH (cH (cH .n)))
abbrev UsG (n:Nat) (K:Kc R):Ul2.T (O R):=fun x1 x2 x3=>Uly n x1 x2 x3 (fun y1 y2=>xC Uag 8 K .ret [vH y1,vH y2])
noncomputable def UpW:Code:=Jj4 (Jll Tryz.f115) [1,1,1,1,1,1]
abbrev Ul3:Sl (List SV):=(cH (cO 143 (cH .n)))
abbrev UsH (n:Nat) (K:Kc R):Ul3.T (O R):=fun x1 x2 x3=>Ulz n x1 x2 x3 (fun y1 y2=>xC Uag 9 K .ret [vH y1,vH y2])
noncomputable def UmE:Code:=Jj4 (Jll Tryz.f115) [1,1,1,1,1,1,1]
abbrev UjF:Sl (List SV):=(cH (cO 143 (cH (cI .n))))
abbrev UnV (n:Nat) (K:Kc R):UjF.T (O R):=fun x1 x2 x3 x4=>UiC n x1 x2 x3 x4 (fun y1 y2=>xC Uag 10 K .ret [vH y1,vH y2])
noncomputable def UmF:Code:=Jj4 (Jll Tryz.f115) [1,1,1,1,1,1,1,1]
abbrev UjG:Sl (List SV):=(cH (cO 143 (cH (cI (cO 143 .n)))))
abbrev UnW (n:Nat) (K:Kc R):UjG.T (O R):=fun x1 x2 x3 x4 x5=>UiD n x1 x2 x3 x4 x5 (fun y1 y2=>xC Uag 11 K .ret [vH y1,vH y2])
noncomputable def UmG:Code:=Jj4 (Jll Tryz.f115) [1,1,1,1,1,1,1,1,0,1,0,0,1,1]
abbrev UjH:Sl (List SV):=(cH (cO 143 (cH (cI (cO 143 (cI .n))))))
abbrev UnX (n:Nat) (K:Kc R):UjH.T (O R):=fun x1 x2 x3 x4 x5 x6=>UdH n x1 x2 x3 x4 x5 x6 (fun y1 y2 y3 y4 y5 y6=>xC Uag 13 K .normal [dD,dD,vH y1,.own 143 y2,vH y3,vI y4,.own 143 y5,vI y6])
noncomputable def UmH:Code:=Jj4 (Jll Tryz.f115) [1,1,1,1,1,1,1,1,0,1,0,0,1,0,0,1,1,0,0,0,1]
abbrev UjI:Sl (List SV):=(cH (cO 143 (cH (cI (cO 143 (cI (.c (sP (Jlv .u64)) (.c (sP (Jlv .u64)) .n))))))))
abbrev UnY (n:Nat) (K:Kc R):UjI.T (O R):=fun x1 x2 x3 x4 x5 x6 x7 x8=>UdI n x1 x2 x3 x4 x5 x6 x7 x8 (fun y1 y2 y3 y4 y5 y6 y7 y8=>xC Uag 17 K (.exit 2) [dD,dD,vH y1,.own 143 y2,vH y3,vI y4,.own 143 y5,vI y6,.p (.v (.int .u64 y7)),.p (.v (.int .u64 y8))]) (fun y1 y2 y3 y4 y5 y6 y7 y8=>xC Uag 17 K .normal [dD,dD,vH y1,.own 143 y2,vH y3,vI y4,.own 143 y5,vI y6,.p (.v (.int .u64 y7)),.p (.v (.int .u64 y8))])
noncomputable def UmI:Code:=Jj4 (Jll Tryz.f115) [1,1,1,1,1,1,1,1,0,1,0,0,1,0,0,1,1,1,1,0,1,0,0,1,1,0,0,1,1,1,1,1,1]
abbrev UjJ:Sl (List SV):=(cH (cO 143 (cH (cI (cO 143 (cI (.c (sP (Jlv .u64)) (.c (sP (Jlv .u64)) (cI (cI (cI (cI (cI .n)))))))))))))
abbrev UnZ (n:Nat) (K:Kc R):UjJ.T (O R):=fun x1 x2 x3 x4 x5 x6 x7 x8 x9 x10 x11 x12 x13=>UfJ n x1 x2 x3 x4 x5 x6 x7 x8 x9 x10 x11 x12 x13 (fun y1 y2 y3 y4 y5 y6 y7 y8 y9 y10 y11=>xC Uag 31 K .normal [dD,dD,vH y1,.own 143 y2,vH y3,vI y4,.own 143 y5,vI y6,.p (.v (.int .u64 y7)),.p (.v (.int .u64 y8)),vI y9,vI y10,vI y11])
noncomputable def UmJ:Code:=Jj4 (Jll Tryz.f115) [1,1,1,1,1,1,1,1,0,1,0,0,1,0,0,1,1,1,1,1,1,1]
abbrev UjK:Sl (List SV):=(cH (cO 143 (cH (cI (cO 143 (cI (.c (sP (Jlv .u64)) (cI .n))))))))
abbrev Un0 (n:Nat) (K:Kc R):UjK.T (O R):=fun x1 x2 x3 x4 x5 x6 x7 x8=>UdJ n x1 x2 x3 x4 x5 x6 x7 x8 (fun y1 y2 y3 y4 y5 y6=>xC Uag 45 K .normal [dD,dD,vH y1,.own 143 y2,vH y3,vI y4,.own 143 y5,vI y6])
noncomputable def UmK:Code:=Jj4 (Jll Tryz.f115) [1,1,1,1,1,1,1,1,0,1,0,0]
abbrev UcI:Sl (List SV):=(cH (cO 143 (cH (cI (cO 143 (cI .n))))))
abbrev Uih (n m:Nat) (K:Kc R):UcI.T (O R):=fun x1 x2 x3 x4 x5 x6=>UaN n m x1 x2 x3 x4 x5 x6 (fun y1 y2 y3=>xL Uag 12 K (.exit 0) [dD,dD,vH y1,.own 143 y2,.own 143 y3])
abbrev UvB (n:Nat) (K:Kc R) (l0:UcI.T (O R)):UcI.T (O R):=fun x1 x2 x3 x4 x5 x6=>Ub6 n l0 x1 x2 x3 x4 x5 x6 (fun y1 y2 y3=>xL Uag 12 K (.exit 0) [dD,dD,vH y1,.own 143 y2,.own 143 y3])
noncomputable def UmL:Code:=Jj4 (Jll Tryz.f115) [1,1,1,1,1,1,1,1,0,1,0,0,1,0,0,1,1,0,0,0]
abbrev UcJ:Sl (List SV):=(cH (cO 143 (cH (cI (cO 143 (cI (.c (sP (Jlv .u64)) (.c (sP (Jlv .u64)) .n))))))))
abbrev Uii (n m:Nat) (K:Kc R):UcJ.T (O R):=fun x1 x2 x3 x4 x5 x6 x7 x8=>Ubc n m x1 x2 x3 x4 x5 x6 x7 x8 (fun y1 y2 y3 y4 y5 y6 y7=>xL Uag 16 K (.exit 2) [dD,dD,vH y1,.own 143 y2,vH y3,vI y4,.own 143 y5,vI y6,.p (.v (.int .u64 y7))])
abbrev UvC (n:Nat) (K:Kc R) (l0:UcJ.T (O R)):UcJ.T (O R):=fun x1 x2 x3 x4 x5 x6 x7 x8=>Ub7 n l0 x1 x2 x3 x4 x5 x6 x7 x8 (fun y1 y2 y3 y4 y5 y6 y7=>xL Uag 16 K (.exit 2) [dD,dD,vH y1,.own 143 y2,vH y3,vI y4,.own 143 y5,vI y6,.p (.v (.int .u64 y7))])
noncomputable def UmM:Code:=Jj4 (Jll Tryz.f115) [1,1,1,1,1,1,1,1,0,1,0,0,1,0,0,1,1,1,1,0,1,0,0]
abbrev UcK:Sl (List SV):=(cH (cO 143 (cH (cI (cO 143 (cI (.c (sP (Jlv .u64)) (.c (sP (Jlv .u64)) (cI (cI (cI .n)))))))))))
abbrev Uij (n m:Nat) (K:Kc R):UcK.T (O R):=fun x1 x2 x3 x4 x5 x6 x7 x8 x9 x10 x11=>UaX n m x1 x2 x3 x4 x5 x6 x7 x8 x9 x10 x11 (fun y1 y2 y3 y4 y5 y6 y7 y8 y9=>xL Uag 22 K (.exit 4) [dD,dD,vH y1,.own 143 y2,vH y3,vI y4,.own 143 y5,vI y6,.p (.v (.int .u64 y7)),.p (.v (.int .u64 y8)),vI y9])
abbrev UvD (n:Nat) (K:Kc R) (l0:UcK.T (O R)):UcK.T (O R):=fun x1 x2 x3 x4 x5 x6 x7 x8 x9 x10 x11=>UdK n l0 x1 x2 x3 x4 x5 x6 x7 x8 x9 x10 x11 (fun y1 y2 y3 y4 y5 y6 y7 y8 y9=>xL Uag 22 K (.exit 4) [dD,dD,vH y1,.own 143 y2,vH y3,vI y4,.own 143 y5,vI y6,.p (.v (.int .u64 y7)),.p (.v (.int .u64 y8)),vI y9])
noncomputable def UmN:Code:=Jj4 (Jll Tryz.f115) [1,1,1,1,1,1,1,1,0,1,0,0,1,0,0,1,1,1,1,1,1,0,1,0,1,1,0,1,0,0]
abbrev UcL:Sl (List SV):=(cH (cO 143 (cH (cI (cO 143 (cI (.c (sP (Jlv .u64)) (cI (.c (sP (Jlv .u32)) (cI (cI .n)))))))))))
abbrev Uik (n m:Nat) (K:Kc R):UcL.T (O R):=fun x1 x2 x3 x4 x5 x6 x7 x8 x9 x10 x11=>Ubd n m x1 x2 x3 x4 x5 x6 x7 x8 x9 x10 x11 (fun y1 y2 y3 y4 y5 y6 y7 y8 y9=>xL Uag 38 K (.exit 6) [dD,dD,vH y1,.own 143 y2,vH y3,vI y4,.own 143 y5,vI y6,.p (.v (.int .u64 y7)),vI y8,.p (.v (.int .u32 y9))])
abbrev UvE (n:Nat) (K:Kc R) (l0:UcL.T (O R)):UcL.T (O R):=fun x1 x2 x3 x4 x5 x6 x7 x8 x9 x10 x11=>UdL n l0 x1 x2 x3 x4 x5 x6 x7 x8 x9 x10 x11 (fun y1 y2 y3 y4 y5 y6 y7 y8 y9=>xL Uag 38 K (.exit 6) [dD,dD,vH y1,.own 143 y2,vH y3,vI y4,.own 143 y5,vI y6,.p (.v (.int .u64 y7)),vI y8,.p (.v (.int .u32 y9))])
abbrev UcQ (n:Nat):Orc R:=oL Uag (UkJ n) n 38 UmN UcL (Uik n n) (oL Uag (UkJ n) n 22 UmM UcK (Uij n n) (oL Uag (UkJ n) n 16 UmL UcJ (Uii n n) (oL Uag (UkJ n) n 12 UmK UcI (Uih n n) oN)))
abbrev UcP (n:Nat):Orc R:=oC Uag (UkJ n) 45 UmJ UjK (Un0 n) (oC Uag (UkJ n) 31 UmI UjJ (UnZ n) (oC Uag (UkJ n) 17 UmH UjI (UnY n) (oC Uag (UkJ n) 13 UmG UjH (UnX n) (oC Uag (UkJ n) 11 UmF UjG (UnW n) (oC Uag (UkJ n) 10 UmE UjF (UnV n) (oC Uag (UkJ n) 9 UpW Ul3 (UsH n) (oC Uag (UkJ n) 8 UpV Ul2 (UsG n) (oC Uag (UkJ n) 7 UpU Ul1 (UsF n) (oC Uag (UkJ n) 6 UpT Ul0 (UsE n) (oC Uag (UkJ n) 3 UpS UlZ (UsD n) oN))))))))))
abbrev UkF (R:Type) (n:Nat):=JcH (R:=R) Tryz.prog (UqW n) Uag n (262,[]) (UcQ n) (UcP n)
theorem Uwy (n:Nat):UkF R n (true,17,UmH):=JkW (lo:=UcQ n) (cu:=UcP n) (pO pN (by kernel_rfl)) UjI (UnY n) (fun K _ _ _ _ _ _ _ _=>by show _=_; kernel_rfl) fun _ _=>rfl
theorem UwC (n:Nat):UkF R n (false,16,UmL):=JkF (lo:=UcQ n) (cu:=UcP n) (pO (pC (Uwy n) pN) (by kernel_rfl)) UcJ (Uii n n) (JiE (F:=Uii n) UcJ (UvC n) (fun K _ _ _ _ _ _ _ _=>rfl) (fun _ _=>rfl) (fun L K _ _ _ _ _ _ _ _=>by show _=_; kernel_rfl) n) fun _ _=>rfl
theorem Uwz (n:Nat):UkF R n (true,31,UmI):=JkW (lo:=UcQ n) (cu:=UcP n) (pO pN (by kernel_rfl)) UjJ (UnZ n) (fun K _ _ _ _ _ _ _ _ _ _ _ _ _=>by show _=_; kernel_rfl) fun _ _=>rfl
theorem UwD (n:Nat):UkF R n (false,22,UmM):=JkF (lo:=UcQ n) (cu:=UcP n) (pO (pC (Uwz n) pN) (by kernel_rfl)) UcK (Uij n n) (JiE (F:=Uij n) UcK (UvD n) (fun K _ _ _ _ _ _ _ _ _ _ _=>rfl) (fun _ _=>rfl) (fun L K _ _ _ _ _ _ _ _ _ _ _=>by show _=_; kernel_rfl) n) fun _ _=>rfl
theorem UwE (n:Nat):UkF R n (false,38,UmN):=JkF (lo:=UcQ n) (cu:=UcP n) (pO pN (by kernel_rfl)) UcL (Uik n n) (JiE (F:=Uik n) UcL (UvE n) (fun K _ _ _ _ _ _ _ _ _ _ _=>rfl) (fun _ _=>rfl) (fun L K _ _ _ _ _ _ _ _ _ _ _=>by show _=_; kernel_rfl) n) fun _ _=>rfl
theorem UwA (n:Nat):UkF R n (true,45,UmJ):=JkW (lo:=UcQ n) (cu:=UcP n) (pO pN (by kernel_rfl)) UjK (Un0 n) (fun K _ _ _ _ _ _ _ _=>by show _=_; kernel_rfl) fun _ _=>rfl
theorem Uwx (n:Nat):UkF R n (true,13,UmG):=JkW (lo:=UcQ n) (cu:=UcP n) (pO pN (by kernel_rfl)) UjH (UnX n) (fun K _ _ _ _ _ _=>by show _=_; kernel_rfl) fun _ _=>rfl
theorem UwB (n:Nat):UkF R n (false,12,UmK):=JkF (lo:=UcQ n) (cu:=UcP n) (pO (pC (UwC n) (pC (UwD n) (pC (UwE n) (pC (UwA n) (pC (Uwx n) pN))))) (by kernel_rfl)) UcI (Uih n n) (JiE (F:=Uih n) UcI (UvB n) (fun K _ _ _ _ _ _=>rfl) (fun _ _=>rfl) (fun L K _ _ _ _ _ _=>by show _=_; kernel_rfl) n) fun _ _=>rfl
theorem Uww (n:Nat):UkF R n (true,11,UmF):=JkW (lo:=UcQ n) (cu:=UcP n) (pO (pC (UwB n) pN) (by kernel_rfl)) UjG (UnW n) (fun K _ _ _ _ _=>by show _=_; kernel_rfl) fun _ _=>rfl
theorem Uwv (n:Nat):UkF R n (true,10,UmE):=JkW (lo:=UcQ n) (cu:=UcP n) (pO (pC (Uww n) pN) (by kernel_rfl)) UjF (UnV n) (fun K _ _ _ _=>by show _=_; kernel_rfl) fun _ _=>rfl
theorem UCI (n:Nat):UkF R n (true,9,UpW):=JkW (lo:=UcQ n) (cu:=UcP n) (pO (pC (Uwv n) pN) (by kernel_rfl)) Ul3 (UsH n) (fun K _ _ _=>by show _=_; kernel_rfl) fun _ _=>rfl
theorem UCH (n:Nat):UkF R n (true,8,UpV):=JkW (lo:=UcQ n) (cu:=UcP n) (pO (pC (UCI n) pN) (by kernel_rfl)) Ul2 (UsG n) (fun K _ _ _=>by show _=_; kernel_rfl) fun _ _=>rfl
theorem UCG (n:Nat):UkF R n (true,7,UpU):=JkW (lo:=UcQ n) (cu:=UcP n) (pO (pC (UCH n) pN) (by kernel_rfl)) Ul1 (UsF n) (fun K _ _ _=>by show _=_; kernel_rfl) fun _ _=>rfl
theorem UCF (n:Nat):UkF R n (true,6,UpT):=JkW (lo:=UcQ n) (cu:=UcP n) (pO (pC (UCG n) pN) (by kernel_rfl)) Ul0 (UsE n) (fun K _ _=>by show _=_; kernel_rfl) fun _ _=>rfl
theorem UCE (n:Nat):UkF R n (true,3,UpS):=JkW (lo:=UcQ n) (cu:=UcP n) (pO (pC (UCF n) pN) (by kernel_rfl)) UlZ (UsD n) (fun K _ _=>by show _=_; kernel_rfl) fun _ _=>rfl
theorem ULN (n:Nat):Je6 (UkF R n) (JaJ Uag (Jll Tryz.f115)):=pO (pC (UCE n) pN) (by kernel_rfl)
abbrev UMu:Sl (List SV):=(cH (cH .n))
abbrev f115 (n:Nat) (K:List SV→O R):UMu.T (O R):=fun x1 x2=>UDT n x1 x2 (fun y1 y2=>K [vH y1,vH y2])
abbrev UBR (n:Nat):FS:=fT [false,false] UMu (f115 n)
theorem UGS (n:Nat):FSound Tryz.prog GI 115 (UBR n):=gd Uag n (Unk n) Tryz.func115 (.cons (Unk n) UMu (f115 n) (fun K _ _=>(Jkq (c:=Jll Tryz.f115) (by kernel_rfl) (ULN n) K).trans (by kernel_rfl)) .nil) (by kernel_rfl)
def Uf8:Ann:={ loops:=[(1,ids [0,1],ids [0,4])],cuts:=[],frz:=[],rm:=[.id] }
abbrev UqN (n:Nat):Env:=eC 115 (UBR n) eN
theorem Um7 (n:Nat):EnvOK Tryz.prog GI (UqN n):=.cons (.nil) (UGS n)
def Uix (n:Nat) (l0:LP→LP→O R) (x1 x2:LP) (k0:LP→O R):O R :=
 bif (decide (((x2).length:Int)>0)) then (UDT n x1 x2 (fun y3 y4=>l0 x2 y4)) else (k0 x1)
def UdC (n:Nat):Nat→LP→LP→(LP→O R)→O R
 | 0,_,_,_=>none
 | m + 1,x1,x2,k0=>Uix n (fun x1 x2=>UdC n m x1 x2 k0) x1 x2 k0
def UtY (n:Nat) (x1 x2:LP) (k0:LP→O R):O R:=UdC n n x1 x2 k0
def UG4 (n:Nat) (x1 x2:LP) (k0:LP→O R):O R :=
 UtY n x1 x2 (fun y3=>k0 y3)
abbrev UPe (n:Nat):Code→Fr→Kc R→O R:=evC Tryz.prog (UqN n) Uf8 n (19,[])
noncomputable def UpF:Code:=Jj4 (Jll Tryz.f100) [1,0,0,0]
abbrev UeK:Sl (List SV):=(cH (cH .n))
abbrev Uk0 (n m:Nat) (K:Kc R):UeK.T (O R):=fun x1 x2=>UdC n m x1 x2 (fun y1=>xL Uf8 1 K (.exit 0) [vH y1,dD])
abbrev UAg (n:Nat) (K:Kc R) (l0:UeK.T (O R)):UeK.T (O R):=fun x1 x2=>Uix n l0 x1 x2 (fun y1=>xL Uf8 1 K (.exit 0) [vH y1,dD])
abbrev UGy (n:Nat):Orc R:=oL Uf8 (UPe n) n 1 UpF UeK (Uk0 n n) oN
abbrev UEL (n:Nat):Orc R:=oN
abbrev UM2 (R:Type) (n:Nat):=JcH (R:=R) Tryz.prog (UqN n) Uf8 n (19,[]) (UGy n) (UEL n)
theorem UCr (n:Nat):UM2 R n (false,1,UpF):=JkF (lo:=UGy n) (cu:=UEL n) (pO pN (by kernel_rfl)) UeK (Uk0 n n) (JiE (F:=Uk0 n) UeK (UAg n) (fun K _ _=>rfl) (fun _ _=>rfl) (fun L K _ _=>by show _=_; kernel_rfl) n) fun _ _=>rfl
theorem ULz (n:Nat):Je6 (UM2 R n) (JaJ Uf8 (Jll Tryz.f100)):=pO (pC (UCr n) pN) (by kernel_rfl)
abbrev UMi:Sl (List SV):=(cH (cH .n))
abbrev f100 (n:Nat) (K:List SV→O R):UMi.T (O R):=fun x1 x2=>UG4 n x1 x2 (fun y1=>K [vH y1])
abbrev UBQ (n:Nat):FS:=fT [false,false] UMi (f100 n)
theorem UGR (n:Nat):FSound Tryz.prog GI 100 (UBQ n):=gd Uf8 n (Um7 n) Tryz.func100 (.cons (Um7 n) UMi (f100 n) (fun K _ _=>(Jkq (c:=Jll Tryz.f100) (by kernel_rfl) (ULz n) K).trans (by kernel_rfl)) .nil) (by kernel_rfl)
def UoR:Ann:={ loops:=[],cuts:=[(10,ids [2,5,10],ids [2,3])],frz:=[],rm:=[.id,.id] }
abbrev UBr (n:Nat):Env:=eC 100 (UBQ n) (eC 99 (UKh n) (eC 98 (UOs n) (eC 97 (UOr n) (eC 96 (UOq n) eN))))
theorem UrT (n:Nat):EnvOK Tryz.prog GI (UBr n):=.cons (.cons (.cons (.cons (.cons (.nil) (URT n)) (URU n)) (URV n)) (UO9 n)) (UGR n)
def Ui2 (n:Nat) (x1:Bool) (x2:ByteArray) (x3:Bool) (x4 x5:LP) (k0:Bool→LP→LP→Bool→O R):O R :=
 p98 n x2 (fun y6=>UG4 n x4 y6 (fun y7=>bif (((y7).length:Int) == 1) then (bif (inR 0 ((y7).length)) then (Jj .u32 ((y7).getD ((0:Int).toNat) (.v (.bool false))) fun e8=>k0 x3 x4 y6 (bif true then (e8 == 1) else false)) else none) else (k0 x3 x4 y6 false)))
def p56 (n:Nat) (x1:ByteArray) (k0:Bool→LP→LP→Bool→O R):O R :=
 p96 n x1 (fun y2 y3 y4=>p97 n y2 (fun y5 y6 y7=>bif (!y7) then (k0 false [] [] false) else (p98 n y6 (fun y8=>bif (!y4) then (k0 y5 y8 ([.v (.int .u32 1)]:LP) true) else (p99 n y3 (fun y9=>bif (!y9) then (k0 false [] [] false) else (bif (bif false then true else eqS y3 (⟨#[48]⟩:ByteArray)) then (k0 false [] [] false) else (bif (bif false then true else eqS y3 (⟨#[49]⟩:ByteArray)) then (k0 false [] [] false) else (Ui2 n false y3 y5 y8 ([.v (.int .u32 1)]:LP) (fun y10 y11 y12 y13=>k0 y10 y11 y12 y13))))))))))
abbrev E56 (n:Nat):Code→Fr→Kc R→O R:=evC Tryz.prog (UBr n) UoR n (65,[])
noncomputable def Uqu:Code:=Jj4 (Jll Tryz.f56) [1,1,1,1,1,1,1]
abbrev Umj:Sl (List SV):=(.c (sBx 99 (cB (.c sNl (.c sNl .n)))) (cS (.c (sBx 99 (cB (cH (cH .n)))) .n)))
abbrev Utc (n:Nat) (K:Kc R):Umj.T (O R):=fun x1 x2 x3 x4 x5=>Ui2 n x1 x2 x3 x4 x5 (fun y1 y2 y3 y4=>xC UoR 10 K .ret [.bx 99 [vB y1,vH y2,vH y3],vB y4])
abbrev UOD (n:Nat):Orc R:=oN
abbrev UNo (n:Nat):Orc R:=oC UoR (E56 n) 10 Uqu Umj (Utc n) oN
abbrev K56 (R:Type) (n:Nat):=JcH (R:=R) Tryz.prog (UBr n) UoR n (65,[]) (UOD n) (UNo n)
theorem UDh (n:Nat):K56 R n (true,10,Uqu):=JkW (lo:=UOD n) (cu:=UNo n) (pO pN (by kernel_rfl)) Umj (Utc n) (fun K _ _ _ _ _=>by show _=_; kernel_rfl) fun _ _=>rfl
theorem USB (n:Nat):Je6 (K56 R n) (JaJ UoR (Jll Tryz.f56)):=pO (pC (UDh n) pN) (by kernel_rfl)
abbrev t56:Sl (List SV):=(cS .n)
abbrev f56 (n:Nat) (K:List SV→O R):t56.T (O R):=fun x1=>p56 n x1 (fun y1 y2 y3 y4=>K [.p (.agg [.v (.bool y1),.sh y2,.sh y3]),vB y4])
abbrev UGq (n:Nat):FS:=fT [false] t56 (f56 n)
theorem UI3 (n:Nat):FSound Tryz.prog GI 56 (UGq n):=gd UoR n (UrT n) Tryz.func56 (.cons (UrT n) t56 (f56 n) (fun K _=>(Jkq (c:=Jll Tryz.f56) (by kernel_rfl) (USB n) K).trans (by kernel_rfl)) .nil) (by kernel_rfl)
def Ub0:Ann:={ loops:=[(9,ids [4,5,6,37,38],ids [2,3,4,6])],cuts:=[(2,ids [0,4],ids [2,3]),(5,ids [0,4,5],ids [2,3]),(7,ids [4,5],ids [2,3]),(17,ids [6],ids [2,3])],frz:=[],rm:=[.id,.id] }
abbrev UBI (n:Nat):Env:=eN
theorem Uss (n:Nat):EnvOK Tryz.prog GI (UBI n):=.nil
def UeI (n:Nat) (l0:Bool→ByteArray→Int→Int→Int→O R) (x1:Bool) (x2:ByteArray) (x3 x4 x5:Int) (k0:Int→Bool→Bool→Int→O R) (k1:Bool→Int→O R):O R :=
 bif (decide (x5<x4)) then (bif (inR x5 (x2).size) then (bif (decide (Jc6 x2 x5<48)) then (k0 0 false x1 x3) else (bif (inR x5 (x2).size) then (bif (bif false then true else (decide (Jc6 x2 x5>57))) then (k0 0 false x1 x3) else (bif (inR x5 (x2).size) then (let v6:=IntKind.u8.wrap ((Jc6 x2 x5) - 48); let v7:=IntKind.i64.wrap ((IntKind.i64.wrap (10 * x3)) + (IntKind.i64.wrap (v6))); l0 x1 x2 v7 x4 (IntKind.i64.wrap (x5 + 1))) else none)) else none)) else none) else (k1 x1 x3)
def UbK (n:Nat):Nat→Bool→ByteArray→Int→Int→Int→(Int→Bool→Bool→Int→O R)→(Bool→Int→O R)→O R
 | 0,_,_,_,_,_,_,_=>none
 | m + 1,x1,x2,x3,x4,x5,k0,k1=>UeI n (fun x1 x2 x3 x4 x5=>UbK n m x1 x2 x3 x4 x5 k0 k1) x1 x2 x3 x4 x5 k0 k1
def Uoz (n:Nat) (x1:Bool) (x2:ByteArray) (x3 x4 x5:Int) (k0:Int→Bool→Bool→Int→O R) (k1:Bool→Int→O R):O R:=UbK n n x1 x2 x3 x4 x5 k0 k1
def UeH (n:Nat) (x1:Int) (k0:Int→Bool→O R):O R :=
 k0 x1 true
def Ug9 (n:Nat) (x1:Bool) (x2:ByteArray) (k0:Int→Bool→O R):O R :=
 Uoz n x1 x2 0 ((x2).size:Int) 0 (fun y3 y4 y5 y6=>k0 y3 y4) (fun y7 y8=>bif y7 then (UeH n (IntKind.i64.wrap (0 - y8)) (fun y9 y10=>k0 y9 y10)) else (UeH n y8 (fun y11 y12=>k0 y11 y12)))
def UdU (n:Nat) (x1:ByteArray) (x2:Bool) (x3:ByteArray) (k0:Int→Bool→O R):O R :=
 bif (eqS x3 (⟨#[]⟩:ByteArray)) then (k0 0 false) else (bif (bif false then true else (decide (((x3).size:Int)>9))) then (k0 0 false) else (bif (inR 0 (x3).size) then (bif (Jc6 x3 0 == 48) then (bif (bif false then true else (bif true then (decide (((x1).size:Int)>1)) else false)) then (k0 0 false) else (Ug9 n x2 x3 (fun y4 y5=>k0 y4 y5))) else (Ug9 n x2 x3 (fun y6 y7=>k0 y6 y7))) else none))
def Ukl (n:Nat) (x1:ByteArray) (x2:Bool) (k0:Int→Bool→O R):O R :=
 bif x2 then (bif (Je5 1 ((x1).size:Int) (x1).size) then (UdU n x1 x2 (ByteArray.extract x1 (1:Int).toNat (((x1).size:Int):Int).toNat) (fun y3 y4=>k0 y3 y4)) else none) else (UdU n x1 x2 x1 (fun y5 y6=>k0 y5 y6))
def p95 (n:Nat) (x1:ByteArray) (k0:Int→Bool→O R):O R :=
 bif (!eqS x1 (⟨#[]⟩:ByteArray)) then (bif (inR 0 (x1).size) then (Ukl n x1 (bif true then (Jc6 x1 0 == 45) else false) (fun y2 y3=>k0 y2 y3)) else none) else (Ukl n x1 false (fun y4 y5=>k0 y4 y5))
abbrev E95 (n:Nat):Code→Fr→Kc R→O R:=evC Tryz.prog (UBI n) Ub0 n (64,[])
noncomputable def UxP:Code:=Jj4 (Jll Tryz.f95) [1,1]
abbrev Uve:Sl (List SV):=(cS (cB .n))
abbrev Uyt (n:Nat) (K:Kc R):Uve.T (O R):=fun x1 x2=>Ukl n x1 x2 (fun y1 y2=>xC Ub0 2 K .ret [vI y1,vB y2])
noncomputable def UxQ:Code:=Jj4 (Jll Tryz.f95) [1,1,1,1]
abbrev Uvf:Sl (List SV):=(cS (cB (cS .n)))
abbrev Uyu (n:Nat) (K:Kc R):Uvf.T (O R):=fun x1 x2 x3=>UdU n x1 x2 x3 (fun y1 y2=>xC Ub0 5 K .ret [vI y1,vB y2])
noncomputable def UxR:Code:=Jj4 (Jll Tryz.f95) [1,1,1,1,1]
abbrev Uvg:Sl (List SV):=(cB (cS .n))
abbrev Uyv (n:Nat) (K:Kc R):Uvg.T (O R):=fun x1 x2=>Ug9 n x1 x2 (fun y1 y2=>xC Ub0 7 K .ret [vI y1,vB y2])
noncomputable def UqA:Code:=Jj4 (Jll Tryz.f95) [1,1,1,1,1,1,1,1]
abbrev Ump:Sl (List SV):=(cI .n)
abbrev Utz (n:Nat) (K:Kc R):Ump.T (O R):=fun x1=>UeH n x1 (fun y1 y2=>xC Ub0 17 K .ret [vI y1,vB y2])
noncomputable def UxS:Code:=Jj4 (Jll Tryz.f95) [1,1,1,1,1,1,0,1,0,0]
abbrev UhO:Sl (List SV):=(cB (cS (cI (cI (cI .n)))))
abbrev UtA (n m:Nat) (K:Kc R):UhO.T (O R):=fun x1 x2 x3 x4 x5=>UbK n m x1 x2 x3 x4 x5 (fun y1 y2 y3 y4=>xL Ub0 9 K .ret [vI y1,vB y2,vB y3,vI y4]) (fun y1 y2=>xL Ub0 9 K (.exit 0) [dD,dD,vB y1,vI y2])
abbrev UEE (n:Nat) (K:Kc R) (l0:UhO.T (O R)):UhO.T (O R):=fun x1 x2 x3 x4 x5=>UeI n l0 x1 x2 x3 x4 x5 (fun y1 y2 y3 y4=>xL Ub0 9 K .ret [vI y1,vB y2,vB y3,vI y4]) (fun y1 y2=>xL Ub0 9 K (.exit 0) [dD,dD,vB y1,vI y2])
abbrev UDP (n:Nat):Orc R:=oL Ub0 (E95 n) n 9 UxS UhO (UtA n n) oN
abbrev UDI (n:Nat):Orc R:=oC Ub0 (E95 n) 17 UqA Ump (Utz n) (oC Ub0 (E95 n) 7 UxR Uvg (Uyv n) (oC Ub0 (E95 n) 5 UxQ Uvf (Uyu n) (oC Ub0 (E95 n) 2 UxP Uve (Uyt n) oN)))
abbrev K95 (R:Type) (n:Nat):=JcH (R:=R) Tryz.prog (UBI n) Ub0 n (64,[]) (UDP n) (UDI n)
theorem UIc (n:Nat):K95 R n (false,9,UxS):=JkF (lo:=UDP n) (cu:=UDI n) (pO pN (by kernel_rfl)) UhO (UtA n n) (JiE (F:=UtA n) UhO (UEE n) (fun K _ _ _ _ _=>rfl) (fun _ _=>rfl) (fun L K _ _ _ _ _=>by show _=_; kernel_rfl) n) fun _ _=>rfl
theorem UDm (n:Nat):K95 R n (true,17,UqA):=JkW (lo:=UDP n) (cu:=UDI n) (pO pN (by kernel_rfl)) Ump (Utz n) (fun K _=>by show _=_; kernel_rfl) fun _ _=>rfl
theorem UIb (n:Nat):K95 R n (true,7,UxR):=JkW (lo:=UDP n) (cu:=UDI n) (pO (pC (UIc n) (pC (UDm n) pN)) (by kernel_rfl)) Uvg (Uyv n) (fun K _ _=>by show _=_; kernel_rfl) fun _ _=>rfl
theorem UIa (n:Nat):K95 R n (true,5,UxQ):=JkW (lo:=UDP n) (cu:=UDI n) (pO (pC (UIb n) pN) (by kernel_rfl)) Uvf (Uyu n) (fun K _ _ _=>by show _=_; kernel_rfl) fun _ _=>rfl
theorem UI (n:Nat):K95 R n (true,2,UxP):=JkW (lo:=UDP n) (cu:=UDI n) (pO (pC (UIa n) pN) (by kernel_rfl)) Uve (Uyt n) (fun K _ _=>by show _=_; kernel_rfl) fun _ _=>rfl
theorem UTa (n:Nat):Je6 (K95 R n) (JaJ Ub0 (Jll Tryz.f95)):=pO (pC (UI n) pN) (by kernel_rfl)
abbrev t95:Sl (List SV):=(cS .n)
abbrev f95 (n:Nat) (K:List SV→O R):t95.T (O R):=fun x1=>p95 n x1 (fun y1 y2=>K [vI y1,vB y2])
abbrev UKg (n:Nat):FS:=fT [false] t95 (f95 n)
theorem UO8 (n:Nat):FSound Tryz.prog GI 95 (UKg n):=gd Ub0 n (Uss n) Tryz.func95 (.cons (Uss n) t95 (f95 n) (fun K _=>(Jkq (c:=Jll Tryz.f95) (by kernel_rfl) (UTa n) K).trans (by kernel_rfl)) .nil) (by kernel_rfl)
def UzR:Ann:={ loops:=[],cuts:=[],frz:=[],rm:=[.id] }
abbrev UFl (n:Nat):Env:=eC 95 (UKg n) (eC 56 (UGq n) eN)
theorem UrQ (n:Nat):EnvOK Tryz.prog GI (UFl n):=.cons (.cons (.nil) (UI3 n)) (UO8 n)
def p53 (n:Nat) (x1:ByteArray) (k0:Bool→O R):O R :=
 p95 n x1 (fun y2 y3=>bif y3 then (k0 true) else (p56 n x1 (fun y4 y5 y6 y7=>k0 y7)))
abbrev UQN (n:Nat):Orc R:=oN
abbrev UP2 (n:Nat):Orc R:=oN
abbrev K53 (R:Type) (n:Nat):=JcH (R:=R) Tryz.prog (UFl n) UzR n (19,[]) (UQN n) (UP2 n)
theorem USy (n:Nat):Je6 (K53 R n) (JaJ UzR (Jll Tryz.f53)):=pO pN (by kernel_rfl)
abbrev t53:Sl (List SV):=(cS .n)
abbrev f53 (n:Nat) (K:List SV→O R):t53.T (O R):=fun x1=>p53 n x1 (fun y1=>K [vB y1])
abbrev UB0 (n:Nat):FS:=fT [false] t53 (f53 n)
theorem UDR (n:Nat):FSound Tryz.prog GI 53 (UB0 n):=gd UzR n (UrQ n) Tryz.func53 (.cons (UrQ n) t53 (f53 n) (fun K _=>(Jkq (c:=Jll Tryz.f53) (by kernel_rfl) (USy n) K).trans (by kernel_rfl)) .nil) (by kernel_rfl)
end
end Go.Proofs.YtmgfmlhdnadglaaGreatDoor
set_option linter.unusedVariables false
set_option linter.unusedSimpArgs false
namespace Go.Proofs.YtmgfmlhdnadglaaGreatDoor
open Go Th Go.Proofs
def val (b:Nat):List Nat→Nat
 | []=>0
 | d::r=>d + b * val b r
def toL (b:Nat) (n:Nat):List Nat :=
 if h:n=0∨b<2 then [] else n % b::toL b (n / b)
termination_by n
decreasing_by
 have:2≤b:=by omega
 exact Nat.div_lt_self (by omega) this
theorem Uam (b:Nat):toL b 0=[]:=by unfold toL; simp
theorem UbR {b n:Nat} (hb:2≤b) (h:n≠0):toL b n=n % b::toL b (n / b):=by
 conv=>lhs; unfold toL
 rw [dif_neg (by omega)]
theorem Uaw {b:Nat} (hb:2≤b) (n:Nat):val b (toL b n)=n:=by
 induction n using Nat.strongRecOn with
 | _ n ih =>
  by_cases h:n=0
  · subst h; rw [Uam]; rfl
  · rw [UbR hb h,val,ih (n / b) (Nat.div_lt_self (by omega) hb)]
    exact Nat.mod_add_div n b
theorem UaY {b:Nat} (hb:2≤b) (n:Nat):∀ d∈toL b n,d<b:=by
 induction n using Nat.strongRecOn with
 | _ n ih =>
  by_cases h:n=0
  · subst h; rw [Uam]; intro d hd; cases hd
  · rw [UbR hb h]
    intro d hd
    rcases List.mem_cons.1 hd with rfl | hd
    · exact Nat.mod_lt _ (by omega)
    · exact ih (n / b) (Nat.div_lt_self (by omega) hb) d hd
theorem Ubu {b n:Nat} (hb:2≤b):toL b n=[]↔n=0:=by
 constructor
 · intro h
   have:=Uaw hb n
   rw [h] at this
   exact this.symm
 · rintro rfl; exact Uam b
theorem UcN (b:Nat):∀ (x y:List Nat),val b (x++y)=val b x + b ^ x.length * val b y
 | [],y=>by simp [val]
 | d::x,y=>by
  simp only [List.cons_append,val,List.length_cons,UcN b x y,Nat.pow_succ]
  rw [Nat.mul_add,←Nat.mul_assoc,Nat.mul_comm (b ^ x.length) b]; omega
theorem Ubi (b:Nat) (x:List Nat) (d:Nat):val b (x++[d])=val b x + b ^ x.length * d:=by
 rw [UcN]; simp [val]
theorem UkA (b k:Nat):val b (List.replicate k 0)=0:=by
 induction k with
 | zero=>rfl
 | succ k ih=>simp [List.replicate_succ,val,ih]
theorem Ufk {b:Nat} (hb:2≤b):∀ (l:List Nat),(∀ d∈l,d<b)→val b l<b ^ l.length
 | [],_=>by simp [val]
 | d::r,h=>by
  have h1:=Ufk hb r fun x hx=>h x (List.mem_cons_of_mem _ hx)
  have h2:=h d (List.mem_cons_self ..)
  simp only [val,List.length_cons,Nat.pow_succ]
  have:b * val b r + b≤b ^ r.length * b:=by
   rw [Nat.mul_comm (b ^ r.length) b,←Nat.mul_succ]
   exact Nat.mul_le_mul_left b h1
  omega
theorem Umq {b:Nat} (hb:2≤b):∀ (l:List Nat),(∀ d∈l,d<b)→l.getLast? ≠ some 0→toL b (val b l)=l
 | [],_,_=>Uam b
 | d::r,h,hl=>by
  have hd:=h d (List.mem_cons_self ..)
  have hr:r.getLast? ≠ some 0:=by
   intro e
   cases r with
   | nil=>cases e
   | cons x r=>rw [List.getLast?_cons_cons] at hl; exact hl e
  have ih:=Umq hb r (fun x hx=>h x (List.mem_cons_of_mem _ hx)) hr
  have hne:val b (d::r)≠0:=by
   intro e
   simp only [val,Nat.add_eq_zero_iff,Nat.mul_eq_zero] at e
   have hv:val b r=0:=by omega
   rw [hv,Uam] at ih
   rw [←ih] at hl
   exact hl (by rw [e.1]; rfl)
  rw [UbR hb hne]
  simp only [val]
  rw [Nat.add_mul_mod_self_left,Nat.mod_eq_of_lt hd,Nat.add_mul_div_left _ _ (by omega),Nat.div_eq_of_lt hd,Nat.zero_add,ih]
theorem Ud0 (b:Nat) (l:List Nat):val b (l++[0])=val b l:=by rw [Ubi]; simp
theorem Uao {b:Nat} (hb:2≤b) (n k:Nat):(toL b n).length≤k↔n<b ^ k:=by
 induction k generalizing n with
 | zero =>
  rw [Nat.pow_zero]
  constructor
  · intro h
    have:toL b n=[]:=List.eq_nil_of_length_eq_zero (by omega)
    rw [Ubu hb] at this; omega
  · intro h
    have:n=0:=by omega
    subst this
    rw [Uam]; exact Nat.le_refl _
 | succ k ih =>
  by_cases h:n=0
  · subst h; rw [Uam]; simp; exact Nat.pow_pos (by omega)
  · rw [UbR hb h,List.length_cons,Nat.succ_le_succ_iff,ih,Nat.pow_succ,Nat.mul_comm,Nat.div_lt_iff_lt_mul (by omega),Nat.mul_comm]
theorem Ubv {b:Nat} (hb:2≤b) {x y:Nat} (h:(toL b x).length<(toL b y).length):x<y:=by
 have h1:=(Uao hb x (toL b x).length).1 (Nat.le_refl _)
 have h2:¬ y<b ^ (toL b x).length:=fun q=>by have:=(Uao hb y _).2 q; omega
 omega
theorem UoL {b:Nat} (hb:2≤b) (n:Nat):(toL b n).getLast? ≠ some 0:=by
 induction n using Nat.strongRecOn with
 | _ n ih =>
  by_cases h:n=0
  · subst h; rw [Uam]; simp
  · rw [UbR hb h]
    by_cases h2:n / b=0
    · rw [h2,Uam]
      have:n<b:=by
       rcases (Nat.div_eq_zero_iff).1 h2 with q | q <;> omega
      rw [Nat.mod_eq_of_lt this]
      simpa using h
    · have:=ih (n / b) (Nat.div_lt_self (by omega) hb)
      rw [UbR hb h2] at this ⊢
      rw [List.getLast?_cons_cons]
      exact this
theorem Ubk {l:List Nat} {i:Nat} (h:i<l.length):l.take (i + 1)=l.take i++[l.getD i 0]:=by
 rw [List.take_succ_eq_append_getElem h,List.getD_eq_getElem?_getD,List.getElem?_eq_getElem h]; rfl
theorem Ua8 (b:Nat) {l:List Nat} {i:Nat} (h:i<l.length):val b (l.take (i + 1))=val b (l.take i) + b ^ i * l.getD i 0:=by
 rw [Ubk h,Ubi,List.length_take,Nat.min_eq_left (by omega)]
theorem Uaq {b:Nat} (hb:2≤b) {l:List Nat} (hl:∀ d∈l,d<b) {i:Nat} (h:i≤l.length):val b (l.take i)<b ^ i:=by
 have:=Ufk hb (l.take i) fun x hx=>hl x (List.mem_of_mem_take hx)
 rwa [List.length_take,Nat.min_eq_left h] at this
theorem Uad {b:Nat} (hb:2≤b) {l:List Nat} (hl:∀ d∈l,d<b) (i:Nat):l.getD i 0<b:=by
 rw [List.getD_eq_getElem?_getD]
 cases h:l[i]? with
 | none=>simp; omega
 | some x=>exact hl x (List.mem_of_getElem? h)
theorem UaB (b:Nat) (l:List Nat) (i:Nat) (h:i≤l.length):val b l=val b (l.take i) + b ^ i * val b (l.drop i):=by
 conv=>lhs; rw [←List.take_append_drop i l]
 rw [UcN,List.length_take,Nat.min_eq_left h]
theorem Uf6 {l:List Nat} {i:Nat} (d:Nat) (h:i<l.length):(l.set i d).take (i + 1)=l.take i++[d]:=by
 rw [Ubk (by rw [List.length_set]; exact h),List.take_set_of_le (Nat.le_refl _),List.getD_eq_getElem?_getD,List.getElem?_set_self h]; rfl
theorem Ubq {b:Nat} {l:List Nat} (hl:∀ d∈l,d<b) {x:Nat} (hx:x<b) (i:Nat):∀ d∈l.set i x,d<b:=by
 intro d hd
 rcases List.mem_or_eq_of_mem_set hd with h | h
 · exact hl d h
 · rw [h]; exact hx
theorem Uff (b:Nat) {l:List Nat} {i:Nat} (d:Nat) (h:i<l.length):val b (l.set i d) + b ^ i * l.getD i 0=val b l + b ^ i * d:=by
 have h1:=UaB b (l.set i d) (i + 1) (by rw [List.length_set]; omega)
 have h2:=UaB b l (i + 1) (by omega)
 rw [Uf6 d h,List.drop_set_of_lt (by omega),Ubi,List.length_take,Nat.min_eq_left (by omega)] at h1
 rw [Ua8 b h] at h2
 omega
theorem Uhb {b:Nat} (hb:2≤b) (n:Nat):∀ d∈List.replicate n 0,d<b:=by
 intro d hd
 rw [List.mem_replicate] at hd
 omega
theorem Uar (b:Nat) (l:List Nat) (i:Nat):val b (l.take (i + 1))=val b (l.take i) + b ^ i * l.getD i 0:=by
 by_cases h:i<l.length
 · exact Ua8 b h
 · rw [List.take_of_length_le (by omega),List.take_of_length_le (by omega),List.getD_eq_getElem?_getD,List.getElem?_eq_none (by omega)]; simp
theorem UbA {l:List Nat} {i:Nat} (h:l.length≤i):l.getD i 0=0:=by rw [List.getD_eq_getElem?_getD,List.getElem?_eq_none h]; rfl
theorem UoW (b i v c s:Nat) (hb:0<b):v + b ^ i * (s % b) + b ^ (i + 1) * (s / b)=v + b ^ i * s:=by
 rw [Nat.pow_succ,Nat.mul_assoc,Nat.add_assoc,←Nat.mul_add,Nat.mod_add_div]
theorem Ukw {l:List Nat} {i:Nat} (h:l.length=i + 1) (d:Nat):l.set i d=l.take i++[d]:=by
 have:=Uf6 d (l:=l) (i:=i) (by omega)
 rw [List.take_of_length_le (by rw [List.length_set]; omega)] at this
 exact this
theorem hT2:2≤10:=by decide
def ch (d:Nat):UInt8:=UInt8.ofNat (48 + d)
theorem Uft {d:Nat} (h:d<10):(ch d).toNat=48 + d:=by
 unfold ch; rw [UInt8.toNat_ofNat']; omega
def DL (a:Nat):List Nat:=(toL 10 a).reverse
abbrev dec (a:Nat):List UInt8:=Lib.decDigits a
theorem Ubb {a:Nat} (h:a<10):dec a=[ch a]:=by unfold dec; rw [Lib.decDigits,dif_pos h]; rfl
theorem UkU {a:Nat} (h:10≤a):dec a=dec (a / 10)++[ch (a % 10)]:=by
 unfold dec; rw [Lib.decDigits,dif_neg (by omega)]; rfl
theorem Uav:dec 0=[48]:=Ubb (by omega)
theorem UgL {x:Nat} (h0:x≠0) (hx:x<10):toL 10 x=[x]:=by
 rw [UbR hT2 h0,Nat.mod_eq_of_lt hx,Nat.div_eq_of_lt hx,Uam]
theorem UcX (a:Nat) (h:a≠0):dec a=(DL a).map ch:=by
 induction a using Nat.strongRecOn with
 | _ a ih =>
  unfold DL
  by_cases h1:a<10
  · rw [Ubb h1,UgL h h1]; rfl
  · rw [UkU (by omega),ih (a / 10) (by omega) (by omega),UbR hT2 h,List.reverse_cons,List.map_append]; rfl
theorem Ufl (a:Nat):∀ d∈DL a,d<10:=fun d h=>UaY hT2 a d (List.mem_reverse.1 h)
theorem UkI:DL 0=[]:=by unfold DL; rw [Uam]; rfl
theorem UDY {a:Nat}:DL a=[]↔a=0:=by unfold DL; rw [List.reverse_eq_nil_iff,Ubu hT2]
theorem UDX (a k:Nat):(DL a).length≤k↔a<10 ^ k:=by unfold DL; rw [List.length_reverse,Uao hT2]
def vb (l:List Nat):Nat:=val 10 l.reverse
theorem UoM:vb []=0:=rfl
theorem Umr (l:List Nat) (d:Nat):vb (l++[d])=10 * vb l + d:=by unfold vb; rw [List.reverse_append]; simp [val]; omega
theorem Ud1 (x y:List Nat):vb (x++y)=vb x * 10 ^ y.length + vb y:=by
 unfold vb; rw [List.reverse_append,UcN,List.length_reverse,Nat.mul_comm]; omega
theorem Udc (d:Nat) (l:List Nat):vb (d::l)=d * 10 ^ l.length + vb l:=by
 have:=Ud1 [d] l
 rw [show vb [d]=d from by simp [vb,val]] at this
 exact this
theorem UgN (a:Nat):vb (DL a)=a:=by unfold vb DL; rw [List.reverse_reverse,Uaw hT2]
theorem UDy (l:List Nat) (h:∀ d∈l,d<10):vb l<10 ^ l.length:=by
 have:=Ufk hT2 l.reverse fun d hd=>h d (List.mem_reverse.1 hd)
 rwa [List.length_reverse] at this
theorem UDZ {l:List Nat} (h:∀ d∈l,d<10) (hl:l.head? ≠ some 0):DL (vb l)=l:=by
 unfold DL vb
 rw [Umq hT2 l.reverse (fun d hd=>h d (List.mem_reverse.1 hd)) (by rw [List.getLast?_reverse]; exact hl),List.reverse_reverse]
theorem Uzt (a:Nat):(DL a).head? ≠ some 0:=by
 unfold DL; rw [List.head?_reverse]; exact UoL hT2 a
def isD (c:UInt8):Bool:=decide (48≤c.toNat)&&decide (c.toNat≤57)
theorem UaK {c:UInt8}:isD c=true↔48≤c.toNat∧c.toNat≤57:=by simp [isD]
def dg (s:List UInt8):List Nat:=s.map fun c=>c.toNat - 48
theorem UA1 {s:List UInt8} (h:∀ c∈s,isD c=true):∀ d∈dg s,d<10:=by
 intro d hd
 simp only [dg,List.mem_map] at hd
 obtain ⟨c,hc,rfl⟩:=hd
 have:=UaK.1 (h c hc)
 omega
theorem UJv {s:List UInt8} (h:∀ c∈s,isD c=true):(dg s).map ch=s:=by
 unfold dg
 rw [List.map_map]
 conv=>rhs; rw [←List.map_id s]
 apply List.map_congr_left
 intro c hc
 have:=UaK.1 (h c hc)
 simp only [Function.comp,id]
 apply UInt8.toNat_inj.1
 rw [Uft (by omega)]; omega
theorem UJV {l:List Nat} (h:∀ d∈l,d<10):dg (l.map ch)=l:=by
 unfold dg
 rw [List.map_map]
 conv=>rhs; rw [←List.map_id l]
 apply List.map_congr_left
 intro d hd
 simp only [Function.comp,id]
 rw [Uft (h d hd)]; omega
theorem UGx {l:List Nat} (h:∀ d∈l,d<10):∀ c∈l.map ch,isD c=true:=by
 intro c hc
 rw [List.mem_map] at hc
 obtain ⟨d,hd,rfl⟩:=hc
 have:=h d hd
 rw [UaK,Uft this]; omega
def ofD (s:List UInt8):Nat:=vb (dg s)
theorem Uo3 (s t:List UInt8):ofD (s++t)=ofD s * 10 ^ t.length + ofD t:=by
 unfold ofD dg; rw [List.map_append,Ud1,List.length_map]
theorem UtU {s:List UInt8} (h:∀ c∈s,isD c=true):ofD s<10 ^ s.length:=by
 have:=UDy (dg s) (UA1 h)
 rwa [dg,List.length_map] at this
theorem Uba (a:Nat):∀ c∈dec a,isD c=true:=by
 by_cases h:a=0
 · subst h; rw [Uav]; intro c hc; simp at hc; subst hc; rfl
 · rw [UcX a h]; exact UGx (Ufl a)
theorem UcZ (a:Nat):ofD (dec a)=a:=by
 by_cases h:a=0
 · subst h; rw [Uav]; rfl
 · rw [UcX a h,ofD,UJV (Ufl a),UgN]
theorem UcW {a b:Nat} (h:dec a=dec b):a=b:=by rw [←UcZ a,h,UcZ]
theorem UqH (a:Nat):dec a≠[]:=by
 by_cases h:a=0
 · subst h; rw [Uav]; simp
 · rw [UcX a h]; simp [UDY,h]
theorem Uby (a k:Nat) (hk:1≤k):(dec a).length≤k↔a<10 ^ k:=by
 by_cases h:a=0
 · subst h; rw [Uav]
   have:0<10 ^ k:=Nat.pow_pos (by omega)
   simp [hk,this]
 · rw [UcX a h,List.length_map,UDX]
theorem UqI {s:List UInt8} (h:∀ c∈s,isD c=true) (h0:s≠[]) (h1:s.head? ≠ some 48∨s.length=1):dec (ofD s)=s:=by
 by_cases hz:s=[48]
 · subst hz; rw [show ofD [48]=0 from rfl,Uav]
 · have hh:s.head? ≠ some 48:=by
    rcases h1 with h1 | h1
    · exact h1
    · intro e
      match s,h1,e with
      | [c],_,e=>simp at e; subst e; exact hz rfl
   have hd:(dg s).head? ≠ some 0:=by
    match s,h0 with
    | c::r,_ =>
     simp only [dg,List.map_cons,List.head?_cons,ne_eq,Option.some.injEq] at hh ⊢
     have:=UaK.1 (h c (List.mem_cons_self ..))
     intro e
     exact hh (by apply UInt8.toNat_inj.1; show c.toNat=48; omega)
   have hD:=UDZ (UA1 h) hd
   have hne:ofD s≠0:=by
    intro e
    unfold ofD at e
    rw [e,UkI] at hD
    simp [dg] at hD
    exact h0 (by first | exact hD | exact hD.symm)
   rw [UcX _ hne]
   unfold ofD
   rw [hD,UJv h]
theorem UmX (a:Nat):(dec a).head? ≠ some 48∨(dec a).length=1:=by
 by_cases h:a=0
 · subst h; rw [Uav]; right; rfl
 · left
   rw [UcX a h]
   have:=Uzt a
   have hl:=Ufl a
   cases hD:DL a with
   | nil=>simp
   | cons d r =>
    rw [hD] at this hl
    simp only [List.map_cons,List.head?_cons,ne_eq,Option.some.injEq] at this ⊢
    intro e
    have h2:=congrArg UInt8.toNat e
    rw [Uft (hl d (List.mem_cons_self ..))] at h2
    have:(48:UInt8).toNat=48:=rfl
    omega
def pad:Nat→Nat→List UInt8
 | 0,_=>[]
 | k + 1,d=>pad k (d / 10)++[ch (d % 10)]
theorem Uwm (k:Nat):pad k 0=List.replicate k 48:=by
 induction k with
 | zero=>rfl
 | succ k ih=>rw [pad,Nat.zero_div,ih,List.replicate_succ']; rfl
theorem Uzj:∀ (k d:Nat),d<10 ^ (k + 1)→List.replicate (k + 1 - (dec d).length) 48++dec d=pad (k + 1) d
 | 0,d,h=>by
  have h':d<10:=by simpa using h
  rw [Ubb h',pad,pad,Nat.mod_eq_of_lt h']; rfl
 | k + 1,d,h=>by
  by_cases h1:d<10
  · rw [Ubb h1,pad,Nat.mod_eq_of_lt h1,Nat.div_eq_of_lt h1,Uwm]; rfl
  · have ih:=Uzj k (d / 10) (by rw [Nat.pow_succ] at h; omega)
    rw [UkU (by omega),pad,←ih,List.length_append,List.length_singleton,←List.append_assoc]
    congr 3
    omega
theorem UmY:∀ (k h d:Nat),h≠0→d<10 ^ k→dec (h * 10 ^ k + d)=dec h++pad k d
 | 0,h,d,h0,hd=>by
  have:d=0:=by simpa using hd
  subst this
  simp [pad]
 | k + 1,h,d,h0,hd=>by
  have hp:0<10 ^ k:=Nat.pow_pos (by omega)
  have e:h * 10 ^ (k + 1)=10 * (h * 10 ^ k):=by rw [Nat.pow_succ]; grind
  have hge:1 * 1≤h * 10 ^ k:=Nat.mul_le_mul (by omega) hp
  rw [Nat.pow_succ] at hd
  rw [UkU (by omega),pad,←List.append_assoc,←UmY k h (d / 10) h0 (by omega)]
  congr 3
  · omega
  · omega
theorem UdV:∀ (s:List UInt8) (acc:Nat),(∀ c∈s,isD c=true)→(acc + 1) * 10 ^ s.length≤1000000000000000000→Lib.parseUint10 acc s=.ok (acc * 10 ^ s.length + ofD s)
 | [],acc,_,_=>by simp [Lib.parseUint10,ofD,dg,UoM]
 | c::r,acc,h,hb=>by
  have hc:=UaK.1 (h c (List.mem_cons_self ..))
  rw [List.length_cons,Nat.pow_succ] at hb
  have hp:0<10 ^ r.length:=Nat.pow_pos (by omega)
  have h1:(acc + 1) * 10≤(acc + 1) * (10 ^ r.length * 10):=Nat.mul_le_mul_left _ (by omega)
  have ih:=UdV r (acc * 10 + (c.toNat - 48)) (fun x hx=>h x (List.mem_cons_of_mem _ hx)) (by
   have:(acc * 10 + (c.toNat - 48) + 1) * 10 ^ r.length≤((acc + 1) * 10) * 10 ^ r.length:=Nat.mul_le_mul_right _ (by omega)
   have e:(acc + 1) * (10 ^ r.length * 10)=((acc + 1) * 10) * 10 ^ r.length:=by grind
   omega)
  rw [Lib.parseUint10,if_pos hc,if_neg (by omega),if_neg (by omega),ih]
  congr 1
  have:ofD (c::r)=(c.toNat - 48) * 10 ^ r.length + ofD r:=by
   unfold ofD dg; rw [List.map_cons,Udc,List.length_map]
  rw [this,List.length_cons,Nat.pow_succ]
  grind
theorem UvA (s:List UInt8) (h:∀ c∈s,isD c=true) (h0:s≠[]) (hl:s.length≤18):Lib.atoiAll s=.ok (ofD s:Int):=by
 match s,h0 with
 | c::r,_ =>
  have hc:=UaK.1 (h c (List.mem_cons_self ..))
  have hlt:=UtU h
  have hp:10 ^ (c::r).length≤10 ^ 18:=Nat.pow_le_pow_right (by omega) hl
  have hu:=UdV (c::r) 0 h (by rw [Nat.zero_add,Nat.one_mul]; exact hp)
  rw [Nat.zero_mul,Nat.zero_add] at hu
  have e1:¬ (c.toNat=43∨c.toNat=45):=by omega
  have e2:¬ c.toNat=45:=by omega
  unfold Lib.atoiAll
  simp only [if_neg e1,Lib.parseMag,List.cons_ne_nil,if_false,hu]
  rw [if_neg (by omega),if_neg (by omega),if_neg e2]
end Go.Proofs.YtmgfmlhdnadglaaGreatDoor
set_option linter.unusedVariables false
set_option maxRecDepth 100000
namespace Go.Proofs.YtmgfmlhdnadglaaGreatDoor
open Go Th Go.Proofs
noncomputable section
variable {R:Type}
def UbX:Ann:={ loops:=[(6,ids [0,1,5,6,20,21],ids [0,4,5,6])],cuts:=[(3,ids [0,1],ids [4]),(11,ids [0,1,5,6,7,20,21],ids [0,1,4,5,6,20,21])],frz:=[],rm:=[.id] }
abbrev UqP (n:Nat):Env:=eC 101 (Ult n) eN
theorem Um9 (n:Nat):EnvOK Tryz.prog GI (UqP n):=.cons (.nil) (Uo4 n)
def UfC (n:Nat) (x1 x2 x3:LP) (x4 x5 x6 x7:Int) (k0:LP→LP→LP→Int→Int→Int→O R):O R :=
 bif decide (1000000000=0) then none else (bif (inR x5 ((x3).length)) then (Jj .u32 ((x3).getD ((x5:Int).toNat) (.v (.bool false))) fun e8=>bif decide (1000000000=0) then none else (let v9:=IntKind.u32.wrap (Int.tdiv x4 1000000000); k0 x1 x2 ((x3).set ((x5:Int).toNat) (.v (.int .u32 (Int.tmod x4 1000000000)))) v9 x6 x7)) else none)
def UfD (n:Nat) (l0:LP→LP→LP→Int→Int→Int→O R) (x1 x2 x3:LP) (x4 x5 x6:Int) (k0:LP→LP→Int→O R):O R :=
 bif (decide (x6<x5)) then (bif (inR x6 ((x1).length)) then (Jj .u32 ((x1).getD ((x6:Int).toNat) (.v (.bool false))) fun e7=>bif (decide (x6<((x2).length:Int))) then (bif (inR x6 ((x2).length)) then (Jj .u32 ((x2).getD ((x6:Int).toNat) (.v (.bool false))) fun e8=>let v9:=IntKind.u32.wrap ((IntKind.u32.wrap (x4 + e7)) + e8); UfC n x1 x2 x3 v9 x6 x5 x6 (fun y10 y11 y12 y13 y14 y15=>l0 y10 y11 y12 y13 y14 (IntKind.i64.wrap (y15 + 1)))) else none) else (UfC n x1 x2 x3 (IntKind.u32.wrap (x4 + e7)) x6 x5 x6 (fun y16 y17 y18 y19 y20 y21=>l0 y16 y17 y18 y19 y20 (IntKind.i64.wrap (y21 + 1))))) else none) else (k0 x1 x3 x4)
def Uch (n:Nat):Nat→LP→LP→LP→Int→Int→Int→(LP→LP→Int→O R)→O R
 | 0,_,_,_,_,_,_,_=>none
 | m + 1,x1,x2,x3,x4,x5,x6,k0=>UfD n (fun x1 x2 x3 x4 x5 x6=>Uch n m x1 x2 x3 x4 x5 x6 k0) x1 x2 x3 x4 x5 x6 k0
def Ut1 (n:Nat) (x1 x2 x3:LP) (x4 x5 x6:Int) (k0:LP→LP→Int→O R):O R:=Uch n n x1 x2 x3 x4 x5 x6 k0
def Ugt (n:Nat) (x1 x2:LP) (k0:LP→O R):O R :=
 let v3:=IntKind.i64.wrap (((x1).length:Int) + 1); bif (decide ((0:Int)≤v3)&&decide ((v3:Int)≤v3)&&Jbu (v3:Int).toNat 4) then (Ut1 n x1 x2 (List.replicate (v3:Int).toNat (.v (.int .u32 0):PV)) 0 ((x1).length:Int) 0 (fun y4 y5 y6=>bif (inR ((y4).length:Int) ((y5).length)) then (Jj .u32 ((y5).getD ((((y4).length:Int):Int).toNat) (.v (.bool false))) fun e7=>UtZ n ((y5).set ((((y4).length:Int):Int).toNat) (.v (.int .u32 y6))) (fun y8=>k0 y8)) else none)) else none
def UJ (n:Nat) (x1 x2:LP) (k0:LP→O R):O R :=
 bif (decide (((x1).length:Int)<((x2).length:Int))) then (Ugt n x2 x1 (fun y3=>k0 y3)) else (Ugt n x1 x2 (fun y4=>k0 y4))
abbrev UJk (n:Nat):Code→Fr→Kc R→O R:=evC Tryz.prog (UqP n) UbX n (55,[])
noncomputable def UpH:Code:=Jj4 (Jll Tryz.f103) [1,1]
abbrev UlV:Sl (List SV):=(cH (cH .n))
abbrev Usy (n:Nat) (K:Kc R):UlV.T (O R):=fun x1 x2=>Ugt n x1 x2 (fun y1=>xC UbX 3 K .ret [vH y1])
noncomputable def Umw:Code:=Jj4 (Jll Tryz.f103) [1,1,1,1,0,1,0,0,1,1,0,0,1,1,1]
abbrev Ujx:Sl (List SV):=(cH (cH (cO 143 (.c (sP (Jlv .u32)) (cI (cI (cI .n)))))))
abbrev UnN (n:Nat) (K:Kc R):Ujx.T (O R):=fun x1 x2 x3 x4 x5 x6 x7=>UfC n x1 x2 x3 x4 x5 x6 x7 (fun y1 y2 y3 y4 y5 y6=>xC UbX 11 K .normal [vH y1,vH y2,dD,.own 143 y3,.p (.v (.int .u32 y4)),vI y5,vI y6])
noncomputable def UpI:Code:=Jj4 (Jll Tryz.f103) [1,1,1,1,0,1,0,0]
abbrev UeM:Sl (List SV):=(cH (cH (cO 143 (.c (sP (Jlv .u32)) (cI (cI .n))))))
abbrev Uk2 (n m:Nat) (K:Kc R):UeM.T (O R):=fun x1 x2 x3 x4 x5 x6=>Uch n m x1 x2 x3 x4 x5 x6 (fun y1 y2 y3=>xL UbX 6 K (.exit 0) [vH y1,dD,.own 143 y2,.p (.v (.int .u32 y3))])
abbrev UAi (n:Nat) (K:Kc R) (l0:UeM.T (O R)):UeM.T (O R):=fun x1 x2 x3 x4 x5 x6=>UfD n l0 x1 x2 x3 x4 x5 x6 (fun y1 y2 y3=>xL UbX 6 K (.exit 0) [vH y1,dD,.own 143 y2,.p (.v (.int .u32 y3))])
abbrev Uv8 (n:Nat):Orc R:=oL UbX (UJk n) n 6 UpI UeM (Uk2 n n) oN
abbrev UvO (n:Nat):Orc R:=oC UbX (UJk n) 11 Umw Ujx (UnN n) (oC UbX (UJk n) 3 UpH UlV (Usy n) oN)
abbrev UIB (R:Type) (n:Nat):=JcH (R:=R) Tryz.prog (UqP n) UbX n (55,[]) (Uv8 n) (UvO n)
theorem Uwn (n:Nat):UIB R n (true,11,Umw):=JkW (lo:=Uv8 n) (cu:=UvO n) (pO pN (by kernel_rfl)) Ujx (UnN n) (fun K _ _ _ _ _ _ _=>by show _=_; kernel_rfl) fun _ _=>rfl
theorem UCu (n:Nat):UIB R n (false,6,UpI):=JkF (lo:=Uv8 n) (cu:=UvO n) (pO (pC (Uwn n) pN) (by kernel_rfl)) UeM (Uk2 n n) (JiE (F:=Uk2 n) UeM (UAi n) (fun K _ _ _ _ _ _=>rfl) (fun _ _=>rfl) (fun L K _ _ _ _ _ _=>by show _=_; kernel_rfl) n) fun _ _=>rfl
theorem UCt (n:Nat):UIB R n (true,3,UpH):=JkW (lo:=Uv8 n) (cu:=UvO n) (pO (pC (UCu n) pN) (by kernel_rfl)) UlV (Usy n) (fun K _ _=>by show _=_; kernel_rfl) fun _ _=>rfl
theorem ULB (n:Nat):Je6 (UIB R n) (JaJ UbX (Jll Tryz.f103)):=pO (pC (UCt n) pN) (by kernel_rfl)
abbrev UMk:Sl (List SV):=(cH (cH .n))
abbrev f103 (n:Nat) (K:List SV→O R):UMk.T (O R):=fun x1 x2=>UJ n x1 x2 (fun y1=>K [vH y1])
abbrev UFT (n:Nat):FS:=fT [false,false] UMk (f103 n)
theorem UKK (n:Nat):FSound Tryz.prog GI 103 (UFT n):=gd UbX n (Um9 n) Tryz.func103 (.cons (Um9 n) UMk (f103 n) (fun K _ _=>(Jkq (c:=Jll Tryz.f103) (by kernel_rfl) (ULB n) K).trans (by kernel_rfl)) .nil) (by kernel_rfl)
def UbY:Ann:={ loops:=[(4,ids [0,1,5,6,13,14],ids [4,5])],cuts:=[(9,ids [0,1,5,7,8,13,14],ids [0,1,4,5,6,13,14]),(13,ids [0,1,5,6,7,8,13,14],ids [0,1,4,5,6,13,14])],frz:=[],rm:=[.id] }
abbrev UqQ (n:Nat):Env:=eC 101 (Ult n) eN
theorem Un (n:Nat):EnvOK Tryz.prog GI (UqQ n):=.cons (.nil) (Uo4 n)
def UdE (n:Nat) (x1 x2 x3:LP) (x4 x5 x6 x7 x8:Int) (k0:LP→LP→LP→Int→Int→Int→O R):O R :=
 bif (inR x5 ((x3).length)) then (Jj .u32 ((x3).getD ((x5:Int).toNat) (.v (.bool false))) fun e9=>k0 x1 x2 ((x3).set ((x5:Int).toNat) (.v (.int .u32 (IntKind.u32.wrap (x6))))) x4 x7 x8) else none
def Ugu (n:Nat) (x1 x2 x3:LP) (x4 x5 x6 x7:Int) (k0:LP→LP→LP→Int→Int→Int→O R):O R :=
 bif (decide (x5<0)) then (UdE n x1 x2 x3 1 x4 (IntKind.i64.wrap (x5 + 1000000000)) x6 x7 (fun y8 y9 y10 y11 y12 y13=>k0 y8 y9 y10 y11 y12 y13)) else (UdE n x1 x2 x3 0 x4 x5 x6 x7 (fun y14 y15 y16 y17 y18 y19=>k0 y14 y15 y16 y17 y18 y19))
def UdF (n:Nat) (l0:LP→LP→LP→Int→Int→Int→O R) (x1 x2 x3:LP) (x4 x5 x6:Int) (k0:LP→O R):O R :=
 bif (decide (x6<x5)) then (bif (inR x6 ((x1).length)) then (Jj .u32 ((x1).getD ((x6:Int).toNat) (.v (.bool false))) fun e7=>let v8:=IntKind.i64.wrap ((IntKind.i64.wrap (e7)) - x4); bif (decide (x6<((x2).length:Int))) then (bif (inR x6 ((x2).length)) then (Jj .u32 ((x2).getD ((x6:Int).toNat) (.v (.bool false))) fun e9=>let v10:=IntKind.i64.wrap (v8 - (IntKind.i64.wrap (e9))); Ugu n x1 x2 x3 x6 v10 x5 x6 (fun y11 y12 y13 y14 y15 y16=>l0 y11 y12 y13 y14 y15 (IntKind.i64.wrap (y16 + 1)))) else none) else (Ugu n x1 x2 x3 x6 v8 x5 x6 (fun y17 y18 y19 y20 y21 y22=>l0 y17 y18 y19 y20 y21 (IntKind.i64.wrap (y22 + 1))))) else none) else (k0 x3)
def UbC (n:Nat):Nat→LP→LP→LP→Int→Int→Int→(LP→O R)→O R
 | 0,_,_,_,_,_,_,_=>none
 | m + 1,x1,x2,x3,x4,x5,x6,k0=>UdF n (fun x1 x2 x3 x4 x5 x6=>UbC n m x1 x2 x3 x4 x5 x6 k0) x1 x2 x3 x4 x5 x6 k0
def Ut2 (n:Nat) (x1 x2 x3:LP) (x4 x5 x6:Int) (k0:LP→O R):O R:=UbC n n x1 x2 x3 x4 x5 x6 k0
def UG5 (n:Nat) (x1 x2:LP) (k0:LP→O R):O R :=
 bif (decide ((0:Int)≤((x1).length:Int))&&decide ((((x1).length:Int):Int)≤((x1).length:Int))&&Jbu (((x1).length:Int):Int).toNat 4) then (Ut2 n x1 x2 (List.replicate (((x1).length:Int):Int).toNat (.v (.int .u32 0):PV)) 0 ((x1).length:Int) 0 (fun y3=>UtZ n y3 (fun y4=>k0 y4))) else none
abbrev UJl (n:Nat):Code→Fr→Kc R→O R:=evC Tryz.prog (UqQ n) UbY n (47,[])
noncomputable def UpJ:Code:=Jj4 (Jll Tryz.f104) [1,1,1,0,1,0,0,1,1,0,0,1,1,1]
abbrev UlW:Sl (List SV):=(cH (cH (cO 143 (cI (cI (cI (cI .n)))))))
abbrev Usz (n:Nat) (K:Kc R):UlW.T (O R):=fun x1 x2 x3 x4 x5 x6 x7=>Ugu n x1 x2 x3 x4 x5 x6 x7 (fun y1 y2 y3 y4 y5 y6=>xC UbY 9 K .normal [vH y1,vH y2,dD,.own 143 y3,vI y4,vI y5,vI y6])
noncomputable def Umx:Code:=Jj4 (Jll Tryz.f104) [1,1,1,0,1,0,0,1,1,0,0,1,1,1,1,1]
abbrev Ujy:Sl (List SV):=(cH (cH (cO 143 (cI (cI (cI (cI (cI .n))))))))
abbrev UnO (n:Nat) (K:Kc R):Ujy.T (O R):=fun x1 x2 x3 x4 x5 x6 x7 x8=>UdE n x1 x2 x3 x4 x5 x6 x7 x8 (fun y1 y2 y3 y4 y5 y6=>xC UbY 13 K .normal [vH y1,vH y2,dD,.own 143 y3,vI y4,vI y5,vI y6])
noncomputable def UpK:Code:=Jj4 (Jll Tryz.f104) [1,1,1,0,1,0,0]
abbrev UeN:Sl (List SV):=(cH (cH (cO 143 (cI (cI (cI .n))))))
abbrev Uk3 (n m:Nat) (K:Kc R):UeN.T (O R):=fun x1 x2 x3 x4 x5 x6=>UbC n m x1 x2 x3 x4 x5 x6 (fun y1=>xL UbY 4 K (.exit 0) [dD,.own 143 y1])
abbrev UAj (n:Nat) (K:Kc R) (l0:UeN.T (O R)):UeN.T (O R):=fun x1 x2 x3 x4 x5 x6=>UdF n l0 x1 x2 x3 x4 x5 x6 (fun y1=>xL UbY 4 K (.exit 0) [dD,.own 143 y1])
abbrev Uv9 (n:Nat):Orc R:=oL UbY (UJl n) n 4 UpK UeN (Uk3 n n) oN
abbrev UvP (n:Nat):Orc R:=oC UbY (UJl n) 13 Umx Ujy (UnO n) (oC UbY (UJl n) 9 UpJ UlW (Usz n) oN)
abbrev UIC (R:Type) (n:Nat):=JcH (R:=R) Tryz.prog (UqQ n) UbY n (47,[]) (Uv9 n) (UvP n)
theorem Uwo (n:Nat):UIC R n (true,13,Umx):=JkW (lo:=Uv9 n) (cu:=UvP n) (pO pN (by kernel_rfl)) Ujy (UnO n) (fun K _ _ _ _ _ _ _ _=>by show _=_; kernel_rfl) fun _ _=>rfl
theorem UCv (n:Nat):UIC R n (true,9,UpJ):=JkW (lo:=Uv9 n) (cu:=UvP n) (pO (pC (Uwo n) pN) (by kernel_rfl)) UlW (Usz n) (fun K _ _ _ _ _ _ _=>by show _=_; kernel_rfl) fun _ _=>rfl
theorem UCw (n:Nat):UIC R n (false,4,UpK):=JkF (lo:=Uv9 n) (cu:=UvP n) (pO (pC (UCv n) pN) (by kernel_rfl)) UeN (Uk3 n n) (JiE (F:=Uk3 n) UeN (UAj n) (fun K _ _ _ _ _ _=>rfl) (fun _ _=>rfl) (fun L K _ _ _ _ _ _=>by show _=_; kernel_rfl) n) fun _ _=>rfl
theorem ULC (n:Nat):Je6 (UIC R n) (JaJ UbY (Jll Tryz.f104)):=pO (pC (UCw n) pN) (by kernel_rfl)
abbrev UMl:Sl (List SV):=(cH (cH .n))
abbrev f104 (n:Nat) (K:List SV→O R):UMl.T (O R):=fun x1 x2=>UG5 n x1 x2 (fun y1=>K [vH y1])
abbrev UFU (n:Nat):FS:=fT [false,false] UMl (f104 n)
theorem UKL (n:Nat):FSound Tryz.prog GI 104 (UFU n):=gd UbY n (Un n) Tryz.func104 (.cons (Un n) UMl (f104 n) (fun K _ _=>(Jkq (c:=Jll Tryz.f104) (by kernel_rfl) (ULC n) K).trans (by kernel_rfl)) .nil) (by kernel_rfl)
end
end Go.Proofs.YtmgfmlhdnadglaaGreatDoor
set_option linter.unusedVariables false
set_option linter.unusedSimpArgs false
namespace Go.Proofs.YtmgfmlhdnadglaaGreatDoor
open Go Th Go.Proofs
variable {R:Type}
theorem hB2:2≤1000000000:=by decide
def NN (a:Nat):List PV:=nl .u32 (toL 1000000000 a)
theorem Ukz (n:Nat) (k0:List PV→Option R):∀ (m:Nat) (l:List Nat),(∀ d∈l,d<1000000000)→l.length<m→l.length<2 ^ 40→UdD n m (nl .u32 l) k0=k0 (NN (val 1000000000 l))
 | m + 1,l,hl,hm,hb=>by
  simp only [UdD,Uiy]
  rcases List.eq_nil_or_concat l with rfl | ⟨r,d,rfl⟩
  · simp (disch:=(first | omega | (simp only [JlE]; omega))) only [↓JlH,JlF,JlG]
    unfold NN
    rw [show val 1000000000 []=0 from rfl,Uam]
  · rw [List.concat_eq_append] at *
    have hlen:(r++[d]).length=r.length + 1:=by simp
    have hg:(r++[d]).getD r.length 0=d:=by rw [List.getD_eq_getElem?_getD,List.getElem?_append_right (Nat.le_refl _)]; simp
    have ht:(r++[d]).take r.length=r:=List.take_left
    have e1:((r.length + (0 + 1):Nat):Int) - 1=(r.length:Int):=by omega
    rw [hlen] at hm hb
    by_cases hd:d=0
    · subst hd
      have ih:=Ukz n k0 m r (fun x hx=>hl x (by simp [hx])) (by omega) (by omega)
      simp (disch:=(first | omega | (simp only [JlE]; omega))) only [↓JlH,JlF,JlG,e1,hg,Jk0,ht,ih]
      rw [Ud0]
      rfl
    · have hne:(d == 0)=false:=by simpa using hd
      simp (disch:=(first | omega | (simp only [JlE]; omega))) only [↓JlH,JlF,JlG,e1,hg,Jk0,hne]
      congr 1
      unfold NN
      rw [Umq hB2 _ hl (by rw [List.getLast?_append]; simpa using hd)]
theorem Ucb (n:Nat) (l:List Nat) (hl:∀ d∈l,d<1000000000) (hn:l.length<n) (hb:l.length<2 ^ 40) (k0:List PV→Option R):UtZ n (nl .u32 l) k0=k0 (NN (val 1000000000 l)):=by
 unfold UtZ Ut0
 exact Ukz n _ n l hl hn hb
def UcV (a b:Nat):Int:=if a<b then -1 else if b<a then 1 else 0
theorem UmT (n:Nat) (la lb:List Nat) (ha:∀ d∈la,d<1000000000) (hb:∀ d∈lb,d<1000000000) (hlen:la.length=lb.length) (hl:la.length<2 ^ 40) (k0:Int→Option R) (k1:Option R) :
 ∀ (i m:Nat),i≤la.length→i<m→Ues n m (nl .u32 la) (nl .u32 lb) ((i:Int) - 1) k0 k1 =
  if val 1000000000 (la.take i)<val 1000000000 (lb.take i) then k0 (-1) else if val 1000000000 (lb.take i)<val 1000000000 (la.take i) then k0 1 else k1
 | 0,m + 1,_,_=>by
  simp only [Ues,Ui3]
  simp (disch:=(first | omega | (simp only [JlE]; omega))) only [↓JlH,JlF,JlG]
  rfl
 | i + 1,m + 1,h,hm=>by
  have ih:=UmT n la lb ha hb hlen hl k0 k1 i m (by omega) (by omega)
  have e1:((i + 1:Nat):Int) - 1=(i:Int):=by omega
  have va:=Uaq hB2 ha (i:=i) (by omega)
  have vb:=Uaq hB2 hb (i:=i) (by omega)
  rw [Ua8 1000000000 (by omega:i<la.length),Ua8 1000000000 (by omega:i<lb.length)]
  simp only [Ues,Ui3]
  simp (disch:=(first | omega | (simp only [JlE]; omega))) only [↓JlH,JlF,JlG,e1,JjY]
  have hd:=Uad hB2 ha i
  have hd2:=Uad hB2 hb i
  generalize la.getD i 0=x at *
  generalize lb.getD i 0=y at *
  by_cases he:x=y
  · subst he
    rw [bne_self_eq_false,cond_false,ih]
    simp only [Nat.add_lt_add_iff_right]
  · rw [bne_iff_ne.2 he,cond_true]
    by_cases hlt:x<y
    · have:1000000000 ^ i * x + 1000000000 ^ i≤1000000000 ^ i * y:=by rw [←Nat.mul_succ]; exact Nat.mul_le_mul_left _ hlt
      rw [Jkf (by omega),if_pos (by omega)]
    · have hgt:y<x:=by omega
      have:1000000000 ^ i * y + 1000000000 ^ i≤1000000000 ^ i * x:=by rw [←Nat.mul_succ]; exact Nat.mul_le_mul_left _ hgt
      rw [c_neg (by omega),if_neg (by omega),if_pos (by omega)]
theorem UqD (n a b:Nat) (hla:(toL 1000000000 a).length<2 ^ 40) (hlb:(toL 1000000000 b).length<2 ^ 40) (hn:(toL 1000000000 a).length<n) (k0:Int→Option R):p57 n (NN a) (NN b) k0=k0 (UcV a b):=by
 unfold p57 NN UcV
 by_cases he:(toL 1000000000 a).length=(toL 1000000000 b).length
 · have:((toL 1000000000 a).length != (toL 1000000000 b).length)=false:=by simp [he]
   have hlp:=UmT n _ _ (UaY hB2 a) (UaY hB2 b) he hla (fun y4=>k0 y4) (k0 0) (toL 1000000000 a).length n (Nat.le_refl _) hn
   rw [List.take_length,show (toL 1000000000 b).take (toL 1000000000 a).length=toL 1000000000 b from by rw [he,List.take_length],Uaw hB2,Uaw hB2] at hlp
   simp only [Jjd]
   rw [JjY,this,cond_false,w64 (by omega) (by omega)]
   unfold Uy2
   rw [hlp]
   split
   · rfl
   · split <;> rfl
 · have:((toL 1000000000 a).length != (toL 1000000000 b).length)=true:=by simpa using he
   by_cases hlt:(toL 1000000000 a).length<(toL 1000000000 b).length
   · have h2:=Ubv hB2 hlt
     simp (disch:=(first | omega | (simp only [JlE]; omega))) only [↓JlH,JlF,JlG,JjY,this]
   · have h2:=Ubv hB2 (x:=b) (y:=a) (by omega)
     simp (disch:=(first | omega | (simp only [JlE]; omega))) only [↓JlH,JlF,JlG,JjY,this]
theorem Ukm (n:Nat) (la lb:List Nat) (ha:∀ d∈la,d<1000000000) (hb:∀ d∈lb,d<1000000000) (hab:lb.length≤la.length) (hl:la.length<2 ^ 40) :
 ∀ (d m i:Nat) (o:List Nat) (c:Nat),d + i=la.length→d<m→o.length=la.length + 1→(∀ x∈o,x<1000000000)→c≤1→val 1000000000 (o.take i) + 1000000000 ^ i * c=val 1000000000 (la.take i) + val 1000000000 (lb.take i) →
  ∃ (o':List Nat) (c':Nat),(∀ k0:List PV→List PV→Int→Option R,Uch n m (nl .u32 la) (nl .u32 lb) (nl .u32 o) c la.length i k0=k0 (nl .u32 la) (nl .u32 o') c')∧o'.length=la.length + 1∧(∀ x∈o',x<1000000000)∧c'≤1 ∧
   val 1000000000 (o'.take la.length) + 1000000000 ^ la.length * c'=val 1000000000 la + val 1000000000 lb
 | 0,m + 1,i,o,c,hd,hm,ho,hlt,hc,hv=>by
  have hi:i=la.length:=by omega
  subst hi
  refine ⟨o,c,fun k0=>?_,ho,hlt,hc,?_⟩
  · simp only [Uch,UfD]
    simp (disch:=(first | omega | (simp only [JlE]; omega))) only [↓JlH,JlF,JlG]
  · rw [hv,List.take_length,List.take_of_length_le hab]
 | d + 1,m + 1,i,o,c,hd,hm,ho,hlt,hc,hv=>by
  have hx:=Uad hB2 ha i
  have hy:=Uad hB2 hb i
  have hs2:c + la.getD i 0 + lb.getD i 0<2 * 1000000000:=by omega
  have step:=Ukm n la lb ha hb hab hl d m (i + 1) (o.set i ((c + la.getD i 0 + lb.getD i 0) % 1000000000)) ((c + la.getD i 0 + lb.getD i 0) / 1000000000) (by omega) (by omega) (by rw [List.length_set]; exact ho)
   (Ubq hlt (Nat.mod_lt _ (by decide)) i) (by have:=Nat.div_lt_of_lt_mul (show c + la.getD i 0 + lb.getD i 0<1000000000 * 2 by omega); omega)
   (by rw [Uf6 _ (by omega),Ubi,List.length_take,Nat.min_eq_left (by omega),UoW 1000000000 i _ c _ (by decide),Uar 1000000000 la,Uar 1000000000 lb,Nat.mul_add,Nat.mul_add]; omega)
  obtain ⟨o',c',h1,h2⟩:=step
  refine ⟨o',c',fun k0=>?_,h2⟩
  rw [←h1 k0]
  have e2:((i:Int) + 1)=((i + 1:Nat):Int):=by omega
  simp only [Uch,UfD,UfC]
  by_cases hi:i<lb.length
  · have e3:((c:Int) + ((la.getD i 0:Nat):Int) + ((lb.getD i 0:Nat):Int))=((c + la.getD i 0 + lb.getD i 0:Nat):Int):=by omega
    simp (disch:=(first | omega | (simp only [JlE]; omega))) only [↓JlH,JlF,JlG,e3,e2,JlB,JlC]
  · have h0:=UbA (l:=lb) (i:=i) (by omega)
    rw [h0] at *
    have e3:((c:Int) + ((la.getD i 0:Nat):Int))=((c + la.getD i 0 + 0:Nat):Int):=by omega
    simp (disch:=(first | omega | (simp only [JlE]; omega))) only [↓JlH,JlF,JlG,e3,e2,JlB,JlC]
theorem UCq (n a b:Nat) (hla:(toL 1000000000 a).length<2 ^ 30) (hlb:(toL 1000000000 b).length<2 ^ 30) (hna:(toL 1000000000 a).length + 1<n) (hnb:(toL 1000000000 b).length + 1<n) (k0:List PV→Option R):UJ n (NN a) (NN b) k0=k0 (NN (a + b)):=by
 have key:∀ x y:Nat,(toL 1000000000 x).length<2 ^ 30→(toL 1000000000 y).length≤(toL 1000000000 x).length→(toL 1000000000 x).length + 1<n→Ugt n (NN x) (NN y) k0=k0 (NN (x + y)):=by
  intro x y hx hyx hn
  obtain ⟨o',c',h1,h2,h3,h4,h5⟩:=Ukm (R:=R) n (toL 1000000000 x) (toL 1000000000 y) (UaY hB2 x) (UaY hB2 y) hyx (by omega)
   (toL 1000000000 x).length n 0 (List.replicate ((toL 1000000000 x).length + 1) 0) 0 (by omega) (by omega) (by rw [List.length_replicate]) (Uhb hB2 _) (by omega) (by simp [val])
  rw [Uaw hB2,Uaw hB2] at h5
  have ht:=Ucb n (o'.set (toL 1000000000 x).length c') (Ubq h3 (by omega) _) (by rw [List.length_set]; omega) (by rw [List.length_set]; omega) k0
  rw [Ukw h2,Ubi,List.length_take,Nat.min_eq_left (by omega),h5] at ht
  have e1:((toL 1000000000 x).length:Int) + 1=(((toL 1000000000 x).length + 1:Nat):Int):=by omega
  unfold Ugt NN Ut1
  rw [show ((0:Nat):Int)=0 from rfl] at h1
  simp (disch:=(first | omega | (simp only [JlE]; omega))) only [↓JlH,JlF,JlG,e1,h1,Ukw h2]
  exact ht
 unfold UJ
 have l1:(NN a).length=(toL 1000000000 a).length:=Jjd _ _
 have l2:(NN b).length=(toL 1000000000 b).length:=Jjd _ _
 rw [l1,l2]
 by_cases h:(toL 1000000000 a).length<(toL 1000000000 b).length
 · rw [Jkf (by omega),Nat.add_comm]
   exact key b a hlb (by omega) hnb
 · rw [c_neg (by omega)]
   exact key a b hla (by omega) hna
theorem Ug3 (n:Nat) (la lb:List Nat) (ha:∀ d∈la,d<1000000000) (hb:∀ d∈lb,d<1000000000) (hab:lb.length≤la.length) (hl:la.length<2 ^ 40) :
 ∀ (d m i:Nat) (o:List Nat) (c:Nat),d + i=la.length→d<m→o.length=la.length→(∀ x∈o,x<1000000000)→c≤1→val 1000000000 (la.take i) + 1000000000 ^ i * c=val 1000000000 (o.take i) + val 1000000000 (lb.take i) →
  ∃ (o':List Nat) (c':Nat),(∀ k0:List PV→Option R,UbC n m (nl .u32 la) (nl .u32 lb) (nl .u32 o) c la.length i k0=k0 (nl .u32 o'))∧o'.length=la.length∧(∀ x∈o',x<1000000000)∧c'≤1 ∧
   val 1000000000 la + 1000000000 ^ la.length * c'=val 1000000000 o' + val 1000000000 lb
 | 0,m + 1,i,o,c,hd,hm,ho,hlt,hc,hv=>by
  have hi:i=la.length:=by omega
  subst hi
  refine ⟨o,c,fun k0=>?_,ho,hlt,hc,?_⟩
  · simp only [UbC,UdF]
    simp (disch:=(first | omega | (simp only [JlE]; omega))) only [↓JlH,JlF,JlG]
  · rw [List.take_length,List.take_of_length_le (by omega),List.take_of_length_le hab] at hv
    exact hv
 | d + 1,m + 1,i,o,c,hd,hm,ho,hlt,hc,hv=>by
  have hx:=Uad hB2 ha i
  have hy:=Uad hB2 hb i
  have step:∀ (dg c':Nat),dg<1000000000→c'≤1→la.getD i 0 + 1000000000 * c'=dg + c + lb.getD i 0→_:=fun dg c' h1 h2 h3 =>
   Ug3 n la lb ha hb hab hl d m (i + 1) (o.set i dg) c' (by omega) (by omega) (by rw [List.length_set]; exact ho) (Ubq hlt h1 i) h2
   (by
     rw [Uf6 _ (by omega),Ubi,List.length_take,Nat.min_eq_left (by omega),Uar 1000000000 la,Uar 1000000000 lb,Nat.pow_succ,Nat.mul_assoc]
     have:1000000000 ^ i * (la.getD i 0 + 1000000000 * c')=1000000000 ^ i * (dg + c + lb.getD i 0):=by rw [h3]
     rw [Nat.mul_add,Nat.mul_add,Nat.mul_add] at this
     omega)
  have e2:((i:Int) + 1)=((i + 1:Nat):Int):=by omega
  by_cases hneg:la.getD i 0<c + lb.getD i 0
  · obtain ⟨o',c',h1,h2⟩:=step (la.getD i 0 + 1000000000 - c - lb.getD i 0) 1 (by omega) (by omega) (by omega)
    refine ⟨o',c',fun k0=>?_,h2⟩
    rw [←h1 k0]
    simp only [UbC,UdF,Ugu,UdE]
    by_cases hi:i<lb.length
    · have e3:((la.getD i 0:Nat):Int) - (c:Int) - ((lb.getD i 0:Nat):Int) + 1000000000=((la.getD i 0 + 1000000000 - c - lb.getD i 0:Nat):Int):=by omega
      simp (disch:=(first | omega | (simp only [JlE]; omega))) only [↓JlH,JlF,JlG,e3,e2]
      rfl
    · have h0:=UbA (l:=lb) (i:=i) (by omega)
      have e3:((la.getD i 0:Nat):Int) - (c:Int) + 1000000000=((la.getD i 0 + 1000000000 - c - lb.getD i 0:Nat):Int):=by omega
      simp (disch:=(first | omega | (simp only [JlE]; omega))) only [↓JlH,JlF,JlG,e3,e2]
      rfl
  · obtain ⟨o',c',h1,h2⟩:=step (la.getD i 0 - c - lb.getD i 0) 0 (by omega) (by omega) (by omega)
    refine ⟨o',c',fun k0=>?_,h2⟩
    rw [←h1 k0]
    simp only [UbC,UdF,Ugu,UdE]
    by_cases hi:i<lb.length
    · have e3:((la.getD i 0:Nat):Int) - (c:Int) - ((lb.getD i 0:Nat):Int)=((la.getD i 0 - c - lb.getD i 0:Nat):Int):=by omega
      simp (disch:=(first | omega | (simp only [JlE]; omega))) only [↓JlH,JlF,JlG,e3,e2]
      rfl
    · have h0:=UbA (l:=lb) (i:=i) (by omega)
      have e3:((la.getD i 0:Nat):Int) - (c:Int)=((la.getD i 0 - c - lb.getD i 0:Nat):Int):=by omega
      simp (disch:=(first | omega | (simp only [JlE]; omega))) only [↓JlH,JlF,JlG,e3,e2]
      rfl
theorem UwY {x y:Nat} (h:x≤y):(toL 1000000000 x).length≤(toL 1000000000 y).length:=by
 by_cases hq:(toL 1000000000 x).length≤(toL 1000000000 y).length
 · exact hq
 · have:=Ubv hB2 (x:=y) (y:=x) (by omega); omega
theorem Uoh (n a b:Nat) (hba:b≤a) (hla:(toL 1000000000 a).length<2 ^ 30) (hna:(toL 1000000000 a).length + 1<n) (k0:List PV→Option R):UG5 n (NN a) (NN b) k0=k0 (NN (a - b)):=by
 obtain ⟨o',c',h1,h2,h3,h4,h5⟩:=Ug3 (R:=R) n (toL 1000000000 a) (toL 1000000000 b) (UaY hB2 a) (UaY hB2 b) (UwY hba) (by omega)
  (toL 1000000000 a).length n 0 (List.replicate (toL 1000000000 a).length 0) 0 (by omega) (by omega) (by rw [List.length_replicate]) (Uhb hB2 _) (by omega) (by simp [val])
 rw [Uaw hB2,Uaw hB2] at h5
 have hlt:=Ufk hB2 o' h3
 rw [h2] at hlt
 have hc:c'=0:=by
  rcases Nat.lt_or_ge 0 c' with q | q
  · have:c'=1:=by omega
    subst this; omega
  · omega
 subst hc
 have ht:=Ucb n o' h3 (by omega) (by omega) k0
 rw [show val 1000000000 o'=a - b from by omega] at ht
 unfold UG5 NN Ut2
 rw [show ((0:Nat):Int)=0 from rfl] at h1
 simp (disch:=(first | omega | (simp only [JlE]; omega))) only [↓JlH,JlF,JlG,h1]
 exact ht
theorem Uhf (n:Nat) (la:List Nat) (by_:Nat) (hby:0<by_) (hby2:by_<4294967296) (ha:∀ d∈la,d<1000000000) (hl:la.length<2 ^ 40) :
 ∀ (i m:Nat) (o:List Nat) (r:Nat),i≤la.length→i<m→o.length=la.length→(∀ x∈o,x<1000000000)→r<by_ →
  val 1000000000 (la.drop i)=by_ * val 1000000000 (o.drop i) + r →
  ∃ (o':List Nat) (r':Nat),(∀ k0:List PV→Int→Option R,Ucr n m (nl .u32 la) by_ (nl .u32 o) r ((i:Int) - 1) k0=k0 (nl .u32 o') r')∧o'.length=la.length∧(∀ x∈o',x<1000000000)∧r'<by_∧val 1000000000 la=by_ * val 1000000000 o' + r'
 | 0,m + 1,o,r,hi,hm,ho,hlt,hr,hv=>by
  refine ⟨o,r,fun k0=>?_,ho,hlt,hr,by simpa using hv⟩
  simp only [Ucr,UfR]
  simp (disch:=(first | omega | (simp only [JlE]; omega))) only [↓JlH,JlF,JlG]
 | i + 1,m + 1,o,r,hi,hm,ho,hlt,hr,hv=>by
  have hx:=Uad hB2 ha i
  have hs:r * 1000000000 + la.getD i 0<by_ * 1000000000:=by
   have:(r + 1) * 1000000000≤by_ * 1000000000:=Nat.mul_le_mul_right _ hr
   omega
  have hq:(r * 1000000000 + la.getD i 0) / by_<1000000000:=Nat.div_lt_of_lt_mul hs
  have hmod:(r * 1000000000 + la.getD i 0) % by_<by_:=Nat.mod_lt _ hby
  have hdm:=Nat.div_add_mod (r * 1000000000 + la.getD i 0) by_
  have dropSucc:∀ l:List Nat,i<l.length→val 1000000000 (l.drop i)=l.getD i 0 + 1000000000 * val 1000000000 (l.drop (i + 1)):=fun l h=>by
   rw [List.drop_eq_getElem_cons h,val,List.getD_eq_getElem?_getD,List.getElem?_eq_getElem h]; rfl
  obtain ⟨o',r',h1,h2⟩:=Uhf n la by_ hby hby2 ha hl i m (o.set i ((r * 1000000000 + la.getD i 0) / by_)) ((r * 1000000000 + la.getD i 0) % by_) (by omega) (by omega) (by rw [List.length_set]; exact ho) (Ubq hlt hq i) hmod
   (by
     rw [dropSucc la (by omega),dropSucc _ (by rw [List.length_set]; omega),List.drop_set_of_lt (by omega),hv,List.getD_eq_getElem?_getD,List.getD_eq_getElem?_getD,List.getElem?_set_self (by omega)]
     simp only [Option.getD_some]
     rw [List.getD_eq_getElem?_getD] at hdm
     rw [Nat.mul_add,Nat.mul_add,Nat.mul_left_comm by_ 1000000000]
     omega)
  refine ⟨o',r',fun k0=>?_,h2⟩
  rw [←h1 k0]
  have e1:((i + 1:Nat):Int) - 1=(i:Int):=by omega
  have e3:(r:Int) * 1000000000 + ((la.getD i 0:Nat):Int)=((r * 1000000000 + la.getD i 0:Nat):Int):=by omega
  have hd0:¬ ((by_:Int)=0):=by omega
  have t1:Int.tdiv ((r * 1000000000 + la.getD i 0:Nat):Int) (by_:Int)=(((r * 1000000000 + la.getD i 0) / by_:Nat):Int):=Jlj _ _
  have t2:Int.tmod ((r * 1000000000 + la.getD i 0:Nat):Int) (by_:Int)=(((r * 1000000000 + la.getD i 0) % by_:Nat):Int):=Jlk _ _
  generalize (r * 1000000000 + la.getD i 0) / by_=q at *
  generalize (r * 1000000000 + la.getD i 0) % by_=md at *
  simp only [Ucr,UfR]
  simp (disch:=(first | omega | (simp only [JlE]; omega))) only [↓JlH,JlF,JlG,e1,e3,t1,t2]
theorem UoI (n a by_:Nat) (hby:0<by_) (hby2:by_<4294967296) (hla:(toL 1000000000 a).length<2 ^ 30) (hna:(toL 1000000000 a).length + 1<n) (k0:List PV→Int→Option R):UHa n (NN a) by_ k0=k0 (NN (a / by_)) ((a % by_:Nat):Int):=by
 obtain ⟨o',r',h1,h2,h3,h4,h5⟩:=Uhf (R:=R) n (toL 1000000000 a) by_ hby hby2 (UaY hB2 a) (by omega)
  (toL 1000000000 a).length n (List.replicate (toL 1000000000 a).length 0) 0 (Nat.le_refl _) (by omega) (by rw [List.length_replicate]) (Uhb hB2 _) hby (by simp [val])
 rw [Uaw hB2] at h5
 have hq:val 1000000000 o'=a / by_:=by rw [h5,Nat.mul_add_div hby,Nat.div_eq_of_lt h4]; omega
 have hr:r'=a % by_:=by rw [h5,Nat.mul_add_mod,Nat.mod_eq_of_lt h4]
 have ht:=fun k0=>Ucb (R:=R) n o' h3 (by omega) (by omega) k0
 rw [hq] at ht
 rw [←hr]
 unfold UHa Uuf
 have hN:NN a=nl .u32 (toL 1000000000 a):=rfl
 rw [hN]
 rw [show ((0:Nat):Int)=0 from rfl] at h1
 simp (disch:=(first | omega | (simp only [JlE]; omega))) only [↓JlH,JlF,JlG,h1,ht]
theorem Ubz {l:List Nat} {i:Nat} (h:i<l.length):val 1000000000 (l.drop i)=l.getD i 0 + 1000000000 * val 1000000000 (l.drop (i + 1)):=by
 rw [List.drop_eq_getElem_cons h,val,List.getD_eq_getElem?_getD,List.getElem?_eq_getElem h]; rfl
theorem UoK (n:Nat) (la lb:List Nat) (ha:∀ d∈la,d<1000000000) (hb:∀ d∈lb,d<1000000000) (hl:la.length + lb.length<2 ^ 40) (i:Nat) (hi:i<la.length) :
 ∀ (d m k:Nat) (o:List Nat) (c:Nat),d + k=lb.length→d<m→o.length=la.length + lb.length→(∀ x∈o,x<1000000000)→c<1000000000 →
  ∃ (o':List Nat) (c':Nat),(∀ k0:List PV→List PV→List PV→Int→Int→Int→Int→Option R,Ueu n m (nl .u32 la) (nl .u32 lb) (nl .u32 o) i c la.length i lb.length k k0=k0 (nl .u32 la) (nl .u32 lb) (nl .u32 o') i c' la.length i) ∧
   o'.length=la.length + lb.length∧(∀ x∈o',x<1000000000)∧c'<1000000000∧o'.drop (i + lb.length)=o.drop (i + lb.length) ∧
   val 1000000000 o' + 1000000000 ^ (i + lb.length) * c'=val 1000000000 o + 1000000000 ^ (i + k) * c + la.getD i 0 * (1000000000 ^ (i + k) * val 1000000000 (lb.drop k))
 | 0,m + 1,k,o,c,hd,hm,ho,hlt,hc=>by
  have hk:k=lb.length:=by omega
  subst hk
  refine ⟨o,c,fun k0=>?_,ho,hlt,hc,rfl,?_⟩
  · simp only [Ueu,Ui5]
    simp (disch:=(first | omega | (simp only [JlE]; omega))) only [↓JlH,JlF,JlG]
  · rw [List.drop_length]; simp [val]
 | d + 1,m + 1,k,o,c,hd,hm,ho,hlt,hc=>by
  have hx:=Uad hB2 ha i
  have hy:=Uad hB2 hb k
  have hz:=Uad hB2 hlt (i + k)
  have hxy:la.getD i 0 * lb.getD k 0≤999999999 * 999999999:=Nat.mul_le_mul (by omega) (by omega)
  obtain ⟨s,hs⟩:∃ s,s=c + (la.getD i 0 * lb.getD k 0 + o.getD (i + k) 0):=⟨_,rfl⟩
  have hs2:s / 1000000000<1000000000:=by omega
  obtain ⟨o',c',h1,h2,h3,h4,h5,h6⟩:=UoK n la lb ha hb hl i hi d m (k + 1) (o.set (i + k) (s % 1000000000)) (s / 1000000000) (by omega) (by omega) (by rw [List.length_set]; exact ho) (Ubq hlt (Nat.mod_lt _ (by omega)) _) hs2
  refine ⟨o',c',fun k0=>?_,h2,h3,h4,by rw [h5,List.drop_set_of_lt (by omega)],?_⟩
  · rw [←h1 k0]
    have e1:(i:Int) + (k:Int)=((i + k:Nat):Int):=by omega
    have e2:(k:Int) + 1=((k + 1:Nat):Int):=by omega
    have e4:((la.getD i 0:Nat):Int) * ((lb.getD k 0:Nat):Int)=((la.getD i 0 * lb.getD k 0:Nat):Int):=by rw [Int.natCast_mul]
    generalize la.getD i 0 * lb.getD k 0=xy at *
    have e3:(c:Int) + ((xy:Int) + ((o.getD (i + k) 0:Nat):Int))=(s:Int):=by omega
    simp only [Ueu,Ui5]
    simp (disch:=(first | omega | (simp only [JlE]; omega))) only [↓JlH,JlF,JlG,e1,e2,e4,e3,JlB,JlC]
  · rw [h6,Ubz (by omega:k<lb.length)]
    have hv:=Uff 1000000000 (s % 1000000000) (l:=o) (i:=i + k) (by omega)
    have hm:=Nat.mod_add_div s 1000000000
    rw [show i + (k + 1)=(i + k) + 1 from by omega,Nat.pow_succ]
    generalize 1000000000 ^ (i + k)=P at *
    generalize val 1000000000 (List.drop (k + 1) lb)=V at *
    generalize val 1000000000 (o.set (i + k) (s % 1000000000))=W at *
    generalize val 1000000000 o=U at *
    generalize s % 1000000000=q at *
    generalize s / 1000000000=t at *
    generalize la.getD i 0=x at *
    generalize lb.getD k 0=y at *
    generalize o.getD (i + k) 0=z at *
    clear h1 h3 h4 h5 hlt ha hb
    have h7:P * q + P * (1000000000 * t)=P * c + P * (x * y) + P * z:=by rw [←Nat.mul_add,hm,hs]; grind
    grind
theorem Uky (n:Nat) (la lb:List Nat) (ha:∀ d∈la,d<1000000000) (hb:∀ d∈lb,d<1000000000) (hl:la.length + lb.length<2 ^ 40) (hn:lb.length<n) :
 ∀ (d m i:Nat) (o:List Nat),d + i=la.length→d<m→o.length=la.length + lb.length→(∀ x∈o,x<1000000000)→o.drop (i + lb.length)=List.replicate (la.length - i) 0→val 1000000000 o=val 1000000000 (la.take i) * val 1000000000 lb →
  ∃ (o':List Nat),(∀ k0:List PV→Option R,Uet n m (nl .u32 la) (nl .u32 lb) (nl .u32 o) la.length i k0=k0 (nl .u32 o'))∧o'.length=la.length + lb.length∧(∀ x∈o',x<1000000000)∧val 1000000000 o'=val 1000000000 la * val 1000000000 lb
 | 0,m + 1,i,o,hd,hm,ho,hlt,hz,hv=>by
  have hi:i=la.length:=by omega
  subst hi
  refine ⟨o,fun k0=>?_,ho,hlt,by rw [hv,List.take_length]⟩
  simp only [Uet,Ui4]
  simp (disch:=(first | omega | (simp only [JlE]; omega))) only [↓JlH,JlF,JlG]
 | d + 1,m + 1,i,o,hd,hm,ho,hlt,hz,hv=>by
  obtain ⟨o1,c1,h1,h2,h3,h4,h5,h6⟩:=UoK (R:=R) n la lb ha hb hl i (by omega) lb.length n 0 o 0 (by omega) hn ho hlt (by omega)
  have hg:o1.getD (i + lb.length) 0=0:=by
   have:=congrArg (fun l:List Nat=>l.getD 0 0) h5
   simp only [List.getD_eq_getElem?_getD,List.getElem?_drop,Nat.add_zero] at this
   rw [List.getD_eq_getElem?_getD,this]
   have h0:=congrArg (fun l:List Nat=>l.getD 0 0) hz
   simp only [List.getD_eq_getElem?_getD,List.getElem?_drop,Nat.add_zero] at h0
   rw [h0,List.getElem?_replicate]
   split <;> rfl
  have hvs:=Uff 1000000000 c1 (l:=o1) (i:=i + lb.length) (by omega)
  rw [hg] at hvs
  obtain ⟨o',q1,q2⟩:=Uky n la lb ha hb hl hn d m (i + 1) (o1.set (i + lb.length) c1) (by omega) (by omega) (by rw [List.length_set]; exact h2) (Ubq h3 h4 _)
   (by
     rw [show i + 1 + lb.length=(i + lb.length) + 1 from by omega,List.drop_set_of_lt (by omega),←List.drop_drop,h5,hz,List.drop_replicate]
     congr 1)
   (by
     rw [Uar 1000000000 la]
     rw [List.drop_zero,Nat.add_zero,Nat.mul_zero,Nat.add_zero,hv] at h6
     rw [Nat.mul_zero,Nat.add_zero] at hvs
     rw [hvs,h6]
     grind)
  refine ⟨o',fun k0=>?_,q2⟩
  rw [←q1 k0]
  have e1:(i:Int) + (lb.length:Int)=((i + lb.length:Nat):Int):=by omega
  have e2:(i:Int) + 1=((i + 1:Nat):Int):=by omega
  rw [show ((0:Nat):Int)=0 from rfl] at h1
  simp only [Uet,Ui4,Uy4]
  simp (disch:=(first | omega | (simp only [JlE]; omega))) only [↓JlH,JlF,JlG,h1,e1,e2]
theorem Ua7 (n a b:Nat) (hla:(toL 1000000000 a).length<2 ^ 30) (hlb:(toL 1000000000 b).length<2 ^ 30) (hn:(toL 1000000000 a).length + (toL 1000000000 b).length<n) (k0:List PV→Option R):p58 n (NN a) (NN b) k0=k0 (NN (a * b)):=by
 obtain ⟨o',h1,h2,h3,h4⟩:=Uky (R:=R) n (toL 1000000000 a) (toL 1000000000 b) (UaY hB2 a) (UaY hB2 b) (by omega) (by omega)
  (toL 1000000000 a).length n 0 (List.replicate ((toL 1000000000 a).length + (toL 1000000000 b).length) 0) (by omega) (by omega) (by rw [List.length_replicate]) (Uhb hB2 _)
  (by rw [List.drop_replicate]; congr 1; omega) (by rw [UkA]; simp [val])
 rw [Uaw hB2,Uaw hB2] at h4
 have ht:=fun k0=>Ucb (R:=R) n o' h3 (by omega) (by omega) k0
 rw [h4] at ht
 have e1:((toL 1000000000 a).length:Int) + ((toL 1000000000 b).length:Int)=(((toL 1000000000 a).length + (toL 1000000000 b).length:Nat):Int):=by omega
 have hN:NN a=nl .u32 (toL 1000000000 a):=rfl
 have hM:NN b=nl .u32 (toL 1000000000 b):=rfl
 unfold p58 Uy3
 rw [hN,hM]
 rw [show ((0:Nat):Int)=0 from rfl] at h1
 simp (disch:=(first | omega | (simp only [JlE]; omega))) only [↓JlH,JlF,JlG,e1,h1,ht]
end Go.Proofs.YtmgfmlhdnadglaaGreatDoor
set_option linter.unusedVariables false
set_option maxRecDepth 100000
namespace Go.Proofs.YtmgfmlhdnadglaaGreatDoor
open Go Th Go.Proofs
noncomputable section
variable {R:Type}
def Uga:Ann:={ loops:=[(1,ids [0,1,4],ids [0,1,4])],cuts:=[],frz:=[],rm:=[.id] }
abbrev Uq0 (n:Nat):Env:=eN
theorem Unr (n:Nat):EnvOK Tryz.prog GI (Uq0 n):=.nil
def UfN (n:Nat) (l0:Bool→LP→Bool→O R) (x1:Bool) (x2:LP) (x3:Bool) (k0:Bool→LP→Bool→O R):O R :=
 bif (decide (((x2).length:Int)>0)) then (bif (inR 0 ((x2).length)) then (Jj .i64 ((x2).getD ((0:Int).toNat) (.v (.bool false))) fun e4=>bif (bif true then (e4 == 0) else false) then (bif (Jgx 1 x2&&Je5 1 ((x2).length:Int) ((x2).length)) then (l0 x1 (((x2).take (((x2).length:Int):Int).toNat).drop (1:Int).toNat) x3) else none) else (k0 x1 x2 x3)) else none) else (k0 x1 x2 x3)
def Ucp (n:Nat):Nat→Bool→LP→Bool→(Bool→LP→Bool→O R)→O R
 | 0,_,_,_,_=>none
 | m + 1,x1,x2,x3,k0=>UfN n (fun x1 x2 x3=>Ucp n m x1 x2 x3 k0) x1 x2 x3 k0
def Uub (n:Nat) (x1:Bool) (x2:LP) (x3:Bool) (k0:Bool→LP→Bool→O R):O R:=Ucp n n x1 x2 x3 k0
def Uop (n:Nat) (x1:Bool) (x2:LP) (k0:Bool→LP→O R):O R :=
 Uub n x1 x2 false (fun y3 y4 y5=>bif (((y4).length:Int) == 0) then (k0 false []) else (k0 y3 y4))
abbrev UPl (n:Nat):Code→Fr→Kc R→O R:=evC Tryz.prog (Uq0 n) Uga n (23,[])
noncomputable def Up1:Code:=Jj4 (Jll Tryz.f122) [1,0,0,0]
abbrev UeW:Sl (List SV):=(cB (cH (.c (sBx 55 (cB (.c sNl .n))) .n)))
abbrev Ulb (n m:Nat) (K:Kc R):UeW.T (O R):=fun x1 x2 x3=>Ucp n m x1 x2 x3 (fun y1 y2 y3=>xL Uga 1 K (.exit 0) [vB y1,vH y2,.bx 55 [vB y3,.nl]])
abbrev UAs (n:Nat) (K:Kc R) (l0:UeW.T (O R)):UeW.T (O R):=fun x1 x2 x3=>UfN n l0 x1 x2 x3 (fun y1 y2 y3=>xL Uga 1 K (.exit 0) [vB y1,vH y2,.bx 55 [vB y3,.nl]])
abbrev UGF (n:Nat):Orc R:=oL Uga (UPl n) n 1 Up1 UeW (Ulb n n) oN
abbrev UES (n:Nat):Orc R:=oN
abbrev UM9 (R:Type) (n:Nat):=JcH (R:=R) Tryz.prog (Uq0 n) Uga n (23,[]) (UGF n) (UES n)
theorem UCO (n:Nat):UM9 R n (false,1,Up1):=JkF (lo:=UGF n) (cu:=UES n) (pO pN (by kernel_rfl)) UeW (Ulb n n) (JiE (F:=Ulb n) UeW (UAs n) (fun K _ _ _=>rfl) (fun _ _=>rfl) (fun L K _ _ _=>by show _=_; kernel_rfl) n) fun _ _=>rfl
theorem ULU (n:Nat):Je6 (UM9 R n) (JaJ Uga (Jll Tryz.f122)):=pO (pC (UCO n) pN) (by kernel_rfl)
abbrev UMy:Sl (List SV):=(cB (cH .n))
abbrev f122 (n:Nat) (K:List SV→O R):UMy.T (O R):=fun x1 x2=>Uop n x1 x2 (fun y1 y2=>K [.p (.agg [.v (.bool y1),.sh y2])])
abbrev Uk (n:Nat):FS:=fT [false,false] UMy (f122 n)
theorem Ulv (n:Nat):FSound Tryz.prog GI 122 (Uk n):=gd Uga n (Unr n) Tryz.func122 (.cons (Unr n) UMy (f122 n) (fun K _ _=>(Jkq (c:=Jll Tryz.f122) (by kernel_rfl) (ULU n) K).trans (by kernel_rfl)) .nil) (by kernel_rfl)
def Udm:Ann:={ loops:=[(6,ids [0,1,5],ids [4])],cuts:=[],frz:=[],rm:=[.id] }
abbrev Uq9 (n:Nat):Env:=eN
theorem UnG (n:Nat):EnvOK Tryz.prog GI (Uq9 n):=.nil
def UfT (n:Nat) (l0:LP→LP→Int→O R) (x1 x2:LP) (x3:Int) (k0:Int→O R) (k1:O R):O R :=
 bif (decide (x3<((x1).length:Int))) then (bif (inR x3 ((x1).length)) then (Jj .i64 ((x1).getD ((x3:Int).toNat) (.v (.bool false))) fun e4=>bif (inR x3 ((x2).length)) then (Jj .i64 ((x2).getD ((x3:Int).toNat) (.v (.bool false))) fun e5=>bif (decide (e4<e5)) then (k0 (-1)) else (bif (inR x3 ((x1).length)) then (Jj .i64 ((x1).getD ((x3:Int).toNat) (.v (.bool false))) fun e6=>bif (inR x3 ((x2).length)) then (Jj .i64 ((x2).getD ((x3:Int).toNat) (.v (.bool false))) fun e7=>bif (decide (e6>e7)) then (k0 1) else (l0 x1 x2 (IntKind.i64.wrap (x3 + 1)))) else none) else none)) else none) else none) else (k1)
def Ucu (n:Nat):Nat→LP→LP→Int→(Int→O R)→(O R)→O R
 | 0,_,_,_,_,_=>none
 | m + 1,x1,x2,x3,k0,k1=>UfT n (fun x1 x2 x3=>Ucu n m x1 x2 x3 k0 k1) x1 x2 x3 k0 k1
def Uuj (n:Nat) (x1 x2:LP) (x3:Int) (k0:Int→O R) (k1:O R):O R:=Ucu n n x1 x2 x3 k0 k1
def UHb (n:Nat) (x1 x2:LP) (k0:Int→O R):O R :=
 bif (((x1).length:Int) != ((x2).length:Int)) then (bif (decide (((x1).length:Int)<((x2).length:Int))) then (k0 (-1)) else (k0 1)) else (Uuj n x1 x2 0 (fun y3=>k0 y3) (k0 0))
abbrev UPp (n:Nat):Code→Fr→Kc R→O R:=evC Tryz.prog (Uq9 n) Udm n (40,[])
noncomputable def Uqf:Code:=Jj4 (Jll Tryz.f147) [1,1,0,1,0,0]
abbrev Ue4:Sl (List SV):=(cH (cH (cI .n)))
abbrev Ulj (n m:Nat) (K:Kc R):Ue4.T (O R):=fun x1 x2 x3=>Ucu n m x1 x2 x3 (fun y1=>xL Udm 6 K .ret [vI y1]) (xL Udm 6 K (.exit 0) [dD])
abbrev UAA (n:Nat) (K:Kc R) (l0:Ue4.T (O R)):Ue4.T (O R):=fun x1 x2 x3=>UfT n l0 x1 x2 x3 (fun y1=>xL Udm 6 K .ret [vI y1]) (xL Udm 6 K (.exit 0) [dD])
abbrev UGJ (n:Nat):Orc R:=oL Udm (UPp n) n 6 Uqf Ue4 (Ulj n n) oN
abbrev UEW (n:Nat):Orc R:=oN
abbrev UNc (R:Type) (n:Nat):=JcH (R:=R) Tryz.prog (Uq9 n) Udm n (40,[]) (UGJ n) (UEW n)
theorem UC2 (n:Nat):UNc R n (false,6,Uqf):=JkF (lo:=UGJ n) (cu:=UEW n) (pO pN (by kernel_rfl)) Ue4 (Ulj n n) (JiE (F:=Ulj n) Ue4 (UAA n) (fun K _ _ _=>rfl) (fun _ _=>rfl) (fun L K _ _ _=>by show _=_; kernel_rfl) n) fun _ _=>rfl
theorem UL9 (n:Nat):Je6 (UNc R n) (JaJ Udm (Jll Tryz.f147)):=pO (pC (UC2 n) pN) (by kernel_rfl)
abbrev UMI:Sl (List SV):=(cH (cH .n))
abbrev f147 (n:Nat) (K:List SV→O R):UMI.T (O R):=fun x1 x2=>UHb n x1 x2 (fun y1=>K [vI y1])
abbrev UBY (n:Nat):FS:=fT [false,false] UMI (f147 n)
theorem UGZ (n:Nat):FSound Tryz.prog GI 147 (UBY n):=gd Udm n (UnG n) Tryz.func147 (.cons (UnG n) UMI (f147 n) (fun K _ _=>(Jkq (c:=Jll Tryz.f147) (by kernel_rfl) (UL9 n) K).trans (by kernel_rfl)) .nil) (by kernel_rfl)
def Upx:Ann:={ loops:=[],cuts:=[],frz:=[],rm:=[.id] }
abbrev Uya (n:Nat):Env:=eN
theorem UnK (n:Nat):EnvOK Tryz.prog GI (Uya n):=.nil
def UHc (n:Nat) (x1:LP) (x2:Int) (k0:Int→O R):O R :=
 bif (decide (x2≥((x1).length:Int))) then (k0 0) else (let v3:=IntKind.i64.wrap (((x1).length:Int) - 1); bif (inR (IntKind.i64.wrap (v3 - x2)) ((x1).length)) then (Jj .i64 ((x1).getD ((IntKind.i64.wrap (v3 - x2):Int).toNat) (.v (.bool false))) fun e4=>k0 e4) else none)
abbrev UKy (n:Nat):Orc R:=oN
abbrev UJL (n:Nat):Orc R:=oN
abbrev UPF (R:Type) (n:Nat):=JcH (R:=R) Tryz.prog (Uya n) Upx n (17,[]) (UKy n) (UJL n)
theorem UMc (n:Nat):Je6 (UPF R n) (JaJ Upx (Jll Tryz.f172)):=pO pN (by kernel_rfl)
abbrev UML:Sl (List SV):=(cH (cI .n))
abbrev f172 (n:Nat) (K:List SV→O R):UML.T (O R):=fun x1 x2=>UHc n x1 x2 (fun y1=>K [vI y1])
abbrev UGo (n:Nat):FS:=fT [false,false] UML (f172 n)
theorem ULf (n:Nat):FSound Tryz.prog GI 172 (UGo n):=gd Upx n (UnK n) Tryz.func172 (.cons (UnK n) UML (f172 n) (fun K _ _=>(Jkq (c:=Jll Tryz.f172) (by kernel_rfl) (UMc n) K).trans (by kernel_rfl)) .nil) (by kernel_rfl)
def Ub:Ann:={ loops:=[(4,[(0,.id),(1,.id),(2,.id),(7,.own 3),(8,.id),(9,.id)],ids [6,7])],cuts:=[(5,ids [0,1,2,7,8,9],ids [0,1,2,6,7,8,9]),(6,ids [0,1,2,7,8,9],ids [0,1,2,6,7,8,9]),(11,ids [0,1,2,7,8,9,10],ids [0,1,2,6,7,8,9]),(14,ids [0,1,2,7,8,9,10],ids [0,1,2,6,7,8,9])],frz:=[],rm:=[.id] }
abbrev Uq8 (n:Nat):Env:=eC 172 (UGo n) eN
theorem UnF (n:Nat):EnvOK Tryz.prog GI (Uq8 n):=.cons (.nil) (ULf n)
def Ua4 (n:Nat) (x1 x2:LP) (x3:Int) (x4:LP) (x5 x6 x7:Int) (k0:LP→LP→Int→LP→Int→Int→O R):O R :=
 bif (Jbu (1 + (x4).length) 8) then (k0 x1 x2 x3 (([.v (.int .i64 x7)]:LP)++x4) x5 x6) else none
def Ua3 (n:Nat) (x1 x2:LP) (x3:Int) (x4:LP) (x5 x6 x7:Int) (k0:LP→LP→Int→LP→Int→Int→O R):O R :=
 bif (decide (x7>9)) then (Ua4 n x1 x2 x3 x4 1 x6 (IntKind.i64.wrap (x7 - 10)) (fun y8 y9 y10 y11 y12 y13=>k0 y8 y9 y10 y11 y12 y13)) else (Ua4 n x1 x2 x3 x4 x5 x6 x7 (fun y14 y15 y16 y17 y18 y19=>k0 y14 y15 y16 y17 y18 y19))
def UbI (n:Nat) (x1 x2:LP) (x3:Int) (x4:LP) (x5 x6:Int) (k0:LP→LP→Int→LP→Int→Int→O R):O R :=
 k0 x1 x2 x3 x4 x5 (IntKind.i64.wrap (x6 + 1))
def Ua0 (n:Nat) (x1 x2:LP) (x3:Int) (x4:LP) (x5 x6:Int) (k0:LP→LP→Int→LP→Int→Int→O R):O R :=
 UHc n x1 x6 (fun y7=>UHc n x2 x6 (fun y8=>let v9:=IntKind.i64.wrap (y7 + (IntKind.i64.wrap (x3 * y8))); bif (decide (IntKind.i64.wrap (v9 + x5)<0)) then (let v10:=IntKind.i64.wrap ((IntKind.i64.wrap (v9 + x5)) + 10); Ua3 n x1 x2 x3 x4 (-1) x6 v10 (fun y11 y12 y13 y14 y15 y16=>UbI n y11 y12 y13 y14 y15 y16 (fun y17 y18 y19 y20 y21 y22=>k0 y17 y18 y19 y20 y21 y22))) else (Ua3 n x1 x2 x3 x4 0 x6 (IntKind.i64.wrap (v9 + x5)) (fun y23 y24 y25 y26 y27 y28=>UbI n y23 y24 y25 y26 y27 y28 (fun y29 y30 y31 y32 y33 y34=>k0 y29 y30 y31 y32 y33 y34)))))
def UiJ (n:Nat) (l0:LP→LP→Int→LP→Int→Int→O R) (x1 x2:LP) (x3:Int) (x4:LP) (x5 x6:Int) (k0:LP→O R):O R :=
 bif (decide (x6<((x1).length:Int))) then (Ua0 n x1 x2 x3 x4 x5 x6 (fun y7 y8 y9 y10 y11 y12=>l0 y7 y8 y9 y10 y11 y12)) else (bif (bif false then true else (decide (x6<((x2).length:Int)))) then (Ua0 n x1 x2 x3 x4 x5 x6 (fun y13 y14 y15 y16 y17 y18=>l0 y13 y14 y15 y16 y17 y18)) else (bif (bif false then true else (x5 != 0)) then (Ua0 n x1 x2 x3 x4 x5 x6 (fun y19 y20 y21 y22 y23 y24=>l0 y19 y20 y21 y22 y23 y24)) else (k0 x4)))
def Uct (n:Nat):Nat→LP→LP→Int→LP→Int→Int→(LP→O R)→O R
 | 0,_,_,_,_,_,_,_=>none
 | m + 1,x1,x2,x3,x4,x5,x6,k0=>UiJ n (fun x1 x2 x3 x4 x5 x6=>Uct n m x1 x2 x3 x4 x5 x6 k0) x1 x2 x3 x4 x5 x6 k0
def Uui (n:Nat) (x1 x2:LP) (x3:Int) (x4:LP) (x5 x6:Int) (k0:LP→O R):O R:=Uct n n x1 x2 x3 x4 x5 x6 k0
def UCk (n:Nat) (x1 x2:LP) (x3:Int) (k0:LP→O R):O R :=
 Uui n x1 x2 x3 [] 0 0 (fun y4=>k0 y4)
abbrev UD1 (n:Nat):Code→Fr→Kc R→O R:=evC Tryz.prog (Uq8 n) Ub n (51,[])
noncomputable def Uqc:Code:=Jj4 (Jll Tryz.f146) [1,1,1,0,1,0,0,1,1]
abbrev Ul9:Sl (List SV):=(cH (cH (cI (cO 3 (cI (cI .n))))))
abbrev UsN (n:Nat) (K:Kc R):Ul9.T (O R):=fun x1 x2 x3 x4 x5 x6=>UbI n x1 x2 x3 x4 x5 x6 (fun y1 y2 y3 y4 y5 y6=>xC Ub 5 K .normal [vH y1,vH y2,vI y3,dD,.own 3 y4,vI y5,vI y6])
noncomputable def Uqd:Code:=Jj4 (Jll Tryz.f146) [1,1,1,0,1,0,0,1]
abbrev Um:Sl (List SV):=(cH (cH (cI (cO 3 (cI (cI .n))))))
abbrev UsO (n:Nat) (K:Kc R):Um.T (O R):=fun x1 x2 x3 x4 x5 x6=>Ua0 n x1 x2 x3 x4 x5 x6 (fun y1 y2 y3 y4 y5 y6=>xC Ub 6 K .normal [vH y1,vH y2,vI y3,dD,.own 3 y4,vI y5,vI y6])
noncomputable def UmR:Code:=Jj4 (Jll Tryz.f146) [1,1,1,0,1,0,0,1,0,0,1,1,1]
abbrev UjN:Sl (List SV):=(cH (cH (cI (cO 3 (cI (cI (cI .n)))))))
abbrev Un3 (n:Nat) (K:Kc R):UjN.T (O R):=fun x1 x2 x3 x4 x5 x6 x7=>Ua3 n x1 x2 x3 x4 x5 x6 x7 (fun y1 y2 y3 y4 y5 y6=>xC Ub 11 K .normal [vH y1,vH y2,vI y3,dD,.own 3 y4,vI y5,vI y6])
noncomputable def UmS:Code:=Jj4 (Jll Tryz.f146) [1,1,1,0,1,0,0,1,0,0,1,1,1,1]
abbrev UjO:Sl (List SV):=(cH (cH (cI (cO 3 (cI (cI (cI .n)))))))
abbrev Un4 (n:Nat) (K:Kc R):UjO.T (O R):=fun x1 x2 x3 x4 x5 x6 x7=>Ua4 n x1 x2 x3 x4 x5 x6 x7 (fun y1 y2 y3 y4 y5 y6=>xC Ub 14 K .normal [vH y1,vH y2,vI y3,dD,.own 3 y4,vI y5,vI y6])
noncomputable def Uqe:Code:=Jj4 (Jll Tryz.f146) [1,1,1,0,1,0,0]
abbrev Ue3:Sl (List SV):=(cH (cH (cI (cO 3 (cI (cI .n))))))
abbrev Uli (n m:Nat) (K:Kc R):Ue3.T (O R):=fun x1 x2 x3 x4 x5 x6=>Uct n m x1 x2 x3 x4 x5 x6 (fun y1=>xL Ub 4 K (.exit 0) [dD,.own 3 y1])
abbrev UAz (n:Nat) (K:Kc R) (l0:Ue3.T (O R)):Ue3.T (O R):=fun x1 x2 x3 x4 x5 x6=>UiJ n l0 x1 x2 x3 x4 x5 x6 (fun y1=>xL Ub 4 K (.exit 0) [dD,.own 3 y1])
abbrev Uo2 (n:Nat):Orc R:=oL Ub (UD1 n) n 4 Uqe Ue3 (Uli n n) oN
abbrev UoV (n:Nat):Orc R:=oC Ub (UD1 n) 14 UmS UjO (Un4 n) (oC Ub (UD1 n) 11 UmR UjN (Un3 n) (oC Ub (UD1 n) 6 Uqd Um (UsO n) (oC Ub (UD1 n) 5 Uqc Ul9 (UsN n) oN)))
abbrev UDE (R:Type) (n:Nat):=JcH (R:=R) Tryz.prog (Uq8 n) Ub n (51,[]) (Uo2 n) (UoV n)
theorem UwJ (n:Nat):UDE R n (true,14,UmS):=JkW (lo:=Uo2 n) (cu:=UoV n) (pO pN (by kernel_rfl)) UjO (Un4 n) (fun K _ _ _ _ _ _ _=>by show _=_; kernel_rfl) fun _ _=>rfl
theorem UwI (n:Nat):UDE R n (true,11,UmR):=JkW (lo:=Uo2 n) (cu:=UoV n) (pO (pC (UwJ n) pN) (by kernel_rfl)) UjN (Un3 n) (fun K _ _ _ _ _ _ _=>by show _=_; kernel_rfl) fun _ _=>rfl
theorem UCZ (n:Nat):UDE R n (true,5,Uqc):=JkW (lo:=Uo2 n) (cu:=UoV n) (pO pN (by kernel_rfl)) Ul9 (UsN n) (fun K _ _ _ _ _ _=>by show _=_; kernel_rfl) fun _ _=>rfl
theorem UC0 (n:Nat):UDE R n (true,6,Uqd):=JkW (lo:=Uo2 n) (cu:=UoV n) (pO (pC (UwI n) (pC (UCZ n) pN)) (by kernel_rfl)) Um (UsO n) (fun K _ _ _ _ _ _=>by show _=_; kernel_rfl) fun _ _=>rfl
theorem UC1 (n:Nat):UDE R n (false,4,Uqe):=JkF (lo:=Uo2 n) (cu:=UoV n) (pO (pC (UC0 n) pN) (by kernel_rfl)) Ue3 (Uli n n) (JiE (F:=Uli n) Ue3 (UAz n) (fun K _ _ _ _ _ _=>rfl) (fun _ _=>rfl) (fun L K _ _ _ _ _ _=>by show _=_; kernel_rfl) n) fun _ _=>rfl
theorem UL8 (n:Nat):Je6 (UDE R n) (JaJ Ub (Jll Tryz.f146)):=pO (pC (UC1 n) pN) (by kernel_rfl)
abbrev t146:Sl (List SV):=(cH (cH (cI .n)))
abbrev f146 (n:Nat) (K:List SV→O R):t146.T (O R):=fun x1 x2 x3=>UCk n x1 x2 x3 (fun y1=>K [vH y1])
abbrev UBX (n:Nat):FS:=fT [false,false,false] t146 (f146 n)
theorem UGY (n:Nat):FSound Tryz.prog GI 146 (UBX n):=gd Ub n (UnF n) Tryz.func146 (.cons (UnF n) t146 (f146 n) (fun K _ _ _=>(Jkq (c:=Jll Tryz.f146) (by kernel_rfl) (UL8 n) K).trans (by kernel_rfl)) .nil) (by kernel_rfl)
def Upq:Ann:={ loops:=[],cuts:=[],frz:=[],rm:=[.id] }
abbrev Ux4 (n:Nat):Env:=eC 147 (UBY n) (eC 146 (UBX n) (eC 122 (Uk n) eN))
theorem Unt (n:Nat):EnvOK Tryz.prog GI (Ux4 n):=.cons (.cons (.cons (.nil) (Ulv n)) (UGY n)) (UGZ n)
def UG9 (n:Nat) (x1:Bool) (x2:LP) (x3:Bool) (x4:LP) (k0:Bool→LP→O R):O R :=
 bif (x1 == x3) then (UCk n x2 x4 1 (fun y5=>Uop n x1 y5 (fun y6 y7=>k0 y6 y7))) else (UHb n x2 x4 (fun y8=>bif (decide (y8<0)) then (UCk n x4 x2 (-1) (fun y9=>Uop n x3 y9 (fun y10 y11=>k0 y10 y11))) else (UCk n x2 x4 (-1) (fun y12=>Uop n x1 y12 (fun y13 y14=>k0 y13 y14)))))
abbrev UKr (n:Nat):Orc R:=oN
abbrev UJE (n:Nat):Orc R:=oN
abbrev UPy (R:Type) (n:Nat):=JcH (R:=R) Tryz.prog (Ux4 n) Upq n (40,[]) (UKr n) (UJE n)
theorem ULW (n:Nat):Je6 (UPy R n) (JaJ Upq (Jll Tryz.f124)):=pO pN (by kernel_rfl)
abbrev t124:Sl (List SV):=(.c (sP (JlI (.c Jlf (.c sSh .n)))) (.c (sP (JlI (.c Jlf (.c sSh .n)))) .n))
abbrev f124 (n:Nat) (K:List SV→O R):t124.T (O R):=fun x1 x2 x3 x4=>UG9 n x1 x2 x3 x4 (fun y1 y2=>K [.p (.agg [.v (.bool y1),.sh y2])])
abbrev UBU (n:Nat):FS:=fT [false,false] t124 (f124 n)
theorem UGV (n:Nat):FSound Tryz.prog GI 124 (UBU n):=gd Upq n (Unt n) Tryz.func124 (.cons (Unt n) t124 (f124 n) (fun K _ _ _ _=>(Jkq (c:=Jll Tryz.f124) (by kernel_rfl) (ULW n) K).trans (by kernel_rfl)) .nil) (by kernel_rfl)
def UA:Ann:={ loops:=[],cuts:=[],frz:=[],rm:=[.id] }
abbrev UFE (n:Nat):Env:=eC 122 (Uk n) eN
theorem Uso (n:Nat):EnvOK Tryz.prog GI (UFE n):=.cons (.nil) (Ulv n)
def p90 (n:Nat) (x1:Bool) (x2:LP) (k0:Bool→LP→O R):O R :=
 Uop n (!x1) x2 (fun y3 y4=>k0 y3 y4)
abbrev UQ6 (n:Nat):Orc R:=oN
abbrev UQk (n:Nat):Orc R:=oN
abbrev K90 (R:Type) (n:Nat):=JcH (R:=R) Tryz.prog (UFE n) UA n (9,[]) (UQ6 n) (UQk n)
theorem US7 (n:Nat):Je6 (K90 R n) (JaJ UA (Jll Tryz.f90)):=pO pN (by kernel_rfl)
abbrev t90:Sl (List SV):=(.c (sP (JlI (.c Jlf (.c sSh .n)))) .n)
abbrev f90 (n:Nat) (K:List SV→O R):t90.T (O R):=fun x1 x2=>p90 n x1 x2 (fun y1 y2=>K [.p (.agg [.v (.bool y1),.sh y2])])
abbrev UIU (n:Nat):FS:=fT [false] t90 (f90 n)
theorem ULp (n:Nat):FSound Tryz.prog GI 90 (UIU n):=gd UA n (Uso n) Tryz.func90 (.cons (Uso n) t90 (f90 n) (fun K _ _=>(Jkq (c:=Jll Tryz.f90) (by kernel_rfl) (US7 n) K).trans (by kernel_rfl)) .nil) (by kernel_rfl)
def Upp:Ann:={ loops:=[],cuts:=[],frz:=[],rm:=[.id] }
abbrev Ux3 (n:Nat):Env:=eC 124 (UBU n) (eC 90 (UIU n) eN)
theorem Unq (n:Nat):EnvOK Tryz.prog GI (Ux3 n):=.cons (.cons (.nil) (ULp n)) (UGV n)
def UCi (n:Nat) (x1:Bool) (x2:LP) (x3:Bool) (x4:LP) (k0:Bool→LP→O R):O R :=
 p90 n x3 x4 (fun y5 y6=>UG9 n x1 x2 y5 y6 (fun y7 y8=>k0 y7 y8))
abbrev UKq (n:Nat):Orc R:=oN
abbrev UJD (n:Nat):Orc R:=oN
abbrev UPx (R:Type) (n:Nat):=JcH (R:=R) Tryz.prog (Ux3 n) Upp n (9,[]) (UKq n) (UJD n)
theorem ULT (n:Nat):Je6 (UPx R n) (JaJ Upp (Jll Tryz.f121)):=pO pN (by kernel_rfl)
abbrev UMx:Sl (List SV):=(.c (sP (JlI (.c Jlf (.c sSh .n)))) (.c (sP (JlI (.c Jlf (.c sSh .n)))) .n))
abbrev f121 (n:Nat) (K:List SV→O R):UMx.T (O R):=fun x1 x2 x3 x4=>UCi n x1 x2 x3 x4 (fun y1 y2=>K [.p (.agg [.v (.bool y1),.sh y2])])
abbrev UBT (n:Nat):FS:=fT [false,false] UMx (f121 n)
theorem UGU (n:Nat):FSound Tryz.prog GI 121 (UBT n):=gd Upp n (Unq n) Tryz.func121 (.cons (Unq n) UMx (f121 n) (fun K _ _ _ _=>(Jkq (c:=Jll Tryz.f121) (by kernel_rfl) (ULT n) K).trans (by kernel_rfl)) .nil) (by kernel_rfl)
def Uz9:Ann:={ loops:=[],cuts:=[],frz:=[],rm:=[.id] }
abbrev UFD (n:Nat):Env:=eC 121 (UBT n) eN
theorem Usm (n:Nat):EnvOK Tryz.prog GI (UFD n):=.cons (.nil) (UGU n)
def p88 (n:Nat) (x1:Bool) (x2:LP) (x3:Bool) (x4:LP) (k0:Int→O R):O R :=
 UCi n x1 x2 x3 x4 (fun y5 y6=>bif (((y6).length:Int) == 0) then (k0 0) else (bif y5 then (k0 (-1)) else (k0 1)))
abbrev UQ5 (n:Nat):Orc R:=oN
abbrev UQj (n:Nat):Orc R:=oN
abbrev K88 (R:Type) (n:Nat):=JcH (R:=R) Tryz.prog (UFD n) Uz9 n (15,[]) (UQ5 n) (UQj n)
theorem US5 (n:Nat):Je6 (K88 R n) (JaJ Uz9 (Jll Tryz.f88)):=pO pN (by kernel_rfl)
abbrev t88:Sl (List SV):=(.c (sP (JlI (.c Jlf (.c sSh .n)))) (.c (sP (JlI (.c Jlf (.c sSh .n)))) .n))
abbrev f88 (n:Nat) (K:List SV→O R):t88.T (O R):=fun x1 x2 x3 x4=>p88 n x1 x2 x3 x4 (fun y1=>K [vI y1])
abbrev UKe (n:Nat):FS:=fT [false,false] t88 (f88 n)
theorem UO6 (n:Nat):FSound Tryz.prog GI 88 (UKe n):=gd Uz9 n (Usm n) Tryz.func88 (.cons (Usm n) t88 (f88 n) (fun K _ _ _ _=>(Jkq (c:=Jll Tryz.f88) (by kernel_rfl) (US5 n) K).trans (by kernel_rfl)) .nil) (by kernel_rfl)
end
end Go.Proofs.YtmgfmlhdnadglaaGreatDoor
set_option linter.unusedVariables false
set_option linter.unusedSimpArgs false
namespace Go.Proofs.YtmgfmlhdnadglaaGreatDoor
open Go Th Go.Proofs
variable {R:Type}
def II (a:Nat):List PV:=nl .i64 (DL a)
def ll (a:Nat):Nat:=(toL 10 a).length
theorem Uaa (a:Nat):(DL a).length=ll a:=by unfold DL ll; rw [List.length_reverse]
theorem UaC (a:Nat):(II a).length=ll a:=by unfold II; rw [Jjd,Uaa]
theorem UcY {a k:Nat}:ll a≤k↔a<10 ^ k:=Uao hT2 a k
theorem UaT {a b:Nat} (h:a≤b):ll a≤ll b:=UcY.2 (Nat.lt_of_le_of_lt h (UcY.1 (Nat.le_refl _)))
theorem Ug1 (a b:Nat):ll (a * b)≤ll a + ll b:=by
 rw [UcY,Nat.pow_add]
 exact Nat.mul_lt_mul_of_lt_of_lt (UcY.1 (Nat.le_refl _)) (UcY.1 (Nat.le_refl _))
theorem UyB {a b k:Nat} (ha:ll a≤k) (hb:ll b≤k):ll (a + b)≤k + 1:=by
 rw [UcY] at *
 rw [Nat.pow_succ]; omega
theorem UbB:ll 0=0:=by unfold ll; rw [Uam]; rfl
theorem UcR {a:Nat}:ll a=0↔a=0:=by
 constructor
 · intro h; exact (Ubu hT2).1 (List.eq_nil_of_length_eq_zero h)
 · intro h; rw [h,UbB]
theorem Upe:II 0=[]:=by unfold II; rw [UkI]; rfl
theorem UgT (l:List Nat):(l.dropWhile (· == 0)).head? ≠ some 0:=by
 induction l with
 | nil=>simp
 | cons d r ih =>
  rw [List.dropWhile_cons]
  by_cases h:d=0
  · rw [if_pos (by simpa using h)]; exact ih
  · rw [if_neg (by simpa using h)]; simpa using h
theorem UkD (l:List Nat):vb (l.dropWhile (· == 0))=vb l:=by
 induction l with
 | nil=>rfl
 | cons d r ih =>
  rw [List.dropWhile_cons]
  by_cases h:d=0
  · rw [if_pos (by simpa using h),ih,h,Udc]; omega
  · rw [if_neg (by simpa using h)]
theorem UjY {l:List Nat} (h:∀ d∈l,d<10):DL (vb l)=l.dropWhile (· == 0):=by
 rw [←UkD]
 exact UDZ (fun d hd=>h d ((List.dropWhile_sublist _).subset hd)) (UgT l)
theorem Ug2 (n:Nat) (neg x3:Bool) (k0:Bool→List PV→Bool→Option R):∀ (m:Nat) (l:List Nat),l.length<m→l.length<2 ^ 40→Ucp n m neg (nl .i64 l) x3 k0=k0 neg (nl .i64 (l.dropWhile (· == 0))) x3
 | m + 1,[],hm,hl=>by
  simp only [Ucp,UfN]
  simp (disch:=(first | omega | (simp only [JlE]; omega))) only [↓JlH,JlF,JlG]
  rfl
 | m + 1,d::r,hm,hl=>by
  rw [List.length_cons] at hm hl
  simp only [Ucp,UfN]
  have hg:∀ (K:Int→Option R),Jj .i64 ((nl .i64 (d::r)).getD (0:Int).toNat (PV.v (Value.bool false))) K=K (d:Int):=fun K=>Jhl (l:=d::r) (i:=0) (by simp)
  have e1:List.drop (1:Int).toNat (List.take (r.length + 1) (d::r))=r:=by
   show List.drop 1 (d::List.take r.length r)=r
   rw [List.take_length]; rfl
  have e2:List.drop (0 + 1) (List.take (r.length + 1) (d::r))=r:=e1
  rw [List.dropWhile_cons]
  by_cases h:d=0
  · have ih:=Ug2 n neg x3 k0 m r (by omega) (by omega)
    rw [if_pos (by simpa using h)]
    subst h
    have e3:((0:Nat) == 0)=true:=rfl
    simp (disch:=(first | omega | (simp only [JlE]; omega))) only [↓JlH,JlF,JlG,hg,Jk0,e1,e2,e3,ih,List.length_cons]
  · have e3:(d == 0)=false:=by simpa using h
    rw [if_neg (by simpa using h)]
    simp (disch:=(first | omega | (simp only [JlE]; omega))) only [↓JlH,JlF,JlG,hg,Jk0,e1,e2,e3,List.length_cons]
theorem UaL (n:Nat) (neg:Bool) (l:List Nat) (h:∀ d∈l,d<10) (hn:l.length<n) (hl:l.length<2 ^ 40) (k0:Bool→List PV→Option R):Uop n neg (nl .i64 l) k0=k0 (neg&&!(vb l == 0)) (II (vb l)):=by
 unfold Uop Uub
 rw [Ug2 n neg false _ n l hn hl,←UjY h]
 by_cases h0:vb l=0
 · rw [h0,Upe,UkI]
   simp [nl]
 · have e1:((ll (vb l):Int) == 0)=false:=by
    rw [Jk0]; simp only [beq_eq_false_iff_ne,ne_eq]
    intro e; exact h0 (UcR.1 e)
   have e2:(vb l == 0)=false:=by simpa using h0
   rw [Jjd,Uaa,e1,e2]
   simp [II]
theorem Udt {l:List Nat} {i:Nat} (h:i<l.length):l.drop i=l.getD i 0::l.drop (i + 1):=by
 rw [List.drop_eq_getElem_cons h,List.getD_eq_getElem?_getD,List.getElem?_eq_getElem h]; rfl
theorem Ukr (n:Nat) (la lb:List Nat) (ha:∀ d∈la,d<10) (hb:∀ d∈lb,d<10) (hlen:la.length=lb.length) (hl:la.length<2 ^ 40) (k0:Int→Option R) (k1:Option R) :
 ∀ (d m i:Nat),d + i=la.length→d<m→Ucu n m (nl .i64 la) (nl .i64 lb) (i:Int) k0 k1 =
  if vb (la.drop i)<vb (lb.drop i) then k0 (-1) else if vb (lb.drop i)<vb (la.drop i) then k0 1 else k1
 | 0,m + 1,i,h,hm=>by
  rw [List.drop_eq_nil_of_le (by omega),List.drop_eq_nil_of_le (by omega)]
  simp only [Ucu,UfT]
  simp (disch:=(first | omega | (simp only [JlE]; omega))) only [↓JlH,JlF,JlG]
 | d + 1,m + 1,i,h,hm=>by
  have ih:=Ukr n la lb ha hb hlen hl k0 k1 d m (i + 1) (by omega) (by omega)
  have e1:(i:Int) + 1=((i + 1:Nat):Int):=by omega
  have va:=UDy (la.drop (i + 1)) (fun x hx=>ha x (List.mem_of_mem_drop hx))
  have vb':=UDy (lb.drop (i + 1)) (fun x hx=>hb x (List.mem_of_mem_drop hx))
  rw [Udt (by omega:i<la.length),Udt (by omega:i<lb.length),Udc,Udc]
  have el:(lb.drop (i + 1)).length=(la.drop (i + 1)).length:=by rw [List.length_drop,List.length_drop,hlen]
  rw [el] at vb' ⊢
  simp only [Ucu,UfT]
  by_cases h1:la.getD i 0<lb.getD i 0
  · simp (disch:=(first | omega | (simp only [JlE]; omega))) only [↓JlH,JlF,JlG,e1]
    have:(la.getD i 0 + 1) * 10 ^ (la.drop (i + 1)).length≤lb.getD i 0 * 10 ^ (la.drop (i + 1)).length:=Nat.mul_le_mul_right _ h1
    rw [Nat.succ_mul] at this
    rw [if_pos (by omega)]
  · by_cases h2:lb.getD i 0<la.getD i 0
    · simp (disch:=(first | omega | (simp only [JlE]; omega))) only [↓JlH,JlF,JlG,e1]
      have:(lb.getD i 0 + 1) * 10 ^ (la.drop (i + 1)).length≤la.getD i 0 * 10 ^ (la.drop (i + 1)).length:=Nat.mul_le_mul_right _ h2
      rw [Nat.succ_mul] at this
      rw [if_neg (by omega),if_pos (by omega)]
    · have h3:la.getD i 0=lb.getD i 0:=by omega
      simp (disch:=(first | omega | (simp only [JlE]; omega))) only [↓JlH,JlF,JlG,e1,ih]
      rw [h3]
      simp only [Nat.add_lt_add_iff_left]
theorem UuJ (n a b:Nat) (ha:ll a<2 ^ 40) (hb:ll b<2 ^ 40) (hn:ll a<n) (k0:Int→Option R):UHb n (II a) (II b) k0=k0 (UcV a b):=by
 unfold UHb Uuj
 rw [UaC,UaC,JjY]
 by_cases he:ll a=ll b
 · have e1:(ll a != ll b)=false:=by simp [he]
   have hlp:=Ukr n (DL a) (DL b) (Ufl a) (Ufl b) (by rw [Uaa,Uaa,he]) (by rw [Uaa]; exact ha) (fun y=>k0 y) (k0 0) (ll a) n 0 (by rw [Uaa]; omega) hn
   rw [List.drop_zero,List.drop_zero,UgN,UgN] at hlp
   rw [e1,cond_false]
   unfold II
   rw [show ((0:Nat):Int)=0 from rfl] at hlp
   rw [hlp]
   unfold UcV
   split
   · rfl
   · split <;> rfl
 · have e1:(ll a != ll b)=true:=by simpa using he
   rw [e1,cond_true]
   unfold UcV
   by_cases hlt:ll a<ll b
   · have h2:=Ubv hT2 hlt
     rw [Jkf (by omega),if_pos h2]
   · have h2:=Ubv hT2 (x:=b) (y:=a) (by unfold ll at *; omega)
     rw [c_neg (by omega),if_neg (by omega),if_pos h2]
theorem Um0 (n a i:Nat) (ha:ll a<2 ^ 40) (hi:i<2 ^ 40) (k0:Int→Option R):UHc n (II a) i k0=k0 (((toL 10 a).getD i 0:Nat):Int):=by
 unfold UHc II
 have hll:(toL 10 a).length=ll a:=rfl
 by_cases h:ll a≤i
 · rw [UbA h]
   simp (disch:=(first | omega | (simp only [JlE]; omega))) only [↓JlH,JlF,JlG,Uaa]
   rfl
 · have hr:(DL a).getD (ll a - 1 - i) 0=(toL 10 a).getD i 0:=by
    unfold DL
    rw [List.getD_eq_getElem?_getD,List.getD_eq_getElem?_getD,List.getElem?_reverse (by omega)]
    congr 2
    omega
   have e1:((ll a:Int) - 1) - (i:Int)=((ll a - 1 - i:Nat):Int):=by omega
   have hg:∀ (K:Int→Option R),Jj .i64 ((nl .i64 (DL a)).getD (ll a - 1 - i) (PV.v (Value.bool false))) K=K (((toL 10 a).getD i 0:Nat):Int):=fun K=>by
    rw [Jhl (by rw [Uaa]; omega),hr]
   simp (disch:=(first | omega | (simp only [JlE]; omega))) only [↓JlH,JlF,JlG,Uaa,e1,hg]
theorem Uo8 (n a b:Nat) (f:Int) (hf:f=1∨f=-1) (ha:ll a<2 ^ 30) (hb:ll b<2 ^ 30) (o:List Nat) (c:Int) (hc:-1≤c∧c≤1) (i:Nat) (hi:i<2 ^ 31) (ho:o.length=i) :
 ∃ (r:Nat) (c':Int),(∀ k0:List PV→List PV→Int→List PV→Int→Int→Option R,Ua0 n (II a) (II b) f (nl .i64 o.reverse) c i k0=k0 (II a) (II b) f (nl .i64 (o++[r]).reverse) c' ((i + 1:Nat):Int))∧r<10∧-1≤c'∧c'≤1 ∧
  (((toL 10 a).getD i 0:Nat):Int) + f * (((toL 10 b).getD i 0:Nat):Int) + c=(r:Int) + 10 * c':=by
 have hx:=Uad hT2 (UaY hT2 a) i
 have hy:=Uad hT2 (UaY hT2 b) i
 have d1:=fun k0=>Um0 (R:=R) n a i (by omega) (by omega) k0
 have d2:=fun k0=>Um0 (R:=R) n b i (by omega) (by omega) k0
 generalize (toL 10 a).getD i 0=x at *
 generalize (toL 10 b).getD i 0=y at *
 obtain ⟨v,hv⟩:∃ v:Int,v=(x:Int) + f * (y:Int) + c:=⟨_,rfl⟩
 have hv2:-11<v∧v<20:=by rcases hf with rfl | rfl <;> omega
 have e1:(i:Int) + 1=((i + 1:Nat):Int):=by omega
 have e2:∀ r:Nat,nl .i64 (o++[r]).reverse=nl .i64 [r]++nl .i64 o.reverse:=fun r=>by rw [List.reverse_append,←Jjc]; rfl
 have hol:o.reverse.length=i:=by rw [List.length_reverse,ho]
 by_cases h1:v<0
 · obtain ⟨r,hr⟩:∃ r:Nat,(r:Int)=v + 10:=⟨(v + 10).toNat,by omega⟩
   refine ⟨r,-1,fun k0=>?_,by omega,by omega,by omega,by omega⟩
   rw [e2]
   rcases hf with rfl | rfl
   · have e3:(x:Int) + 1 * (y:Int) + c + 10=(r:Int):=by omega
     simp only [Ua0,Ua3,Ua4,UbI,d1,d2]
     simp (disch:=(first | omega | (simp only [JlE]; omega))) only [↓JlH,JlF,JlG,e1,e3,hol,Jln]
   · have e3:(x:Int) + -1 * (y:Int) + c + 10=(r:Int):=by omega
     simp only [Ua0,Ua3,Ua4,UbI,d1,d2]
     simp (disch:=(first | omega | (simp only [JlE]; omega))) only [↓JlH,JlF,JlG,e1,e3,hol,Jln]
 · by_cases h2:v>9
   · obtain ⟨r,hr⟩:∃ r:Nat,(r:Int)=v - 10:=⟨(v - 10).toNat,by omega⟩
     refine ⟨r,1,fun k0=>?_,by omega,by omega,by omega,by omega⟩
     rw [e2]
     rcases hf with rfl | rfl
     · have e3:(x:Int) + 1 * (y:Int) + c - 10=(r:Int):=by omega
       simp only [Ua0,Ua3,Ua4,UbI,d1,d2]
       simp (disch:=(first | omega | (simp only [JlE]; omega))) only [↓JlH,JlF,JlG,e1,e3,hol,Jln]
     · have e3:(x:Int) + -1 * (y:Int) + c - 10=(r:Int):=by omega
       simp only [Ua0,Ua3,Ua4,UbI,d1,d2]
       simp (disch:=(first | omega | (simp only [JlE]; omega))) only [↓JlH,JlF,JlG,e1,e3,hol,Jln]
   · obtain ⟨r,hr⟩:∃ r:Nat,(r:Int)=v:=⟨v.toNat,by omega⟩
     refine ⟨r,0,fun k0=>?_,by omega,by omega,by omega,by omega⟩
     rw [e2]
     rcases hf with rfl | rfl
     · have e3:(x:Int) + 1 * (y:Int) + c=(r:Int):=by omega
       simp only [Ua0,Ua3,Ua4,UbI,d1,d2]
       simp (disch:=(first | omega | (simp only [JlE]; omega))) only [↓JlH,JlF,JlG,e1,e3,hol,Jln]
     · have e3:(x:Int) + -1 * (y:Int) + c=(r:Int):=by omega
       simp only [Ua0,Ua3,Ua4,UbI,d1,d2]
       simp (disch:=(first | omega | (simp only [JlE]; omega))) only [↓JlH,JlF,JlG,e1,e3,hol,Jln]
theorem Uhc (n a b:Nat) (f:Int) (hf:f=1∨f=-1) (ha:ll a<2 ^ 30) (hb:ll b<2 ^ 30) (hab:0≤(a:Int) + f * (b:Int)) (K:Nat) (hK:K=max (ll a) (ll b)) :
 ∀ (m i:Nat) (o:List Nat) (c:Int),K + 2≤m + i→i≤K + 1→(i≤K∨c=0)→o.length=i→(∀ d∈o,d<10)→(-1≤c∧c≤1)→(val 10 o:Int) + (10 ^ i:Nat) * c=(val 10 ((toL 10 a).take i):Int) + f * (val 10 ((toL 10 b).take i):Int) →
  ∃ o':List Nat,(∀ k0:List PV→Option R,Uct n m (II a) (II b) f (nl .i64 o.reverse) c i k0=k0 (nl .i64 o'.reverse))∧(∀ d∈o',d<10)∧(val 10 o':Int)=(a:Int) + f * (b:Int)∧o'.length≤K + 1
 | 0,i,o,c,hm,hi,hic,ho,hd,hc,hv=>by omega
 | m + 1,i,o,c,hm,hi,hic,ho,hd,hc,hv=>by
  have go:(i<ll a∨i<ll b∨c≠0)→i≤K→(i=K→c=1) →
   ∃ o':List Nat,(∀ k0:List PV→Option R,Ua0 n (II a) (II b) f (nl .i64 o.reverse) c i (fun x1 x2 x3 x4 x5 x6=>Uct n m x1 x2 x3 x4 x5 x6 k0)=k0 (nl .i64 o'.reverse))∧(∀ d∈o',d<10)∧(val 10 o':Int)=(a:Int) + f * (b:Int)∧o'.length≤K + 1:=by
   intro _ hiK hc1
   obtain ⟨r,c',s1,s2,s3,s4,s5⟩:=Uo8 (R:=R) n a b f hf ha hb o c hc i (by omega) ho
   have hcK:i + 1≤K∨c'=0:=by
    by_cases h:i=K
    · right
      have:=hc1 h
      rw [UbA (by unfold ll at *; omega),UbA (by unfold ll at *; omega)] at s5
      simp at s5
      omega
    · left; omega
   obtain ⟨o',q1,q2,q3,q4⟩:=Uhc n a b f hf ha hb hab K hK m (i + 1) (o++[r]) c' (by omega) (by omega) hcK (by rw [List.length_append,ho]; rfl) (by
    intro d h
    rcases List.mem_append.1 h with h | h
    · exact hd d h
    · rw [List.mem_singleton.1 h]; exact s2) ⟨s3,s4⟩ (by
      rw [Ubi,ho,Uar,Uar,Nat.pow_succ]
      generalize (toL 10 a).getD i 0=x at *
      generalize (toL 10 b).getD i 0=y at *
      generalize val 10 ((toL 10 a).take i)=A at *
      generalize val 10 ((toL 10 b).take i)=B at *
      generalize val 10 o=O at *
      generalize 10 ^ i=P at *
      push_cast
      have:(P:Int) * ((x:Int) + f * (y:Int) + c)=(P:Int) * ((r:Int) + 10 * c'):=by rw [s5]
      clear s1 hf hab
      grind)
   exact ⟨o',fun k0=>by rw [s1,q1],q2,q3,q4⟩
  simp only [Uct,UiJ]
  have hA:i<ll a∨¬ i<ll a:=Decidable.em _
  have hB:i<ll b∨¬ i<ll b:=Decidable.em _
  rcases hA with hA | hA
  · have g1:i≤K:=by clear go; omega
    have g2:i=K→c=1:=by clear go; omega
    obtain ⟨o',q1,q2⟩:=go (Or.inl hA) g1 g2
    refine ⟨o',fun k0=>?_,q2⟩
    rw [←q1 k0]
    simp (disch:=(first | omega | (simp only [JlE]; omega))) only [↓JlH,JlF,JlG,UaC]
  rcases hB with hB | hB
  · have g1:i≤K:=by clear go; omega
    have g2:i=K→c=1:=by clear go; omega
    obtain ⟨o',q1,q2⟩:=go (Or.inr (Or.inl hB)) g1 g2
    refine ⟨o',fun k0=>?_,q2⟩
    rw [←q1 k0]
    simp (disch:=(first | omega | (simp only [JlE]; omega))) only [↓JlH,JlF,JlG,UaC]
  rw [List.take_of_length_le (by unfold ll at *; omega),List.take_of_length_le (by unfold ll at *; omega),Uaw hT2,Uaw hT2] at hv
  have hol:=Ufk hT2 o hd
  rw [ho] at hol
  by_cases h0:c=0
  · subst h0
    rw [Int.mul_zero,Int.add_zero] at hv
    refine ⟨o,fun k0=>?_,hd,hv,by omega⟩
    have e:((0:Int) != 0)=false:=rfl
    simp (disch:=(first | omega | (simp only [JlE]; omega))) only [↓JlH,JlF,JlG,UaC,e]
  · have h1:c=1:=by
     by_cases h:c=-1
     · exfalso
       subst h
       generalize 10 ^ i=P at *
       omega
     · omega
    have g1:i≤K:=by clear go; omega
    obtain ⟨o',q1,q2⟩:=go (Or.inr (Or.inr h0)) g1 (fun _=>h1)
    refine ⟨o',fun k0=>?_,q2⟩
    rw [←q1 k0]
    have e:(c != 0)=true:=by simpa using h0
    simp (disch:=(first | omega | (simp only [JlE]; omega))) only [↓JlH,JlF,JlG,UaC,e]
theorem Uf3 (n a b:Nat) (f:Int) (hf:f=1∨f=-1) (ha:ll a<2 ^ 30) (hb:ll b<2 ^ 30) (hab:0≤(a:Int) + f * (b:Int)) (hn:max (ll a) (ll b) + 2≤n) :
 ∃ l:List Nat,(∀ k0:List PV→Option R,UCk n (II a) (II b) f k0=k0 (nl .i64 l))∧(∀ d∈l,d<10)∧(vb l:Int)=(a:Int) + f * (b:Int)∧l.length≤max (ll a) (ll b) + 1:=by
 obtain ⟨o',q1,q2,q3,q4⟩:=Uhc (R:=R) n a b f hf ha hb hab _ rfl n 0 [] 0 (by omega) (by omega) (by omega) rfl (by intro d h; cases h) (by omega) (by simp [val])
 refine ⟨o'.reverse,fun k0=>?_,fun d h=>q2 d (List.mem_reverse.1 h),by unfold vb; rw [List.reverse_reverse]; exact q3,by rw [List.length_reverse]; exact q4⟩
 unfold UCk Uui
 exact q1 _
abbrev sg (z:Int):Bool:=decide (z<0)
theorem UlO (n:Nat) (x y:Int) (hx:ll x.natAbs≤50000) (hy:ll y.natAbs≤50000) (hn:200000≤n) (k0:Bool→List PV→Option R) :
 UG9 n (sg x) (II x.natAbs) (sg y) (II y.natAbs) k0=k0 (sg (x + y)) (II (x + y).natAbs):=by
 unfold UG9
 by_cases hs:sg x=sg y
 · obtain ⟨l,q1,q2,q3,q4⟩:=Uf3 (R:=R) n x.natAbs y.natAbs 1 (Or.inl rfl) (by omega) (by omega) (by omega) (by omega)
   have e1:(sg x == sg y)=true:=by simpa using hs
   have e2:vb l=(x + y).natAbs:=by
    have:x<0↔y<0:=by simpa [sg] using hs
    omega
   have e3:(sg x&&!((x + y).natAbs == 0))=sg (x + y):=by
    have:x<0↔y<0:=by simpa [sg] using hs
    rw [Bool.eq_iff_iff]
    simp only [sg,Bool.and_eq_true,decide_eq_true_eq,Bool.not_eq_true',beq_eq_false_iff_ne]
    omega
   rw [e1,cond_true,q1,UaL n _ l q2 (by omega) (by omega),e2,e3]
 · have e1:(sg x == sg y)=false:=by simpa using hs
   have hxy:¬ (x<0↔y<0):=by simpa [sg] using hs
   rw [e1,cond_false,UuJ n _ _ (by omega) (by omega) (by omega)]
   by_cases hlt:x.natAbs<y.natAbs
   · obtain ⟨l,q1,q2,q3,q4⟩:=Uf3 (R:=R) n y.natAbs x.natAbs (-1) (Or.inr rfl) (by omega) (by omega) (by omega) (by omega)
     have e2:vb l=(x + y).natAbs:=by omega
     have e3:(sg y&&!((x + y).natAbs == 0))=sg (x + y):=by
      rw [Bool.eq_iff_iff]
      simp only [sg,Bool.and_eq_true,decide_eq_true_eq,Bool.not_eq_true',beq_eq_false_iff_ne]
      omega
     have e4:UcV x.natAbs y.natAbs=-1:=by unfold UcV; rw [if_pos hlt]
     rw [e4,Jkf (by omega),q1,UaL n _ l q2 (by omega) (by omega),e2,e3]
   · obtain ⟨l,q1,q2,q3,q4⟩:=Uf3 (R:=R) n x.natAbs y.natAbs (-1) (Or.inr rfl) (by omega) (by omega) (by omega) (by omega)
     have e2:vb l=(x + y).natAbs:=by omega
     have e3:(sg x&&!((x + y).natAbs == 0))=sg (x + y):=by
      rw [Bool.eq_iff_iff]
      simp only [sg,Bool.and_eq_true,decide_eq_true_eq,Bool.not_eq_true',beq_eq_false_iff_ne]
      omega
     have e4:¬ UcV x.natAbs y.natAbs<0:=by unfold UcV; rw [if_neg hlt]; split <;> omega
     rw [c_neg e4,q1,UaL n _ l q2 (by omega) (by omega),e2,e3]
theorem UgF (n:Nat) (x:Int) (hx:ll x.natAbs≤50000) (hn:200000≤n) (k0:Bool→List PV→Option R):p90 n (sg x) (II x.natAbs) k0=k0 (sg (-x)) (II (-x).natAbs):=by
 unfold p90 II
 rw [UaL n _ _ (Ufl _) (by rw [Uaa]; omega) (by rw [Uaa]; omega),UgN,Int.natAbs_neg]
 have e3:(!(sg x)&&!(x.natAbs == 0))=sg (-x):=by
  rw [Bool.eq_iff_iff]
  simp only [sg,Bool.and_eq_true,decide_eq_true_eq,Bool.not_eq_true',beq_eq_false_iff_ne,decide_eq_false_iff_not]
  omega
 rw [e3]; rfl
theorem UlS (n:Nat) (x y:Int) (hx:ll x.natAbs≤50000) (hy:ll y.natAbs≤50000) (hn:200000≤n) (k0:Bool→List PV→Option R) :
 UCi n (sg x) (II x.natAbs) (sg y) (II y.natAbs) k0=k0 (sg (x - y)) (II (x - y).natAbs):=by
 unfold UCi
 rw [UgF n y hy hn,UlO n x (-y) hx (by rw [Int.natAbs_neg]; exact hy) hn,Int.sub_eq_add_neg]
def UgS (x y:Int):Int:=if x<y then -1 else if x=y then 0 else 1
theorem UoC (n:Nat) (x y:Int) (hx:ll x.natAbs≤50000) (hy:ll y.natAbs≤50000) (hn:200000≤n) (k0:Int→Option R) :
 p88 n (sg x) (II x.natAbs) (sg y) (II y.natAbs) k0=k0 (UgS x y):=by
 unfold p88 UgS
 rw [UlS n x y hx hy hn,UaC,Jk0]
 by_cases h:x=y
 · have e:(ll (x - y).natAbs == 0)=true:=by simp only [beq_iff_eq,UcR]; omega
   rw [e,if_neg (by omega),if_pos h]; rfl
 · have e:(ll (x - y).natAbs == 0)=false:=by simp only [beq_eq_false_iff_ne,ne_eq,UcR]; omega
   rw [e,cond_false]
   by_cases h2:x<y
   · have e2:sg (x - y)=true:=by simp [sg]; omega
     rw [e2,if_pos h2]; rfl
   · have e2:sg (x - y)=false:=by simp [sg]; omega
     rw [e2,if_neg h2,if_neg h]; rfl
end Go.Proofs.YtmgfmlhdnadglaaGreatDoor
set_option linter.unusedVariables false
set_option maxRecDepth 100000
namespace Go.Proofs.YtmgfmlhdnadglaaGreatDoor
open Go Th Go.Proofs
noncomputable section
variable {R:Type}
def Ud3:Ann:={ loops:=[(3,ids [2,3,4,5,6],ids [2,3,4,5]),(6,ids [2,3,4,5,6,7],ids [2,3,4,5,6]),(12,ids [2,3,4,5,6,7,8,9],ids [2,3,4,5,6,7])],cuts:=[],frz:=[],rm:=[.id] }
abbrev UBH (n:Nat):Env:=eC 122 (Uk n) eN
theorem Usn (n:Nat):EnvOK Tryz.prog GI (UBH n):=.cons (.nil) (Ulv n)
def Uf1 (n:Nat) (l0:Bool→LP→Bool→LP→Bool→LP→Int→Int→Int→Int→O R) (x1:Bool) (x2:LP) (x3:Bool) (x4:LP) (x5:Bool) (x6:LP) (x7 x8 x9 x10:Int) (k0:Bool→LP→Bool→LP→Bool→LP→Int→Int→O R):O R :=
 bif (decide (x10>0)) then (bif (inR (IntKind.i64.wrap (x9 - 1)) ((x6).length)) then (Jj .i64 ((x6).getD ((IntKind.i64.wrap (x9 - 1):Int).toNat) (.v (.bool false))) fun e11=>bif decide (10=0) then none else (let v12:=Int.tmod (IntKind.i64.wrap (x10 + e11)) 10; bif (inR (IntKind.i64.wrap (x9 - 1)) ((x6).length)) then (Jj .i64 ((x6).getD ((IntKind.i64.wrap (x9 - 1):Int).toNat) (.v (.bool false))) fun e13=>bif decide (10=0) then none else (let v14:=IntKind.i64.wrap (Int.tdiv (IntKind.i64.wrap (x10 + e11)) 10); l0 x1 x2 x3 x4 x5 ((x6).set ((IntKind.i64.wrap (x9 - 1):Int).toNat) (.v (.int .i64 v12))) x7 x8 (IntKind.i64.wrap (x9 - 1)) v14)) else none)) else none) else (k0 x1 x2 x3 x4 x5 x6 x7 x8)
def UcE (n:Nat):Nat→Bool→LP→Bool→LP→Bool→LP→Int→Int→Int→Int→(Bool→LP→Bool→LP→Bool→LP→Int→Int→O R)→O R
 | 0,_,_,_,_,_,_,_,_,_,_,_=>none
 | m + 1,x1,x2,x3,x4,x5,x6,x7,x8,x9,x10,k0=>Uf1 n (fun x1 x2 x3 x4 x5 x6 x7 x8 x9 x10=>UcE n m x1 x2 x3 x4 x5 x6 x7 x8 x9 x10 k0) x1 x2 x3 x4 x5 x6 x7 x8 x9 x10 k0
def UuA (n:Nat) (x1:Bool) (x2:LP) (x3:Bool) (x4:LP) (x5:Bool) (x6:LP) (x7 x8 x9 x10:Int) (k0:Bool→LP→Bool→LP→Bool→LP→Int→Int→O R):O R:=UcE n n x1 x2 x3 x4 x5 x6 x7 x8 x9 x10 k0
def Ujj (n:Nat) (l0:Bool→LP→Bool→LP→Bool→LP→Int→Int→O R) (x1:Bool) (x2:LP) (x3:Bool) (x4:LP) (x5:Bool) (x6:LP) (x7 x8:Int) (k0:Bool→LP→Bool→LP→Bool→LP→Int→O R):O R :=
 bif (decide (x8≥0)) then (let v9:=IntKind.i64.wrap ((IntKind.i64.wrap (x7 + x8)) + 1); bif (inR v9 ((x6).length)) then (Jj .i64 ((x6).getD ((v9:Int).toNat) (.v (.bool false))) fun e10=>bif (inR x7 ((x2).length)) then (Jj .i64 ((x2).getD ((x7:Int).toNat) (.v (.bool false))) fun e11=>bif (inR x8 ((x4).length)) then (Jj .i64 ((x4).getD ((x8:Int).toNat) (.v (.bool false))) fun e12=>let v13:=IntKind.i64.wrap (e10 + (IntKind.i64.wrap (e11 * e12))); bif decide (10=0) then none else (bif (inR v9 ((x6).length)) then (Jj .i64 ((x6).getD ((v9:Int).toNat) (.v (.bool false))) fun e14=>bif decide (10=0) then none else (UuA n x1 x2 x3 x4 x5 ((x6).set ((v9:Int).toNat) (.v (.int .i64 (Int.tmod v13 10)))) x7 x8 v9 (IntKind.i64.wrap (Int.tdiv v13 10)) (fun y15 y16 y17 y18 y19 y20 y21 y22=>l0 y15 y16 y17 y18 y19 y20 y21 (IntKind.i64.wrap (y22 - 1))))) else none)) else none) else none) else none) else (k0 x1 x2 x3 x4 x5 x6 x7)
def UeG (n:Nat):Nat→Bool→LP→Bool→LP→Bool→LP→Int→Int→(Bool→LP→Bool→LP→Bool→LP→Int→O R)→O R
 | 0,_,_,_,_,_,_,_,_,_=>none
 | m + 1,x1,x2,x3,x4,x5,x6,x7,x8,k0=>Ujj n (fun x1 x2 x3 x4 x5 x6 x7 x8=>UeG n m x1 x2 x3 x4 x5 x6 x7 x8 k0) x1 x2 x3 x4 x5 x6 x7 x8 k0
def Uzg (n:Nat) (x1:Bool) (x2:LP) (x3:Bool) (x4:LP) (x5:Bool) (x6:LP) (x7 x8:Int) (k0:Bool→LP→Bool→LP→Bool→LP→Int→O R):O R:=UeG n n x1 x2 x3 x4 x5 x6 x7 x8 k0
def Uji (n:Nat) (l0:Bool→LP→Bool→LP→Bool→LP→Int→O R) (x1:Bool) (x2:LP) (x3:Bool) (x4:LP) (x5:Bool) (x6:LP) (x7:Int) (k0:Bool→LP→Bool→LP→Bool→LP→O R):O R :=
 bif (decide (x7≥0)) then (let v8:=IntKind.i64.wrap (((x4).length:Int) - 1); Uzg n x1 x2 x3 x4 x5 x6 x7 v8 (fun y9 y10 y11 y12 y13 y14 y15=>l0 y9 y10 y11 y12 y13 y14 (IntKind.i64.wrap (y15 - 1)))) else (k0 x1 x2 x3 x4 x5 x6)
def UeF (n:Nat):Nat→Bool→LP→Bool→LP→Bool→LP→Int→(Bool→LP→Bool→LP→Bool→LP→O R)→O R
 | 0,_,_,_,_,_,_,_,_=>none
 | m + 1,x1,x2,x3,x4,x5,x6,x7,k0=>Uji n (fun x1 x2 x3 x4 x5 x6 x7=>UeF n m x1 x2 x3 x4 x5 x6 x7 k0) x1 x2 x3 x4 x5 x6 x7 k0
def Uzf (n:Nat) (x1:Bool) (x2:LP) (x3:Bool) (x4:LP) (x5:Bool) (x6:LP) (x7:Int) (k0:Bool→LP→Bool→LP→Bool→LP→O R):O R:=UeF n n x1 x2 x3 x4 x5 x6 x7 k0
def p89 (n:Nat) (x1:Bool) (x2:LP) (x3:Bool) (x4:LP) (k0:Bool→LP→O R):O R :=
 let v5:=IntKind.i64.wrap (((x2).length:Int) + ((x4).length:Int)); bif (decide ((0:Int)≤v5)&&decide ((v5:Int)≤v5)&&Jbu (v5:Int).toNat 8) then (let v6:=IntKind.i64.wrap (((x2).length:Int) - 1); Uzf n x1 x2 x3 x4 false (List.replicate (v5:Int).toNat (.v (.int .i64 0):PV)) v6 (fun y7 y8 y9 y10 y11 y12=>Uop n (!(y7 == y9)) y12 (fun y13 y14=>k0 y13 y14))) else none
abbrev E89 (n:Nat):Code→Fr→Kc R→O R:=evC Tryz.prog (UBH n) Ud3 n (85,[])
noncomputable def UxN:Code:=Jj4 (Jll Tryz.f89) [1,1,0,1,0,0]
abbrev UhM:Sl (List SV):=(.c (sBx 55 (cB (cH .n))) (.c (sBx 55 (cB (cH .n))) (.c (sBx 55 (cB (.c sNl .n))) (cO 3 (cI .n)))))
abbrev Utx (n m:Nat) (K:Kc R):UhM.T (O R):=fun x1 x2 x3 x4 x5 x6 x7=>UeF n m x1 x2 x3 x4 x5 x6 x7 (fun y1 y2 y3 y4 y5 y6=>xL Ud3 3 K (.exit 0) [.bx 55 [vB y1,vH y2],.bx 55 [vB y3,vH y4],.bx 55 [vB y5,.nl],.own 3 y6])
abbrev UEC (n:Nat) (K:Kc R) (l0:UhM.T (O R)):UhM.T (O R):=fun x1 x2 x3 x4 x5 x6 x7=>Uji n l0 x1 x2 x3 x4 x5 x6 x7 (fun y1 y2 y3 y4 y5 y6=>xL Ud3 3 K (.exit 0) [.bx 55 [vB y1,vH y2],.bx 55 [vB y3,vH y4],.bx 55 [vB y5,.nl],.own 3 y6])
noncomputable def UxO:Code:=Jj4 (Jll Tryz.f89) [1,1,0,1,0,0,1,0,0,1,0,0]
abbrev UhN:Sl (List SV):=(.c (sBx 55 (cB (cH .n))) (.c (sBx 55 (cB (cH .n))) (.c (sBx 55 (cB (.c sNl .n))) (cO 3 (cI (cI .n))))))
abbrev Uty (n m:Nat) (K:Kc R):UhN.T (O R):=fun x1 x2 x3 x4 x5 x6 x7 x8=>UeG n m x1 x2 x3 x4 x5 x6 x7 x8 (fun y1 y2 y3 y4 y5 y6 y7=>xL Ud3 6 K (.exit 2) [.bx 55 [vB y1,vH y2],.bx 55 [vB y3,vH y4],.bx 55 [vB y5,.nl],.own 3 y6,vI y7])
abbrev UED (n:Nat) (K:Kc R) (l0:UhN.T (O R)):UhN.T (O R):=fun x1 x2 x3 x4 x5 x6 x7 x8=>Ujj n l0 x1 x2 x3 x4 x5 x6 x7 x8 (fun y1 y2 y3 y4 y5 y6 y7=>xL Ud3 6 K (.exit 2) [.bx 55 [vB y1,vH y2],.bx 55 [vB y3,vH y4],.bx 55 [vB y5,.nl],.own 3 y6,vI y7])
noncomputable def Uqz:Code:=Jj4 (Jll Tryz.f89) [1,1,0,1,0,0,1,0,0,1,0,0,1,0,0,1,1,1,1,0,0]
abbrev Ufc:Sl (List SV):=(.c (sBx 55 (cB (cH .n))) (.c (sBx 55 (cB (cH .n))) (.c (sBx 55 (cB (.c sNl .n))) (cO 3 (cI (cI (cI (cI .n))))))))
abbrev Uls (n m:Nat) (K:Kc R):Ufc.T (O R):=fun x1 x2 x3 x4 x5 x6 x7 x8 x9 x10=>UcE n m x1 x2 x3 x4 x5 x6 x7 x8 x9 x10 (fun y1 y2 y3 y4 y5 y6 y7 y8=>xL Ud3 12 K (.exit 4) [.bx 55 [vB y1,vH y2],.bx 55 [vB y3,vH y4],.bx 55 [vB y5,.nl],.own 3 y6,vI y7,vI y8])
abbrev UAO (n:Nat) (K:Kc R) (l0:Ufc.T (O R)):Ufc.T (O R):=fun x1 x2 x3 x4 x5 x6 x7 x8 x9 x10=>Uf1 n l0 x1 x2 x3 x4 x5 x6 x7 x8 x9 x10 (fun y1 y2 y3 y4 y5 y6 y7 y8=>xL Ud3 12 K (.exit 4) [.bx 55 [vB y1,vH y2],.bx 55 [vB y3,vH y4],.bx 55 [vB y5,.nl],.own 3 y6,vI y7,vI y8])
abbrev UI0 (n:Nat):Orc R:=oL Ud3 (E89 n) n 12 Uqz Ufc (Uls n n) (oL Ud3 (E89 n) n 6 UxO UhN (Uty n n) (oL Ud3 (E89 n) n 3 UxN UhM (Utx n n) oN))
abbrev UIL (n:Nat):Orc R:=oN
abbrev K89 (R:Type) (n:Nat):=JcH (R:=R) Tryz.prog (UBH n) Ud3 n (85,[]) (UI0 n) (UIL n)
theorem UDl (n:Nat):K89 R n (false,12,Uqz):=JkF (lo:=UI0 n) (cu:=UIL n) (pO pN (by kernel_rfl)) Ufc (Uls n n) (JiE (F:=Uls n) Ufc (UAO n) (fun K _ _ _ _ _ _ _ _ _ _=>rfl) (fun _ _=>rfl) (fun L K _ _ _ _ _ _ _ _ _ _=>by show _=_; kernel_rfl) n) fun _ _=>rfl
theorem UH8 (n:Nat):K89 R n (false,6,UxO):=JkF (lo:=UI0 n) (cu:=UIL n) (pO (pC (UDl n) pN) (by kernel_rfl)) UhN (Uty n n) (JiE (F:=Uty n) UhN (UED n) (fun K _ _ _ _ _ _ _ _=>rfl) (fun _ _=>rfl) (fun L K _ _ _ _ _ _ _ _=>by show _=_; kernel_rfl) n) fun _ _=>rfl
theorem UH7 (n:Nat):K89 R n (false,3,UxN):=JkF (lo:=UI0 n) (cu:=UIL n) (pO (pC (UH8 n) pN) (by kernel_rfl)) UhM (Utx n n) (JiE (F:=Utx n) UhM (UEC n) (fun K _ _ _ _ _ _ _=>rfl) (fun _ _=>rfl) (fun L K _ _ _ _ _ _ _=>by show _=_; kernel_rfl) n) fun _ _=>rfl
theorem US6 (n:Nat):Je6 (K89 R n) (JaJ Ud3 (Jll Tryz.f89)):=pO (pC (UH7 n) pN) (by kernel_rfl)
abbrev t89:Sl (List SV):=(.c (sP (JlI (.c Jlf (.c sSh .n)))) (.c (sP (JlI (.c Jlf (.c sSh .n)))) .n))
abbrev f89 (n:Nat) (K:List SV→O R):t89.T (O R):=fun x1 x2 x3 x4=>p89 n x1 x2 x3 x4 (fun y1 y2=>K [.p (.agg [.v (.bool y1),.sh y2])])
abbrev UGv (n:Nat):FS:=fT [false,false] t89 (f89 n)
theorem UI8 (n:Nat):FSound Tryz.prog GI 89 (UGv n):=gd Ud3 n (Usn n) Tryz.func89 (.cons (Usn n) t89 (f89 n) (fun K _ _ _ _=>(Jkq (c:=Jll Tryz.f89) (by kernel_rfl) (US6 n) K).trans (by kernel_rfl)) .nil) (by kernel_rfl)
def Udn:Ann:={ loops:=[(3,[(0,.id),(2,.id),(3,.id),(4,.own 3)],ids [2,3,4])],cuts:=[(7,ids [0,2,3,4,5],ids [0,2,3,4])],frz:=[],rm:=[.id] }
abbrev Ura (n:Nat):Env:=eC 122 (Uk n) eN
theorem UnJ (n:Nat):EnvOK Tryz.prog GI (Ura n):=.cons (.nil) (Ulv n)
def UlD (n:Nat) (x1:Int) (x2 x3:Bool) (x4:LP) (x5:Int) (k0:Int→Bool→Bool→LP→O R):O R :=
 bif (Jbu (1 + (x4).length) 8) then (bif decide (10=0) then none else (k0 (IntKind.i64.wrap (Int.tdiv x1 10)) x2 x3 (([.v (.int .i64 x5)]:LP)++x4))) else none
def Uor (n:Nat) (l0:Int→Bool→Bool→LP→O R) (x1:Int) (x2 x3:Bool) (x4:LP) (k0:Bool→Bool→LP→O R):O R :=
 bif (x1 != 0) then (bif decide (10=0) then none else (bif (decide (Int.tmod x1 10<0)) then (let v5:=IntKind.i64.wrap (0 - (Int.tmod x1 10)); UlD n x1 x2 x3 x4 v5 (fun y6 y7 y8 y9=>l0 y6 y7 y8 y9)) else (UlD n x1 x2 x3 x4 (Int.tmod x1 10) (fun y10 y11 y12 y13=>l0 y10 y11 y12 y13)))) else (k0 x2 x3 x4)
def UiL (n:Nat):Nat→Int→Bool→Bool→LP→(Bool→Bool→LP→O R)→O R
 | 0,_,_,_,_,_=>none
 | m + 1,x1,x2,x3,x4,k0=>Uor n (fun x1 x2 x3 x4=>UiL n m x1 x2 x3 x4 k0) x1 x2 x3 x4 k0
def UCl (n:Nat) (x1:Int) (x2 x3:Bool) (x4:LP) (k0:Bool→Bool→LP→O R):O R:=UiL n n x1 x2 x3 x4 k0
def ULx (n:Nat) (x1:Int) (k0:Bool→LP→O R):O R :=
 UCl n x1 false (decide (x1<0)) [] (fun y2 y3 y4=>Uop n y3 y4 (fun y5 y6=>k0 y5 y6))
abbrev UM1 (n:Nat):Code→Fr→Kc R→O R:=evC Tryz.prog (Ura n) Udn n (25,[])
noncomputable def Uqj:Code:=Jj4 (Jll Tryz.f171) [1,1,1,0,0,0,1,0,1,1]
abbrev Umb:Sl (List SV):=(cI (.c (sBx 55 (cB (.c sNl .n))) (cB (cO 3 (cI .n)))))
abbrev UsR (n:Nat) (K:Kc R):Umb.T (O R):=fun x1 x2 x3 x4 x5=>UlD n x1 x2 x3 x4 x5 (fun y1 y2 y3 y4=>xC Udn 7 K .normal [vI y1,.bx 55 [vB y2,.nl],vB y3,.own 3 y4])
noncomputable def Uqk:Code:=Jj4 (Jll Tryz.f171) [1,1,1,0,0,0]
abbrev Ue7:Sl (List SV):=(cI (.c (sBx 55 (cB (.c sNl .n))) (cB (cO 3 .n))))
abbrev Ulm (n m:Nat) (K:Kc R):Ue7.T (O R):=fun x1 x2 x3 x4=>UiL n m x1 x2 x3 x4 (fun y1 y2 y3=>xL Udn 3 K (.exit 0) [.bx 55 [vB y1,.nl],vB y2,.own 3 y3])
abbrev UAD (n:Nat) (K:Kc R) (l0:Ue7.T (O R)):Ue7.T (O R):=fun x1 x2 x3 x4=>Uor n l0 x1 x2 x3 x4 (fun y1 y2 y3=>xL Udn 3 K (.exit 0) [.bx 55 [vB y1,.nl],vB y2,.own 3 y3])
abbrev UCc (n:Nat):Orc R:=oL Udn (UM1 n) n 3 Uqk Ue7 (Ulm n n) oN
abbrev UA0 (n:Nat):Orc R:=oC Udn (UM1 n) 7 Uqj Umb (UsR n) oN
abbrev UJr (R:Type) (n:Nat):=JcH (R:=R) Tryz.prog (Ura n) Udn n (25,[]) (UCc n) (UA0 n)
theorem UC6 (n:Nat):UJr R n (true,7,Uqj):=JkW (lo:=UCc n) (cu:=UA0 n) (pO pN (by kernel_rfl)) Umb (UsR n) (fun K _ _ _ _ _=>by show _=_; kernel_rfl) fun _ _=>rfl
theorem UC7 (n:Nat):UJr R n (false,3,Uqk):=JkF (lo:=UCc n) (cu:=UA0 n) (pO (pC (UC6 n) pN) (by kernel_rfl)) Ue7 (Ulm n n) (JiE (F:=Ulm n) Ue7 (UAD n) (fun K _ _ _ _=>rfl) (fun _ _=>rfl) (fun L K _ _ _ _=>by show _=_; kernel_rfl) n) fun _ _=>rfl
theorem UMb (n:Nat):Je6 (UJr R n) (JaJ Udn (Jll Tryz.f171)):=pO (pC (UC7 n) pN) (by kernel_rfl)
abbrev t171:Sl (List SV):=(cI .n)
abbrev f171 (n:Nat) (K:List SV→O R):t171.T (O R):=fun x1=>ULx n x1 (fun y1 y2=>K [.p (.agg [.v (.bool y1),.sh y2])])
abbrev UGn (n:Nat):FS:=fT [false] t171 (f171 n)
theorem ULe (n:Nat):FSound Tryz.prog GI 171 (UGn n):=gd Udn n (UnJ n) Tryz.func171 (.cons (UnJ n) t171 (f171 n) (fun K _=>(Jkq (c:=Jll Tryz.f171) (by kernel_rfl) (UMb n) K).trans (by kernel_rfl)) .nil) (by kernel_rfl)
def UbT:Ann:={ loops:=[(4,[(2,.id),(3,.id),(4,.id),(5,.id),(6,.id),(7,.own 3),(8,.id)],ids [2,3,4,5,6,7]),(10,ids [2,3,4,5,6,7,8,10],ids [2,3,4,5,6,7,8,10])],cuts:=[(17,ids [2,3,4,5,11],ids [4,5])],frz:=[],rm:=[.id,.id] }
abbrev Uq7 (n:Nat):Env:=eC 171 (UGn n) (eC 147 (UBY n) (eC 146 (UBX n) (eC 122 (Uk n) (eC 121 (UBT n) (eC 89 (UGv n) eN)))))
theorem UnE (n:Nat):EnvOK Tryz.prog GI (Uq7 n):=.cons (.cons (.cons (.cons (.cons (.cons (.nil) (UI8 n)) (UGU n)) (Ulv n)) (UGY n)) (UGZ n)) (ULe n)
def Ugy (n:Nat) (l0:Bool→LP→Bool→LP→Bool→Bool→Bool→LP→LP→Int→Int→O R) (x1:Bool) (x2:LP) (x3:Bool) (x4:LP) (x5 x6 x7:Bool) (x8 x9:LP) (x10 x11:Int) (k0:Bool→LP→Bool→LP→Bool→Bool→Bool→LP→LP→Int→Int→O R):O R :=
 UHb n x8 x4 (fun y12=>bif (decide (y12≥0)) then (UCk n x8 x4 (-1) (fun y13=>Uop n false y13 (fun y14 y15=>l0 x1 x2 x3 x4 x5 x6 y14 y15 x9 x10 (IntKind.i64.wrap (x11 + 1))))) else (k0 x1 x2 x3 x4 x5 x6 x7 x8 x9 x10 x11))
def Ub8 (n:Nat):Nat→Bool→LP→Bool→LP→Bool→Bool→Bool→LP→LP→Int→Int→(Bool→LP→Bool→LP→Bool→Bool→Bool→LP→LP→Int→Int→O R)→O R
 | 0,_,_,_,_,_,_,_,_,_,_,_,_=>none
 | m + 1,x1,x2,x3,x4,x5,x6,x7,x8,x9,x10,x11,k0=>Ugy n (fun x1 x2 x3 x4 x5 x6 x7 x8 x9 x10 x11=>Ub8 n m x1 x2 x3 x4 x5 x6 x7 x8 x9 x10 x11 k0) x1 x2 x3 x4 x5 x6 x7 x8 x9 x10 x11 k0
def Uoq (n:Nat) (x1:Bool) (x2:LP) (x3:Bool) (x4:LP) (x5 x6 x7:Bool) (x8 x9:LP) (x10 x11:Int) (k0:Bool→LP→Bool→LP→Bool→Bool→Bool→LP→LP→Int→Int→O R):O R:=Ub8 n n x1 x2 x3 x4 x5 x6 x7 x8 x9 x10 x11 k0
def UfS (n:Nat) (l0:Bool→LP→Bool→LP→Bool→Bool→Bool→LP→LP→Int→O R) (x1:Bool) (x2:LP) (x3:Bool) (x4:LP) (x5 x6 x7:Bool) (x8 x9:LP) (x10:Int) (k0:Bool→LP→Bool→LP→Bool→Bool→Bool→LP→LP→O R):O R :=
 bif (decide (x10<((x2).length:Int))) then (bif (Jgx 1 x8&&Jbu ((x8).length) 8) then (bif (inR x10 ((x2).length)) then (Jj .i64 ((x2).getD ((x10:Int).toNat) (.v (.bool false))) fun e11=>bif (Jbu ((x8).length + 1) 8) then (Uop n false (x8++([.v (.int .i64 e11)]:LP)) (fun y12 y13=>Uoq n x1 x2 x3 x4 x5 x6 y12 y13 x9 x10 0 (fun y14 y15 y16 y17 y18 y19 y20 y21 y22 y23 y24=>bif (Jbu ((y22).length + 1) 8) then (l0 y14 y15 y16 y17 y18 y19 y20 y21 (y22++([.v (.int .i64 y24)]:LP)) (IntKind.i64.wrap (y23 + 1))) else none))) else none) else none) else none) else (k0 x1 x2 x3 x4 x5 x6 x7 x8 x9)
def UbH (n:Nat):Nat→Bool→LP→Bool→LP→Bool→Bool→Bool→LP→LP→Int→(Bool→LP→Bool→LP→Bool→Bool→Bool→LP→LP→O R)→O R
 | 0,_,_,_,_,_,_,_,_,_,_,_=>none
 | m + 1,x1,x2,x3,x4,x5,x6,x7,x8,x9,x10,k0=>UfS n (fun x1 x2 x3 x4 x5 x6 x7 x8 x9 x10=>UbH n m x1 x2 x3 x4 x5 x6 x7 x8 x9 x10 k0) x1 x2 x3 x4 x5 x6 x7 x8 x9 x10 k0
def Uuh (n:Nat) (x1:Bool) (x2:LP) (x3:Bool) (x4:LP) (x5 x6 x7:Bool) (x8 x9:LP) (x10:Int) (k0:Bool→LP→Bool→LP→Bool→Bool→Bool→LP→LP→O R):O R:=UbH n n x1 x2 x3 x4 x5 x6 x7 x8 x9 x10 k0
def Ucs (n:Nat) (x1:Bool) (x2:LP) (x3:Bool) (x4:LP) (x5 x6 x7:Bool) (x8:LP) (k0:Bool→LP→Bool→LP→O R):O R :=
 p89 n x7 x8 x3 x4 (fun y9 y10=>UCi n x1 x2 y9 y10 (fun y11 y12=>k0 x7 x8 y11 y12))
def UCj (n:Nat) (x1:Bool) (x2:LP) (x3:Bool) (x4:LP) (k0:Bool→LP→Bool→LP→O R):O R :=
 Uuh n x1 x2 x3 x4 false false false [] [] 0 (fun y5 y6 y7 y8 y9 y10 y11 y12 y13=>Uop n (!(y5 == y7)) y13 (fun y14 y15=>bif (decide (((y12).length:Int)>0)) then (bif (bif true then (!(y5 == y7)) else false) then (ULx n 1 (fun y16 y17=>UCi n y14 y15 y16 y17 (fun y18 y19=>Ucs n y5 y6 y7 y8 y9 y10 y18 y19 (fun y20 y21 y22 y23=>k0 y20 y21 y22 y23)))) else (Ucs n y5 y6 y7 y8 y9 y10 y14 y15 (fun y24 y25 y26 y27=>k0 y24 y25 y26 y27))) else (Ucs n y5 y6 y7 y8 y9 y10 y14 y15 (fun y28 y29 y30 y31=>k0 y28 y29 y30 y31))))
abbrev UJn (n:Nat):Code→Fr→Kc R→O R:=evC Tryz.prog (Uq7 n) UbT n (78,[])
noncomputable def UmP:Code:=Jj4 (Jll Tryz.f145) [1,1,1,1,1,1]
abbrev UjM:Sl (List SV):=(.c (sBx 55 (cB (cH .n))) (.c (sBx 55 (cB (cH .n))) (.c (sBx 55 (cB (.c sNl .n))) (.c (sBx 55 (cB (.c sNl .n))) (.c (sBx 55 (cB (cH .n))) .n)))))
abbrev Un2 (n:Nat) (K:Kc R):UjM.T (O R):=fun x1 x2 x3 x4 x5 x6 x7 x8=>Ucs n x1 x2 x3 x4 x5 x6 x7 x8 (fun y1 y2 y3 y4=>xC UbT 17 K .ret [.bx 55 [vB y1,vH y2],.bx 55 [vB y3,vH y4]])
noncomputable def Uqb:Code:=Jj4 (Jll Tryz.f145) [1,1,1,0,1,0,0]
abbrev Ue2:Sl (List SV):=(.c (sBx 55 (cB (cH .n))) (.c (sBx 55 (cB (cH .n))) (.c (sBx 55 (cB (.c sNl .n))) (.c (sBx 55 (cB (.c sNl .n))) (.c (sBx 55 (cB (cH .n))) (cO 3 (cI .n)))))))
abbrev Ulh (n m:Nat) (K:Kc R):Ue2.T (O R):=fun x1 x2 x3 x4 x5 x6 x7 x8 x9 x10=>UbH n m x1 x2 x3 x4 x5 x6 x7 x8 x9 x10 (fun y1 y2 y3 y4 y5 y6 y7 y8 y9=>xL UbT 4 K (.exit 0) [.bx 55 [vB y1,vH y2],.bx 55 [vB y3,vH y4],.bx 55 [vB y5,.nl],.bx 55 [vB y6,.nl],.bx 55 [vB y7,vH y8],.own 3 y9])
abbrev UAy (n:Nat) (K:Kc R) (l0:Ue2.T (O R)):Ue2.T (O R):=fun x1 x2 x3 x4 x5 x6 x7 x8 x9 x10=>UfS n l0 x1 x2 x3 x4 x5 x6 x7 x8 x9 x10 (fun y1 y2 y3 y4 y5 y6 y7 y8 y9=>xL UbT 4 K (.exit 0) [.bx 55 [vB y1,vH y2],.bx 55 [vB y3,vH y4],.bx 55 [vB y5,.nl],.bx 55 [vB y6,.nl],.bx 55 [vB y7,vH y8],.own 3 y9])
noncomputable def UmQ:Code:=Jj4 (Jll Tryz.f145) [1,1,1,0,1,0,0,1,0,0,1,1,1,1,0,0,0]
abbrev UcM:Sl (List SV):=(.c (sBx 55 (cB (cH .n))) (.c (sBx 55 (cB (cH .n))) (.c (sBx 55 (cB (.c sNl .n))) (.c (sBx 55 (cB (.c sNl .n))) (.c (sBx 55 (cB (cH .n))) (cO 3 (cI (cI .n))))))))
abbrev Uil (n m:Nat) (K:Kc R):UcM.T (O R):=fun x1 x2 x3 x4 x5 x6 x7 x8 x9 x10 x11=>Ub8 n m x1 x2 x3 x4 x5 x6 x7 x8 x9 x10 x11 (fun y1 y2 y3 y4 y5 y6 y7 y8 y9 y10 y11=>xL UbT 10 K (.exit 2) [.bx 55 [vB y1,vH y2],.bx 55 [vB y3,vH y4],.bx 55 [vB y5,.nl],.bx 55 [vB y6,.nl],.bx 55 [vB y7,vH y8],.own 3 y9,vI y10,vI y11])
abbrev UvH (n:Nat) (K:Kc R) (l0:UcM.T (O R)):UcM.T (O R):=fun x1 x2 x3 x4 x5 x6 x7 x8 x9 x10 x11=>Ugy n l0 x1 x2 x3 x4 x5 x6 x7 x8 x9 x10 x11 (fun y1 y2 y3 y4 y5 y6 y7 y8 y9 y10 y11=>xL UbT 10 K (.exit 2) [.bx 55 [vB y1,vH y2],.bx 55 [vB y3,vH y4],.bx 55 [vB y5,.nl],.bx 55 [vB y6,.nl],.bx 55 [vB y7,vH y8],.own 3 y9,vI y10,vI y11])
abbrev Uwa (n:Nat):Orc R:=oL UbT (UJn n) n 10 UmQ UcM (Uil n n) (oL UbT (UJn n) n 4 Uqb Ue2 (Ulh n n) oN)
abbrev UvR (n:Nat):Orc R:=oC UbT (UJn n) 17 UmP UjM (Un2 n) oN
abbrev UIF (R:Type) (n:Nat):=JcH (R:=R) Tryz.prog (Uq7 n) UbT n (78,[]) (Uwa n) (UvR n)
theorem UwH (n:Nat):UIF R n (false,10,UmQ):=JkF (lo:=Uwa n) (cu:=UvR n) (pO pN (by kernel_rfl)) UcM (Uil n n) (JiE (F:=Uil n) UcM (UvH n) (fun K _ _ _ _ _ _ _ _ _ _ _=>rfl) (fun _ _=>rfl) (fun L K _ _ _ _ _ _ _ _ _ _ _=>by show _=_; kernel_rfl) n) fun _ _=>rfl
theorem UCY (n:Nat):UIF R n (false,4,Uqb):=JkF (lo:=Uwa n) (cu:=UvR n) (pO (pC (UwH n) pN) (by kernel_rfl)) Ue2 (Ulh n n) (JiE (F:=Ulh n) Ue2 (UAy n) (fun K _ _ _ _ _ _ _ _ _ _=>rfl) (fun _ _=>rfl) (fun L K _ _ _ _ _ _ _ _ _ _=>by show _=_; kernel_rfl) n) fun _ _=>rfl
theorem UwG (n:Nat):UIF R n (true,17,UmP):=JkW (lo:=Uwa n) (cu:=UvR n) (pO pN (by kernel_rfl)) UjM (Un2 n) (fun K _ _ _ _ _ _ _ _=>by show _=_; kernel_rfl) fun _ _=>rfl
theorem UL7 (n:Nat):Je6 (UIF R n) (JaJ UbT (Jll Tryz.f145)):=pO (pC (UCY n) (pC (UwG n) pN)) (by kernel_rfl)
abbrev t145:Sl (List SV):=(.c (sP (JlI (.c Jlf (.c sSh .n)))) (.c (sP (JlI (.c Jlf (.c sSh .n)))) .n))
abbrev f145 (n:Nat) (K:List SV→O R):t145.T (O R):=fun x1 x2 x3 x4=>UCj n x1 x2 x3 x4 (fun y1 y2 y3 y4=>K [.p (.agg [.v (.bool y1),.sh y2]),.p (.agg [.v (.bool y3),.sh y4])])
abbrev UBW (n:Nat):FS:=fT [false,false] t145 (f145 n)
theorem UGX (n:Nat):FSound Tryz.prog GI 145 (UBW n):=gd UbT n (UnE n) Tryz.func145 (.cons (UnE n) t145 (f145 n) (fun K _ _ _ _=>(Jkq (c:=Jll Tryz.f145) (by kernel_rfl) (UL7 n) K).trans (by kernel_rfl)) .nil) (by kernel_rfl)
def Ugc:Ann:={ loops:=[(1,ids [2,3,4],ids [2,4])],cuts:=[],frz:=[],rm:=[.id] }
abbrev Uq6 (n:Nat):Env:=eC 145 (UBW n) (eC 122 (Uk n) eN)
theorem UnC (n:Nat):EnvOK Tryz.prog GI (Uq6 n):=.cons (.cons (.nil) (Ulv n)) (UGX n)
def UiI (n:Nat) (l0:Bool→LP→Bool→LP→Bool→O R) (x1:Bool) (x2:LP) (x3:Bool) (x4:LP) (x5:Bool) (k0:Bool→LP→Bool→O R):O R :=
 bif (decide (((x4).length:Int)>0)) then (UCj n x1 x2 x3 x4 (fun y6 y7 y8 y9=>l0 x3 x4 y8 y9 x5)) else (k0 x1 x2 x5)
def UdO (n:Nat):Nat→Bool→LP→Bool→LP→Bool→(Bool→LP→Bool→O R)→O R
 | 0,_,_,_,_,_,_=>none
 | m + 1,x1,x2,x3,x4,x5,k0=>UiI n (fun x1 x2 x3 x4 x5=>UdO n m x1 x2 x3 x4 x5 k0) x1 x2 x3 x4 x5 k0
def Uug (n:Nat) (x1:Bool) (x2:LP) (x3:Bool) (x4:LP) (x5:Bool) (k0:Bool→LP→Bool→O R):O R:=UdO n n x1 x2 x3 x4 x5 k0
def UJg (n:Nat) (x1:Bool) (x2:LP) (x3:Bool) (x4:LP) (k0:Bool→LP→O R):O R :=
 Uug n x1 x2 x3 x4 false (fun y5 y6 y7=>Uop n false y6 (fun y8 y9=>k0 y8 y9))
abbrev UPo (n:Nat):Code→Fr→Kc R→O R:=evC Tryz.prog (Uq6 n) Ugc n (22,[])
noncomputable def Uqa:Code:=Jj4 (Jll Tryz.f143) [1,0,0,0]
abbrev Ue1:Sl (List SV):=(.c (sBx 55 (cB (cH .n))) (.c (sBx 55 (cB (cH .n))) (.c (sBx 55 (cB (.c sNl .n))) .n)))
abbrev Ulg (n m:Nat) (K:Kc R):Ue1.T (O R):=fun x1 x2 x3 x4 x5=>UdO n m x1 x2 x3 x4 x5 (fun y1 y2 y3=>xL Ugc 1 K (.exit 0) [.bx 55 [vB y1,vH y2],.bx 55 [vB y3,.nl]])
abbrev UAx (n:Nat) (K:Kc R) (l0:Ue1.T (O R)):Ue1.T (O R):=fun x1 x2 x3 x4 x5=>UiI n l0 x1 x2 x3 x4 x5 (fun y1 y2 y3=>xL Ugc 1 K (.exit 0) [.bx 55 [vB y1,vH y2],.bx 55 [vB y3,.nl]])
abbrev UGI (n:Nat):Orc R:=oL Ugc (UPo n) n 1 Uqa Ue1 (Ulg n n) oN
abbrev UEV (n:Nat):Orc R:=oN
abbrev UNb (R:Type) (n:Nat):=JcH (R:=R) Tryz.prog (Uq6 n) Ugc n (22,[]) (UGI n) (UEV n)
theorem UCX (n:Nat):UNb R n (false,1,Uqa):=JkF (lo:=UGI n) (cu:=UEV n) (pO pN (by kernel_rfl)) Ue1 (Ulg n n) (JiE (F:=Ulg n) Ue1 (UAx n) (fun K _ _ _ _ _=>rfl) (fun _ _=>rfl) (fun L K _ _ _ _ _=>by show _=_; kernel_rfl) n) fun _ _=>rfl
theorem UL5 (n:Nat):Je6 (UNb R n) (JaJ Ugc (Jll Tryz.f143)):=pO (pC (UCX n) pN) (by kernel_rfl)
abbrev t143:Sl (List SV):=(.c (sP (JlI (.c Jlf (.c sSh .n)))) (.c (sP (JlI (.c Jlf (.c sSh .n)))) .n))
abbrev f143 (n:Nat) (K:List SV→O R):t143.T (O R):=fun x1 x2 x3 x4=>UJg n x1 x2 x3 x4 (fun y1 y2=>K [.p (.agg [.v (.bool y1),.sh y2])])
abbrev UGi (n:Nat):FS:=fT [false,false] t143 (f143 n)
theorem UL (n:Nat):FSound Tryz.prog GI 143 (UGi n):=gd Ugc n (UnC n) Tryz.func143 (.cons (UnC n) t143 (f143 n) (fun K _ _ _ _=>(Jkq (c:=Jll Tryz.f143) (by kernel_rfl) (UL5 n) K).trans (by kernel_rfl)) .nil) (by kernel_rfl)
def Udg:Ann:={ loops:=[(7,ids [1,3,4],ids [2,3])],cuts:=[(6,ids [1,3],ids [2])],frz:=[],rm:=[.id] }
abbrev UqT (n:Nat):Env:=eN
theorem Unh (n:Nat):EnvOK Tryz.prog GI (UqT n):=.nil
def UfH (n:Nat) (l0:Bool→LP→ByteArray→Int→O R) (x1:Bool) (x2:LP) (x3:ByteArray) (x4:Int) (k0:ByteArray→O R):O R :=
 bif (decide (x4<((x2).length:Int))) then (bif (inR x4 ((x2).length)) then (Jj .i64 ((x2).getD ((x4:Int).toNat) (.v (.bool false))) fun e5=>bif (inR x4 ((x2).length)) then (Jj .i64 ((x2).getD ((x4:Int).toNat) (.v (.bool false))) fun e6=>bif (Je5 e5 (IntKind.i64.wrap (e6 + 1)) ((⟨#[48,49,50,51,52,53,54,55,56,57]⟩:ByteArray)).size) then (Jj0 x3 (ByteArray.extract (⟨#[48,49,50,51,52,53,54,55,56,57]⟩:ByteArray) (e5:Int).toNat (IntKind.i64.wrap (e6 + 1):Int).toNat) fun s7=>l0 x1 x2 s7 (IntKind.i64.wrap (x4 + 1))) else none) else none) else none) else (k0 x3)
def Uck (n:Nat):Nat→Bool→LP→ByteArray→Int→(ByteArray→O R)→O R
 | 0,_,_,_,_,_=>none
 | m + 1,x1,x2,x3,x4,k0=>UfH n (fun x1 x2 x3 x4=>Uck n m x1 x2 x3 x4 k0) x1 x2 x3 x4 k0
def Ut5 (n:Nat) (x1:Bool) (x2:LP) (x3:ByteArray) (x4:Int) (k0:ByteArray→O R):O R:=Uck n n x1 x2 x3 x4 k0
def UiA (n:Nat) (x1:Bool) (x2:LP) (x3:ByteArray) (k0:ByteArray→O R):O R :=
 Ut5 n x1 x2 x3 0 (fun y4=>k0 y4)
def UDS (n:Nat) (x1:Bool) (x2:LP) (k0:ByteArray→O R):O R :=
 bif (((x2).length:Int) == 0) then (k0 ⟨#[48]⟩) else (bif x1 then (UiA n x1 x2 ⟨#[45]⟩ (fun y3=>k0 y3)) else (UiA n x1 x2 ⟨#[]⟩ (fun y4=>k0 y4)))
abbrev UMX (n:Nat):Code→Fr→Kc R→O R:=evC Tryz.prog (UqT n) Udg n (33,[])
noncomputable def UpO:Code:=Jj4 (Jll Tryz.f112) [1,1,1,1]
abbrev UlY:Sl (List SV):=(.c (sBx 55 (cB (cH .n))) (cS .n))
abbrev UsC (n:Nat) (K:Kc R):UlY.T (O R):=fun x1 x2 x3=>UiA n x1 x2 x3 (fun y1=>xC Udg 6 K .ret [vS y1])
noncomputable def UpP:Code:=Jj4 (Jll Tryz.f112) [1,1,1,1,0,1,0,0]
abbrev UeQ:Sl (List SV):=(.c (sBx 55 (cB (cH .n))) (cS (cI .n)))
abbrev Uk6 (n m:Nat) (K:Kc R):UeQ.T (O R):=fun x1 x2 x3 x4=>Uck n m x1 x2 x3 x4 (fun y1=>xL Udg 7 K (.exit 0) [dD,vS y1])
abbrev UAm (n:Nat) (K:Kc R) (l0:UeQ.T (O R)):UeQ.T (O R):=fun x1 x2 x3 x4=>UfH n l0 x1 x2 x3 x4 (fun y1=>xL Udg 7 K (.exit 0) [dD,vS y1])
abbrev UC (n:Nat):Orc R:=oL Udg (UMX n) n 7 UpP UeQ (Uk6 n n) oN
abbrev UAX (n:Nat):Orc R:=oC Udg (UMX n) 6 UpO UlY (UsC n) oN
abbrev UJo (R:Type) (n:Nat):=JcH (R:=R) Tryz.prog (UqT n) Udg n (33,[]) (UC n) (UAX n)
theorem UCB (n:Nat):UJo R n (false,7,UpP):=JkF (lo:=UC n) (cu:=UAX n) (pO pN (by kernel_rfl)) UeQ (Uk6 n n) (JiE (F:=Uk6 n) UeQ (UAm n) (fun K _ _ _ _=>rfl) (fun _ _=>rfl) (fun L K _ _ _ _=>by show _=_; kernel_rfl) n) fun _ _=>rfl
theorem UCA (n:Nat):UJo R n (true,6,UpO):=JkW (lo:=UC n) (cu:=UAX n) (pO (pC (UCB n) pN) (by kernel_rfl)) UlY (UsC n) (fun K _ _ _=>by show _=_; kernel_rfl) fun _ _=>rfl
theorem ULK (n:Nat):Je6 (UJo R n) (JaJ Udg (Jll Tryz.f112)):=pO (pC (UCA n) pN) (by kernel_rfl)
abbrev UMr:Sl (List SV):=(.c (sP (JlI (.c Jlf (.c sSh .n)))) .n)
abbrev f112 (n:Nat) (K:List SV→O R):UMr.T (O R):=fun x1 x2=>UDS n x1 x2 (fun y1=>K [vS y1])
abbrev UFZ (n:Nat):FS:=fT [false] UMr (f112 n)
theorem UKQ (n:Nat):FSound Tryz.prog GI 112 (UFZ n):=gd Udg n (Unh n) Tryz.func112 (.cons (Unh n) UMr (f112 n) (fun K _ _=>(Jkq (c:=Jll Tryz.f112) (by kernel_rfl) (ULK n) K).trans (by kernel_rfl)) .nil) (by kernel_rfl)
def Udk:Ann:={ loops:=[(4,[(0,.id),(2,.id),(3,.id),(4,.own 3),(5,.id)],ids [2,3,4])],cuts:=[(5,ids [0,2,3,4,5],ids [0,2,3,4,5])],frz:=[],rm:=[.id] }
abbrev Uq2 (n:Nat):Env:=eC 122 (Uk n) eN
theorem Unu (n:Nat):EnvOK Tryz.prog GI (Uq2 n):=.cons (.nil) (Ulv n)
def Ugx (n:Nat) (x1:ByteArray) (x2 x3:Bool) (x4:LP) (x5:Int) (k0:ByteArray→Bool→Bool→LP→Int→O R):O R :=
 k0 x1 x2 x3 x4 (IntKind.i64.wrap (x5 + 1))
def UdN (n:Nat) (l0:ByteArray→Bool→Bool→LP→Int→O R) (x1:ByteArray) (x2 x3:Bool) (x4:LP) (x5:Int) (k0:Bool→Bool→LP→O R):O R :=
 bif (decide (x5<((x1).size:Int))) then (bif (inR x5 (x1).size) then (bif (Jc6 x1 x5 == 45) then (Ugx n x1 x2 true x4 x5 (fun y6 y7 y8 y9 y10=>l0 y6 y7 y8 y9 y10)) else (bif (inR x5 (x1).size) then (let v11:=IntKind.u8.wrap ((Jc6 x1 x5) - 48); bif (Jbu ((x4).length + 1) 8) then (Ugx n x1 x2 x3 (x4++([.v (.int .i64 (IntKind.i64.wrap (v11)))]:LP)) x5 (fun y12 y13 y14 y15 y16=>l0 y12 y13 y14 y15 y16)) else none) else none)) else none) else (k0 x2 x3 x4)
def UbF (n:Nat):Nat→ByteArray→Bool→Bool→LP→Int→(Bool→Bool→LP→O R)→O R
 | 0,_,_,_,_,_,_=>none
 | m + 1,x1,x2,x3,x4,x5,k0=>UdN n (fun x1 x2 x3 x4 x5=>UbF n m x1 x2 x3 x4 x5 k0) x1 x2 x3 x4 x5 k0
def Uuc (n:Nat) (x1:ByteArray) (x2 x3:Bool) (x4:LP) (x5:Int) (k0:Bool→Bool→LP→O R):O R:=UbF n n x1 x2 x3 x4 x5 k0
def UyL (n:Nat) (x1:ByteArray) (k0:Bool→LP→O R):O R :=
 Uuc n x1 false false [] 0 (fun y2 y3 y4=>Uop n y3 y4 (fun y5 y6=>k0 y5 y6))
abbrev UM0 (n:Nat):Code→Fr→Kc R→O R:=evC Tryz.prog (Uq2 n) Udk n (27,[])
noncomputable def Up3:Code:=Jj4 (Jll Tryz.f125) [1,1,1,0,1,0,0,1,1]
abbrev Ul6:Sl (List SV):=(cS (.c (sBx 55 (cB (.c sNl .n))) (cB (cO 3 (cI .n)))))
abbrev UsK (n:Nat) (K:Kc R):Ul6.T (O R):=fun x1 x2 x3 x4 x5=>Ugx n x1 x2 x3 x4 x5 (fun y1 y2 y3 y4 y5=>xC Udk 5 K .normal [vS y1,.bx 55 [vB y2,.nl],vB y3,.own 3 y4,vI y5])
noncomputable def Up4:Code:=Jj4 (Jll Tryz.f125) [1,1,1,0,1,0,0]
abbrev UeX:Sl (List SV):=(cS (.c (sBx 55 (cB (.c sNl .n))) (cB (cO 3 (cI .n)))))
abbrev Ulc (n m:Nat) (K:Kc R):UeX.T (O R):=fun x1 x2 x3 x4 x5=>UbF n m x1 x2 x3 x4 x5 (fun y1 y2 y3=>xL Udk 4 K (.exit 0) [.bx 55 [vB y1,.nl],vB y2,.own 3 y3])
abbrev UAt (n:Nat) (K:Kc R) (l0:UeX.T (O R)):UeX.T (O R):=fun x1 x2 x3 x4 x5=>UdN n l0 x1 x2 x3 x4 x5 (fun y1 y2 y3=>xL Udk 4 K (.exit 0) [.bx 55 [vB y1,.nl],vB y2,.own 3 y3])
abbrev UCb (n:Nat):Orc R:=oL Udk (UM0 n) n 4 Up4 UeX (Ulc n n) oN
abbrev UAZ (n:Nat):Orc R:=oC Udk (UM0 n) 5 Up3 Ul6 (UsK n) oN
abbrev UJq (R:Type) (n:Nat):=JcH (R:=R) Tryz.prog (Uq2 n) Udk n (27,[]) (UCb n) (UAZ n)
theorem UCQ (n:Nat):UJq R n (true,5,Up3):=JkW (lo:=UCb n) (cu:=UAZ n) (pO pN (by kernel_rfl)) Ul6 (UsK n) (fun K _ _ _ _ _=>by show _=_; kernel_rfl) fun _ _=>rfl
theorem UCR (n:Nat):UJq R n (false,4,Up4):=JkF (lo:=UCb n) (cu:=UAZ n) (pO (pC (UCQ n) pN) (by kernel_rfl)) UeX (Ulc n n) (JiE (F:=Ulc n) UeX (UAt n) (fun K _ _ _ _ _=>rfl) (fun _ _=>rfl) (fun L K _ _ _ _ _=>by show _=_; kernel_rfl) n) fun _ _=>rfl
theorem ULX (n:Nat):Je6 (UJq R n) (JaJ Udk (Jll Tryz.f125)):=pO (pC (UCR n) pN) (by kernel_rfl)
abbrev UMA:Sl (List SV):=(cS .n)
abbrev f125 (n:Nat) (K:List SV→O R):UMA.T (O R):=fun x1=>UyL n x1 (fun y1 y2=>K [.p (.agg [.v (.bool y1),.sh y2])])
abbrev UBV (n:Nat):FS:=fT [false] UMA (f125 n)
theorem UGW (n:Nat):FSound Tryz.prog GI 125 (UBV n):=gd Udk n (Unu n) Tryz.func125 (.cons (Unu n) UMA (f125 n) (fun K _=>(Jkq (c:=Jll Tryz.f125) (by kernel_rfl) (ULX n) K).trans (by kernel_rfl)) .nil) (by kernel_rfl)
end
end Go.Proofs.YtmgfmlhdnadglaaGreatDoor
set_option linter.unusedVariables false
set_option linter.unusedSimpArgs false
namespace Go.Proofs.YtmgfmlhdnadglaaGreatDoor
open Go Th Go.Proofs
variable {R:Type}
theorem UgU {l:List Nat} {i:Nat} (h:i<l.length):l=l.take i++l.getD i 0::l.drop (i + 1):=by
 conv=>lhs; rw [←List.take_append_drop i l]
 rw [Udt h]
theorem Uzq {l:List Nat} {i:Nat} (d:Nat) (h:i<l.length):vb (l.set i d) + l.getD i 0 * 10 ^ (l.length - 1 - i)=vb l + d * 10 ^ (l.length - 1 - i):=by
 have e1:vb l=vb (l.take i) * 10 ^ (l.length - i) + (l.getD i 0 * 10 ^ (l.length - 1 - i) + vb (l.drop (i + 1))):=by
  conv=>lhs; rw [UgU h]
  rw [Ud1,Udc,List.length_cons,List.length_drop]
  congr 2
  · congr 1; omega
  · congr 2; omega
 have e2:vb (l.set i d)=vb (l.take i) * 10 ^ (l.length - i) + (d * 10 ^ (l.length - 1 - i) + vb (l.drop (i + 1))):=by
  rw [List.set_eq_take_append_cons_drop,if_pos h,Ud1,Udc,List.length_cons,List.length_drop]
  congr 2
  · congr 1; omega
  · congr 2; omega
 omega
theorem Ucd {l:List Nat} {i:Nat} (h:i<l.length):vb (l.take (i + 1))=10 * vb (l.take i) + l.getD i 0:=by
 rw [Ubk h,Umr]
theorem Uzp (a:Nat):Int.tmod (a:Int) 10=((a % 10:Nat):Int):=Jlk a 10
theorem Uzo (a:Nat):Int.tdiv (a:Int) 10=((a / 10:Nat):Int):=Jlj a 10
theorem UgX (n:Nat) (x1:Bool) (x2:List PV) (x3:Bool) (x4:List PV) (x5:Bool) (i k:Int):∀ (m at_ x:Nat) (o:List Nat),at_<m→(∀ d∈o,d<10)→at_<o.length→o.length<2 ^ 40→x<100→vb o + x * 10 ^ (o.length - at_)<10 ^ o.length →
 ∃ o':List Nat,(∀ k0:Bool→List PV→Bool→List PV→Bool→List PV→Int→Int→Option R,UcE n m x1 x2 x3 x4 x5 (nl .i64 o) i k at_ x k0=k0 x1 x2 x3 x4 x5 (nl .i64 o') i k)∧(∀ d∈o',d<10)∧o'.length=o.length∧vb o'=vb o + x * 10 ^ (o.length - at_)
 | m + 1,at_,x,o,hm,ho,hat,hl,hx,hv=>by
  by_cases h0:x=0
  · subst h0
    refine ⟨o,fun k0=>?_,ho,rfl,by simp⟩
    simp only [UcE,Uf1]
    simp (disch:=(first | omega | (simp only [JlE]; omega))) only [↓JlH,JlF,JlG]
  · have hat0:at_≠0:=by
     intro e
     subst e
     rw [Nat.sub_zero] at hv
     have:1 * 10 ^ o.length≤x * 10 ^ o.length:=Nat.mul_le_mul_right _ (by omega)
     omega
    obtain ⟨p,rfl⟩:∃ p,at_=p + 1:=⟨at_ - 1,by omega⟩
    have hd:=Uad hT2 ho p
    have hs:=Uzq ((x + o.getD p 0) % 10) (l:=o) (i:=p) (by omega)
    have hdm:=Nat.div_add_mod (x + o.getD p 0) 10
    have e1:o.length - (p + 1)=o.length - 1 - p:=by omega
    have e2:o.length - p=(o.length - 1 - p) + 1:=by omega
    have key:vb (o.set p ((x + o.getD p 0) % 10)) + (x + o.getD p 0) / 10 * 10 ^ (o.length - p)=vb o + x * 10 ^ (o.length - (p + 1)):=by
     rw [e1,e2,Nat.pow_succ]
     generalize 10 ^ (o.length - 1 - p)=P at *
     generalize o.getD p 0=y at *
     generalize (x + y) / 10=q at *
     generalize (x + y) % 10=r at *
     have:(10 * q + r) * P=(x + y) * P:=by rw [hdm]
     clear hv e1 e2
     grind
    obtain ⟨o',q1,q2,q3,q4⟩:=UgX n x1 x2 x3 x4 x5 i k m p ((x + o.getD p 0) / 10) (o.set p ((x + o.getD p 0) % 10)) (by omega) (Ubq ho (Nat.mod_lt _ (by omega)) _) (by rw [List.length_set]; omega) (by rw [List.length_set]; exact hl) (by omega) (by rw [List.length_set,key]; exact hv)
    rw [List.length_set] at q3 q4
    refine ⟨o',fun k0=>?_,q2,q3,by rw [q4,key]⟩
    rw [←q1 k0]
    have w1:((p + 1:Nat):Int) - 1=(p:Int):=by omega
    have w2:(x:Int) + ((o.getD p 0:Nat):Int)=((x + o.getD p 0:Nat):Int):=by omega
    have w3:decide ((10:Int)=0)=false:=rfl
    simp only [UcE,Uf1]
    simp (disch:=(first | omega | (simp only [JlE]; omega))) only [↓JlH,JlF,JlG,w1,w2,w3,Uzp,Uzo]
theorem UyG (n:Nat) (x1 x3 x5:Bool) (la lb:List Nat) (ha:∀ d∈la,d<10) (hb:∀ d∈lb,d<10) (hla:la.length + lb.length<2 ^ 30) (hn:la.length + lb.length<n) (i:Nat) (hi:i<la.length) :
 ∀ (k m:Nat) (o:List Nat),k<m→k≤lb.length→(∀ d∈o,d<10)→o.length=la.length + lb.length→vb o + la.getD i 0 * (vb (lb.take k) * 10 ^ (lb.length - k)) * 10 ^ (la.length - 1 - i)<10 ^ o.length →
  ∃ o':List Nat,(∀ k0:Bool→List PV→Bool→List PV→Bool→List PV→Int→Option R,UeG n m x1 (nl .i64 la) x3 (nl .i64 lb) x5 (nl .i64 o) i ((k:Int) - 1) k0=k0 x1 (nl .i64 la) x3 (nl .i64 lb) x5 (nl .i64 o') i)∧(∀ d∈o',d<10)∧o'.length=o.length ∧
   vb o'=vb o + la.getD i 0 * (vb (lb.take k) * 10 ^ (lb.length - k)) * 10 ^ (la.length - 1 - i)
 | 0,m + 1,o,hm,hk,ho,hol,hv=>by
  refine ⟨o,fun k0=>?_,ho,rfl,by rw [List.take_zero,UoM]; simp⟩
  simp only [UeG,Ujj]
  simp (disch:=(first | omega | (simp only [JlE]; omega))) only [↓JlH,JlF,JlG]
 | k + 1,m + 1,o,hm,hk,ho,hol,hv=>by
  have hx:=Uad hT2 ha i
  have hy:=Uad hT2 hb k
  have hz:=Uad hT2 ho (i + k + 1)
  have hxy:la.getD i 0 * lb.getD k 0≤9 * 9:=Nat.mul_le_mul (by omega) (by omega)
  obtain ⟨v,hve⟩:∃ v,v=o.getD (i + k + 1) 0 + la.getD i 0 * lb.getD k 0:=⟨_,rfl⟩
  have hs:=Uzq (v % 10) (l:=o) (i:=i + k + 1) (by omega)
  have hdm:=Nat.div_add_mod v 10
  rw [Ucd (by omega:k<lb.length)] at hv ⊢
  have eW:o.length - 1 - (i + k + 1)=(lb.length - (k + 1)) + (la.length - 1 - i):=by omega
  have eW2:o.length - (i + k + 1)=(lb.length - (k + 1)) + (la.length - 1 - i) + 1:=by omega
  have eW3:lb.length - k=(lb.length - (k + 1)) + 1:=by omega
  rw [eW,Nat.pow_add] at hs
  have key:vb (o.set (i + k + 1) (v % 10)) + v / 10 * 10 ^ (o.length - (i + k + 1))=vb o + la.getD i 0 * lb.getD k 0 * (10 ^ (lb.length - (k + 1)) * 10 ^ (la.length - 1 - i)):=by
   rw [eW2,Nat.pow_succ,Nat.pow_add]
   generalize 10 ^ (lb.length - (k + 1))=P at *
   generalize 10 ^ (la.length - 1 - i)=Q at *
   generalize o.getD (i + k + 1) 0=z at *
   generalize la.getD i 0 * lb.getD k 0=xy at *
   have:(10 * (v / 10) + v % 10) * (P * Q)=(z + xy) * (P * Q):=by rw [hdm,hve]
   generalize v / 10=q at *
   generalize v % 10=r at *
   clear hv eW eW2 eW3
   grind
  have split:la.getD i 0 * ((10 * vb (lb.take k) + lb.getD k 0) * 10 ^ (lb.length - (k + 1))) * 10 ^ (la.length - 1 - i)=la.getD i 0 * (vb (lb.take k) * 10 ^ (lb.length - k)) * 10 ^ (la.length - 1 - i) + la.getD i 0 * lb.getD k 0 * (10 ^ (lb.length - (k + 1)) * 10 ^ (la.length - 1 - i)):=by
   rw [eW3,Nat.pow_succ]
   clear hv hs key
   grind
  rw [split] at hv ⊢
  obtain ⟨o1,q1,q2,q3,q4⟩:=UgX (R:=R) n x1 (nl .i64 la) x3 (nl .i64 lb) x5 i k n (i + k + 1) (v / 10) (o.set (i + k + 1) (v % 10)) (by omega) (Ubq ho (Nat.mod_lt _ (by omega)) _) (by rw [List.length_set]; omega) (by rw [List.length_set]; omega) (by omega) (by rw [List.length_set,key]; omega)
  rw [List.length_set] at q3 q4
  rw [key] at q4
  obtain ⟨o',s1,s2,s3,s4⟩:=UyG n x1 x3 x5 la lb ha hb hla hn i hi k m o1 (by omega) (by omega) q2 (by omega) (by rw [q4,q3]; omega)
  refine ⟨o',fun k0=>?_,s2,by omega,by rw [s4,q4]; omega⟩
  rw [←s1 k0]
  have w0:((k + 1:Nat):Int) - 1=(k:Int):=by omega
  have w1:(i:Int) + (k:Int) + 1=((i + k + 1:Nat):Int):=by omega
  have w2:((la.getD i 0:Nat):Int) * ((lb.getD k 0:Nat):Int)=((la.getD i 0 * lb.getD k 0:Nat):Int):=by rw [Int.natCast_mul]
  have w4:decide ((10:Int)=0)=false:=rfl
  clear hs key split s4 q4 hv
  generalize la.getD i 0 * lb.getD k 0=xy at *
  have w3:((o.getD (i + k + 1) 0:Nat):Int) + (xy:Int)=(v:Int):=by omega
  simp only [UeG,Ujj,UuA]
  simp (disch:=(first | omega | (simp only [JlE]; omega))) only [↓JlH,JlF,JlG,w0,w1,w2,w3,w4,Uzp,Uzo,q1]
theorem UtS (n:Nat) (x1 x3 x5:Bool) (la lb:List Nat) (ha:∀ d∈la,d<10) (hb:∀ d∈lb,d<10) (hla:la.length + lb.length<2 ^ 30) (hn:la.length + lb.length<n) :
 ∀ (i m:Nat) (o:List Nat),i<m→i≤la.length→(∀ d∈o,d<10)→o.length=la.length + lb.length→vb o + vb (la.take i) * 10 ^ (la.length - i) * vb lb<10 ^ o.length →
  ∃ o':List Nat,(∀ k0:Bool→List PV→Bool→List PV→Bool→List PV→Option R,UeF n m x1 (nl .i64 la) x3 (nl .i64 lb) x5 (nl .i64 o) ((i:Int) - 1) k0=k0 x1 (nl .i64 la) x3 (nl .i64 lb) x5 (nl .i64 o'))∧(∀ d∈o',d<10)∧o'.length=o.length ∧
   vb o'=vb o + vb (la.take i) * 10 ^ (la.length - i) * vb lb
 | 0,m + 1,o,hm,hi,ho,hol,hv=>by
  refine ⟨o,fun k0=>?_,ho,rfl,by rw [List.take_zero,UoM]; simp⟩
  simp only [UeF,Uji]
  simp (disch:=(first | omega | (simp only [JlE]; omega))) only [↓JlH,JlF,JlG]
 | i + 1,m + 1,o,hm,hi,ho,hol,hv=>by
  rw [Ucd (by omega:i<la.length)] at hv ⊢
  have eW3:la.length - i=(la.length - (i + 1)) + 1:=by omega
  have eW4:la.length - 1 - i=la.length - (i + 1):=by omega
  have split:(10 * vb (la.take i) + la.getD i 0) * 10 ^ (la.length - (i + 1)) * vb lb=vb (la.take i) * 10 ^ (la.length - i) * vb lb + la.getD i 0 * (vb lb * 10 ^ (lb.length - lb.length)) * 10 ^ (la.length - 1 - i):=by
   rw [eW3,eW4,Nat.pow_succ,Nat.sub_self,Nat.pow_zero]
   clear hv
   grind
  rw [split] at hv ⊢
  obtain ⟨o1,q1,q2,q3,q4⟩:=UyG (R:=R) n x1 x3 x5 la lb ha hb hla hn i (by omega) lb.length n o (by omega) (Nat.le_refl _) ho hol (by rw [List.take_length]; omega)
  rw [List.take_length] at q4
  obtain ⟨o',s1,s2,s3,s4⟩:=UtS n x1 x3 x5 la lb ha hb hla hn i m o1 (by omega) (by omega) q2 (by omega) (by rw [q4,q3]; omega)
  refine ⟨o',fun k0=>?_,s2,by omega,by rw [s4,q4]; omega⟩
  rw [←s1 k0]
  have w0:((i + 1:Nat):Int) - 1=(i:Int):=by omega
  clear split s4 q4 hv
  simp only [UeF,Uji,Uzg]
  simp (disch:=(first | omega | (simp only [JlE]; omega))) only [↓JlH,JlF,JlG,w0,q1]
theorem Ubf (n:Nat) (x y:Int) (hx:ll x.natAbs≤50000) (hy:ll y.natAbs≤50000) (hn:200000≤n) (k0:Bool→List PV→Option R) :
 p89 n (sg x) (II x.natAbs) (sg y) (II y.natAbs) k0=k0 (sg (x * y)) (II (x * y).natAbs):=by
 obtain ⟨L,hL⟩:∃ L,ll x.natAbs + ll y.natAbs=L:=⟨_,rfl⟩
 have hlt:x.natAbs * y.natAbs<10 ^ L:=by rw [←hL,Nat.pow_add]; exact Nat.mul_lt_mul_of_lt_of_lt (UcY.1 (Nat.le_refl _)) (UcY.1 (Nat.le_refl _))
 have hz:vb (List.replicate L 0)=0:=by unfold vb; rw [List.reverse_replicate,UkA]
 obtain ⟨o',q1,q2,q3,q4⟩:=UtS (R:=R) n (sg x) (sg y) false (DL x.natAbs) (DL y.natAbs) (Ufl _) (Ufl _) (by rw [Uaa,Uaa]; omega) (by rw [Uaa,Uaa]; omega) (ll x.natAbs) n (List.replicate L 0) (by omega) (by rw [Uaa]; omega) (Uhb hT2 _) (by rw [List.length_replicate,Uaa,Uaa]; omega)
  (by
    rw [List.take_of_length_le (by rw [Uaa]; omega),UgN,UgN,Uaa,Nat.sub_self,hz,List.length_replicate]
    simpa using hlt)
 rw [List.take_of_length_le (by rw [Uaa]; omega),UgN,UgN,Uaa,Nat.sub_self,hz,Nat.pow_zero,Nat.mul_one,Nat.zero_add] at q4
 rw [List.length_replicate] at q3
 have hm:=fun k0=>UaL (R:=R) n (!(sg x == sg y)) o' q2 (by omega) (by omega) k0
 rw [q4] at hm
 have e3:(!(sg x == sg y)&&!(x.natAbs * y.natAbs == 0))=sg (x * y):=by
  rw [Bool.eq_iff_iff]
  simp only [sg,Bool.and_eq_true,decide_eq_true_eq,Bool.not_eq_true',beq_eq_false_iff_ne,ne_eq,Nat.mul_eq_zero,decide_eq_decide]
  constructor
  · rintro ⟨h1,h2⟩
    by_cases hx0:x<0
    · exact Int.mul_neg_of_neg_of_pos hx0 (by omega)
    · exact Int.mul_neg_of_pos_of_neg (by omega) (by omega)
  · intro h
    refine ⟨fun h1=>?_,fun h2=>?_⟩
    · by_cases hx0:x<0
      · have:=Int.mul_pos_of_neg_of_neg hx0 (h1.1 hx0); omega
      · have:=Int.mul_nonneg (by omega:0≤x) (by omega:0≤y); omega
    · rcases h2 with h2 | h2
      · rw [show x=0 from by omega] at h; simp at h
      · rw [show y=0 from by omega] at h; simp at h
 rw [e3] at hm
 have w1:(ll x.natAbs:Int) + (ll y.natAbs:Int)=(L:Int):=by omega
 have hrep:List.replicate L (PV.v (.int .i64 0))=nl .i64 (List.replicate L 0):=Jje .i64 L
 unfold p89 Uzf
 rw [Int.natAbs_mul]
 rw [UaC,UaC]
 unfold II at *
 simp (disch:=(first | omega | (simp only [JlE]; omega))) only [↓JlH,JlF,JlG,w1,hrep,q1,hm]
end Go.Proofs.YtmgfmlhdnadglaaGreatDoor
set_option linter.unusedVariables false
set_option maxRecDepth 100000
namespace Go.Proofs.YtmgfmlhdnadglaaGreatDoor
open Go Th Go.Proofs
noncomputable section
variable {R:Type}
def UaQ:Ann:={ loops:=[(5,ids [0,3,4],ids [2,3])],cuts:=[(6,ids [0,3,4],ids [0,2,3,4])],frz:=[],rm:=[.id] }
abbrev Uj9 (n:Nat):Env:=eC 141 (UGg n) (eC 140 (UGf n) (eC 139 (UGe n) (eC 138 (UGd n) eN)))
theorem Unl (n:Nat):EnvOK Tryz.prog GI (Uj9 n):=.cons (.cons (.cons (.cons (.nil) (UK5 n)) (UK6 n)) (UK7 n)) (UK8 n)
def Uc0 (n:Nat) (x1:LP) (x2:ByteArray) (x3:Int) (k0:LP→ByteArray→Int→O R):O R :=
 k0 x1 x2 (IntKind.i64.wrap (x3 - 1))
def Ucn (n:Nat) (l0:LP→ByteArray→Int→O R) (x1:LP) (x2:ByteArray) (x3:Int) (k0:ByteArray→O R):O R :=
 bif (decide (x3≥0)) then (bif (inR x3 ((x1).length)) then (Jj .u32 ((x1).getD ((x3:Int).toNat) (.v (.bool false))) fun e4=>bif (JkT (IntKind.i64.wrap (e4))) then (let v5:=IntKind.i64.wrap (((x1).length:Int) - 1); bif (decide (x3<v5)) then (let v6:=IntKind.i64.wrap (9 - ((JiB (IntKind.i64.wrap (e4))).size:Int)); bif (decide ((0:Int)≤v6)&&decide ((v6:Int)≤9223372036854775807)&&JiU (((⟨#[48]⟩:ByteArray)).size * (v6:Int).toNat)) then (Jj0 (Jld (⟨#[48]⟩:ByteArray) v6) (JiB (IntKind.i64.wrap (e4))) fun s7=>bif (JiU ((x2).size + (s7).size)) then (Uc0 n x1 (x2++s7) x3 (fun y8 y9 y10=>l0 y8 y9 y10)) else none) else none) else (bif (JiU ((x2).size + (JiB (IntKind.i64.wrap (e4))).size)) then (Uc0 n x1 (x2++(JiB (IntKind.i64.wrap (e4)))) x3 (fun y11 y12 y13=>l0 y11 y12 y13)) else none)) else none) else none) else (k0 x2)
def Ua9 (n:Nat):Nat→LP→ByteArray→Int→(ByteArray→O R)→O R
 | 0,_,_,_,_=>none
 | m + 1,x1,x2,x3,k0=>Ucn n (fun x1 x2 x3=>Ua9 n m x1 x2 x3 k0) x1 x2 x3 k0
def UiH (n:Nat) (l0:LP→Int→O R) (l1:LP→ByteArray→Int→O R) (x1:LP) (x2:Int) (k0:ByteArray→O R) (k1:O R):O R :=
 bif (decide (x2≥0)) then (bif (inR x2 ((x1).length)) then (Jj .u32 ((x1).getD ((x2:Int).toNat) (.v (.bool false))) fun e3=>bif (JkT (IntKind.i64.wrap (e3))) then (let v4:=IntKind.i64.wrap (((x1).length:Int) - 1); bif (decide (x2<v4)) then (let v5:=IntKind.i64.wrap (9 - ((JiB (IntKind.i64.wrap (e3))).size:Int)); bif (decide ((0:Int)≤v5)&&decide ((v5:Int)≤9223372036854775807)&&JiU (((⟨#[48]⟩:ByteArray)).size * (v5:Int).toNat)) then (Jj0 (Jld (⟨#[48]⟩:ByteArray) v5) (JiB (IntKind.i64.wrap (e3))) fun s6=>bif (JiU ((ByteArray.empty).size + (s6).size)) then (Uc0 n x1 (ByteArray.empty++s6) x2 (fun y7 y8 y9=>l1 y7 y8 y9)) else none) else none) else (bif (JiU ((ByteArray.empty).size + (JiB (IntKind.i64.wrap (e3))).size)) then (Uc0 n x1 (ByteArray.empty++(JiB (IntKind.i64.wrap (e3)))) x2 (fun y10 y11 y12=>l1 y10 y11 y12)) else none)) else none) else none) else (k1)
def UfK (n:Nat):Nat→LP→Int→(ByteArray→O R)→(O R)→O R
 | 0,_,_,_,_=>none
 | m + 1,x1,x2,k0,k1=>UiH n (fun x1 x2=>UfK n m x1 x2 k0 k1) (fun x1 x2 x3=>Ua9 n m x1 x2 x3 k0) x1 x2 k0 k1
def Ut8 (n:Nat) (x1:LP) (x2:Int) (k0:ByteArray→O R) (k1:O R):O R:=UfK n n x1 x2 k0 k1
def UG6 (n:Nat) (x1:LP) (k0:ByteArray→O R):O R :=
 bif (((x1).length:Int) == 0) then (k0 ⟨#[48]⟩) else (let v2:=IntKind.i64.wrap (((x1).length:Int) - 1); Ut8 n x1 v2 (fun y3=>k0 y3) (k0 ByteArray.empty))
abbrev UMY (n:Nat):Code→Fr→Kc R→O R:=evC Tryz.prog (Uj9 n) UaQ n (36,[])
noncomputable def UpX:Code:=Jj4 (Jll Tryz.f116) [1,1,1,0,1,0,0,1,1]
abbrev Ul4:Sl (List SV):=(cH (.c (sOb 181 5) (cI .n)))
abbrev UsI (n:Nat) (K:Kc R):Ul4.T (O R):=fun x1 x2 x3=>Uc0 n x1 x2 x3 (fun y1 y2 y3=>xC UaQ 6 K .normal [vH y1,dD,.ob 181 5 y2,vI y3])
noncomputable def Ugj:Code:=Jj4 (Jll Tryz.f116) [1,1,1,0,1,0,0]
abbrev Ua6:Sl (List SV):=(cH (.c (sOb 181 5) (cI .n)))
abbrev UbM:Sl (List SV):=(cH (.c (sBx 181 (.c (sP Jlg) (.c sNl .n))) (cI .n)))
abbrev Udu (n m:Nat) (K:Kc R):Ua6.T (O R):=fun x1 x2 x3=>Ua9 n m x1 x2 x3 (fun y1=>xL UaQ 5 K (.exit 0) [dD,.ob 181 5 y1])
abbrev UvF (n:Nat) (K:Kc R) (l0:Ua6.T (O R)):Ua6.T (O R):=fun x1 x2 x3=>Ucn n l0 x1 x2 x3 (fun y1=>xL UaQ 5 K (.exit 0) [dD,.ob 181 5 y1])
abbrev Ufu (n m:Nat) (K:Kc R):UbM.T (O R):=fun x1 x2=>UfK n m x1 x2 (fun y1=>xL UaQ 5 K (.exit 0) [dD,.ob 181 5 y1]) (xL UaQ 5 K (.exit 0) [dD,.bx 181 [.p (.v (.pointer none)),.nl]])
abbrev UvG (n:Nat) (K:Kc R) (l0:UbM.T (O R)) (l1:Ua6.T (O R)):UbM.T (O R):=fun x1 x2=>UiH n l0 l1 x1 x2 (fun y1=>xL UaQ 5 K (.exit 0) [dD,.ob 181 5 y1]) (xL UaQ 5 K (.exit 0) [dD,.bx 181 [.p (.v (.pointer none)),.nl]])
abbrev Uo1 (n:Nat):Orc R:=fun i vs K=>JfK (Nat.beq i 5) (Jjg (Ua6.ap vs (Udu n n K)) (Jjg (UbM.ap vs (Ufu n n K)) (JcB UaQ 5 (UMY n Ugj) n vs K))) (oN i vs K)
abbrev UoU (n:Nat):Orc R:=oC UaQ (UMY n) 6 UpX Ul4 (UsI n) oN
abbrev UID (R:Type) (n:Nat):=JcH (R:=R) Tryz.prog (Uj9 n) UaQ n (36,[]) (Uo1 n) (UoU n)
theorem UCJ (n:Nat):UID R n (true,6,UpX):=JkW (lo:=Uo1 n) (cu:=UoU n) (pO pN (by kernel_rfl)) Ul4 (UsI n) (fun K _ _ _=>by show _=_; kernel_rfl) fun _ _=>rfl
theorem UoA (n:Nat):Je6 (UID R n) (JaJ UaQ Ugj):=pO (pC (UCJ n) pN) (by kernel_rfl)
theorem Um6 (n:Nat):∀ m (K:Kc R),Ua6.all (fun vs r=>JcB UaQ 5 (JcU Tryz.prog (Uj9 n) UaQ (36,[]) (Uo1 n) (UoU n) Ugj) m vs K=r) (Udu n m K):=JiE (F:=Udu n) Ua6 (UvF n) (fun K _ _ _=>rfl) (fun _ _=>rfl) (fun L K _ _ _=>by show _=_; kernel_rfl)
theorem UvU (n:Nat):∀ m (K:Kc R),UbM.all (fun vs r=>JcB UaQ 5 (JcU Tryz.prog (Uj9 n) UaQ (36,[]) (Uo1 n) (UoU n) Ugj) m vs K=r) (Ufu n m K):=Jhw (F1:=Udu n) (F:=Ufu n) UbM Ua6 (UvG n) (fun K _ _=>rfl) (fun _ _=>rfl) (Um6 n) (fun L K _ _=>by show _=_; kernel_rfl)
theorem UCK (n:Nat):UID R n (false,5,Ugj):=JkF (lo:=Uo1 n) (cu:=UoU n) (UoA n) Ua6 (Udu n n) (Um6 n n) (JkF (lo:=Uo1 n) (cu:=UoU n) (UoA n) UbM (Ufu n n) (UvU n n) fun _ _=>rfl)
theorem ULO (n:Nat):Je6 (UID R n) (JaJ UaQ (Jll Tryz.f116)):=pO (pC (UCK n) pN) (by kernel_rfl)
abbrev t116:Sl (List SV):=(cH .n)
abbrev f116 (n:Nat) (K:List SV→O R):t116.T (O R):=fun x1=>UG6 n x1 (fun y1=>K [vS y1])
abbrev UF2 (n:Nat):FS:=fT [false] t116 (f116 n)
theorem UKT (n:Nat):FSound Tryz.prog GI 116 (UF2 n):=gd UaQ n (Unl n) Tryz.func116 (.cons (Unl n) t116 (f116 n) (fun K _=>(Jkq (c:=Jll Tryz.f116) (by kernel_rfl) (ULO n) K).trans (by kernel_rfl)) .nil) (by kernel_rfl)
def Udo:Ann:={ loops:=[],cuts:=[(5,ids [1,4,24],ids [1,2,3]),(7,ids [1],ids [2,3]),(10,ids [1,5,6],ids [2,3]),(12,ids [5,6],ids [2,3]),(14,ids [5],ids [2,3])],frz:=[],rm:=[.id,.id] }
abbrev UBB (n:Nat):Env:=eC 116 (UF2 n) (eC 115 (UBR n) (eC 100 (UBQ n) eN))
theorem Usd (n:Nat):EnvOK Tryz.prog GI (UBB n):=.cons (.cons (.cons (.nil) (UGR n)) (UGS n)) (UKT n)
def Ug8 (n:Nat) (x1:Bool) (x2 x3 x4:LP) (x5:Bool) (k0:Bool→LP→LP→O R):O R :=
 bif x5 then (UDT n x2 x4 (fun y6 y7=>UDT n x3 x4 (fun y8 y9=>k0 x1 y6 y8))) else (k0 x1 x2 x3)
def Ujc (n:Nat) (x1:ByteArray) (k0:ByteArray→Int→O R):O R :=
 k0 x1 0
def Ujb (n:Nat) (x1 x2:ByteArray) (k0:ByteArray→Int→O R):O R :=
 bif (!eqS x2 (⟨#[49]⟩:ByteArray)) then (Jj0 (⟨#[47]⟩:ByteArray) x2 fun s3=>Jj0 x1 s3 fun s4=>Ujc n s4 (fun y5 y6=>k0 y5 y6)) else (Ujc n x1 (fun y7 y8=>k0 y7 y8))
def UlL (n:Nat) (x1:Bool) (x2 x3:LP) (x4 x5:ByteArray) (k0:ByteArray→Int→O R):O R :=
 bif x1 then (Jj0 (⟨#[45]⟩:ByteArray) x4 fun s6=>Ujb n s6 x5 (fun y7 y8=>k0 y7 y8)) else (Ujb n x4 x5 (fun y9 y10=>k0 y9 y10))
def Ukk (n:Nat) (x1:Bool) (x2 x3:LP) (k0:ByteArray→Int→O R):O R :=
 UG6 n x2 (fun y4=>UG6 n x3 (fun y5=>bif (decide (((y4).size:Int)>400)) then (k0 ⟨#[]⟩ 5) else (bif (bif false then true else (decide (((y5).size:Int)>400))) then (k0 ⟨#[]⟩ 5) else (UlL n x1 x2 x3 y4 y5 (fun y6 y7=>k0 y6 y7)))))
def p79 (n:Nat) (x1:Bool) (x2 x3:LP) (k0:ByteArray→Int→O R):O R :=
 bif (((x2).length:Int) == 0) then (k0 ⟨#[48]⟩ 0) else (UG4 n x2 x3 (fun y4=>bif (decide (((y4).length:Int)>1)) then (Ug8 n x1 x2 x3 y4 true (fun y5 y6 y7=>Ukk n y5 y6 y7 (fun y8 y9=>k0 y8 y9))) else (bif (inR 0 ((y4).length)) then (Jj .u32 ((y4).getD ((0:Int).toNat) (.v (.bool false))) fun e10=>Ug8 n x1 x2 x3 y4 (bif false then true else (decide (e10>1))) (fun y11 y12 y13=>Ukk n y11 y12 y13 (fun y14 y15=>k0 y14 y15))) else none)))
abbrev E79 (n:Nat):Code→Fr→Kc R→O R:=evC Tryz.prog (UBB n) Udo n (66,[])
noncomputable def UxD:Code:=Jj4 (Jll Tryz.f79) [1,1,0,1,1]
abbrev Uv:Sl (List SV):=(.c (sBx 99 (cB (cH (cH .n)))) (cH (cB .n)))
abbrev Uyo (n:Nat) (K:Kc R):Uv.T (O R):=fun x1 x2 x3 x4 x5=>Ug8 n x1 x2 x3 x4 x5 (fun y1 y2 y3=>xC Udo 5 K .normal [.bx 99 [vB y1,vH y2,vH y3],dD,dD])
noncomputable def UxE:Code:=Jj4 (Jll Tryz.f79) [1,1,1]
abbrev Uva:Sl (List SV):=(.c (sBx 99 (cB (cH (cH .n)))) .n)
abbrev Uyp (n:Nat) (K:Kc R):Uva.T (O R):=fun x1 x2 x3=>Ukk n x1 x2 x3 (fun y1 y2=>xC Udo 7 K .ret [vS y1,vI y2])
noncomputable def Uqw:Code:=Jj4 (Jll Tryz.f79) [1,1,1,1,1]
abbrev Umm:Sl (List SV):=(.c (sBx 99 (cB (cH (cH .n)))) (cS (cS .n)))
abbrev Utp (n:Nat) (K:Kc R):Umm.T (O R):=fun x1 x2 x3 x4 x5=>UlL n x1 x2 x3 x4 x5 (fun y1 y2=>xC Udo 10 K .ret [vS y1,vI y2])
noncomputable def Uqx:Code:=Jj4 (Jll Tryz.f79) [1,1,1,1,1,1]
abbrev Umn:Sl (List SV):=(cS (cS .n))
abbrev Utq (n:Nat) (K:Kc R):Umn.T (O R):=fun x1 x2=>Ujb n x1 x2 (fun y1 y2=>xC Udo 12 K .ret [vS y1,vI y2])
noncomputable def Uqy:Code:=Jj4 (Jll Tryz.f79) [1,1,1,1,1,1,1]
abbrev Umo:Sl (List SV):=(cS .n)
abbrev Utr (n:Nat) (K:Kc R):Umo.T (O R):=fun x1=>Ujc n x1 (fun y1 y2=>xC Udo 14 K .ret [vS y1,vI y2])
abbrev UDO (n:Nat):Orc R:=oN
abbrev UDH (n:Nat):Orc R:=oC Udo (E79 n) 14 Uqy Umo (Utr n) (oC Udo (E79 n) 12 Uqx Umn (Utq n) (oC Udo (E79 n) 10 Uqw Umm (Utp n) (oC Udo (E79 n) 7 UxE Uva (Uyp n) (oC Udo (E79 n) 5 UxD Uv (Uyo n) oN))))
abbrev K79 (R:Type) (n:Nat):=JcH (R:=R) Tryz.prog (UBB n) Udo n (66,[]) (UDO n) (UDH n)
theorem UHX (n:Nat):K79 R n (true,5,UxD):=JkW (lo:=UDO n) (cu:=UDH n) (pO pN (by kernel_rfl)) Uv (Uyo n) (fun K _ _ _ _ _=>by show _=_; kernel_rfl) fun _ _=>rfl
theorem UDk (n:Nat):K79 R n (true,14,Uqy):=JkW (lo:=UDO n) (cu:=UDH n) (pO pN (by kernel_rfl)) Umo (Utr n) (fun K _=>by show _=_; kernel_rfl) fun _ _=>rfl
theorem UDj (n:Nat):K79 R n (true,12,Uqx):=JkW (lo:=UDO n) (cu:=UDH n) (pO (pC (UDk n) pN) (by kernel_rfl)) Umn (Utq n) (fun K _ _=>by show _=_; kernel_rfl) fun _ _=>rfl
theorem UDi (n:Nat):K79 R n (true,10,Uqw):=JkW (lo:=UDO n) (cu:=UDH n) (pO (pC (UDj n) pN) (by kernel_rfl)) Umm (Utp n) (fun K _ _ _ _ _=>by show _=_; kernel_rfl) fun _ _=>rfl
theorem UHY (n:Nat):K79 R n (true,7,UxE):=JkW (lo:=UDO n) (cu:=UDH n) (pO (pC (UDi n) pN) (by kernel_rfl)) Uva (Uyp n) (fun K _ _ _=>by show _=_; kernel_rfl) fun _ _=>rfl
theorem USW (n:Nat):Je6 (K79 R n) (JaJ Udo (Jll Tryz.f79)):=pO (pC (UHX n) (pC (UHY n) pN)) (by kernel_rfl)
abbrev t79:Sl (List SV):=(.c (sP (JlI (.c Jlf (.c sSh (.c sSh .n))))) .n)
abbrev f79 (n:Nat) (K:List SV→O R):t79.T (O R):=fun x1 x2 x3=>p79 n x1 x2 x3 (fun y1 y2=>K [vS y1,vI y2])
abbrev UKa (n:Nat):FS:=fT [false] t79 (f79 n)
theorem UO2 (n:Nat):FSound Tryz.prog GI 79 (UKa n):=gd Udo n (Usd n) Tryz.func79 (.cons (Usd n) t79 (f79 n) (fun K _ _ _=>(Jkq (c:=Jll Tryz.f79) (by kernel_rfl) (USW n) K).trans (by kernel_rfl)) .nil) (by kernel_rfl)
end
end Go.Proofs.YtmgfmlhdnadglaaGreatDoor
