/- Proved: part 4 of the proof that the law CertifyGoes returns true at all its arguments (no further conditions). -/
import Derived.Test.YtmgfmlhdnadglaaGreatDoorT1
import Derived.Test.YtmgfmlhdnadglaaGreatDoorProg
import Derived.Test.YtmgfmlhdnadglaaGreatDoorT2
import Derived.Lib.ItoaNum
import Derived.Lib.AtoiAll
set_option linter.unusedVariables false
set_option maxRecDepth 100000
namespace Go.Proofs.YtmgfmlhdnadglaaGreatDoor
open Go Th Go.Proofs
abbrev GI:GInv:=GInv.tab Tryz.prog "internal/strconv.uint64pow10" .u64 Lib.pow10Tab 0 (by kernel_rfl)
def layr166:Go.Shelf.Ren:=⟨fun | 166=>140 | 240=>169 | 276=>192 | n=>n,fun | 0=>0 | 3=>3 | 4=>4 | 5=>5 | 9=>9 | 20=>20 | 37=>173 | 70=>179 | 72=>181 | 75=>166 | 80=>154 | 164=>227 | n=>n,fun | n=>n⟩
theorem Uq5:Go.Proofs.Lays.n166 Tryz.prog layr166:={
 mixed:=by kernel_rfl
 f166:=Tryz.func140.trans (congrArg some (by kernel_rfl))
 f240:=Tryz.func169.trans (congrArg some (by kernel_rfl))
 f276:=Tryz.func192.trans (congrArg some (by kernel_rfl))
 t0:=Tryz.underlying0
 a0:=Tryz.isAgg0
 z0:=Tryz.sizeOf0
 v0:=Tryz.zeroValue0
 t3:=Tryz.underlying3
 a3:=Tryz.isAgg3
 z3:=Tryz.sizeOf3
 v3:=Tryz.zeroValue3
 t4:=Tryz.underlying4
 a4:=Tryz.isAgg4
 z4:=Tryz.sizeOf4
 v4:=Tryz.zeroValue4
 t9:=Tryz.underlying9
 a9:=Tryz.isAgg9
 z9:=Tryz.sizeOf9
 v9:=Tryz.zeroValue9
 t20:=Tryz.underlying20
 a20:=Tryz.isAgg20
 z20:=Tryz.sizeOf20
 v20:=Tryz.zeroValue20
 t37:=Tryz.underlying173
 a37:=Tryz.isAgg173
 z37:=Tryz.sizeOf173
 v37:=Tryz.zeroValue173
 t70:=Tryz.underlying179
 a70:=Tryz.isAgg179
 z70:=Tryz.sizeOf179
 v70:=Tryz.zeroValue179
 t72:=Tryz.underlying181
 a72:=Tryz.isAgg181
 z72:=Tryz.sizeOf181
 v72:=Tryz.zeroValue181
 t75:=Tryz.underlying166
 a75:=Tryz.isAgg166
 z75:=Tryz.sizeOf166
 v75:=Tryz.zeroValue166
 t164:=Tryz.underlying227
 a164:=Tryz.isAgg227
 z164:=Tryz.sizeOf227
 v164:=Tryz.zeroValue227 }
theorem Uq6:Builder.Extra Tryz.prog layr166:={
 sizeBuilder:=by kernel_rfl
 liesBuilder:=by kernel_rfl
 t5:=Tryz.underlying5
 a5:=Tryz.isAgg5
 z5:=Tryz.sizeOf5
 v5:=Tryz.zeroValue5
 infoByte:=by kernel_rfl
 cellsByte:=by kernel_rfl
 sizeByte:=by kernel_rfl
 neB5:=by decide }
noncomputable def Uw (n:Nat):FS:=fsFormatInt
theorem Uza (n:Nat):FSound Tryz.prog GI 60 (Uw n):=Jjg (Jlt Tryz.func60 (by kernel_rfl) (by kernel_rfl)) (fun F W h=>h.2) Tryz.strconv_FormatInt_10
noncomputable def UtL (n:Nat):FS:=fsAtoi
theorem UwH (n:Nat):FSound Tryz.prog GI 129 (UtL n):=Jk5 (Jlt Tryz.func129 (by kernel_rfl) (by kernel_rfl)) (fun s h1 v h2 w=>Tryz.strconv_Atoi_ok s h1 v h2 w)
noncomputable def UtM (n:Nat):FS:=fsTrim
theorem UwI (n:Nat):FSound Tryz.prog GI 130 (UtM n):=Jk7 (Jlt Tryz.func130 (by kernel_rfl) (by kernel_rfl)) (fun s t w h1 h2 h3=>Any.strings_Trim_laid Tryz.lays160 (by kernel_rfl) s t w h1 h2 h3)
noncomputable def UtP (n:Nat):FS:=fsItoa
theorem UwL (n:Nat):FSound Tryz.prog GI 138 (UtP n):=Jk6 (Jlt Tryz.func138 (by kernel_rfl) (by kernel_rfl)) (fun F W h=>h.2) Tryz.strconv_Itoa
noncomputable def UtQ (n:Nat):FS:=fsRepeat
theorem UwM (n:Nat):FSound Tryz.prog GI 139 (UtQ n):=Jkz (Jlt Tryz.func139 (by kernel_rfl) (by kernel_rfl)) (fun s c w h1 h2=>Tryz.strings_Repeat s c w h1 h2)
noncomputable def UtR (n:Nat):FS:=JaV 181 5
theorem UwN (n:Nat):FSound Tryz.prog GI 140 (UtR n):=Jh5 Uq5 Uq6 (Jlt Tryz.func140 (by kernel_rfl) (by kernel_rfl))
noncomputable def UtS (n:Nat):FS:=Jcn 181 5
theorem UwO (n:Nat):FSound Tryz.prog GI 141 (UtS n):=JkA Tryz.lays169 Tryz.Builder_Extra_169 (Jlt Tryz.func141 (by kernel_rfl) (by kernel_rfl))
noncomputable def UtT (n:Nat):FS:=fsIndex1
theorem UwP (n:Nat):FSound Tryz.prog GI 148 (UtT n):=Jky (Jlt Tryz.func148 (by kernel_rfl) (by kernel_rfl)) Tryz.stringslite_Index_one
end Go.Proofs.YtmgfmlhdnadglaaGreatDoor
set_option linter.unusedVariables false
set_option maxRecDepth 100000
namespace Go.Proofs.YtmgfmlhdnadglaaGreatDoor
open Go Th Go.Proofs
noncomputable section
variable {R:Type}
def Ujw:Ann:={ loops:=[],cuts:=[],frz:=[],rm:=[.id,.id,.id] }
abbrev UoE (n:Nat):Env:=eC 148 (UtT n) eN
theorem Ui (n:Nat):EnvOK Tryz.prog GI (UoE n):=.cons (.nil) (UwP n)
def Uw3 (n:Nat) (x1:ByteArray) (k0:ByteArray→ByteArray→Bool→O R):O R :=
 let v2:=Lib.indexByte (x1).data.toList (((⟨#[47]⟩:ByteArray)).data.toList.headD 0); bif (decide (v2≥0)) then (bif (Je5 0 v2 (x1).size) then (let v3:=IntKind.i64.wrap (v2 + ((⟨#[47]⟩:ByteArray).size:Int)); bif (Je5 v3 ((x1).size:Int) (x1).size) then (k0 (ByteArray.extract x1 (0:Int).toNat (v2:Int).toNat) (ByteArray.extract x1 (v3:Int).toNat (((x1).size:Int):Int).toNat) true) else none) else none) else (k0 x1 ⟨#[]⟩ false)
abbrev Uwk (n:Nat):Orc R:=oN
abbrev UvS (n:Nat):Orc R:=oN
abbrev UzA (R:Type) (n:Nat):=JcH (R:=R) Tryz.prog (UoE n) Ujw n (23,[]) (Uwk n) (UvS n)
theorem Uxj (n:Nat):Je6 (UzA R n) (JaJ Ujw (Jlk Tryz.f127)):=pO pN (by kernel_rfl)
abbrev t127:Sl (List SV):=(cS (.c (sP (Jly (⟨#[47]⟩:ByteArray))) .n))
abbrev f127 (n:Nat) (K:List SV→O R):t127.T (O R):=fun x1=>Uw3 n x1 (fun y1 y2 y3=>K [vS y1,vS y2,vB y3])
abbrev UtJ (n:Nat):FS:=fT [false,false] t127 (f127 n)
theorem UwF (n:Nat):FSound Tryz.prog GI 127 (UtJ n):=gd Ujw n (Ui n) Tryz.func127 (.cons (Ui n) t127 (f127 n) (fun K _=>(Jkp (c:=Jlk Tryz.f127) (by kernel_rfl) (Uxj n) K).trans (by kernel_rfl)) .nil) (by kernel_rfl)
def UpX:Ann:={ loops:=[],cuts:=[],frz:=[],rm:=[.id,.id,.id] }
abbrev Utn (n:Nat):Env:=eC 127 (UtJ n) eN
theorem Ulb (n:Nat):EnvOK Tryz.prog GI (Utn n):=.cons (.nil) (UwF n)
def p96 (n:Nat) (x1:ByteArray) (k0:ByteArray→ByteArray→Bool→O R):O R :=
 Uw3 n x1 (fun y2 y3 y4=>k0 y2 y3 y4)
abbrev UAy (n:Nat):Orc R:=oN
abbrev Uz5 (n:Nat):Orc R:=oN
abbrev K96 (R:Type) (n:Nat):=JcH (R:=R) Tryz.prog (Utn n) UpX n (13,[]) (UAy n) (Uz5 n)
theorem UBP (n:Nat):Je6 (K96 R n) (JaJ UpX (Jlk Tryz.f96)):=pO pN (by kernel_rfl)
abbrev t96:Sl (List SV):=(cS (.c (sP (Jly (⟨#[47]⟩:ByteArray))) .n))
abbrev f96 (n:Nat) (K:List SV→O R):t96.T (O R):=fun x1=>p96 n x1 (fun y1 y2 y3=>K [vS y1,vS y2,vB y3])
abbrev UyP (n:Nat):FS:=fT [false,false] t96 (f96 n)
theorem UA3 (n:Nat):FSound Tryz.prog GI 96 (UyP n):=gd UpX n (Ulb n) Tryz.func96 (.cons (Ulb n) t96 (f96 n) (fun K _=>(Jkp (c:=Jlk Tryz.f96) (by kernel_rfl) (UBP n) K).trans (by kernel_rfl)) .nil) (by kernel_rfl)
def UpZ:Ann:={ loops:=[],cuts:=[],frz:=[],rm:=[.id] }
abbrev Utp (n:Nat):Env:=eC 130 (UtM n) eN
theorem Ule (n:Nat):EnvOK Tryz.prog GI (Utp n):=.cons (.nil) (UwI n)
def p99 (n:Nat) (x1:ByteArray) (k0:Bool→O R):O R :=
 bif (eqS x1 (⟨#[]⟩:ByteArray)) then (k0 false) else (bif (bif false then true else (decide (((x1).size:Int)>400))) then (k0 false) else (bif (inR 0 (x1).size) then (bif (Jc6 x1 0 == 48) then (bif (bif false then true else (bif true then (decide (((x1).size:Int)>1)) else false)) then (k0 false) else (bif (Jji x1 (⟨#[48,49,50,51,52,53,54,55,56,57]⟩:ByteArray)) then (k0 (eqS (JkK x1 (⟨#[48,49,50,51,52,53,54,55,56,57]⟩:ByteArray)) (⟨#[]⟩:ByteArray))) else none)) else (bif (Jji x1 (⟨#[48,49,50,51,52,53,54,55,56,57]⟩:ByteArray)) then (k0 (eqS (JkK x1 (⟨#[48,49,50,51,52,53,54,55,56,57]⟩:ByteArray)) (⟨#[]⟩:ByteArray))) else none)) else none))
abbrev UAA (n:Nat):Orc R:=oN
abbrev Uz7 (n:Nat):Orc R:=oN
abbrev K99 (R:Type) (n:Nat):=JcH (R:=R) Tryz.prog (Utp n) UpZ n (23,[]) (UAA n) (Uz7 n)
theorem UBS (n:Nat):Je6 (K99 R n) (JaJ UpZ (Jlk Tryz.f99)):=pO pN (by kernel_rfl)
abbrev t99:Sl (List SV):=(cS .n)
abbrev f99 (n:Nat) (K:List SV→O R):t99.T (O R):=fun x1=>p99 n x1 (fun y1=>K [vB y1])
abbrev Uwf (n:Nat):FS:=fT [false] t99 (f99 n)
theorem Uzg (n:Nat):FSound Tryz.prog GI 99 (Uwf n):=gd UpZ n (Ule n) Tryz.func99 (.cons (Ule n) t99 (f99 n) (fun K _=>(Jkp (c:=Jlk Tryz.f99) (by kernel_rfl) (UBS n) K).trans (by kernel_rfl)) .nil) (by kernel_rfl)
def Ujz:Ann:={ loops:=[],cuts:=[],frz:=[],rm:=[.id] }
abbrev UoH (n:Nat):Env:=eN
theorem Uie (n:Nat):EnvOK Tryz.prog GI (UoH n):=.nil
def Uw6 (n:Nat) (x1 x2:ByteArray) (k0:Bool→O R):O R :=
 bif (decide (((x1).size:Int)≥((x2).size:Int))) then (bif (Je5 0 ((x2).size:Int) (x1).size) then (k0 (bif true then eqS (ByteArray.extract x1 (0:Int).toNat (((x2).size:Int):Int).toNat) x2 else false)) else none) else (k0 false)
abbrev Uwn (n:Nat):Orc R:=oN
abbrev UvV (n:Nat):Orc R:=oN
abbrev UzD (R:Type) (n:Nat):=JcH (R:=R) Tryz.prog (UoH n) Ujz n (18,[]) (Uwn n) (UvV n)
theorem Uxo (n:Nat):Je6 (UzD R n) (JaJ Ujz (Jlk Tryz.f177)):=pO pN (by kernel_rfl)
abbrev UxH:Sl (List SV):=(cS (cS .n))
abbrev f177 (n:Nat) (K:List SV→O R):UxH.T (O R):=fun x1 x2=>Uw6 n x1 x2 (fun y1=>K [vB y1])
abbrev UtV (n:Nat):FS:=fT [false,false] UxH (f177 n)
theorem UwR (n:Nat):FSound Tryz.prog GI 177 (UtV n):=gd Ujz n (Uie n) Tryz.func177 (.cons (Uie n) UxH (f177 n) (fun K _ _=>(Jkp (c:=Jlk Tryz.f177) (by kernel_rfl) (Uxo n) K).trans (by kernel_rfl)) .nil) (by kernel_rfl)
def Ujy:Ann:={ loops:=[],cuts:=[],frz:=[],rm:=[.id,.id] }
abbrev UoG (n:Nat):Env:=eC 177 (UtV n) eN
theorem Uid (n:Nat):EnvOK Tryz.prog GI (UoG n):=.cons (.nil) (UwR n)
def Uw5 (n:Nat) (x1 x2:ByteArray) (k0:ByteArray→Bool→O R):O R :=
 Uw6 n x1 x2 (fun y3=>bif (!y3) then (k0 x1 false) else (bif (Je5 ((x2).size:Int) ((x1).size:Int) (x1).size) then (k0 (ByteArray.extract x1 (((x2).size:Int):Int).toNat (((x1).size:Int):Int).toNat) true) else none))
abbrev Uwm (n:Nat):Orc R:=oN
abbrev UvU (n:Nat):Orc R:=oN
abbrev UzC (R:Type) (n:Nat):=JcH (R:=R) Tryz.prog (UoG n) Ujy n (15,[]) (Uwm n) (UvU n)
theorem Uxn (n:Nat):Je6 (UzC R n) (JaJ Ujy (Jlk Tryz.f149)):=pO pN (by kernel_rfl)
abbrev UxG:Sl (List SV):=(cS (cS .n))
abbrev f149 (n:Nat) (K:List SV→O R):UxG.T (O R):=fun x1 x2=>Uw5 n x1 x2 (fun y1 y2=>K [vS y1,vB y2])
abbrev UtU (n:Nat):FS:=fT [false,false] UxG (f149 n)
theorem UwQ (n:Nat):FSound Tryz.prog GI 149 (UtU n):=gd Ujy n (Uid n) Tryz.func149 (.cons (Uid n) UxG (f149 n) (fun K _ _=>(Jkp (c:=Jlk Tryz.f149) (by kernel_rfl) (Uxn n) K).trans (by kernel_rfl)) .nil) (by kernel_rfl)
def Ujx:Ann:={ loops:=[],cuts:=[],frz:=[],rm:=[.id,.id] }
abbrev UoF (n:Nat):Env:=eC 149 (UtU n) eN
theorem Uia (n:Nat):EnvOK Tryz.prog GI (UoF n):=.cons (.nil) (UwQ n)
def UvG (n:Nat) (x1 x2:ByteArray) (k0:ByteArray→Bool→O R):O R :=
 Uw5 n x1 x2 (fun y3 y4=>k0 y3 y4)
abbrev Uwl (n:Nat):Orc R:=oN
abbrev UvT (n:Nat):Orc R:=oN
abbrev UzB (R:Type) (n:Nat):=JcH (R:=R) Tryz.prog (UoF n) Ujx n (11,[]) (Uwl n) (UvT n)
theorem Uxk (n:Nat):Je6 (UzB R n) (JaJ Ujx (Jlk Tryz.f128)):=pO pN (by kernel_rfl)
abbrev UxD:Sl (List SV):=(cS (cS .n))
abbrev f128 (n:Nat) (K:List SV→O R):UxD.T (O R):=fun x1 x2=>UvG n x1 x2 (fun y1 y2=>K [vS y1,vB y2])
abbrev UtK (n:Nat):FS:=fT [false,false] UxD (f128 n)
theorem UwG (n:Nat):FSound Tryz.prog GI 128 (UtK n):=gd Ujx n (Uia n) Tryz.func128 (.cons (Uia n) UxD (f128 n) (fun K _ _=>(Jkp (c:=Jlk Tryz.f128) (by kernel_rfl) (Uxk n) K).trans (by kernel_rfl)) .nil) (by kernel_rfl)
def UpY:Ann:={ loops:=[],cuts:=[],frz:=[],rm:=[.id,.id,.id] }
abbrev Uto (n:Nat):Env:=eC 128 (UtK n) (eC 99 (Uwf n) eN)
theorem Ulc (n:Nat):EnvOK Tryz.prog GI (Uto n):=.cons (.cons (.nil) (Uzg n)) (UwG n)
def p97 (n:Nat) (x1:ByteArray) (k0:Bool→ByteArray→Bool→O R):O R :=
 UvG n x1 ⟨#[45]⟩ (fun y2 y3=>p99 n y2 (fun y4=>bif y4 then (bif y3 then (k0 y3 y2 (bif true then (!(bif true then eqS y2 (⟨#[48]⟩:ByteArray) else false)) else false)) else (k0 y3 y2 true)) else (k0 y3 y2 false)))
abbrev UAz (n:Nat):Orc R:=oN
abbrev Uz6 (n:Nat):Orc R:=oN
abbrev K97 (R:Type) (n:Nat):=JcH (R:=R) Tryz.prog (Uto n) UpY n (24,[]) (UAz n) (Uz6 n)
theorem UBQ (n:Nat):Je6 (K97 R n) (JaJ UpY (Jlk Tryz.f97)):=pO pN (by kernel_rfl)
abbrev t97:Sl (List SV):=(cS .n)
abbrev f97 (n:Nat) (K:List SV→O R):t97.T (O R):=fun x1=>p97 n x1 (fun y1 y2 y3=>K [vB y1,vS y2,vB y3])
abbrev UyQ (n:Nat):FS:=fT [false] t97 (f97 n)
theorem UA4 (n:Nat):FSound Tryz.prog GI 97 (UyQ n):=gd UpY n (Ulc n) Tryz.func97 (.cons (Ulc n) t97 (f97 n) (fun K _=>(Jkp (c:=Jlk Tryz.f97) (by kernel_rfl) (UBQ n) K).trans (by kernel_rfl)) .nil) (by kernel_rfl)
def Uds:Ann:={ loops:=[(1,ids [0],ids [0,2])],cuts:=[],frz:=[],rm:=[.id] }
abbrev Ukh (n:Nat):Env:=eN
theorem UhY (n:Nat):EnvOK Tryz.prog GI (Ukh n):=.nil
def UeS (n:Nat) (l0:LP→O R) (x1:LP) (k0:LP→O R):O R :=
 bif (decide (((x1).length:Int)>0)) then (let v2:=IntKind.i64.wrap (((x1).length:Int) - 1); bif (inR v2 ((x1).length)) then (Ji9 .u32 ((x1).getD ((v2:Int).toNat) (.v (.bool false))) fun e3=>bif (bif true then (e3 == 0) else false) then (let v4:=IntKind.i64.wrap (((x1).length:Int) - 1); bif (Jgw 1 x1&&Je5 0 v4 ((x1).length)) then (l0 (((x1).take (v4:Int).toNat).drop (0:Int).toNat)) else none) else (k0 x1)) else none) else (k0 x1)
def Ub3 (n:Nat):Nat→LP→(LP→O R)→O R
 | 0,_,_=>none
 | m + 1,x1,k0=>UeS n (fun x1=>Ub3 n m x1 k0) x1 k0
def Ul8 (n:Nat) (x1:LP) (k0:LP→O R):O R:=Ub3 n n x1 k0
def Ul7 (n:Nat) (x1:LP) (k0:LP→O R):O R :=
 Ul8 n x1 (fun y2=>k0 y2)
abbrev Uzr (n:Nat):Code→Fr→Kc R→O R:=evC Tryz.prog (Ukh n) Uds n (21,[])
noncomputable def UjE:Code:=Jj3 (Jlk Tryz.f101) [1,0,0,0]
abbrev UcL:Sl (List SV):=(cH .n)
abbrev UgA (n m:Nat) (K:Kc R):UcL.T (O R):=fun x1=>Ub3 n m x1 (fun y1=>xL Uds 1 K (.exit 0) [vH y1,dD])
abbrev Up2 (n:Nat) (K:Kc R) (l0:UcL.T (O R)):UcL.T (O R):=fun x1=>UeS n l0 x1 (fun y1=>xL Uds 1 K (.exit 0) [vH y1,dD])
abbrev Ut2 (n:Nat):Orc R:=oL Uds (Uzr n) n 1 UjE UcL (UgA n n) oN
abbrev UsQ (n:Nat):Orc R:=oN
abbrev UxV (R:Type) (n:Nat):=JcH (R:=R) Tryz.prog (Ukh n) Uds n (21,[]) (Ut2 n) (UsQ n)
theorem Urk (n:Nat):UxV R n (false,1,UjE):=JkE (lo:=Ut2 n) (cu:=UsQ n) (pO pN (by kernel_rfl)) UcL (UgA n n) (JiD (F:=UgA n) UcL (Up2 n) (fun K _=>rfl) (fun _ _=>rfl) (fun L K _=>by show _=_; kernel_rfl) n) fun _ _=>rfl
theorem Uw8 (n:Nat):Je6 (UxV R n) (JaJ Uds (Jlk Tryz.f101)):=pO (pC (Urk n) pN) (by kernel_rfl)
abbrev Uxu:Sl (List SV):=(cH .n)
abbrev f101 (n:Nat) (K:List SV→O R):Uxu.T (O R):=fun x1=>Ul7 n x1 (fun y1=>K [vH y1])
abbrev UgM (n:Nat):FS:=fT [false] Uxu (f101 n)
theorem Ujj (n:Nat):FSound Tryz.prog GI 101 (UgM n):=gd Uds n (UhY n) Tryz.func101 (.cons (UhY n) Uxu (f101 n) (fun K _=>(Jkp (c:=Jlk Tryz.f101) (by kernel_rfl) (Uw8 n) K).trans (by kernel_rfl)) .nil) (by kernel_rfl)
def Ugp:Ann:={ loops:=[(2,[(0,.id),(3,.own 143)],ids [2,3])],cuts:=[],frz:=[],rm:=[.id] }
abbrev UqQ (n:Nat):Env:=eC 129 (UtL n) (eC 101 (UgM n) eN)
theorem Uld (n:Nat):EnvOK Tryz.prog GI (UqQ n):=.cons (.cons (.nil) (Ujj n)) (UwH n)
def Ufq (n:Nat) (l0:ByteArray→LP→O R) (x1:ByteArray) (x2:LP) (k0:LP→O R):O R :=
 bif (decide (((x1).size:Int)>0)) then (let v3:=IntKind.i64.wrap (((x1).size:Int) - 9); bif (Je5 (JkT 0 v3) ((x1).size:Int) (x1).size) then (Jia (ByteArray.extract x1 (JkT 0 v3:Int).toNat (((x1).size:Int):Int).toNat) fun v4=>bif (Jbu ((x2).length + 1) 4) then (bif (Je5 0 (JkT 0 v3) (x1).size) then (l0 (ByteArray.extract x1 (0:Int).toNat (JkT 0 v3:Int).toNat) (x2++([.v (.int .u32 (IntKind.u32.wrap (v4)))]:LP))) else none) else none) else none) else (k0 x2)
def UcI (n:Nat):Nat→ByteArray→LP→(LP→O R)→O R
 | 0,_,_,_=>none
 | m + 1,x1,x2,k0=>Ufq n (fun x1 x2=>UcI n m x1 x2 k0) x1 x2 k0
def Upi (n:Nat) (x1:ByteArray) (x2:LP) (k0:LP→O R):O R:=UcI n n x1 x2 k0
def p98 (n:Nat) (x1:ByteArray) (k0:LP→O R):O R :=
 Upi n x1 [] (fun y2=>Ul7 n y2 (fun y3=>k0 y3))
abbrev E98 (n:Nat):Code→Fr→Kc R→O R:=evC Tryz.prog (UqQ n) Ugp n (31,[])
noncomputable def Uoy:Code:=Jj3 (Jlk Tryz.f98) [1,1,0,0,0]
abbrev Uem:Sl (List SV):=(cS (cO 143 .n))
abbrev UlU (n m:Nat) (K:Kc R):Uem.T (O R):=fun x1 x2=>UcI n m x1 x2 (fun y1=>xL Ugp 2 K (.exit 0) [dD,.own 143 y1])
abbrev UsI (n:Nat) (K:Kc R) (l0:Uem.T (O R)):Uem.T (O R):=fun x1 x2=>Ufq n l0 x1 x2 (fun y1=>xL Ugp 2 K (.exit 0) [dD,.own 143 y1])
abbrev Uy4 (n:Nat):Orc R:=oL Ugp (E98 n) n 2 Uoy Uem (UlU n n) oN
abbrev Uyc (n:Nat):Orc R:=oN
abbrev K98 (R:Type) (n:Nat):=JcH (R:=R) Tryz.prog (UqQ n) Ugp n (31,[]) (Uy4 n) (Uyc n)
theorem Uu2 (n:Nat):K98 R n (false,2,Uoy):=JkE (lo:=Uy4 n) (cu:=Uyc n) (pO pN (by kernel_rfl)) Uem (UlU n n) (JiD (F:=UlU n) Uem (UsI n) (fun K _ _=>rfl) (fun _ _=>rfl) (fun L K _ _=>by show _=_; kernel_rfl) n) fun _ _=>rfl
theorem UBR (n:Nat):Je6 (K98 R n) (JaJ Ugp (Jlk Tryz.f98)):=pO (pC (Uu2 n) pN) (by kernel_rfl)
abbrev t98:Sl (List SV):=(cS .n)
abbrev f98 (n:Nat) (K:List SV→O R):t98.T (O R):=fun x1=>p98 n x1 (fun y1=>K [vH y1])
abbrev UyR (n:Nat):FS:=fT [false] t98 (f98 n)
theorem UA5 (n:Nat):FSound Tryz.prog GI 98 (UyR n):=gd Ugp n (Uld n) Tryz.func98 (.cons (Uld n) t98 (f98 n) (fun K _=>(Jkp (c:=Jlk Tryz.f98) (by kernel_rfl) (UBR n) K).trans (by kernel_rfl)) .nil) (by kernel_rfl)
def Uev:Ann:={ loops:=[(6,ids [0,1,5],ids [4])],cuts:=[],frz:=[],rm:=[.id] }
abbrev UqI (n:Nat):Env:=eN
theorem UkV (n:Nat):EnvOK Tryz.prog GI (UqI n):=.nil
def Ufe (n:Nat) (l0:LP→LP→Int→O R) (x1 x2:LP) (x3:Int) (k0:Int→O R) (k1:O R):O R :=
 bif (decide (x3≥0)) then (bif (inR x3 ((x1).length)) then (Ji9 .u32 ((x1).getD ((x3:Int).toNat) (.v (.bool false))) fun e4=>bif (inR x3 ((x2).length)) then (Ji9 .u32 ((x2).getD ((x3:Int).toNat) (.v (.bool false))) fun e5=>bif (e4 != e5) then (bif (inR x3 ((x1).length)) then (Ji9 .u32 ((x1).getD ((x3:Int).toNat) (.v (.bool false))) fun e6=>bif (inR x3 ((x2).length)) then (Ji9 .u32 ((x2).getD ((x3:Int).toNat) (.v (.bool false))) fun e7=>bif (decide (e6<e7)) then (k0 (-1)) else (k0 1)) else none) else none) else (l0 x1 x2 (IntKind.i64.wrap (x3 - 1)))) else none) else none) else (k1)
def Ucy (n:Nat):Nat→LP→LP→Int→(Int→O R)→(O R)→O R
 | 0,_,_,_,_,_=>none
 | m + 1,x1,x2,x3,k0,k1=>Ufe n (fun x1 x2 x3=>Ucy n m x1 x2 x3 k0 k1) x1 x2 x3 k0 k1
def Upc (n:Nat) (x1 x2:LP) (x3:Int) (k0:Int→O R) (k1:O R):O R:=Ucy n n x1 x2 x3 k0 k1
def p57 (n:Nat) (x1 x2:LP) (k0:Int→O R):O R :=
 bif (((x1).length:Int) != ((x2).length:Int)) then (bif (decide (((x1).length:Int)<((x2).length:Int))) then (k0 (-1)) else (k0 1)) else (let v3:=IntKind.i64.wrap (((x1).length:Int) - 1); Upc n x1 x2 v3 (fun y4=>k0 y4) (k0 0))
abbrev E57 (n:Nat):Code→Fr→Kc R→O R:=evC Tryz.prog (UqI n) Uev n (41,[])
noncomputable def Uoj:Code:=Jj3 (Jlk Tryz.f57) [1,1,0,1,0,0]
abbrev Ued:Sl (List SV):=(cH (cH (cI .n)))
abbrev UlF (n m:Nat) (K:Kc R):Ued.T (O R):=fun x1 x2 x3=>Ucy n m x1 x2 x3 (fun y1=>xL Uev 6 K .ret [vI y1]) (xL Uev 6 K (.exit 0) [dD])
abbrev Usz (n:Nat) (K:Kc R) (l0:Ued.T (O R)):Ued.T (O R):=fun x1 x2 x3=>Ufe n l0 x1 x2 x3 (fun y1=>xL Uev 6 K .ret [vI y1]) (xL Uev 6 K (.exit 0) [dD])
abbrev Uy1 (n:Nat):Orc R:=oL Uev (E57 n) n 6 Uoj Ued (UlF n n) oN
abbrev Uy (n:Nat):Orc R:=oN
abbrev K57 (R:Type) (n:Nat):=JcH (R:=R) Tryz.prog (UqI n) Uev n (41,[]) (Uy1 n) (Uy n)
theorem UuL (n:Nat):K57 R n (false,6,Uoj):=JkE (lo:=Uy1 n) (cu:=Uy n) (pO pN (by kernel_rfl)) Ued (UlF n n) (JiD (F:=UlF n) Ued (Usz n) (fun K _ _ _=>rfl) (fun _ _=>rfl) (fun L K _ _ _=>by show _=_; kernel_rfl) n) fun _ _=>rfl
theorem UBy (n:Nat):Je6 (K57 R n) (JaJ Uev (Jlk Tryz.f57)):=pO (pC (UuL n) pN) (by kernel_rfl)
abbrev t57:Sl (List SV):=(cH (cH .n))
abbrev f57 (n:Nat) (K:List SV→O R):t57.T (O R):=fun x1 x2=>p57 n x1 x2 (fun y1=>K [vI y1])
abbrev Uvx (n:Nat):FS:=fT [false,false] t57 (f57 n)
theorem UwY (n:Nat):FSound Tryz.prog GI 57 (Uvx n):=gd Uev n (UkV n) Tryz.func57 (.cons (UkV n) t57 (f57 n) (fun K _ _=>(Jkp (c:=Jlk Tryz.f57) (by kernel_rfl) (UBy n) K).trans (by kernel_rfl)) .nil) (by kernel_rfl)
def UdR:Ann:={ loops:=[(3,ids [0,1,5,16,17],ids [4,5]),(7,ids [0,1,5,6,7,16,17,21,22],ids [0,1,4,5,6,7,16,17])],cuts:=[],frz:=[],rm:=[.id] }
abbrev UqJ (n:Nat):Env:=eC 101 (UgM n) eN
theorem UkW (n:Nat):EnvOK Tryz.prog GI (UqJ n):=.cons (.nil) (Ujj n)
def Ufg (n:Nat) (l0:LP→LP→LP→Int→Int→Int→Int→Int→Int→O R) (x1 x2 x3:LP) (x4 x5 x6 x7 x8 x9:Int) (k0:LP→LP→LP→Int→Int→Int→Int→O R):O R :=
 bif (decide (x9<x8)) then (bif (inR x4 ((x1).length)) then (Ji9 .u32 ((x1).getD ((x4:Int).toNat) (.v (.bool false))) fun e10=>bif (inR x9 ((x2).length)) then (Ji9 .u32 ((x2).getD ((x9:Int).toNat) (.v (.bool false))) fun e11=>let v12:=IntKind.u64.wrap ((IntKind.u64.wrap (e10)) * (IntKind.u64.wrap (e11))); bif (inR (IntKind.i64.wrap (x4 + x9)) ((x3).length)) then (Ji9 .u32 ((x3).getD ((IntKind.i64.wrap (x4 + x9):Int).toNat) (.v (.bool false))) fun e13=>let v14:=IntKind.u64.wrap (v12 + (IntKind.u64.wrap (e13))); bif decide (1000000000=0) then none else (let v15:=Int.tmod (IntKind.u64.wrap (x5 + v14)) 1000000000; bif (inR (IntKind.i64.wrap (x4 + x9)) ((x3).length)) then (Ji9 .u32 ((x3).getD ((IntKind.i64.wrap (x4 + x9):Int).toNat) (.v (.bool false))) fun e16=>bif decide (1000000000=0) then none else (let v17:=IntKind.u64.wrap (Int.tdiv (IntKind.u64.wrap (x5 + v14)) 1000000000); l0 x1 x2 ((x3).set ((IntKind.i64.wrap (x4 + x9):Int).toNat) (.v (.int .u32 (IntKind.u32.wrap (v15))))) x4 v17 x6 x7 x8 (IntKind.i64.wrap (x9 + 1)))) else none)) else none) else none) else none) else (k0 x1 x2 x3 x4 x5 x6 x7)
def UcA (n:Nat):Nat→LP→LP→LP→Int→Int→Int→Int→Int→Int→(LP→LP→LP→Int→Int→Int→Int→O R)→O R
 | 0,_,_,_,_,_,_,_,_,_,_=>none
 | m + 1,x1,x2,x3,x4,x5,x6,x7,x8,x9,k0=>Ufg n (fun x1 x2 x3 x4 x5 x6 x7 x8 x9=>UcA n m x1 x2 x3 x4 x5 x6 x7 x8 x9 k0) x1 x2 x3 x4 x5 x6 x7 x8 x9 k0
def Upe (n:Nat) (x1 x2 x3:LP) (x4 x5 x6 x7 x8 x9:Int) (k0:LP→LP→LP→Int→Int→Int→Int→O R):O R:=UcA n n x1 x2 x3 x4 x5 x6 x7 x8 x9 k0
def Uff (n:Nat) (l0:LP→LP→LP→Int→Int→O R) (x1 x2 x3:LP) (x4 x5:Int) (k0:LP→O R):O R :=
 bif (decide (x5<x4)) then (Upe n x1 x2 x3 x5 0 x4 x5 ((x2).length:Int) 0 (fun y6 y7 y8 y9 y10 y11 y12=>let v13:=IntKind.i64.wrap (y9 + ((y7).length:Int)); bif (inR v13 ((y8).length)) then (Ji9 .u32 ((y8).getD ((v13:Int).toNat) (.v (.bool false))) fun e14=>l0 y6 y7 ((y8).set ((v13:Int).toNat) (.v (.int .u32 (IntKind.u32.wrap (y10))))) y11 (IntKind.i64.wrap (y12 + 1))) else none)) else (k0 x3)
def Ucz (n:Nat):Nat→LP→LP→LP→Int→Int→(LP→O R)→O R
 | 0,_,_,_,_,_,_=>none
 | m + 1,x1,x2,x3,x4,x5,k0=>Uff n (fun x1 x2 x3 x4 x5=>Ucz n m x1 x2 x3 x4 x5 k0) x1 x2 x3 x4 x5 k0
def Upd (n:Nat) (x1 x2 x3:LP) (x4 x5:Int) (k0:LP→O R):O R:=Ucz n n x1 x2 x3 x4 x5 k0
def p58 (n:Nat) (x1 x2:LP) (k0:LP→O R):O R :=
 let v3:=IntKind.i64.wrap (((x1).length:Int) + ((x2).length:Int)); bif (decide ((0:Int)≤v3)&&decide ((v3:Int)≤v3)&&Jbu (v3:Int).toNat 4) then (Upd n x1 x2 (List.replicate (v3:Int).toNat (.v (.int .u32 0):PV)) ((x1).length:Int) 0 (fun y4=>Ul7 n y4 (fun y5=>k0 y5))) else none
abbrev E58 (n:Nat):Code→Fr→Kc R→O R:=evC Tryz.prog (UqJ n) UdR n (68,[])
noncomputable def Uok:Code:=Jj3 (Jlk Tryz.f58) [1,1,0,1,0,0]
abbrev Uee:Sl (List SV):=(cH (cH (cO 143 (cI (cI .n)))))
abbrev UlG (n m:Nat) (K:Kc R):Uee.T (O R):=fun x1 x2 x3 x4 x5=>Ucz n m x1 x2 x3 x4 x5 (fun y1=>xL UdR 3 K (.exit 0) [dD,.own 143 y1])
abbrev UsA (n:Nat) (K:Kc R) (l0:Uee.T (O R)):Uee.T (O R):=fun x1 x2 x3 x4 x5=>Uff n l0 x1 x2 x3 x4 x5 (fun y1=>xL UdR 3 K (.exit 0) [dD,.own 143 y1])
noncomputable def Uol:Code:=Jj3 (Jlk Tryz.f58) [1,1,0,1,0,0,1,1,0,0,1,1,0,1,0,0]
abbrev Uef:Sl (List SV):=(cH (cH (cO 143 (cI (.c (sP (Jlu .u64)) (cI (cI (cI (cI .n)))))))))
abbrev UlH (n m:Nat) (K:Kc R):Uef.T (O R):=fun x1 x2 x3 x4 x5 x6 x7 x8 x9=>UcA n m x1 x2 x3 x4 x5 x6 x7 x8 x9 (fun y1 y2 y3 y4 y5 y6 y7=>xL UdR 7 K (.exit 2) [vH y1,vH y2,dD,.own 143 y3,vI y4,.p (.v (.int .u64 y5)),vI y6,vI y7])
abbrev UsB (n:Nat) (K:Kc R) (l0:Uef.T (O R)):Uef.T (O R):=fun x1 x2 x3 x4 x5 x6 x7 x8 x9=>Ufg n l0 x1 x2 x3 x4 x5 x6 x7 x8 x9 (fun y1 y2 y3 y4 y5 y6 y7=>xL UdR 7 K (.exit 2) [vH y1,vH y2,dD,.own 143 y3,vI y4,.p (.v (.int .u64 y5)),vI y6,vI y7])
abbrev Uwq (n:Nat):Orc R:=oL UdR (E58 n) n 7 Uol Uef (UlH n n) (oL UdR (E58 n) n 3 Uok Uee (UlG n n) oN)
abbrev UvY (n:Nat):Orc R:=oN
abbrev K58 (R:Type) (n:Nat):=JcH (R:=R) Tryz.prog (UqJ n) UdR n (68,[]) (Uwq n) (UvY n)
theorem UuN (n:Nat):K58 R n (false,7,Uol):=JkE (lo:=Uwq n) (cu:=UvY n) (pO pN (by kernel_rfl)) Uef (UlH n n) (JiD (F:=UlH n) Uef (UsB n) (fun K _ _ _ _ _ _ _ _ _=>rfl) (fun _ _=>rfl) (fun L K _ _ _ _ _ _ _ _ _=>by show _=_; kernel_rfl) n) fun _ _=>rfl
theorem UuM (n:Nat):K58 R n (false,3,Uok):=JkE (lo:=Uwq n) (cu:=UvY n) (pO (pC (UuN n) pN) (by kernel_rfl)) Uee (UlG n n) (JiD (F:=UlG n) Uee (UsA n) (fun K _ _ _ _ _=>rfl) (fun _ _=>rfl) (fun L K _ _ _ _ _=>by show _=_; kernel_rfl) n) fun _ _=>rfl
theorem UBz (n:Nat):Je6 (K58 R n) (JaJ UdR (Jlk Tryz.f58)):=pO (pC (UuM n) pN) (by kernel_rfl)
abbrev t58:Sl (List SV):=(cH (cH .n))
abbrev f58 (n:Nat) (K:List SV→O R):t58.T (O R):=fun x1 x2=>p58 n x1 x2 (fun y1=>K [vH y1])
abbrev UtX (n:Nat):FS:=fT [false,false] t58 (f58 n)
theorem UvD (n:Nat):FSound Tryz.prog GI 58 (UtX n):=gd UdR n (UkW n) Tryz.func58 (.cons (UkW n) t58 (f58 n) (fun K _ _=>(Jkp (c:=Jlk Tryz.f58) (by kernel_rfl) (UBz n) K).trans (by kernel_rfl)) .nil) (by kernel_rfl)
def Udu:Ann:={ loops:=[(4,ids [0,1,6,7,8],ids [4,5,6,7])],cuts:=[],frz:=[],rm:=[.id,.id] }
abbrev Ukq (n:Nat):Env:=eC 101 (UgM n) eN
theorem Uic (n:Nat):EnvOK Tryz.prog GI (Ukq n):=.cons (.nil) (Ujj n)
def Udh (n:Nat) (l0:LP→Int→LP→Int→Int→O R) (x1:LP) (x2:Int) (x3:LP) (x4 x5:Int) (k0:LP→Int→O R):O R :=
 bif (decide (x5≥0)) then (bif (inR x5 ((x1).length)) then (Ji9 .u32 ((x1).getD ((x5:Int).toNat) (.v (.bool false))) fun e6=>let v7:=IntKind.u64.wrap ((IntKind.u64.wrap (x4 * 1000000000)) + (IntKind.u64.wrap (e6))); bif decide (IntKind.u64.wrap (x2)=0) then none else (let v8:=IntKind.u64.wrap (Int.tdiv v7 (IntKind.u64.wrap (x2))); bif (inR x5 ((x3).length)) then (Ji9 .u32 ((x3).getD ((x5:Int).toNat) (.v (.bool false))) fun e9=>bif decide (IntKind.u64.wrap (x2)=0) then none else (let v10:=Int.tmod v7 (IntKind.u64.wrap (x2)); l0 x1 x2 ((x3).set ((x5:Int).toNat) (.v (.int .u32 (IntKind.u32.wrap (v8))))) v10 (IntKind.i64.wrap (x5 - 1)))) else none)) else none) else (k0 x3 x4)
def Ubk (n:Nat):Nat→LP→Int→LP→Int→Int→(LP→Int→O R)→O R
 | 0,_,_,_,_,_,_=>none
 | m + 1,x1,x2,x3,x4,x5,k0=>Udh n (fun x1 x2 x3 x4 x5=>Ubk n m x1 x2 x3 x4 x5 k0) x1 x2 x3 x4 x5 k0
def Umd (n:Nat) (x1:LP) (x2:Int) (x3:LP) (x4 x5:Int) (k0:LP→Int→O R):O R:=Ubk n n x1 x2 x3 x4 x5 k0
def Uuk (n:Nat) (x1:LP) (x2:Int) (k0:LP→Int→O R):O R :=
 bif (decide ((0:Int)≤((x1).length:Int))&&decide ((((x1).length:Int):Int)≤((x1).length:Int))&&Jbu (((x1).length:Int):Int).toNat 4) then (let v3:=IntKind.i64.wrap (((x1).length:Int) - 1); Umd n x1 x2 (List.replicate (((x1).length:Int):Int).toNat (.v (.int .u32 0):PV)) 0 v3 (fun y4 y5=>Ul7 n y4 (fun y6=>k0 y6 (IntKind.u32.wrap (y5))))) else none
abbrev Uzw (n:Nat):Code→Fr→Kc R→O R:=evC Tryz.prog (Ukq n) Udu n (43,[])
noncomputable def UjU:Code:=Jj3 (Jlk Tryz.f137) [1,1,1,0,1,0,0]
abbrev UcT:Sl (List SV):=(cH (.c (sP (Jlu .u32)) (cO 143 (.c (sP (Jlu .u64)) (cI .n)))))
abbrev UgI (n m:Nat) (K:Kc R):UcT.T (O R):=fun x1 x2 x3 x4 x5=>Ubk n m x1 x2 x3 x4 x5 (fun y1 y2=>xL Udu 4 K (.exit 0) [dD,dD,.own 143 y1,.p (.v (.int .u64 y2))])
abbrev Uqa (n:Nat) (K:Kc R) (l0:UcT.T (O R)):UcT.T (O R):=fun x1 x2 x3 x4 x5=>Udh n l0 x1 x2 x3 x4 x5 (fun y1 y2=>xL Udu 4 K (.exit 0) [dD,dD,.own 143 y1,.p (.v (.int .u64 y2))])
abbrev Ut7 (n:Nat):Orc R:=oL Udu (Uzw n) n 4 UjU UcT (UgI n n) oN
abbrev UsV (n:Nat):Orc R:=oN
abbrev Ux0 (R:Type) (n:Nat):=JcH (R:=R) Tryz.prog (Ukq n) Udu n (43,[]) (Ut7 n) (UsV n)
theorem UrB (n:Nat):Ux0 R n (false,4,UjU):=JkE (lo:=Ut7 n) (cu:=UsV n) (pO pN (by kernel_rfl)) UcT (UgI n n) (JiD (F:=UgI n) UcT (Uqa n) (fun K _ _ _ _ _=>rfl) (fun _ _=>rfl) (fun L K _ _ _ _ _=>by show _=_; kernel_rfl) n) fun _ _=>rfl
theorem Uxm (n:Nat):Je6 (Ux0 R n) (JaJ Udu (Jlk Tryz.f137)):=pO (pC (UrB n) pN) (by kernel_rfl)
abbrev UxF:Sl (List SV):=(cH (.c (sP (Jlu .u32)) .n))
abbrev f137 (n:Nat) (K:List SV→O R):UxF.T (O R):=fun x1 x2=>Uuk n x1 x2 (fun y1 y2=>K [vH y1,.p (.v (.int .u32 y2))])
abbrev UtO (n:Nat):FS:=fT [false,false] UxF (f137 n)
theorem UwK (n:Nat):FSound Tryz.prog GI 137 (UtO n):=gd Udu n (Uic n) Tryz.func137 (.cons (Uic n) UxF (f137 n) (fun K _ _=>(Jkp (c:=Jlk Tryz.f137) (by kernel_rfl) (Uxm n) K).trans (by kernel_rfl)) .nil) (by kernel_rfl)
def Uaa:Ann:={ loops:=[(12,ids [8,9,10,11,12,13],ids [4,5,8,9,12]),(16,ids [8,9,10,11,12,13,15,16],ids [4,5,8,9,10,11,12,13,15]),(22,ids [8,9,10,11,12,13,15,17,18,151,152],ids [4,5,8,9,10,11,12,13,15,17,18]),(38,ids [8,9,10,11,12,13,15,21,22,207,208],ids [4,5,8,9,10,11,12,13,15,21,22])],cuts:=[(3,ids [0,1],ids [4,5]),(6,ids [0,1],ids [4,5]),(7,ids [0,1,8],ids [4,5]),(8,ids [8,9,10],ids [4,5]),(9,ids [8,9,10],ids [4,5]),(10,ids [8,9,10,11],ids [4,5]),(11,ids [8,9,10,11,12],ids [4,5]),(13,ids [8,9,10,11,12,13],ids [4,5,8,9,10,11,12,13]),(17,ids [8,9,10,11,12,13,15,16],ids [4,5,8,9,10,11,12,13,15,16]),(31,ids [8,9,10,11,12,13,15,17,18,19,20,151,152],ids [4,5,8,9,10,11,12,13,15,17,18,151,152]),(45,ids [8,9,10,11,12,13,15,21],ids [4,5,8,9,10,11,12,13])],frz:=[],rm:=[.sh,.id] }
abbrev Ukn (n:Nat):Env:=eC 137 (UtO n) (eC 101 (UgM n) (eC 58 (UtX n) (eC 57 (Uvx n) eN)))
theorem Uh6 (n:Nat):EnvOK Tryz.prog GI (Ukn n):=.cons (.cons (.cons (.cons (.nil) (UwY n)) (UvD n)) (Ujj n)) (UwK n)
def Ub7 (n:Nat) (x1 x2 x3:LP) (x4:Int) (x5:LP) (x6 x7 x8:Int) (k0:LP→LP→LP→Int→LP→Int→Int→Int→O R) (k1:LP→LP→LP→Int→LP→Int→Int→Int→O R):O R :=
 bif (inR (IntKind.i64.wrap (x4 - 1)) ((x3).length)) then (Ji9 .u32 ((x3).getD ((IntKind.i64.wrap (x4 - 1):Int).toNat) (.v (.bool false))) fun e9=>let v10:=IntKind.u64.wrap (x8 + (IntKind.u64.wrap (e9))); bif (decide (v10≥1000000000)) then (k0 x1 x2 x3 x4 x5 x6 (IntKind.u64.wrap (x7 - 1)) v10) else (k1 x1 x2 x3 x4 x5 x6 (IntKind.u64.wrap (x7 - 1)) v10)) else none
def Ubb (n:Nat) (l0:LP→LP→LP→Int→LP→Int→Int→Int→O R) (x1 x2 x3:LP) (x4:Int) (x5:LP) (x6 x7 x8:Int) (k0:LP→LP→LP→Int→LP→Int→Int→O R):O R :=
 bif (decide (x7≥1000000000)) then (Ub7 n x1 x2 x3 x4 x5 x6 x7 x8 (fun y9 y10 y11 y12 y13 y14 y15 y16=>k0 y9 y10 y11 y12 y13 y14 y15) (fun y17 y18 y19 y20 y21 y22 y23 y24=>l0 y17 y18 y19 y20 y21 y22 y23 y24)) else (bif (inR (IntKind.i64.wrap (x4 - 2)) ((x3).length)) then (Ji9 .u32 ((x3).getD ((IntKind.i64.wrap (x4 - 2):Int).toNat) (.v (.bool false))) fun e25=>let v26:=IntKind.u64.wrap (x7 * (IntKind.u64.wrap (e25))); let v27:=IntKind.i64.wrap ((IntKind.i64.wrap (x6 + x4)) - 2); bif (inR v27 ((x2).length)) then (Ji9 .u32 ((x2).getD ((v27:Int).toNat) (.v (.bool false))) fun e28=>let v29:=IntKind.u64.wrap ((IntKind.u64.wrap (x8 * 1000000000)) + (IntKind.u64.wrap (e28))); bif (bif false then true else (decide (v26>v29))) then (Ub7 n x1 x2 x3 x4 x5 x6 x7 x8 (fun y30 y31 y32 y33 y34 y35 y36 y37=>k0 y30 y31 y32 y33 y34 y35 y36) (fun y38 y39 y40 y41 y42 y43 y44 y45=>l0 y38 y39 y40 y41 y42 y43 y44 y45)) else (k0 x1 x2 x3 x4 x5 x6 x7)) else none) else none)
def UaH (n:Nat):Nat→LP→LP→LP→Int→LP→Int→Int→Int→(LP→LP→LP→Int→LP→Int→Int→O R)→O R
 | 0,_,_,_,_,_,_,_,_,_=>none
 | m + 1,x1,x2,x3,x4,x5,x6,x7,x8,k0=>Ubb n (fun x1 x2 x3 x4 x5 x6 x7 x8=>UaH n m x1 x2 x3 x4 x5 x6 x7 x8 k0) x1 x2 x3 x4 x5 x6 x7 x8 k0
def Ue2 (n:Nat) (x1 x2 x3:LP) (x4:Int) (x5:LP) (x6 x7 x8:Int) (k0:LP→LP→LP→Int→LP→Int→Int→O R):O R:=UaH n n x1 x2 x3 x4 x5 x6 x7 x8 k0
def Ude (n:Nat) (x1 x2 x3:LP) (x4:Int) (x5:LP) (x6 x7 x8 x9 x10 x11 x12 x13:Int) (k0:LP→LP→LP→Int→LP→Int→Int→Int→Int→Int→Int→O R):O R :=
 bif (inR (IntKind.i64.wrap (x6 + x10)) ((x2).length)) then (Ji9 .u32 ((x2).getD ((IntKind.i64.wrap (x6 + x10):Int).toNat) (.v (.bool false))) fun e14=>k0 x1 ((x2).set ((IntKind.i64.wrap (x6 + x10):Int).toNat) (.v (.int .u32 (IntKind.u32.wrap (x11))))) x3 x4 x5 x6 x7 x8 x9 x12 x13) else none
def Ub9 (n:Nat) (l0:LP→LP→LP→Int→LP→Int→Int→Int→Int→Int→Int→O R) (x1 x2 x3:LP) (x4:Int) (x5:LP) (x6 x7 x8 x9 x10 x11:Int) (k0:LP→LP→LP→Int→LP→Int→Int→Int→Int→O R):O R :=
 bif (decide (x11<x10)) then (bif (inR x11 ((x3).length)) then (Ji9 .u32 ((x3).getD ((x11:Int).toNat) (.v (.bool false))) fun e12=>let v13:=IntKind.u64.wrap (x7 * (IntKind.u64.wrap (e12))); bif (inR (IntKind.i64.wrap (x6 + x11)) ((x2).length)) then (Ji9 .u32 ((x2).getD ((IntKind.i64.wrap (x6 + x11):Int).toNat) (.v (.bool false))) fun e14=>bif decide (1000000000=0) then none else (let v15:=Int.tmod (IntKind.u64.wrap (x8 + v13)) 1000000000; let v16:=IntKind.i64.wrap ((IntKind.i64.wrap (e14)) - (IntKind.i64.wrap (v15))); bif decide (1000000000=0) then none else (let v17:=IntKind.u64.wrap (Int.tdiv (IntKind.u64.wrap (x8 + v13)) 1000000000); bif (decide (IntKind.i64.wrap (v16 - x9)<0)) then (let v18:=IntKind.i64.wrap ((IntKind.i64.wrap (v16 - x9)) + 1000000000); Ude n x1 x2 x3 x4 x5 x6 x7 v17 1 x11 v18 x10 x11 (fun y19 y20 y21 y22 y23 y24 y25 y26 y27 y28 y29=>l0 y19 y20 y21 y22 y23 y24 y25 y26 y27 y28 (IntKind.i64.wrap (y29 + 1)))) else (Ude n x1 x2 x3 x4 x5 x6 x7 v17 0 x11 (IntKind.i64.wrap (v16 - x9)) x10 x11 (fun y30 y31 y32 y33 y34 y35 y36 y37 y38 y39 y40=>l0 y30 y31 y32 y33 y34 y35 y36 y37 y38 y39 (IntKind.i64.wrap (y40 + 1))))))) else none) else none) else (k0 x1 x2 x3 x4 x5 x6 x7 x8 x9)
def UaA (n:Nat):Nat→LP→LP→LP→Int→LP→Int→Int→Int→Int→Int→Int→(LP→LP→LP→Int→LP→Int→Int→Int→Int→O R)→O R
 | 0,_,_,_,_,_,_,_,_,_,_,_,_=>none
 | m + 1,x1,x2,x3,x4,x5,x6,x7,x8,x9,x10,x11,k0=>Ub9 n (fun x1 x2 x3 x4 x5 x6 x7 x8 x9 x10 x11=>UaA n m x1 x2 x3 x4 x5 x6 x7 x8 x9 x10 x11 k0) x1 x2 x3 x4 x5 x6 x7 x8 x9 x10 x11 k0
def Ue3 (n:Nat) (x1 x2 x3:LP) (x4:Int) (x5:LP) (x6 x7 x8 x9 x10 x11:Int) (k0:LP→LP→LP→Int→LP→Int→Int→Int→Int→O R):O R:=UaA n n x1 x2 x3 x4 x5 x6 x7 x8 x9 x10 x11 k0
def Uc (n:Nat) (l0:LP→LP→LP→Int→LP→Int→Int→Int→Int→Int→Int→O R) (x1 x2 x3:LP) (x4:Int) (x5:LP) (x6 x7 x8 x9 x10 x11:Int) (k0:LP→LP→LP→Int→LP→Int→Int→Int→Int→O R):O R :=
 bif (decide (x11<x10)) then (bif (inR (IntKind.i64.wrap (x6 + x11)) ((x2).length)) then (Ji9 .u32 ((x2).getD ((IntKind.i64.wrap (x6 + x11):Int).toNat) (.v (.bool false))) fun e12=>bif (inR x11 ((x3).length)) then (Ji9 .u32 ((x3).getD ((x11:Int).toNat) (.v (.bool false))) fun e13=>let v14:=IntKind.u32.wrap (x9 + (IntKind.u32.wrap (e12 + e13))); bif decide (1000000000=0) then none else (bif (inR (IntKind.i64.wrap (x6 + x11)) ((x2).length)) then (Ji9 .u32 ((x2).getD ((IntKind.i64.wrap (x6 + x11):Int).toNat) (.v (.bool false))) fun e15=>bif decide (1000000000=0) then none else (let v16:=IntKind.u32.wrap (Int.tdiv v14 1000000000); l0 x1 ((x2).set ((IntKind.i64.wrap (x6 + x11):Int).toNat) (.v (.int .u32 (Int.tmod v14 1000000000)))) x3 x4 x5 x6 x7 x8 v16 x10 (IntKind.i64.wrap (x11 + 1)))) else none)) else none) else none) else (k0 x1 x2 x3 x4 x5 x6 x7 x8 x9)
def UaI (n:Nat):Nat→LP→LP→LP→Int→LP→Int→Int→Int→Int→Int→Int→(LP→LP→LP→Int→LP→Int→Int→Int→Int→O R)→O R
 | 0,_,_,_,_,_,_,_,_,_,_,_,_=>none
 | m + 1,x1,x2,x3,x4,x5,x6,x7,x8,x9,x10,x11,k0=>Uc n (fun x1 x2 x3 x4 x5 x6 x7 x8 x9 x10 x11=>UaI n m x1 x2 x3 x4 x5 x6 x7 x8 x9 x10 x11 k0) x1 x2 x3 x4 x5 x6 x7 x8 x9 x10 x11 k0
def UiP (n:Nat) (x1 x2 x3:LP) (x4:Int) (x5:LP) (x6 x7 x8 x9 x10 x11:Int) (k0:LP→LP→LP→Int→LP→Int→Int→Int→Int→O R):O R:=UaI n n x1 x2 x3 x4 x5 x6 x7 x8 x9 x10 x11 k0
def Ub8 (n:Nat) (x1 x2 x3:LP) (x4:Int) (x5:LP) (x6 x7 x8:Int) (k0:LP→LP→LP→Int→LP→Int→O R):O R :=
 bif (inR (IntKind.i64.wrap (x6 + x4)) ((x2).length)) then (Ji9 .u32 ((x2).getD ((IntKind.i64.wrap (x6 + x4):Int).toNat) (.v (.bool false))) fun e9=>bif (inR x6 ((x5).length)) then (Ji9 .u32 ((x5).getD ((x6:Int).toNat) (.v (.bool false))) fun e10=>k0 x1 ((x2).set ((IntKind.i64.wrap (x6 + x4):Int).toNat) (.v (.int .u32 (IntKind.u32.wrap (x8))))) x3 x4 ((x5).set ((x6:Int).toNat) (.v (.int .u32 (IntKind.u32.wrap (x7))))) x6) else none) else none
def Ub6 (n:Nat) (x1 x2 x3:LP) (x4:Int) (x5:LP) (x6:Int) (k0:LP→LP→LP→Int→LP→Int→O R):O R :=
 k0 x1 x2 x3 x4 x5 (IntKind.i64.wrap (x6 - 1))
def Uba (n:Nat) (l0:LP→LP→LP→Int→LP→Int→O R) (x1 x2 x3:LP) (x4:Int) (x5:LP) (x6:Int) (k0:LP→LP→LP→O R):O R :=
 bif (decide (x6≥0)) then (bif (inR (IntKind.i64.wrap (x6 + x4)) ((x2).length)) then (Ji9 .u32 ((x2).getD ((IntKind.i64.wrap (x6 + x4):Int).toNat) (.v (.bool false))) fun e7=>let v8:=IntKind.u64.wrap ((IntKind.u64.wrap (e7)) * 1000000000); let v9:=IntKind.i64.wrap ((IntKind.i64.wrap (x6 + x4)) - 1); bif (inR v9 ((x2).length)) then (Ji9 .u32 ((x2).getD ((v9:Int).toNat) (.v (.bool false))) fun e10=>let v11:=IntKind.u64.wrap (v8 + (IntKind.u64.wrap (e10))); bif (inR (IntKind.i64.wrap (x4 - 1)) ((x3).length)) then (Ji9 .u32 ((x3).getD ((IntKind.i64.wrap (x4 - 1):Int).toNat) (.v (.bool false))) fun e12=>bif decide (IntKind.u64.wrap (e12)=0) then none else (let v13:=IntKind.u64.wrap (Int.tdiv v11 (IntKind.u64.wrap (e12))); bif (inR (IntKind.i64.wrap (x4 - 1)) ((x3).length)) then (Ji9 .u32 ((x3).getD ((IntKind.i64.wrap (x4 - 1):Int).toNat) (.v (.bool false))) fun e14=>bif decide (IntKind.u64.wrap (e14)=0) then none else (let v15:=Int.tmod v11 (IntKind.u64.wrap (e14)); Ue2 n x1 x2 x3 x4 x5 x6 v13 v15 (fun y16 y17 y18 y19 y20 y21 y22=>Ue3 n y16 y17 y18 y19 y20 y21 y22 0 0 y19 0 (fun y23 y24 y25 y26 y27 y28 y29 y30 y31=>bif (inR (IntKind.i64.wrap (y28 + y26)) ((y24).length)) then (Ji9 .u32 ((y24).getD ((IntKind.i64.wrap (y28 + y26):Int).toNat) (.v (.bool false))) fun e32=>let v33:=IntKind.i64.wrap ((IntKind.i64.wrap (e32)) - (IntKind.i64.wrap (y30))); bif (decide (IntKind.i64.wrap (v33 - y31)<0)) then (UiP n y23 y24 y25 y26 y27 y28 (IntKind.u64.wrap (y29 - 1)) (IntKind.i64.wrap (v33 - y31)) 0 y26 0 (fun y34 y35 y36 y37 y38 y39 y40 y41 y42=>let v43:=IntKind.i64.wrap (y41 + (IntKind.i64.wrap (y42))); Ub8 n y34 y35 y36 y37 y38 y39 y40 v43 (fun y44 y45 y46 y47 y48 y49=>Ub6 n y44 y45 y46 y47 y48 y49 (fun y50 y51 y52 y53 y54 y55=>l0 y50 y51 y52 y53 y54 y55)))) else (Ub8 n y23 y24 y25 y26 y27 y28 y29 (IntKind.i64.wrap (v33 - y31)) (fun y56 y57 y58 y59 y60 y61=>Ub6 n y56 y57 y58 y59 y60 y61 (fun y62 y63 y64 y65 y66 y67=>l0 y62 y63 y64 y65 y66 y67)))) else none)))) else none)) else none) else none) else none) else (k0 x1 x2 x5)
def Uaw (n:Nat):Nat→LP→LP→LP→Int→LP→Int→(LP→LP→LP→O R)→O R
 | 0,_,_,_,_,_,_,_=>none
 | m + 1,x1,x2,x3,x4,x5,x6,k0=>Uba n (fun x1 x2 x3 x4 x5 x6=>Uaw n m x1 x2 x3 x4 x5 x6 k0) x1 x2 x3 x4 x5 x6 k0
def UiO (n:Nat) (x1 x2 x3:LP) (x4:Int) (x5:LP) (x6:Int) (k0:LP→LP→LP→O R):O R:=Uaw n n x1 x2 x3 x4 x5 x6 k0
def Ue0 (n:Nat) (x1 x2 x3:LP) (x4:Int) (x5:LP) (k0:LP→LP→O R):O R :=
 let v6:=IntKind.i64.wrap (((x2).length:Int) - x4); UiO n x1 x2 x3 x4 x5 (IntKind.i64.wrap (v6 - 1)) (fun y7 y8 y9=>Ul7 n y8 (fun y10=>bif (inR 0 ((y7).length)) then (Ji9 .u32 ((y7).getD ((0:Int).toNat) (.v (.bool false))) fun e11=>Uuk n y10 e11 (fun y12 y13=>Ul7 n y9 (fun y14=>k0 y14 y12))) else none))
def UeZ (n:Nat) (x1 x2 x3:LP) (x4:Int) (k0:LP→LP→O R):O R :=
 let v5:=IntKind.i64.wrap (((x2).length:Int) - x4); bif (decide ((0:Int)≤v5)&&decide ((v5:Int)≤v5)&&Jbu (v5:Int).toNat 4) then (Ue0 n x1 x2 x3 x4 (List.replicate (v5:Int).toNat (.v (.int .u32 0):PV)) (fun y6 y7=>k0 y6 y7)) else none
def UgS (n:Nat) (x1 x2 x3:LP) (k0:LP→LP→O R):O R :=
 UeZ n x1 x2 x3 ((x3).length:Int) (fun y4 y5=>k0 y4 y5)
def UgR (n:Nat) (x1 x2 x3:LP) (k0:LP→LP→O R):O R :=
 bif (Jgw 1 x2&&Jbu (0 + (x2).length) 4) then (bif (Jbu (([]++x2).length + 1) 4) then (UgS n x1 (([]++x2)++([.v (.int .u32 0)]:LP)) x3 (fun y4 y5=>k0 y4 y5)) else none) else none
def UgQ (n:Nat) (x1 x2 x3:LP) (k0:LP→LP→O R):O R :=
 p58 n x1 x3 (fun y4=>p58 n x2 x3 (fun y5=>UgR n x3 y4 y5 (fun y6 y7=>k0 y6 y7)))
def UgP (n:Nat) (x1 x2:LP) (k0:LP→LP→O R):O R :=
 let v3:=IntKind.i64.wrap (((x2).length:Int) - 1); bif (inR v3 ((x2).length)) then (Ji9 .u32 ((x2).getD ((v3:Int).toNat) (.v (.bool false))) fun e4=>bif decide (IntKind.u32.wrap (e4 + 1)=0) then none else (let v5:=IntKind.u32.wrap (Int.tdiv 1000000000 (IntKind.u32.wrap (e4 + 1))); UgQ n x1 x2 ([.v (.int .u32 v5)]:LP) (fun y6 y7=>k0 y6 y7))) else none
def Ue1 (n:Nat) (x1 x2:LP) (k0:LP→LP→O R):O R :=
 bif (((x2).length:Int) == 1) then (bif (inR 0 ((x2).length)) then (Ji9 .u32 ((x2).getD ((0:Int).toNat) (.v (.bool false))) fun e3=>Uuk n x1 e3 (fun y4 y5=>Ul7 n ([.v (.int .u32 y5)]:LP) (fun y6=>k0 y4 y6))) else none) else (UgP n x1 x2 (fun y7 y8=>k0 y7 y8))
def Use (n:Nat) (x1 x2:LP) (k0:LP→LP→O R):O R :=
 p57 n x1 x2 (fun y3=>bif (decide (y3<0)) then (k0 [] x1) else (Ue1 n x1 x2 (fun y4 y5=>k0 y4 y5)))
abbrev Ugn (n:Nat):Code→Fr→Kc R→O R:=evC Tryz.prog (Ukn n) Uaa n (262,[])
noncomputable def UjM:Code:=Jj3 (Jlk Tryz.f115) [1,1]
abbrev Uha:Sl (List SV):=(cH (cH .n))
abbrev Ulj (n:Nat) (K:Kc R):Uha.T (O R):=fun x1 x2=>Ue1 n x1 x2 (fun y1 y2=>xC Uaa 3 K .ret [vH y1,vH y2])
noncomputable def UjN:Code:=Jj3 (Jlk Tryz.f115) [1,1,1]
abbrev Uhb:Sl (List SV):=(cH (cH .n))
abbrev Ulk (n:Nat) (K:Kc R):Uhb.T (O R):=fun x1 x2=>UgP n x1 x2 (fun y1 y2=>xC Uaa 6 K .ret [vH y1,vH y2])
noncomputable def UjO:Code:=Jj3 (Jlk Tryz.f115) [1,1,1,1]
abbrev Uhc:Sl (List SV):=(cH (cH (cO 143 .n)))
abbrev Ull (n:Nat) (K:Kc R):Uhc.T (O R):=fun x1 x2 x3=>UgQ n x1 x2 x3 (fun y1 y2=>xC Uaa 7 K .ret [vH y1,vH y2])
noncomputable def UjP:Code:=Jj3 (Jlk Tryz.f115) [1,1,1,1,1]
abbrev Uhd:Sl (List SV):=(cH (cH (cH .n)))
abbrev Ulm (n:Nat) (K:Kc R):Uhd.T (O R):=fun x1 x2 x3=>UgR n x1 x2 x3 (fun y1 y2=>xC Uaa 8 K .ret [vH y1,vH y2])
noncomputable def UjQ:Code:=Jj3 (Jlk Tryz.f115) [1,1,1,1,1,1]
abbrev Uhe:Sl (List SV):=(cH (cO 143 (cH .n)))
abbrev Uln (n:Nat) (K:Kc R):Uhe.T (O R):=fun x1 x2 x3=>UgS n x1 x2 x3 (fun y1 y2=>xC Uaa 9 K .ret [vH y1,vH y2])
noncomputable def Uhz:Code:=Jj3 (Jlk Tryz.f115) [1,1,1,1,1,1,1]
abbrev UfC:Sl (List SV):=(cH (cO 143 (cH (cI .n))))
abbrev Uim (n:Nat) (K:Kc R):UfC.T (O R):=fun x1 x2 x3 x4=>UeZ n x1 x2 x3 x4 (fun y1 y2=>xC Uaa 10 K .ret [vH y1,vH y2])
noncomputable def UhA:Code:=Jj3 (Jlk Tryz.f115) [1,1,1,1,1,1,1,1]
abbrev UfD:Sl (List SV):=(cH (cO 143 (cH (cI (cO 143 .n)))))
abbrev Uin (n:Nat) (K:Kc R):UfD.T (O R):=fun x1 x2 x3 x4 x5=>Ue0 n x1 x2 x3 x4 x5 (fun y1 y2=>xC Uaa 11 K .ret [vH y1,vH y2])
noncomputable def UhB:Code:=Jj3 (Jlk Tryz.f115) [1,1,1,1,1,1,1,1,0,1,0,0,1,1]
abbrev UfE:Sl (List SV):=(cH (cO 143 (cH (cI (cO 143 (cI .n))))))
abbrev Uio (n:Nat) (K:Kc R):UfE.T (O R):=fun x1 x2 x3 x4 x5 x6=>Ub6 n x1 x2 x3 x4 x5 x6 (fun y1 y2 y3 y4 y5 y6=>xC Uaa 13 K .normal [dD,dD,vH y1,.own 143 y2,vH y3,vI y4,.own 143 y5,vI y6])
noncomputable def UhC:Code:=Jj3 (Jlk Tryz.f115) [1,1,1,1,1,1,1,1,0,1,0,0,1,0,0,1,1,0,0,0,1]
abbrev UfF:Sl (List SV):=(cH (cO 143 (cH (cI (cO 143 (cI (.c (sP (Jlu .u64)) (.c (sP (Jlu .u64)) .n))))))))
abbrev Uip (n:Nat) (K:Kc R):UfF.T (O R):=fun x1 x2 x3 x4 x5 x6 x7 x8=>Ub7 n x1 x2 x3 x4 x5 x6 x7 x8 (fun y1 y2 y3 y4 y5 y6 y7 y8=>xC Uaa 17 K (.exit 2) [dD,dD,vH y1,.own 143 y2,vH y3,vI y4,.own 143 y5,vI y6,.p (.v (.int .u64 y7)),.p (.v (.int .u64 y8))]) (fun y1 y2 y3 y4 y5 y6 y7 y8=>xC Uaa 17 K .normal [dD,dD,vH y1,.own 143 y2,vH y3,vI y4,.own 143 y5,vI y6,.p (.v (.int .u64 y7)),.p (.v (.int .u64 y8))])
noncomputable def UhD:Code:=Jj3 (Jlk Tryz.f115) [1,1,1,1,1,1,1,1,0,1,0,0,1,0,0,1,1,1,1,0,1,0,0,1,1,0,0,1,1,1,1,1,1]
abbrev UfG:Sl (List SV):=(cH (cO 143 (cH (cI (cO 143 (cI (.c (sP (Jlu .u64)) (.c (sP (Jlu .u64)) (cI (cI (cI (cI (cI .n)))))))))))))
abbrev Uiq (n:Nat) (K:Kc R):UfG.T (O R):=fun x1 x2 x3 x4 x5 x6 x7 x8 x9 x10 x11 x12 x13=>Ude n x1 x2 x3 x4 x5 x6 x7 x8 x9 x10 x11 x12 x13 (fun y1 y2 y3 y4 y5 y6 y7 y8 y9 y10 y11=>xC Uaa 31 K .normal [dD,dD,vH y1,.own 143 y2,vH y3,vI y4,.own 143 y5,vI y6,.p (.v (.int .u64 y7)),.p (.v (.int .u64 y8)),vI y9,vI y10,vI y11])
noncomputable def UhE:Code:=Jj3 (Jlk Tryz.f115) [1,1,1,1,1,1,1,1,0,1,0,0,1,0,0,1,1,1,1,1,1,1]
abbrev UfH:Sl (List SV):=(cH (cO 143 (cH (cI (cO 143 (cI (.c (sP (Jlu .u64)) (cI .n))))))))
abbrev Uir (n:Nat) (K:Kc R):UfH.T (O R):=fun x1 x2 x3 x4 x5 x6 x7 x8=>Ub8 n x1 x2 x3 x4 x5 x6 x7 x8 (fun y1 y2 y3 y4 y5 y6=>xC Uaa 45 K .normal [dD,dD,vH y1,.own 143 y2,vH y3,vI y4,.own 143 y5,vI y6])
noncomputable def UhF:Code:=Jj3 (Jlk Tryz.f115) [1,1,1,1,1,1,1,1,0,1,0,0]
abbrev Ubp:Sl (List SV):=(cH (cO 143 (cH (cI (cO 143 (cI .n))))))
abbrev UeG (n m:Nat) (K:Kc R):Ubp.T (O R):=fun x1 x2 x3 x4 x5 x6=>Uaw n m x1 x2 x3 x4 x5 x6 (fun y1 y2 y3=>xL Uaa 12 K (.exit 0) [dD,dD,vH y1,.own 143 y2,.own 143 y3])
abbrev Um6 (n:Nat) (K:Kc R) (l0:Ubp.T (O R)):Ubp.T (O R):=fun x1 x2 x3 x4 x5 x6=>Uba n l0 x1 x2 x3 x4 x5 x6 (fun y1 y2 y3=>xL Uaa 12 K (.exit 0) [dD,dD,vH y1,.own 143 y2,.own 143 y3])
noncomputable def UhG:Code:=Jj3 (Jlk Tryz.f115) [1,1,1,1,1,1,1,1,0,1,0,0,1,0,0,1,1,0,0,0]
abbrev Ubq:Sl (List SV):=(cH (cO 143 (cH (cI (cO 143 (cI (.c (sP (Jlu .u64)) (.c (sP (Jlu .u64)) .n))))))))
abbrev UeH (n m:Nat) (K:Kc R):Ubq.T (O R):=fun x1 x2 x3 x4 x5 x6 x7 x8=>UaH n m x1 x2 x3 x4 x5 x6 x7 x8 (fun y1 y2 y3 y4 y5 y6 y7=>xL Uaa 16 K (.exit 2) [dD,dD,vH y1,.own 143 y2,vH y3,vI y4,.own 143 y5,vI y6,.p (.v (.int .u64 y7))])
abbrev Um7 (n:Nat) (K:Kc R) (l0:Ubq.T (O R)):Ubq.T (O R):=fun x1 x2 x3 x4 x5 x6 x7 x8=>Ubb n l0 x1 x2 x3 x4 x5 x6 x7 x8 (fun y1 y2 y3 y4 y5 y6 y7=>xL Uaa 16 K (.exit 2) [dD,dD,vH y1,.own 143 y2,vH y3,vI y4,.own 143 y5,vI y6,.p (.v (.int .u64 y7))])
noncomputable def UhH:Code:=Jj3 (Jlk Tryz.f115) [1,1,1,1,1,1,1,1,0,1,0,0,1,0,0,1,1,1,1,0,1,0,0]
abbrev Ubr:Sl (List SV):=(cH (cO 143 (cH (cI (cO 143 (cI (.c (sP (Jlu .u64)) (.c (sP (Jlu .u64)) (cI (cI (cI .n)))))))))))
abbrev UeI (n m:Nat) (K:Kc R):Ubr.T (O R):=fun x1 x2 x3 x4 x5 x6 x7 x8 x9 x10 x11=>UaA n m x1 x2 x3 x4 x5 x6 x7 x8 x9 x10 x11 (fun y1 y2 y3 y4 y5 y6 y7 y8 y9=>xL Uaa 22 K (.exit 4) [dD,dD,vH y1,.own 143 y2,vH y3,vI y4,.own 143 y5,vI y6,.p (.v (.int .u64 y7)),.p (.v (.int .u64 y8)),vI y9])
abbrev Um8 (n:Nat) (K:Kc R) (l0:Ubr.T (O R)):Ubr.T (O R):=fun x1 x2 x3 x4 x5 x6 x7 x8 x9 x10 x11=>Ub9 n l0 x1 x2 x3 x4 x5 x6 x7 x8 x9 x10 x11 (fun y1 y2 y3 y4 y5 y6 y7 y8 y9=>xL Uaa 22 K (.exit 4) [dD,dD,vH y1,.own 143 y2,vH y3,vI y4,.own 143 y5,vI y6,.p (.v (.int .u64 y7)),.p (.v (.int .u64 y8)),vI y9])
noncomputable def UhI:Code:=Jj3 (Jlk Tryz.f115) [1,1,1,1,1,1,1,1,0,1,0,0,1,0,0,1,1,1,1,1,1,0,1,0,1,1,0,1,0,0]
abbrev Ubs:Sl (List SV):=(cH (cO 143 (cH (cI (cO 143 (cI (.c (sP (Jlu .u64)) (cI (.c (sP (Jlu .u32)) (cI (cI .n)))))))))))
abbrev UeJ (n m:Nat) (K:Kc R):Ubs.T (O R):=fun x1 x2 x3 x4 x5 x6 x7 x8 x9 x10 x11=>UaI n m x1 x2 x3 x4 x5 x6 x7 x8 x9 x10 x11 (fun y1 y2 y3 y4 y5 y6 y7 y8 y9=>xL Uaa 38 K (.exit 6) [dD,dD,vH y1,.own 143 y2,vH y3,vI y4,.own 143 y5,vI y6,.p (.v (.int .u64 y7)),vI y8,.p (.v (.int .u32 y9))])
abbrev Um9 (n:Nat) (K:Kc R) (l0:Ubs.T (O R)):Ubs.T (O R):=fun x1 x2 x3 x4 x5 x6 x7 x8 x9 x10 x11=>Uc n l0 x1 x2 x3 x4 x5 x6 x7 x8 x9 x10 x11 (fun y1 y2 y3 y4 y5 y6 y7 y8 y9=>xL Uaa 38 K (.exit 6) [dD,dD,vH y1,.own 143 y2,vH y3,vI y4,.own 143 y5,vI y6,.p (.v (.int .u64 y7)),vI y8,.p (.v (.int .u32 y9))])
abbrev Ubx (n:Nat):Orc R:=oL Uaa (Ugn n) n 38 UhI Ubs (UeJ n n) (oL Uaa (Ugn n) n 22 UhH Ubr (UeI n n) (oL Uaa (Ugn n) n 16 UhG Ubq (UeH n n) (oL Uaa (Ugn n) n 12 UhF Ubp (UeG n n) oN)))
abbrev Ubw (n:Nat):Orc R:=oC Uaa (Ugn n) 45 UhE UfH (Uir n) (oC Uaa (Ugn n) 31 UhD UfG (Uiq n) (oC Uaa (Ugn n) 17 UhC UfF (Uip n) (oC Uaa (Ugn n) 13 UhB UfE (Uio n) (oC Uaa (Ugn n) 11 UhA UfD (Uin n) (oC Uaa (Ugn n) 10 Uhz UfC (Uim n) (oC Uaa (Ugn n) 9 UjQ Uhe (Uln n) (oC Uaa (Ugn n) 8 UjP Uhd (Ulm n) (oC Uaa (Ugn n) 7 UjO Uhc (Ull n) (oC Uaa (Ugn n) 6 UjN Uhb (Ulk n) (oC Uaa (Ugn n) 3 UjM Uha (Ulj n) oN))))))))))
abbrev Ugi (R:Type) (n:Nat):=JcH (R:=R) Tryz.prog (Ukn n) Uaa n (262,[]) (Ubx n) (Ubw n)
theorem UnM (n:Nat):Ugi R n (true,17,UhC):=JkV (lo:=Ubx n) (cu:=Ubw n) (pO pN (by kernel_rfl)) UfF (Uip n) (fun K _ _ _ _ _ _ _ _=>by show _=_; kernel_rfl) fun _ _=>rfl
theorem UnQ (n:Nat):Ugi R n (false,16,UhG):=JkE (lo:=Ubx n) (cu:=Ubw n) (pO (pC (UnM n) pN) (by kernel_rfl)) Ubq (UeH n n) (JiD (F:=UeH n) Ubq (Um7 n) (fun K _ _ _ _ _ _ _ _=>rfl) (fun _ _=>rfl) (fun L K _ _ _ _ _ _ _ _=>by show _=_; kernel_rfl) n) fun _ _=>rfl
theorem UnN (n:Nat):Ugi R n (true,31,UhD):=JkV (lo:=Ubx n) (cu:=Ubw n) (pO pN (by kernel_rfl)) UfG (Uiq n) (fun K _ _ _ _ _ _ _ _ _ _ _ _ _=>by show _=_; kernel_rfl) fun _ _=>rfl
theorem UnR (n:Nat):Ugi R n (false,22,UhH):=JkE (lo:=Ubx n) (cu:=Ubw n) (pO (pC (UnN n) pN) (by kernel_rfl)) Ubr (UeI n n) (JiD (F:=UeI n) Ubr (Um8 n) (fun K _ _ _ _ _ _ _ _ _ _ _=>rfl) (fun _ _=>rfl) (fun L K _ _ _ _ _ _ _ _ _ _ _=>by show _=_; kernel_rfl) n) fun _ _=>rfl
theorem UnS (n:Nat):Ugi R n (false,38,UhI):=JkE (lo:=Ubx n) (cu:=Ubw n) (pO pN (by kernel_rfl)) Ubs (UeJ n n) (JiD (F:=UeJ n) Ubs (Um9 n) (fun K _ _ _ _ _ _ _ _ _ _ _=>rfl) (fun _ _=>rfl) (fun L K _ _ _ _ _ _ _ _ _ _ _=>by show _=_; kernel_rfl) n) fun _ _=>rfl
theorem UnO (n:Nat):Ugi R n (true,45,UhE):=JkV (lo:=Ubx n) (cu:=Ubw n) (pO pN (by kernel_rfl)) UfH (Uir n) (fun K _ _ _ _ _ _ _ _=>by show _=_; kernel_rfl) fun _ _=>rfl
theorem UnL (n:Nat):Ugi R n (true,13,UhB):=JkV (lo:=Ubx n) (cu:=Ubw n) (pO pN (by kernel_rfl)) UfE (Uio n) (fun K _ _ _ _ _ _=>by show _=_; kernel_rfl) fun _ _=>rfl
theorem UnP (n:Nat):Ugi R n (false,12,UhF):=JkE (lo:=Ubx n) (cu:=Ubw n) (pO (pC (UnQ n) (pC (UnR n) (pC (UnS n) (pC (UnO n) (pC (UnL n) pN))))) (by kernel_rfl)) Ubp (UeG n n) (JiD (F:=UeG n) Ubp (Um6 n) (fun K _ _ _ _ _ _=>rfl) (fun _ _=>rfl) (fun L K _ _ _ _ _ _=>by show _=_; kernel_rfl) n) fun _ _=>rfl
theorem UnK (n:Nat):Ugi R n (true,11,UhA):=JkV (lo:=Ubx n) (cu:=Ubw n) (pO (pC (UnP n) pN) (by kernel_rfl)) UfD (Uin n) (fun K _ _ _ _ _=>by show _=_; kernel_rfl) fun _ _=>rfl
theorem UnJ (n:Nat):Ugi R n (true,10,Uhz):=JkV (lo:=Ubx n) (cu:=Ubw n) (pO (pC (UnK n) pN) (by kernel_rfl)) UfC (Uim n) (fun K _ _ _ _=>by show _=_; kernel_rfl) fun _ _=>rfl
theorem Urw (n:Nat):Ugi R n (true,9,UjQ):=JkV (lo:=Ubx n) (cu:=Ubw n) (pO (pC (UnJ n) pN) (by kernel_rfl)) Uhe (Uln n) (fun K _ _ _=>by show _=_; kernel_rfl) fun _ _=>rfl
theorem Urv (n:Nat):Ugi R n (true,8,UjP):=JkV (lo:=Ubx n) (cu:=Ubw n) (pO (pC (Urw n) pN) (by kernel_rfl)) Uhd (Ulm n) (fun K _ _ _=>by show _=_; kernel_rfl) fun _ _=>rfl
theorem Uru (n:Nat):Ugi R n (true,7,UjO):=JkV (lo:=Ubx n) (cu:=Ubw n) (pO (pC (Urv n) pN) (by kernel_rfl)) Uhc (Ull n) (fun K _ _ _=>by show _=_; kernel_rfl) fun _ _=>rfl
theorem Urt (n:Nat):Ugi R n (true,6,UjN):=JkV (lo:=Ubx n) (cu:=Ubw n) (pO (pC (Uru n) pN) (by kernel_rfl)) Uhb (Ulk n) (fun K _ _=>by show _=_; kernel_rfl) fun _ _=>rfl
theorem Urs (n:Nat):Ugi R n (true,3,UjM):=JkV (lo:=Ubx n) (cu:=Ubw n) (pO (pC (Urt n) pN) (by kernel_rfl)) Uha (Ulj n) (fun K _ _=>by show _=_; kernel_rfl) fun _ _=>rfl
theorem Uxf (n:Nat):Je6 (Ugi R n) (JaJ Uaa (Jlk Tryz.f115)):=pO (pC (Urs n) pN) (by kernel_rfl)
abbrev UxB:Sl (List SV):=(cH (cH .n))
abbrev f115 (n:Nat) (K:List SV→O R):UxB.T (O R):=fun x1 x2=>Use n x1 x2 (fun y1 y2=>K [vH y1,vH y2])
abbrev UqY (n:Nat):FS:=fT [false,false] UxB (f115 n)
theorem Uue (n:Nat):FSound Tryz.prog GI 115 (UqY n):=gd Uaa n (Uh6 n) Tryz.func115 (.cons (Uh6 n) UxB (f115 n) (fun K _ _=>(Jkp (c:=Jlk Tryz.f115) (by kernel_rfl) (Uxf n) K).trans (by kernel_rfl)) .nil) (by kernel_rfl)
def Udr:Ann:={ loops:=[(1,ids [0,1],ids [0,4])],cuts:=[],frz:=[],rm:=[.id] }
abbrev Ukg (n:Nat):Env:=eC 115 (UqY n) eN
theorem UhX (n:Nat):EnvOK Tryz.prog GI (Ukg n):=.cons (.nil) (Uue n)
def UeR (n:Nat) (l0:LP→LP→O R) (x1 x2:LP) (k0:LP→O R):O R :=
 bif (decide (((x2).length:Int)>0)) then (Use n x1 x2 (fun y3 y4=>l0 x2 y4)) else (k0 x1)
def Ub2 (n:Nat):Nat→LP→LP→(LP→O R)→O R
 | 0,_,_,_=>none
 | m + 1,x1,x2,k0=>UeR n (fun x1 x2=>Ub2 n m x1 x2 k0) x1 x2 k0
def Ul6 (n:Nat) (x1 x2:LP) (k0:LP→O R):O R:=Ub2 n n x1 x2 k0
def Uug (n:Nat) (x1 x2:LP) (k0:LP→O R):O R :=
 Ul6 n x1 x2 (fun y3=>k0 y3)
abbrev Uzq (n:Nat):Code→Fr→Kc R→O R:=evC Tryz.prog (Ukg n) Udr n (19,[])
noncomputable def UjD:Code:=Jj3 (Jlk Tryz.f100) [1,0,0,0]
abbrev UcK:Sl (List SV):=(cH (cH .n))
abbrev Ugz (n m:Nat) (K:Kc R):UcK.T (O R):=fun x1 x2=>Ub2 n m x1 x2 (fun y1=>xL Udr 1 K (.exit 0) [vH y1,dD])
abbrev Up1 (n:Nat) (K:Kc R) (l0:UcK.T (O R)):UcK.T (O R):=fun x1 x2=>UeR n l0 x1 x2 (fun y1=>xL Udr 1 K (.exit 0) [vH y1,dD])
abbrev Ut1 (n:Nat):Orc R:=oL Udr (Uzq n) n 1 UjD UcK (Ugz n n) oN
abbrev UsP (n:Nat):Orc R:=oN
abbrev UxU (R:Type) (n:Nat):=JcH (R:=R) Tryz.prog (Ukg n) Udr n (19,[]) (Ut1 n) (UsP n)
theorem Urj (n:Nat):UxU R n (false,1,UjD):=JkE (lo:=Ut1 n) (cu:=UsP n) (pO pN (by kernel_rfl)) UcK (Ugz n n) (JiD (F:=Ugz n) UcK (Up1 n) (fun K _ _=>rfl) (fun _ _=>rfl) (fun L K _ _=>by show _=_; kernel_rfl) n) fun _ _=>rfl
theorem Uw7 (n:Nat):Je6 (UxU R n) (JaJ Udr (Jlk Tryz.f100)):=pO (pC (Urj n) pN) (by kernel_rfl)
abbrev Uxt:Sl (List SV):=(cH (cH .n))
abbrev f100 (n:Nat) (K:List SV→O R):Uxt.T (O R):=fun x1 x2=>Uug n x1 x2 (fun y1=>K [vH y1])
abbrev UqX (n:Nat):FS:=fT [false,false] Uxt (f100 n)
theorem Uud (n:Nat):FSound Tryz.prog GI 100 (UqX n):=gd Udr n (UhX n) Tryz.func100 (.cons (UhX n) Uxt (f100 n) (fun K _ _=>(Jkp (c:=Jlk Tryz.f100) (by kernel_rfl) (Uw7 n) K).trans (by kernel_rfl)) .nil) (by kernel_rfl)
def Ui9:Ann:={ loops:=[],cuts:=[(10,ids [2,5,10],ids [2,3])],frz:=[],rm:=[.id,.id] }
abbrev UqH (n:Nat):Env:=eC 100 (UqX n) (eC 99 (Uwf n) (eC 98 (UyR n) (eC 97 (UyQ n) (eC 96 (UyP n) eN))))
theorem UkU (n:Nat):EnvOK Tryz.prog GI (UqH n):=.cons (.cons (.cons (.cons (.cons (.nil) (UA3 n)) (UA4 n)) (UA5 n)) (Uzg n)) (Uud n)
def Ufd (n:Nat) (x1:Bool) (x2:ByteArray) (x3:Bool) (x4 x5:LP) (k0:Bool→LP→LP→Bool→O R):O R :=
 p98 n x2 (fun y6=>Uug n x4 y6 (fun y7=>bif (((y7).length:Int) == 1) then (bif (inR 0 ((y7).length)) then (Ji9 .u32 ((y7).getD ((0:Int).toNat) (.v (.bool false))) fun e8=>k0 x3 x4 y6 (bif true then (e8 == 1) else false)) else none) else (k0 x3 x4 y6 false)))
def p56 (n:Nat) (x1:ByteArray) (k0:Bool→LP→LP→Bool→O R):O R :=
 p96 n x1 (fun y2 y3 y4=>p97 n y2 (fun y5 y6 y7=>bif (!y7) then (k0 false [] [] false) else (p98 n y6 (fun y8=>bif (!y4) then (k0 y5 y8 ([.v (.int .u32 1)]:LP) true) else (p99 n y3 (fun y9=>bif (!y9) then (k0 false [] [] false) else (bif (bif false then true else eqS y3 (⟨#[48]⟩:ByteArray)) then (k0 false [] [] false) else (bif (bif false then true else eqS y3 (⟨#[49]⟩:ByteArray)) then (k0 false [] [] false) else (Ufd n false y3 y5 y8 ([.v (.int .u32 1)]:LP) (fun y10 y11 y12 y13=>k0 y10 y11 y12 y13))))))))))
abbrev E56 (n:Nat):Code→Fr→Kc R→O R:=evC Tryz.prog (UqH n) Ui9 n (65,[])
noncomputable def Uj1:Code:=Jj3 (Jlk Tryz.f56) [1,1,1,1,1,1,1]
abbrev Uhl:Sl (List SV):=(.c (sBx 99 (cB (.c sNl (.c sNl .n)))) (cS (.c (sBx 99 (cB (cH (cH .n)))) .n)))
abbrev UlE (n:Nat) (K:Kc R):Uhl.T (O R):=fun x1 x2 x3 x4 x5=>Ufd n x1 x2 x3 x4 x5 (fun y1 y2 y3 y4=>xC Ui9 10 K .ret [.bx 99 [vB y1,vH y2,vH y3],vB y4])
abbrev Uy0 (n:Nat):Orc R:=oN
abbrev Ux9 (n:Nat):Orc R:=oC Ui9 (E56 n) 10 Uj1 Uhl (UlE n) oN
abbrev K56 (R:Type) (n:Nat):=JcH (R:=R) Tryz.prog (UqH n) Ui9 n (65,[]) (Uy0 n) (Ux9 n)
theorem UrK (n:Nat):K56 R n (true,10,Uj1):=JkV (lo:=Uy0 n) (cu:=Ux9 n) (pO pN (by kernel_rfl)) Uhl (UlE n) (fun K _ _ _ _ _=>by show _=_; kernel_rfl) fun _ _=>rfl
theorem UBx (n:Nat):Je6 (K56 R n) (JaJ Ui9 (Jlk Tryz.f56)):=pO (pC (UrK n) pN) (by kernel_rfl)
abbrev t56:Sl (List SV):=(cS .n)
abbrev f56 (n:Nat) (K:List SV→O R):t56.T (O R):=fun x1=>p56 n x1 (fun y1 y2 y3 y4=>K [.p (.agg [.v (.bool y1),.sh y2,.sh y3]),vB y4])
abbrev UtW (n:Nat):FS:=fT [false] t56 (f56 n)
theorem UvC (n:Nat):FSound Tryz.prog GI 56 (UtW n):=gd Ui9 n (UkU n) Tryz.func56 (.cons (UkU n) t56 (f56 n) (fun K _=>(Jkp (c:=Jlk Tryz.f56) (by kernel_rfl) (UBx n) K).trans (by kernel_rfl)) .nil) (by kernel_rfl)
def Ua5:Ann:={ loops:=[(9,ids [4,5,6,37,38],ids [2,3,4,6])],cuts:=[(2,ids [0,4],ids [2,3]),(5,ids [0,4,5],ids [2,3]),(7,ids [4,5],ids [2,3]),(17,ids [6],ids [2,3])],frz:=[],rm:=[.id,.id] }
abbrev UqP (n:Nat):Env:=eN
theorem Ula (n:Nat):EnvOK Tryz.prog GI (UqP n):=.nil
def UcH (n:Nat) (l0:Bool→ByteArray→Int→Int→Int→O R) (x1:Bool) (x2:ByteArray) (x3 x4 x5:Int) (k0:Int→Bool→Bool→Int→O R) (k1:Bool→Int→O R):O R :=
 bif (decide (x5<x4)) then (bif (inR x5 (x2).size) then (bif (decide (Jc6 x2 x5<48)) then (k0 0 false x1 x3) else (bif (inR x5 (x2).size) then (bif (bif false then true else (decide (Jc6 x2 x5>57))) then (k0 0 false x1 x3) else (bif (inR x5 (x2).size) then (let v6:=IntKind.u8.wrap ((Jc6 x2 x5) - 48); let v7:=IntKind.i64.wrap ((IntKind.i64.wrap (10 * x3)) + (IntKind.i64.wrap (v6))); l0 x1 x2 v7 x4 (IntKind.i64.wrap (x5 + 1))) else none)) else none)) else none) else (k1 x1 x3)
def UaT (n:Nat):Nat→Bool→ByteArray→Int→Int→Int→(Int→Bool→Bool→Int→O R)→(Bool→Int→O R)→O R
 | 0,_,_,_,_,_,_,_=>none
 | m + 1,x1,x2,x3,x4,x5,k0,k1=>UcH n (fun x1 x2 x3 x4 x5=>UaT n m x1 x2 x3 x4 x5 k0 k1) x1 x2 x3 x4 x5 k0 k1
def UiW (n:Nat) (x1:Bool) (x2:ByteArray) (x3 x4 x5:Int) (k0:Int→Bool→Bool→Int→O R) (k1:Bool→Int→O R):O R:=UaT n n x1 x2 x3 x4 x5 k0 k1
def UcG (n:Nat) (x1:Int) (k0:Int→Bool→O R):O R :=
 k0 x1 true
def UdZ (n:Nat) (x1:Bool) (x2:ByteArray) (k0:Int→Bool→O R):O R :=
 UiW n x1 x2 0 ((x2).size:Int) 0 (fun y3 y4 y5 y6=>k0 y3 y4) (fun y7 y8=>bif y7 then (UcG n (IntKind.i64.wrap (0 - y8)) (fun y9 y10=>k0 y9 y10)) else (UcG n y8 (fun y11 y12=>k0 y11 y12)))
def Uce (n:Nat) (x1:ByteArray) (x2:Bool) (x3:ByteArray) (k0:Int→Bool→O R):O R :=
 bif (eqS x3 (⟨#[]⟩:ByteArray)) then (k0 0 false) else (bif (bif false then true else (decide (((x3).size:Int)>9))) then (k0 0 false) else (bif (inR 0 (x3).size) then (bif (Jc6 x3 0 == 48) then (bif (bif false then true else (bif true then (decide (((x1).size:Int)>1)) else false)) then (k0 0 false) else (UdZ n x2 x3 (fun y4 y5=>k0 y4 y5))) else (UdZ n x2 x3 (fun y6 y7=>k0 y6 y7))) else none))
def Uf7 (n:Nat) (x1:ByteArray) (x2:Bool) (k0:Int→Bool→O R):O R :=
 bif x2 then (bif (Je5 1 ((x1).size:Int) (x1).size) then (Uce n x1 x2 (ByteArray.extract x1 (1:Int).toNat (((x1).size:Int):Int).toNat) (fun y3 y4=>k0 y3 y4)) else none) else (Uce n x1 x2 x1 (fun y5 y6=>k0 y5 y6))
def p95 (n:Nat) (x1:ByteArray) (k0:Int→Bool→O R):O R :=
 bif (!eqS x1 (⟨#[]⟩:ByteArray)) then (bif (inR 0 (x1).size) then (Uf7 n x1 (bif true then (Jc6 x1 0 == 45) else false) (fun y2 y3=>k0 y2 y3)) else none) else (Uf7 n x1 false (fun y4 y5=>k0 y4 y5))
abbrev E95 (n:Nat):Code→Fr→Kc R→O R:=evC Tryz.prog (UqP n) Ua5 n (64,[])
noncomputable def Uou:Code:=Jj3 (Jlk Tryz.f95) [1,1]
abbrev UmM:Sl (List SV):=(cS (cB .n))
abbrev UoS (n:Nat) (K:Kc R):UmM.T (O R):=fun x1 x2=>Uf7 n x1 x2 (fun y1 y2=>xC Ua5 2 K .ret [vI y1,vB y2])
noncomputable def Uov:Code:=Jj3 (Jlk Tryz.f95) [1,1,1,1]
abbrev UmN:Sl (List SV):=(cS (cB (cS .n)))
abbrev UoT (n:Nat) (K:Kc R):UmN.T (O R):=fun x1 x2 x3=>Uce n x1 x2 x3 (fun y1 y2=>xC Ua5 5 K .ret [vI y1,vB y2])
noncomputable def Uow:Code:=Jj3 (Jlk Tryz.f95) [1,1,1,1,1]
abbrev UmO:Sl (List SV):=(cB (cS .n))
abbrev UoU (n:Nat) (K:Kc R):UmO.T (O R):=fun x1 x2=>UdZ n x1 x2 (fun y1 y2=>xC Ua5 7 K .ret [vI y1,vB y2])
noncomputable def Uj6:Code:=Jj3 (Jlk Tryz.f95) [1,1,1,1,1,1,1,1]
abbrev Uhr:Sl (List SV):=(cI .n)
abbrev UlS (n:Nat) (K:Kc R):Uhr.T (O R):=fun x1=>UcG n x1 (fun y1 y2=>xC Ua5 17 K .ret [vI y1,vB y2])
noncomputable def Uox:Code:=Jj3 (Jlk Tryz.f95) [1,1,1,1,1,1,0,1,0,0]
abbrev Uel:Sl (List SV):=(cB (cS (cI (cI (cI .n)))))
abbrev UlT (n m:Nat) (K:Kc R):Uel.T (O R):=fun x1 x2 x3 x4 x5=>UaT n m x1 x2 x3 x4 x5 (fun y1 y2 y3 y4=>xL Ua5 9 K .ret [vI y1,vB y2,vB y3,vI y4]) (fun y1 y2=>xL Ua5 9 K (.exit 0) [dD,dD,vB y1,vI y2])
abbrev UsH (n:Nat) (K:Kc R) (l0:Uel.T (O R)):Uel.T (O R):=fun x1 x2 x3 x4 x5=>UcH n l0 x1 x2 x3 x4 x5 (fun y1 y2 y3 y4=>xL Ua5 9 K .ret [vI y1,vB y2,vB y3,vI y4]) (fun y1 y2=>xL Ua5 9 K (.exit 0) [dD,dD,vB y1,vI y2])
abbrev Usa (n:Nat):Orc R:=oL Ua5 (E95 n) n 9 Uox Uel (UlT n n) oN
abbrev Ur6 (n:Nat):Orc R:=oC Ua5 (E95 n) 17 Uj6 Uhr (UlS n) (oC Ua5 (E95 n) 7 Uow UmO (UoU n) (oC Ua5 (E95 n) 5 Uov UmN (UoT n) (oC Ua5 (E95 n) 2 Uou UmM (UoS n) oN)))
abbrev K95 (R:Type) (n:Nat):=JcH (R:=R) Tryz.prog (UqP n) Ua5 n (64,[]) (Usa n) (Ur6 n)
theorem Uu1 (n:Nat):K95 R n (false,9,Uox):=JkE (lo:=Usa n) (cu:=Ur6 n) (pO pN (by kernel_rfl)) Uel (UlT n n) (JiD (F:=UlT n) Uel (UsH n) (fun K _ _ _ _ _=>rfl) (fun _ _=>rfl) (fun L K _ _ _ _ _=>by show _=_; kernel_rfl) n) fun _ _=>rfl
theorem UrO (n:Nat):K95 R n (true,17,Uj6):=JkV (lo:=Usa n) (cu:=Ur6 n) (pO pN (by kernel_rfl)) Uhr (UlS n) (fun K _=>by show _=_; kernel_rfl) fun _ _=>rfl
theorem Uu0 (n:Nat):K95 R n (true,7,Uow):=JkV (lo:=Usa n) (cu:=Ur6 n) (pO (pC (Uu1 n) (pC (UrO n) pN)) (by kernel_rfl)) UmO (UoU n) (fun K _ _=>by show _=_; kernel_rfl) fun _ _=>rfl
theorem UuZ (n:Nat):K95 R n (true,5,Uov):=JkV (lo:=Usa n) (cu:=Ur6 n) (pO (pC (Uu0 n) pN) (by kernel_rfl)) UmN (UoT n) (fun K _ _ _=>by show _=_; kernel_rfl) fun _ _=>rfl
theorem UuY (n:Nat):K95 R n (true,2,Uou):=JkV (lo:=Usa n) (cu:=Ur6 n) (pO (pC (UuZ n) pN) (by kernel_rfl)) UmM (UoS n) (fun K _ _=>by show _=_; kernel_rfl) fun _ _=>rfl
theorem UBO (n:Nat):Je6 (K95 R n) (JaJ Ua5 (Jlk Tryz.f95)):=pO (pC (UuY n) pN) (by kernel_rfl)
abbrev t95:Sl (List SV):=(cS .n)
abbrev f95 (n:Nat) (K:List SV→O R):t95.T (O R):=fun x1=>p95 n x1 (fun y1 y2=>K [vI y1,vB y2])
abbrev Uwe (n:Nat):FS:=fT [false] t95 (f95 n)
theorem Uzf (n:Nat):FSound Tryz.prog GI 95 (Uwe n):=gd Ua5 n (Ula n) Tryz.func95 (.cons (Ula n) t95 (f95 n) (fun K _=>(Jkp (c:=Jlk Tryz.f95) (by kernel_rfl) (UBO n) K).trans (by kernel_rfl)) .nil) (by kernel_rfl)
def UpK:Ann:={ loops:=[],cuts:=[],frz:=[],rm:=[.id] }
abbrev Uta (n:Nat):Env:=eC 95 (Uwe n) (eC 56 (UtW n) eN)
theorem UkR (n:Nat):EnvOK Tryz.prog GI (Uta n):=.cons (.cons (.nil) (UvC n)) (Uzf n)
def p53 (n:Nat) (x1:ByteArray) (k0:Bool→O R):O R :=
 p95 n x1 (fun y2 y3=>bif y3 then (k0 true) else (p56 n x1 (fun y4 y5 y6 y7=>k0 y7)))
abbrev UAl (n:Nat):Orc R:=oN
abbrev UzS (n:Nat):Orc R:=oN
abbrev K53 (R:Type) (n:Nat):=JcH (R:=R) Tryz.prog (Uta n) UpK n (19,[]) (UAl n) (UzS n)
theorem UBu (n:Nat):Je6 (K53 R n) (JaJ UpK (Jlk Tryz.f53)):=pO pN (by kernel_rfl)
abbrev t53:Sl (List SV):=(cS .n)
abbrev f53 (n:Nat) (K:List SV→O R):t53.T (O R):=fun x1=>p53 n x1 (fun y1=>K [vB y1])
abbrev UqZ (n:Nat):FS:=fT [false] t53 (f53 n)
theorem Usd (n:Nat):FSound Tryz.prog GI 53 (UqZ n):=gd UpK n (UkR n) Tryz.func53 (.cons (UkR n) t53 (f53 n) (fun K _=>(Jkp (c:=Jlk Tryz.f53) (by kernel_rfl) (UBu n) K).trans (by kernel_rfl)) .nil) (by kernel_rfl)
end
end Go.Proofs.YtmgfmlhdnadglaaGreatDoor
set_option linter.unusedVariables false
set_option linter.unusedSimpArgs false
namespace Go.Proofs.YtmgfmlhdnadglaaGreatDoor
open Go Th Go.Proofs
def val (b:Nat):List Nat→Nat
 | []=>0
 | d::r=>d + b * val b r
def toL (b:Nat) (n:Nat):List Nat :=
 if h:n=0∨b<2 then [] else n % b::toL b (n / b)
termination_by n
decreasing_by
 have:2≤b:=by omega
 exact Nat.div_lt_self (by omega) this
theorem Uai (b:Nat):toL b 0=[]:=by unfold toL; simp
theorem UaY {b n:Nat} (hb:2≤b) (h:n≠0):toL b n=n % b::toL b (n / b):=by
 conv=>lhs; unfold toL
 rw [dif_neg (by omega)]
theorem Uar {b:Nat} (hb:2≤b) (n:Nat):val b (toL b n)=n:=by
 induction n using Nat.strongRecOn with
 | _ n ih =>
  by_cases h:n=0
  · subst h; rw [Uai]; rfl
  · rw [UaY hb h,val,ih (n / b) (Nat.div_lt_self (by omega) hb)]
    exact Nat.mod_add_div n b
theorem UaJ {b:Nat} (hb:2≤b) (n:Nat):∀ d∈toL b n,d<b:=by
 induction n using Nat.strongRecOn with
 | _ n ih =>
  by_cases h:n=0
  · subst h; rw [Uai]; intro d hd; cases hd
  · rw [UaY hb h]
    intro d hd
    rcases List.mem_cons.1 hd with rfl | hd
    · exact Nat.mod_lt _ (by omega)
    · exact ih (n / b) (Nat.div_lt_self (by omega) hb) d hd
theorem Ubt {b n:Nat} (hb:2≤b):toL b n=[]↔n=0:=by
 constructor
 · intro h
   have:=Uar hb n
   rw [h] at this
   exact this.symm
 · rintro rfl; exact Uai b
theorem Ubu (b:Nat):∀ (x y:List Nat),val b (x++y)=val b x + b ^ x.length * val b y
 | [],y=>by simp [val]
 | d::x,y=>by
  simp only [List.cons_append,val,List.length_cons,Ubu b x y,Nat.pow_succ]
  rw [Nat.mul_add,←Nat.mul_assoc,Nat.mul_comm (b ^ x.length) b]; omega
theorem UaZ (b:Nat) (x:List Nat) (d:Nat):val b (x++[d])=val b x + b ^ x.length * d:=by
 rw [Ubu]; simp [val]
theorem UmW (b k:Nat):val b (List.replicate k 0)=0:=by
 induction k with
 | zero=>rfl
 | succ k ih=>simp [List.replicate_succ,val,ih]
theorem UdO {b:Nat} (hb:2≤b):∀ (l:List Nat),(∀ d∈l,d<b)→val b l<b ^ l.length
 | [],_=>by simp [val]
 | d::r,h=>by
  have h1:=UdO hb r fun x hx=>h x (List.mem_cons_of_mem _ hx)
  have h2:=h d (List.mem_cons_self ..)
  simp only [val,List.length_cons,Nat.pow_succ]
  have:b * val b r + b≤b ^ r.length * b:=by
   rw [Nat.mul_comm (b ^ r.length) b,←Nat.mul_succ]
   exact Nat.mul_le_mul_left b h1
  omega
theorem Uhs {b:Nat} (hb:2≤b):∀ (l:List Nat),(∀ d∈l,d<b)→l.getLast? ≠ some 0→toL b (val b l)=l
 | [],_,_=>Uai b
 | d::r,h,hl=>by
  have hd:=h d (List.mem_cons_self ..)
  have hr:r.getLast? ≠ some 0:=by
   intro e
   cases r with
   | nil=>cases e
   | cons x r=>rw [List.getLast?_cons_cons] at hl; exact hl e
  have ih:=Uhs hb r (fun x hx=>h x (List.mem_cons_of_mem _ hx)) hr
  have hne:val b (d::r)≠0:=by
   intro e
   simp only [val,Nat.add_eq_zero_iff,Nat.mul_eq_zero] at e
   have hv:val b r=0:=by omega
   rw [hv,Uai] at ih
   rw [←ih] at hl
   exact hl (by rw [e.1]; rfl)
  rw [UaY hb hne]
  simp only [val]
  rw [Nat.add_mul_mod_self_left,Nat.mod_eq_of_lt hd,Nat.add_mul_div_left _ _ (by omega),Nat.div_eq_of_lt hd,Nat.zero_add,ih]
theorem Uci (b:Nat) (l:List Nat):val b (l++[0])=val b l:=by rw [UaZ]; simp
theorem Uah {b:Nat} (hb:2≤b) (n k:Nat):(toL b n).length≤k↔n<b ^ k:=by
 induction k generalizing n with
 | zero =>
  rw [Nat.pow_zero]
  constructor
  · intro h
    have:toL b n=[]:=List.eq_nil_of_length_eq_zero (by omega)
    rw [Ubt hb] at this; omega
  · intro h
    have:n=0:=by omega
    subst this
    rw [Uai]; exact Nat.le_refl _
 | succ k ih =>
  by_cases h:n=0
  · subst h; rw [Uai]; simp; exact Nat.pow_pos (by omega)
  · rw [UaY hb h,List.length_cons,Nat.succ_le_succ_iff,ih,Nat.pow_succ,Nat.mul_comm,Nat.div_lt_iff_lt_mul (by omega),Nat.mul_comm]
theorem UcX {b:Nat} (hb:2≤b) {x y:Nat} (h:(toL b x).length<(toL b y).length):x<y:=by
 have h1:=(Uah hb x (toL b x).length).1 (Nat.le_refl _)
 have h2:¬ y<b ^ (toL b x).length:=fun q=>by have:=(Uah hb y _).2 q; omega
 omega
theorem Ui5 {b:Nat} (hb:2≤b) (n:Nat):(toL b n).getLast? ≠ some 0:=by
 induction n using Nat.strongRecOn with
 | _ n ih =>
  by_cases h:n=0
  · subst h; rw [Uai]; simp
  · rw [UaY hb h]
    by_cases h2:n / b=0
    · rw [h2,Uai]
      have:n<b:=by
       rcases (Nat.div_eq_zero_iff).1 h2 with q | q <;> omega
      rw [Nat.mod_eq_of_lt this]
      simpa using h
    · have:=ih (n / b) (Nat.div_lt_self (by omega) hb)
      rw [UaY hb h2] at this ⊢
      rw [List.getLast?_cons_cons]
      exact this
theorem UbA {l:List Nat} {i:Nat} (h:i<l.length):l.take (i + 1)=l.take i++[l.getD i 0]:=by
 rw [List.take_succ_eq_append_getElem h,List.getD_eq_getElem?_getD,List.getElem?_eq_getElem h]; rfl
theorem UaE (b:Nat) {l:List Nat} {i:Nat} (h:i<l.length):val b (l.take (i + 1))=val b (l.take i) + b ^ i * l.getD i 0:=by
 rw [UbA h,UaZ,List.length_take,Nat.min_eq_left (by omega)]
theorem Uaj {b:Nat} (hb:2≤b) {l:List Nat} (hl:∀ d∈l,d<b) {i:Nat} (h:i≤l.length):val b (l.take i)<b ^ i:=by
 have:=UdO hb (l.take i) fun x hx=>hl x (List.mem_of_mem_take hx)
 rwa [List.length_take,Nat.min_eq_left h] at this
theorem Uad {b:Nat} (hb:2≤b) {l:List Nat} (hl:∀ d∈l,d<b) (i:Nat):l.getD i 0<b:=by
 rw [List.getD_eq_getElem?_getD]
 cases h:l[i]? with
 | none=>simp; omega
 | some x=>exact hl x (List.mem_of_getElem? h)
theorem Uaq (b:Nat) (l:List Nat) (i:Nat) (h:i≤l.length):val b l=val b (l.take i) + b ^ i * val b (l.drop i):=by
 conv=>lhs; rw [←List.take_append_drop i l]
 rw [Ubu,List.length_take,Nat.min_eq_left h]
theorem Udo {l:List Nat} {i:Nat} (d:Nat) (h:i<l.length):(l.set i d).take (i + 1)=l.take i++[d]:=by
 rw [UbA (by rw [List.length_set]; exact h),List.take_set_of_le (Nat.le_refl _),List.getD_eq_getElem?_getD,List.getElem?_set_self h]; rfl
theorem Ubd {b:Nat} {l:List Nat} (hl:∀ d∈l,d<b) {x:Nat} (hx:x<b) (i:Nat):∀ d∈l.set i x,d<b:=by
 intro d hd
 rcases List.mem_or_eq_of_mem_set hd with h | h
 · exact hl d h
 · rw [h]; exact hx
theorem UcZ (b:Nat) {l:List Nat} {i:Nat} (d:Nat) (h:i<l.length):val b (l.set i d) + b ^ i * l.getD i 0=val b l + b ^ i * d:=by
 have h1:=Uaq b (l.set i d) (i + 1) (by rw [List.length_set]; omega)
 have h2:=Uaq b l (i + 1) (by omega)
 rw [Udo d h,List.drop_set_of_lt (by omega),UaZ,List.length_take,Nat.min_eq_left (by omega)] at h1
 rw [UaE b h] at h2
 omega
theorem Ugb {b:Nat} (hb:2≤b) (n:Nat):∀ d∈List.replicate n 0,d<b:=by
 intro d hd
 rw [List.mem_replicate] at hd
 omega
theorem Uas (b:Nat) (l:List Nat) (i:Nat):val b (l.take (i + 1))=val b (l.take i) + b ^ i * l.getD i 0:=by
 by_cases h:i<l.length
 · exact UaE b h
 · rw [List.take_of_length_le (by omega),List.take_of_length_le (by omega),List.getD_eq_getElem?_getD,List.getElem?_eq_none (by omega)]; simp
theorem Uc9 {l:List Nat} {i:Nat} (h:l.length≤i):l.getD i 0=0:=by rw [List.getD_eq_getElem?_getD,List.getElem?_eq_none h]; rfl
theorem Ujc (b i v c s:Nat) (hb:0<b):v + b ^ i * (s % b) + b ^ (i + 1) * (s / b)=v + b ^ i * s:=by
 rw [Nat.pow_succ,Nat.mul_assoc,Nat.add_assoc,←Nat.mul_add,Nat.mod_add_div]
theorem Ugd {l:List Nat} {i:Nat} (h:l.length=i + 1) (d:Nat):l.set i d=l.take i++[d]:=by
 have:=Udo d (l:=l) (i:=i) (by omega)
 rw [List.take_of_length_le (by rw [List.length_set]; omega)] at this
 exact this
theorem hT2:2≤10:=by decide
def ch (d:Nat):UInt8:=UInt8.ofNat (48 + d)
theorem Uc3 {d:Nat} (h:d<10):(ch d).toNat=48 + d:=by
 unfold ch; rw [UInt8.toNat_ofNat']; omega
def DL (a:Nat):List Nat:=(toL 10 a).reverse
abbrev dec (a:Nat):List UInt8:=Lib.decDigits a
theorem Uaz {a:Nat} (h:a<10):dec a=[ch a]:=by unfold dec; rw [Lib.decDigits,dif_pos h]; rfl
theorem UeC {a:Nat} (h:10≤a):dec a=dec (a / 10)++[ch (a % 10)]:=by
 unfold dec; rw [Lib.decDigits,dif_neg (by omega)]; rfl
theorem Uan:dec 0=[48]:=Uaz (by omega)
theorem UrZ {x:Nat} (h0:x≠0) (hx:x<10):toL 10 x=[x]:=by
 rw [UaY hT2 h0,Nat.mod_eq_of_lt hx,Nat.div_eq_of_lt hx,Uai]
theorem Ucl (a:Nat) (h:a≠0):dec a=(DL a).map ch:=by
 induction a using Nat.strongRecOn with
 | _ a ih =>
  unfold DL
  by_cases h1:a<10
  · rw [Uaz h1,UrZ h h1]; rfl
  · rw [UeC (by omega),ih (a / 10) (by omega) (by omega),UaY hT2 h,List.reverse_cons,List.map_append]; rfl
theorem Upt (a:Nat):∀ d∈DL a,d<10:=fun d h=>UaJ hT2 a d (List.mem_reverse.1 h)
theorem Upu:DL 0=[]:=by unfold DL; rw [Uai]; rfl
theorem Usj {a:Nat}:DL a=[]↔a=0:=by unfold DL; rw [List.reverse_eq_nil_iff,Ubt hT2]
theorem Usi (a k:Nat):(DL a).length≤k↔a<10 ^ k:=by unfold DL; rw [List.length_reverse,Uah hT2]
def vb (l:List Nat):Nat:=val 10 l.reverse
theorem Uvf:vb []=0:=rfl
theorem Ugh (x y:List Nat):vb (x++y)=vb x * 10 ^ y.length + vb y:=by
 unfold vb; rw [List.reverse_append,Ubu,List.length_reverse,Nat.mul_comm]; omega
theorem UmX (d:Nat) (l:List Nat):vb (d::l)=d * 10 ^ l.length + vb l:=by
 have:=Ugh [d] l
 rw [show vb [d]=d from by simp [vb,val]] at this
 exact this
theorem UxR (a:Nat):vb (DL a)=a:=by unfold vb DL; rw [List.reverse_reverse,Uar hT2]
theorem UxS (l:List Nat) (h:∀ d∈l,d<10):vb l<10 ^ l.length:=by
 have:=UdO hT2 l.reverse fun d hd=>h d (List.mem_reverse.1 hd)
 rwa [List.length_reverse] at this
theorem UvI {l:List Nat} (h:∀ d∈l,d<10) (hl:l.head? ≠ some 0):DL (vb l)=l:=by
 unfold DL vb
 rw [Uhs hT2 l.reverse (fun d hd=>h d (List.mem_reverse.1 hd)) (by rw [List.getLast?_reverse]; exact hl),List.reverse_reverse]
theorem Ups (a:Nat):(DL a).head? ≠ some 0:=by
 unfold DL; rw [List.head?_reverse]; exact Ui5 hT2 a
def isD (c:UInt8):Bool:=decide (48≤c.toNat)&&decide (c.toNat≤57)
theorem UaG {c:UInt8}:isD c=true↔48≤c.toNat∧c.toNat≤57:=by simp [isD]
def dg (s:List UInt8):List Nat:=s.map fun c=>c.toNat - 48
theorem UsX {s:List UInt8} (h:∀ c∈s,isD c=true):∀ d∈dg s,d<10:=by
 intro d hd
 simp only [dg,List.mem_map] at hd
 obtain ⟨c,hc,rfl⟩:=hd
 have:=UaG.1 (h c hc)
 omega
theorem UvO {s:List UInt8} (h:∀ c∈s,isD c=true):(dg s).map ch=s:=by
 unfold dg
 rw [List.map_map]
 conv=>rhs; rw [←List.map_id s]
 apply List.map_congr_left
 intro c hc
 have:=UaG.1 (h c hc)
 simp only [Function.comp,id]
 apply UInt8.toNat_inj.1
 rw [Uc3 (by omega)]; omega
theorem Uv1 {l:List Nat} (h:∀ d∈l,d<10):dg (l.map ch)=l:=by
 unfold dg
 rw [List.map_map]
 conv=>rhs; rw [←List.map_id l]
 apply List.map_congr_left
 intro d hd
 simp only [Function.comp,id]
 rw [Uc3 (h d hd)]; omega
theorem Ut0 {l:List Nat} (h:∀ d∈l,d<10):∀ c∈l.map ch,isD c=true:=by
 intro c hc
 rw [List.mem_map] at hc
 obtain ⟨d,hd,rfl⟩:=hc
 have:=h d hd
 rw [UaG,Uc3 this]; omega
def ofD (s:List UInt8):Nat:=vb (dg s)
theorem Uji (s t:List UInt8):ofD (s++t)=ofD s * 10 ^ t.length + ofD t:=by
 unfold ofD dg; rw [List.map_append,Ugh,List.length_map]
theorem Ul2 {s:List UInt8} (h:∀ c∈s,isD c=true):ofD s<10 ^ s.length:=by
 have:=UxS (dg s) (UsX h)
 rwa [dg,List.length_map] at this
theorem Ua7 (a:Nat):∀ c∈dec a,isD c=true:=by
 by_cases h:a=0
 · subst h; rw [Uan]; intro c hc; simp at hc; subst hc; rfl
 · rw [Ucl a h]; exact Ut0 (Upt a)
theorem Uco (a:Nat):ofD (dec a)=a:=by
 by_cases h:a=0
 · subst h; rw [Uan]; rfl
 · rw [Ucl a h,ofD,Uv1 (Upt a),UxR]
theorem UbC {a b:Nat} (h:dec a=dec b):a=b:=by rw [←Uco a,h,Uco]
theorem UhN (a:Nat):dec a≠[]:=by
 by_cases h:a=0
 · subst h; rw [Uan]; simp
 · rw [Ucl a h]; simp [Usj,h]
theorem Ua8 (a k:Nat) (hk:1≤k):(dec a).length≤k↔a<10 ^ k:=by
 by_cases h:a=0
 · subst h; rw [Uan]
   have:0<10 ^ k:=Nat.pow_pos (by omega)
   simp [hk,this]
 · rw [Ucl a h,List.length_map,Usi]
theorem Uka {s:List UInt8} (h:∀ c∈s,isD c=true) (h0:s≠[]) (h1:s.head? ≠ some 48∨s.length=1):dec (ofD s)=s:=by
 by_cases hz:s=[48]
 · subst hz; rw [show ofD [48]=0 from rfl,Uan]
 · have hh:s.head? ≠ some 48:=by
    rcases h1 with h1 | h1
    · exact h1
    · intro e
      match s,h1,e with
      | [c],_,e=>simp at e; subst e; exact hz rfl
   have hd:(dg s).head? ≠ some 0:=by
    match s,h0 with
    | c::r,_ =>
     simp only [dg,List.map_cons,List.head?_cons,ne_eq,Option.some.injEq] at hh ⊢
     have:=UaG.1 (h c (List.mem_cons_self ..))
     intro e
     exact hh (by apply UInt8.toNat_inj.1; show c.toNat=48; omega)
   have hD:=UvI (UsX h) hd
   have hne:ofD s≠0:=by
    intro e
    unfold ofD at e
    rw [e,Upu] at hD
    simp [dg] at hD
    exact h0 (by first | exact hD | exact hD.symm)
   rw [Ucl _ hne]
   unfold ofD
   rw [hD,UvO h]
theorem UhM (a:Nat):(dec a).head? ≠ some 48∨(dec a).length=1:=by
 by_cases h:a=0
 · subst h; rw [Uan]; right; rfl
 · left
   rw [Ucl a h]
   have:=Ups a
   have hl:=Upt a
   cases hD:DL a with
   | nil=>simp
   | cons d r =>
    rw [hD] at this hl
    simp only [List.map_cons,List.head?_cons,ne_eq,Option.some.injEq] at this ⊢
    intro e
    have h2:=congrArg UInt8.toNat e
    rw [Uc3 (hl d (List.mem_cons_self ..))] at h2
    have:(48:UInt8).toNat=48:=rfl
    omega
def pad:Nat→Nat→List UInt8
 | 0,_=>[]
 | k + 1,d=>pad k (d / 10)++[ch (d % 10)]
theorem UnC (k:Nat):pad k 0=List.replicate k 48:=by
 induction k with
 | zero=>rfl
 | succ k ih=>rw [pad,Nat.zero_div,ih,List.replicate_succ']; rfl
theorem Upj:∀ (k d:Nat),d<10 ^ (k + 1)→List.replicate (k + 1 - (dec d).length) 48++dec d=pad (k + 1) d
 | 0,d,h=>by
  have h':d<10:=by simpa using h
  rw [Uaz h',pad,pad,Nat.mod_eq_of_lt h']; rfl
 | k + 1,d,h=>by
  by_cases h1:d<10
  · rw [Uaz h1,pad,Nat.mod_eq_of_lt h1,Nat.div_eq_of_lt h1,UnC]; rfl
  · have ih:=Upj k (d / 10) (by rw [Nat.pow_succ] at h; omega)
    rw [UeC (by omega),pad,←ih,List.length_append,List.length_singleton,←List.append_assoc]
    congr 3
    omega
theorem UhO:∀ (k h d:Nat),h≠0→d<10 ^ k→dec (h * 10 ^ k + d)=dec h++pad k d
 | 0,h,d,h0,hd=>by
  have:d=0:=by simpa using hd
  subst this
  simp [pad]
 | k + 1,h,d,h0,hd=>by
  have hp:0<10 ^ k:=Nat.pow_pos (by omega)
  have e:h * 10 ^ (k + 1)=10 * (h * 10 ^ k):=by rw [Nat.pow_succ]; grind
  have hge:1 * 1≤h * 10 ^ k:=Nat.mul_le_mul (by omega) hp
  rw [Nat.pow_succ] at hd
  rw [UeC (by omega),pad,←List.append_assoc,←UhO k h (d / 10) h0 (by omega)]
  congr 3
  · omega
  · omega
theorem Ucf:∀ (s:List UInt8) (acc:Nat),(∀ c∈s,isD c=true)→(acc + 1) * 10 ^ s.length≤1000000000000000000→Lib.parseUint10 acc s=.ok (acc * 10 ^ s.length + ofD s)
 | [],acc,_,_=>by simp [Lib.parseUint10,ofD,dg,Uvf]
 | c::r,acc,h,hb=>by
  have hc:=UaG.1 (h c (List.mem_cons_self ..))
  rw [List.length_cons,Nat.pow_succ] at hb
  have hp:0<10 ^ r.length:=Nat.pow_pos (by omega)
  have h1:(acc + 1) * 10≤(acc + 1) * (10 ^ r.length * 10):=Nat.mul_le_mul_left _ (by omega)
  have ih:=Ucf r (acc * 10 + (c.toNat - 48)) (fun x hx=>h x (List.mem_cons_of_mem _ hx)) (by
   have:(acc * 10 + (c.toNat - 48) + 1) * 10 ^ r.length≤((acc + 1) * 10) * 10 ^ r.length:=Nat.mul_le_mul_right _ (by omega)
   have e:(acc + 1) * (10 ^ r.length * 10)=((acc + 1) * 10) * 10 ^ r.length:=by grind
   omega)
  rw [Lib.parseUint10,if_pos hc,if_neg (by omega),if_neg (by omega),ih]
  congr 1
  have:ofD (c::r)=(c.toNat - 48) * 10 ^ r.length + ofD r:=by
   unfold ofD dg; rw [List.map_cons,UmX,List.length_map]
  rw [this,List.length_cons,Nat.pow_succ]
  grind
theorem Um5 (s:List UInt8) (h:∀ c∈s,isD c=true) (h0:s≠[]) (hl:s.length≤18):Lib.atoiAll s=.ok (ofD s:Int):=by
 match s,h0 with
 | c::r,_ =>
  have hc:=UaG.1 (h c (List.mem_cons_self ..))
  have hlt:=Ul2 h
  have hp:10 ^ (c::r).length≤10 ^ 18:=Nat.pow_le_pow_right (by omega) hl
  have hu:=Ucf (c::r) 0 h (by rw [Nat.zero_add,Nat.one_mul]; exact hp)
  rw [Nat.zero_mul,Nat.zero_add] at hu
  have e1:¬ (c.toNat=43∨c.toNat=45):=by omega
  have e2:¬ c.toNat=45:=by omega
  unfold Lib.atoiAll
  simp only [if_neg e1,Lib.parseMag,List.cons_ne_nil,if_false,hu]
  rw [if_neg (by omega),if_neg (by omega),if_neg e2]
end Go.Proofs.YtmgfmlhdnadglaaGreatDoor
set_option linter.unusedVariables false
set_option maxRecDepth 100000
namespace Go.Proofs.YtmgfmlhdnadglaaGreatDoor
open Go Th Go.Proofs
noncomputable section
variable {R:Type}
def Ua2:Ann:={ loops:=[(6,ids [0,1,5,6,20,21],ids [0,4,5,6])],cuts:=[(3,ids [0,1],ids [4]),(11,ids [0,1,5,6,7,20,21],ids [0,1,4,5,6,20,21])],frz:=[],rm:=[.id] }
abbrev Uki (n:Nat):Env:=eC 101 (UgM n) eN
theorem UhZ (n:Nat):EnvOK Tryz.prog GI (Uki n):=.cons (.nil) (Ujj n)
def Uda (n:Nat) (x1 x2 x3:LP) (x4 x5 x6 x7:Int) (k0:LP→LP→LP→Int→Int→Int→O R):O R :=
 bif decide (1000000000=0) then none else (bif (inR x5 ((x3).length)) then (Ji9 .u32 ((x3).getD ((x5:Int).toNat) (.v (.bool false))) fun e8=>bif decide (1000000000=0) then none else (let v9:=IntKind.u32.wrap (Int.tdiv x4 1000000000); k0 x1 x2 ((x3).set ((x5:Int).toNat) (.v (.int .u32 (Int.tmod x4 1000000000)))) v9 x6 x7)) else none)
def Udb (n:Nat) (l0:LP→LP→LP→Int→Int→Int→O R) (x1 x2 x3:LP) (x4 x5 x6:Int) (k0:LP→LP→Int→O R):O R :=
 bif (decide (x6<x5)) then (bif (inR x6 ((x1).length)) then (Ji9 .u32 ((x1).getD ((x6:Int).toNat) (.v (.bool false))) fun e7=>bif (decide (x6<((x2).length:Int))) then (bif (inR x6 ((x2).length)) then (Ji9 .u32 ((x2).getD ((x6:Int).toNat) (.v (.bool false))) fun e8=>let v9:=IntKind.u32.wrap ((IntKind.u32.wrap (x4 + e7)) + e8); Uda n x1 x2 x3 v9 x6 x5 x6 (fun y10 y11 y12 y13 y14 y15=>l0 y10 y11 y12 y13 y14 (IntKind.i64.wrap (y15 + 1)))) else none) else (Uda n x1 x2 x3 (IntKind.u32.wrap (x4 + e7)) x6 x5 x6 (fun y16 y17 y18 y19 y20 y21=>l0 y16 y17 y18 y19 y20 (IntKind.i64.wrap (y21 + 1))))) else none) else (k0 x1 x3 x4)
def Ubh (n:Nat):Nat→LP→LP→LP→Int→Int→Int→(LP→LP→Int→O R)→O R
 | 0,_,_,_,_,_,_,_=>none
 | m + 1,x1,x2,x3,x4,x5,x6,k0=>Udb n (fun x1 x2 x3 x4 x5 x6=>Ubh n m x1 x2 x3 x4 x5 x6 k0) x1 x2 x3 x4 x5 x6 k0
def Ul9 (n:Nat) (x1 x2 x3:LP) (x4 x5 x6:Int) (k0:LP→LP→Int→O R):O R:=Ubh n n x1 x2 x3 x4 x5 x6 k0
def UdD (n:Nat) (x1 x2:LP) (k0:LP→O R):O R :=
 let v3:=IntKind.i64.wrap (((x1).length:Int) + 1); bif (decide ((0:Int)≤v3)&&decide ((v3:Int)≤v3)&&Jbu (v3:Int).toNat 4) then (Ul9 n x1 x2 (List.replicate (v3:Int).toNat (.v (.int .u32 0):PV)) 0 ((x1).length:Int) 0 (fun y4 y5 y6=>bif (inR ((y4).length:Int) ((y5).length)) then (Ji9 .u32 ((y5).getD ((((y4).length:Int):Int).toNat) (.v (.bool false))) fun e7=>Ul7 n ((y5).set ((((y4).length:Int):Int).toNat) (.v (.int .u32 y6))) (fun y8=>k0 y8)) else none)) else none
def UvE (n:Nat) (x1 x2:LP) (k0:LP→O R):O R :=
 bif (decide (((x1).length:Int)<((x2).length:Int))) then (UdD n x2 x1 (fun y3=>k0 y3)) else (UdD n x1 x2 (fun y4=>k0 y4))
abbrev UvJ (n:Nat):Code→Fr→Kc R→O R:=evC Tryz.prog (Uki n) Ua2 n (55,[])
noncomputable def UjF:Code:=Jj3 (Jlk Tryz.f103) [1,1]
abbrev Ug9:Sl (List SV):=(cH (cH .n))
abbrev Ulg (n:Nat) (K:Kc R):Ug9.T (O R):=fun x1 x2=>UdD n x1 x2 (fun y1=>xC Ua2 3 K .ret [vH y1])
noncomputable def Uht:Code:=Jj3 (Jlk Tryz.f103) [1,1,1,1,0,1,0,0,1,1,0,0,1,1,1]
abbrev Ufw:Sl (List SV):=(cH (cH (cO 143 (.c (sP (Jlu .u32)) (cI (cI (cI .n)))))))
abbrev Uig (n:Nat) (K:Kc R):Ufw.T (O R):=fun x1 x2 x3 x4 x5 x6 x7=>Uda n x1 x2 x3 x4 x5 x6 x7 (fun y1 y2 y3 y4 y5 y6=>xC Ua2 11 K .normal [vH y1,vH y2,dD,.own 143 y3,.p (.v (.int .u32 y4)),vI y5,vI y6])
noncomputable def UjG:Code:=Jj3 (Jlk Tryz.f103) [1,1,1,1,0,1,0,0]
abbrev UcM:Sl (List SV):=(cH (cH (cO 143 (.c (sP (Jlu .u32)) (cI (cI .n))))))
abbrev UgB (n m:Nat) (K:Kc R):UcM.T (O R):=fun x1 x2 x3 x4 x5 x6=>Ubh n m x1 x2 x3 x4 x5 x6 (fun y1 y2 y3=>xL Ua2 6 K (.exit 0) [vH y1,dD,.own 143 y2,.p (.v (.int .u32 y3))])
abbrev Up3 (n:Nat) (K:Kc R) (l0:UcM.T (O R)):UcM.T (O R):=fun x1 x2 x3 x4 x5 x6=>Udb n l0 x1 x2 x3 x4 x5 x6 (fun y1 y2 y3=>xL Ua2 6 K (.exit 0) [vH y1,dD,.own 143 y2,.p (.v (.int .u32 y3))])
abbrev Unv (n:Nat):Orc R:=oL Ua2 (UvJ n) n 6 UjG UcM (UgB n n) oN
abbrev Unh (n:Nat):Orc R:=oC Ua2 (UvJ n) 11 Uht Ufw (Uig n) (oC Ua2 (UvJ n) 3 UjF Ug9 (Ulg n) oN)
abbrev Uvj (R:Type) (n:Nat):=JcH (R:=R) Tryz.prog (Uki n) Ua2 n (55,[]) (Unv n) (Unh n)
theorem UnD (n:Nat):Uvj R n (true,11,Uht):=JkV (lo:=Unv n) (cu:=Unh n) (pO pN (by kernel_rfl)) Ufw (Uig n) (fun K _ _ _ _ _ _ _=>by show _=_; kernel_rfl) fun _ _=>rfl
theorem Urm (n:Nat):Uvj R n (false,6,UjG):=JkE (lo:=Unv n) (cu:=Unh n) (pO (pC (UnD n) pN) (by kernel_rfl)) UcM (UgB n n) (JiD (F:=UgB n) UcM (Up3 n) (fun K _ _ _ _ _ _=>rfl) (fun _ _=>rfl) (fun L K _ _ _ _ _ _=>by show _=_; kernel_rfl) n) fun _ _=>rfl
theorem Url (n:Nat):Uvj R n (true,3,UjF):=JkV (lo:=Unv n) (cu:=Unh n) (pO (pC (Urm n) pN) (by kernel_rfl)) Ug9 (Ulg n) (fun K _ _=>by show _=_; kernel_rfl) fun _ _=>rfl
theorem Uw9 (n:Nat):Je6 (Uvj R n) (JaJ Ua2 (Jlk Tryz.f103)):=pO (pC (Url n) pN) (by kernel_rfl)
abbrev Uxv:Sl (List SV):=(cH (cH .n))
abbrev f103 (n:Nat) (K:List SV→O R):Uxv.T (O R):=fun x1 x2=>UvE n x1 x2 (fun y1=>K [vH y1])
abbrev Utz (n:Nat):FS:=fT [false,false] Uxv (f103 n)
theorem Uwv (n:Nat):FSound Tryz.prog GI 103 (Utz n):=gd Ua2 n (UhZ n) Tryz.func103 (.cons (UhZ n) Uxv (f103 n) (fun K _ _=>(Jkp (c:=Jlk Tryz.f103) (by kernel_rfl) (Uw9 n) K).trans (by kernel_rfl)) .nil) (by kernel_rfl)
def Ua3:Ann:={ loops:=[(4,ids [0,1,5,6,13,14],ids [4,5])],cuts:=[(9,ids [0,1,5,7,8,13,14],ids [0,1,4,5,6,13,14]),(13,ids [0,1,5,6,7,8,13,14],ids [0,1,4,5,6,13,14])],frz:=[],rm:=[.id] }
abbrev Ukj (n:Nat):Env:=eC 101 (UgM n) eN
theorem Uh0 (n:Nat):EnvOK Tryz.prog GI (Ukj n):=.cons (.nil) (Ujj n)
def Ub4 (n:Nat) (x1 x2 x3:LP) (x4 x5 x6 x7 x8:Int) (k0:LP→LP→LP→Int→Int→Int→O R):O R :=
 bif (inR x5 ((x3).length)) then (Ji9 .u32 ((x3).getD ((x5:Int).toNat) (.v (.bool false))) fun e9=>k0 x1 x2 ((x3).set ((x5:Int).toNat) (.v (.int .u32 (IntKind.u32.wrap (x6))))) x4 x7 x8) else none
def UdE (n:Nat) (x1 x2 x3:LP) (x4 x5 x6 x7:Int) (k0:LP→LP→LP→Int→Int→Int→O R):O R :=
 bif (decide (x5<0)) then (Ub4 n x1 x2 x3 1 x4 (IntKind.i64.wrap (x5 + 1000000000)) x6 x7 (fun y8 y9 y10 y11 y12 y13=>k0 y8 y9 y10 y11 y12 y13)) else (Ub4 n x1 x2 x3 0 x4 x5 x6 x7 (fun y14 y15 y16 y17 y18 y19=>k0 y14 y15 y16 y17 y18 y19))
def Ub5 (n:Nat) (l0:LP→LP→LP→Int→Int→Int→O R) (x1 x2 x3:LP) (x4 x5 x6:Int) (k0:LP→O R):O R :=
 bif (decide (x6<x5)) then (bif (inR x6 ((x1).length)) then (Ji9 .u32 ((x1).getD ((x6:Int).toNat) (.v (.bool false))) fun e7=>let v8:=IntKind.i64.wrap ((IntKind.i64.wrap (e7)) - x4); bif (decide (x6<((x2).length:Int))) then (bif (inR x6 ((x2).length)) then (Ji9 .u32 ((x2).getD ((x6:Int).toNat) (.v (.bool false))) fun e9=>let v10:=IntKind.i64.wrap (v8 - (IntKind.i64.wrap (e9))); UdE n x1 x2 x3 x6 v10 x5 x6 (fun y11 y12 y13 y14 y15 y16=>l0 y11 y12 y13 y14 y15 (IntKind.i64.wrap (y16 + 1)))) else none) else (UdE n x1 x2 x3 x6 v8 x5 x6 (fun y17 y18 y19 y20 y21 y22=>l0 y17 y18 y19 y20 y21 (IntKind.i64.wrap (y22 + 1))))) else none) else (k0 x3)
def UaQ (n:Nat):Nat→LP→LP→LP→Int→Int→Int→(LP→O R)→O R
 | 0,_,_,_,_,_,_,_=>none
 | m + 1,x1,x2,x3,x4,x5,x6,k0=>Ub5 n (fun x1 x2 x3 x4 x5 x6=>UaQ n m x1 x2 x3 x4 x5 x6 k0) x1 x2 x3 x4 x5 x6 k0
def Um (n:Nat) (x1 x2 x3:LP) (x4 x5 x6:Int) (k0:LP→O R):O R:=UaQ n n x1 x2 x3 x4 x5 x6 k0
def Uuh (n:Nat) (x1 x2:LP) (k0:LP→O R):O R :=
 bif (decide ((0:Int)≤((x1).length:Int))&&decide ((((x1).length:Int):Int)≤((x1).length:Int))&&Jbu (((x1).length:Int):Int).toNat 4) then (Um n x1 x2 (List.replicate (((x1).length:Int):Int).toNat (.v (.int .u32 0):PV)) 0 ((x1).length:Int) 0 (fun y3=>Ul7 n y3 (fun y4=>k0 y4))) else none
abbrev UvK (n:Nat):Code→Fr→Kc R→O R:=evC Tryz.prog (Ukj n) Ua3 n (47,[])
noncomputable def UjH:Code:=Jj3 (Jlk Tryz.f104) [1,1,1,0,1,0,0,1,1,0,0,1,1,1]
abbrev Uh:Sl (List SV):=(cH (cH (cO 143 (cI (cI (cI (cI .n)))))))
abbrev Ulh (n:Nat) (K:Kc R):Uh.T (O R):=fun x1 x2 x3 x4 x5 x6 x7=>UdE n x1 x2 x3 x4 x5 x6 x7 (fun y1 y2 y3 y4 y5 y6=>xC Ua3 9 K .normal [vH y1,vH y2,dD,.own 143 y3,vI y4,vI y5,vI y6])
noncomputable def Uhu:Code:=Jj3 (Jlk Tryz.f104) [1,1,1,0,1,0,0,1,1,0,0,1,1,1,1,1]
abbrev Ufx:Sl (List SV):=(cH (cH (cO 143 (cI (cI (cI (cI (cI .n))))))))
abbrev Uih (n:Nat) (K:Kc R):Ufx.T (O R):=fun x1 x2 x3 x4 x5 x6 x7 x8=>Ub4 n x1 x2 x3 x4 x5 x6 x7 x8 (fun y1 y2 y3 y4 y5 y6=>xC Ua3 13 K .normal [vH y1,vH y2,dD,.own 143 y3,vI y4,vI y5,vI y6])
noncomputable def UjI:Code:=Jj3 (Jlk Tryz.f104) [1,1,1,0,1,0,0]
abbrev UcN:Sl (List SV):=(cH (cH (cO 143 (cI (cI (cI .n))))))
abbrev UgC (n m:Nat) (K:Kc R):UcN.T (O R):=fun x1 x2 x3 x4 x5 x6=>UaQ n m x1 x2 x3 x4 x5 x6 (fun y1=>xL Ua3 4 K (.exit 0) [dD,.own 143 y1])
abbrev Up4 (n:Nat) (K:Kc R) (l0:UcN.T (O R)):UcN.T (O R):=fun x1 x2 x3 x4 x5 x6=>Ub5 n l0 x1 x2 x3 x4 x5 x6 (fun y1=>xL Ua3 4 K (.exit 0) [dD,.own 143 y1])
abbrev Unw (n:Nat):Orc R:=oL Ua3 (UvK n) n 4 UjI UcN (UgC n n) oN
abbrev Uni (n:Nat):Orc R:=oC Ua3 (UvK n) 13 Uhu Ufx (Uih n) (oC Ua3 (UvK n) 9 UjH Uh (Ulh n) oN)
abbrev Uvk (R:Type) (n:Nat):=JcH (R:=R) Tryz.prog (Ukj n) Ua3 n (47,[]) (Unw n) (Uni n)
theorem UnE (n:Nat):Uvk R n (true,13,Uhu):=JkV (lo:=Unw n) (cu:=Uni n) (pO pN (by kernel_rfl)) Ufx (Uih n) (fun K _ _ _ _ _ _ _ _=>by show _=_; kernel_rfl) fun _ _=>rfl
theorem Urn (n:Nat):Uvk R n (true,9,UjH):=JkV (lo:=Unw n) (cu:=Uni n) (pO (pC (UnE n) pN) (by kernel_rfl)) Uh (Ulh n) (fun K _ _ _ _ _ _ _=>by show _=_; kernel_rfl) fun _ _=>rfl
theorem Uro (n:Nat):Uvk R n (false,4,UjI):=JkE (lo:=Unw n) (cu:=Uni n) (pO (pC (Urn n) pN) (by kernel_rfl)) UcN (UgC n n) (JiD (F:=UgC n) UcN (Up4 n) (fun K _ _ _ _ _ _=>rfl) (fun _ _=>rfl) (fun L K _ _ _ _ _ _=>by show _=_; kernel_rfl) n) fun _ _=>rfl
theorem Ux (n:Nat):Je6 (Uvk R n) (JaJ Ua3 (Jlk Tryz.f104)):=pO (pC (Uro n) pN) (by kernel_rfl)
abbrev Uxw:Sl (List SV):=(cH (cH .n))
abbrev f104 (n:Nat) (K:List SV→O R):Uxw.T (O R):=fun x1 x2=>Uuh n x1 x2 (fun y1=>K [vH y1])
abbrev UtA (n:Nat):FS:=fT [false,false] Uxw (f104 n)
theorem Uww (n:Nat):FSound Tryz.prog GI 104 (UtA n):=gd Ua3 n (Uh0 n) Tryz.func104 (.cons (Uh0 n) Uxw (f104 n) (fun K _ _=>(Jkp (c:=Jlk Tryz.f104) (by kernel_rfl) (Ux n) K).trans (by kernel_rfl)) .nil) (by kernel_rfl)
end
end Go.Proofs.YtmgfmlhdnadglaaGreatDoor
set_option linter.unusedVariables false
set_option linter.unusedSimpArgs false
namespace Go.Proofs.YtmgfmlhdnadglaaGreatDoor
open Go Th Go.Proofs
variable {R:Type}
theorem hB2:2≤1000000000:=by decide
def NN (a:Nat):List PV:=nl .u32 (toL 1000000000 a)
theorem Ugg (n:Nat) (k0:List PV→Option R):∀ (m:Nat) (l:List Nat),(∀ d∈l,d<1000000000)→l.length<m→l.length<2 ^ 40→Ub3 n m (nl .u32 l) k0=k0 (NN (val 1000000000 l))
 | m + 1,l,hl,hm,hb=>by
  simp only [Ub3,UeS]
  rcases List.eq_nil_or_concat l with rfl | ⟨r,d,rfl⟩
  · simp (disch:=(first | omega | (simp only [JlD]; omega))) only [↓JlG,JlE,JlF]
    unfold NN
    rw [show val 1000000000 []=0 from rfl,Uai]
  · rw [List.concat_eq_append] at *
    have hlen:(r++[d]).length=r.length + 1:=by simp
    have hg:(r++[d]).getD r.length 0=d:=by rw [List.getD_eq_getElem?_getD,List.getElem?_append_right (Nat.le_refl _)]; simp
    have ht:(r++[d]).take r.length=r:=List.take_left
    have e1:((r.length + (0 + 1):Nat):Int) - 1=(r.length:Int):=by omega
    rw [hlen] at hm hb
    by_cases hd:d=0
    · subst hd
      have ih:=Ugg n k0 m r (fun x hx=>hl x (by simp [hx])) (by omega) (by omega)
      simp (disch:=(first | omega | (simp only [JlD]; omega))) only [↓JlG,JlE,JlF,e1,hg,JkZ,ht,ih]
      rw [Uci]
      rfl
    · have hne:(d == 0)=false:=by simpa using hd
      simp (disch:=(first | omega | (simp only [JlD]; omega))) only [↓JlG,JlE,JlF,e1,hg,JkZ,hne]
      congr 1
      unfold NN
      rw [Uhs hB2 _ hl (by rw [List.getLast?_append]; simpa using hd)]
theorem Ube (n:Nat) (l:List Nat) (hl:∀ d∈l,d<1000000000) (hn:l.length<n) (hb:l.length<2 ^ 40) (k0:List PV→Option R):Ul7 n (nl .u32 l) k0=k0 (NN (val 1000000000 l)):=by
 unfold Ul7 Ul8
 exact Ugg n _ n l hl hn hb
def UdU (a b:Nat):Int:=if a<b then -1 else if b<a then 1 else 0
theorem UhK (n:Nat) (la lb:List Nat) (ha:∀ d∈la,d<1000000000) (hb:∀ d∈lb,d<1000000000) (hlen:la.length=lb.length) (hl:la.length<2 ^ 40) (k0:Int→Option R) (k1:Option R) :
 ∀ (i m:Nat),i≤la.length→i<m→Ucy n m (nl .u32 la) (nl .u32 lb) ((i:Int) - 1) k0 k1 =
  if val 1000000000 (la.take i)<val 1000000000 (lb.take i) then k0 (-1) else if val 1000000000 (lb.take i)<val 1000000000 (la.take i) then k0 1 else k1
 | 0,m + 1,_,_=>by
  simp only [Ucy,Ufe]
  simp (disch:=(first | omega | (simp only [JlD]; omega))) only [↓JlG,JlE,JlF]
  rfl
 | i + 1,m + 1,h,hm=>by
  have ih:=UhK n la lb ha hb hlen hl k0 k1 i m (by omega) (by omega)
  have e1:((i + 1:Nat):Int) - 1=(i:Int):=by omega
  have va:=Uaj hB2 ha (i:=i) (by omega)
  have vb:=Uaj hB2 hb (i:=i) (by omega)
  rw [UaE 1000000000 (by omega:i<la.length),UaE 1000000000 (by omega:i<lb.length)]
  simp only [Ucy,Ufe]
  simp (disch:=(first | omega | (simp only [JlD]; omega))) only [↓JlG,JlE,JlF,e1,JjX]
  have hd:=Uad hB2 ha i
  have hd2:=Uad hB2 hb i
  generalize la.getD i 0=x at *
  generalize lb.getD i 0=y at *
  by_cases he:x=y
  · subst he
    rw [bne_self_eq_false,cond_false,ih]
    simp only [Nat.add_lt_add_iff_right]
  · rw [bne_iff_ne.2 he,cond_true]
    by_cases hlt:x<y
    · have:1000000000 ^ i * x + 1000000000 ^ i≤1000000000 ^ i * y:=by rw [←Nat.mul_succ]; exact Nat.mul_le_mul_left _ hlt
      rw [Jke (by omega),if_pos (by omega)]
    · have hgt:y<x:=by omega
      have:1000000000 ^ i * y + 1000000000 ^ i≤1000000000 ^ i * x:=by rw [←Nat.mul_succ]; exact Nat.mul_le_mul_left _ hgt
      rw [c_neg (by omega),if_neg (by omega),if_pos (by omega)]
theorem Uk (n a b:Nat) (hla:(toL 1000000000 a).length<2 ^ 40) (hlb:(toL 1000000000 b).length<2 ^ 40) (hn:(toL 1000000000 a).length<n) (k0:Int→Option R):p57 n (NN a) (NN b) k0=k0 (UdU a b):=by
 unfold p57 NN UdU
 by_cases he:(toL 1000000000 a).length=(toL 1000000000 b).length
 · have:((toL 1000000000 a).length != (toL 1000000000 b).length)=false:=by simp [he]
   have hlp:=UhK n _ _ (UaJ hB2 a) (UaJ hB2 b) he hla (fun y4=>k0 y4) (k0 0) (toL 1000000000 a).length n (Nat.le_refl _) hn
   rw [List.take_length,show (toL 1000000000 b).take (toL 1000000000 a).length=toL 1000000000 b from by rw [he,List.take_length],Uar hB2,Uar hB2] at hlp
   simp only [Jjc]
   rw [JjX,this,cond_false,w64 (by omega) (by omega)]
   unfold Upc
   rw [hlp]
   split
   · rfl
   · split <;> rfl
 · have:((toL 1000000000 a).length != (toL 1000000000 b).length)=true:=by simpa using he
   by_cases hlt:(toL 1000000000 a).length<(toL 1000000000 b).length
   · have h2:=UcX hB2 hlt
     simp (disch:=(first | omega | (simp only [JlD]; omega))) only [↓JlG,JlE,JlF,JjX,this]
   · have h2:=UcX hB2 (x:=b) (y:=a) (by omega)
     simp (disch:=(first | omega | (simp only [JlD]; omega))) only [↓JlG,JlE,JlF,JjX,this]
theorem Uf8 (n:Nat) (la lb:List Nat) (ha:∀ d∈la,d<1000000000) (hb:∀ d∈lb,d<1000000000) (hab:lb.length≤la.length) (hl:la.length<2 ^ 40) :
 ∀ (d m i:Nat) (o:List Nat) (c:Nat),d + i=la.length→d<m→o.length=la.length + 1→(∀ x∈o,x<1000000000)→c≤1→val 1000000000 (o.take i) + 1000000000 ^ i * c=val 1000000000 (la.take i) + val 1000000000 (lb.take i) →
  ∃ (o':List Nat) (c':Nat),(∀ k0:List PV→List PV→Int→Option R,Ubh n m (nl .u32 la) (nl .u32 lb) (nl .u32 o) c la.length i k0=k0 (nl .u32 la) (nl .u32 o') c')∧o'.length=la.length + 1∧(∀ x∈o',x<1000000000)∧c'≤1 ∧
   val 1000000000 (o'.take la.length) + 1000000000 ^ la.length * c'=val 1000000000 la + val 1000000000 lb
 | 0,m + 1,i,o,c,hd,hm,ho,hlt,hc,hv=>by
  have hi:i=la.length:=by omega
  subst hi
  refine ⟨o,c,fun k0=>?_,ho,hlt,hc,?_⟩
  · simp only [Ubh,Udb]
    simp (disch:=(first | omega | (simp only [JlD]; omega))) only [↓JlG,JlE,JlF]
  · rw [hv,List.take_length,List.take_of_length_le hab]
 | d + 1,m + 1,i,o,c,hd,hm,ho,hlt,hc,hv=>by
  have hx:=Uad hB2 ha i
  have hy:=Uad hB2 hb i
  have hs2:c + la.getD i 0 + lb.getD i 0<2 * 1000000000:=by omega
  have step:=Uf8 n la lb ha hb hab hl d m (i + 1) (o.set i ((c + la.getD i 0 + lb.getD i 0) % 1000000000)) ((c + la.getD i 0 + lb.getD i 0) / 1000000000) (by omega) (by omega) (by rw [List.length_set]; exact ho)
   (Ubd hlt (Nat.mod_lt _ (by decide)) i) (by have:=Nat.div_lt_of_lt_mul (show c + la.getD i 0 + lb.getD i 0<1000000000 * 2 by omega); omega)
   (by rw [Udo _ (by omega),UaZ,List.length_take,Nat.min_eq_left (by omega),Ujc 1000000000 i _ c _ (by decide),Uas 1000000000 la,Uas 1000000000 lb,Nat.mul_add,Nat.mul_add]; omega)
  obtain ⟨o',c',h1,h2⟩:=step
  refine ⟨o',c',fun k0=>?_,h2⟩
  rw [←h1 k0]
  have e2:((i:Int) + 1)=((i + 1:Nat):Int):=by omega
  simp only [Ubh,Udb,Uda]
  by_cases hi:i<lb.length
  · have e3:((c:Int) + ((la.getD i 0:Nat):Int) + ((lb.getD i 0:Nat):Int))=((c + la.getD i 0 + lb.getD i 0:Nat):Int):=by omega
    simp (disch:=(first | omega | (simp only [JlD]; omega))) only [↓JlG,JlE,JlF,e3,e2,JlA,JlB]
  · have h0:=Uc9 (l:=lb) (i:=i) (by omega)
    rw [h0] at *
    have e3:((c:Int) + ((la.getD i 0:Nat):Int))=((c + la.getD i 0 + 0:Nat):Int):=by omega
    simp (disch:=(first | omega | (simp only [JlD]; omega))) only [↓JlG,JlE,JlF,e3,e2,JlA,JlB]
theorem Uri (n a b:Nat) (hla:(toL 1000000000 a).length<2 ^ 30) (hlb:(toL 1000000000 b).length<2 ^ 30) (hna:(toL 1000000000 a).length + 1<n) (hnb:(toL 1000000000 b).length + 1<n) (k0:List PV→Option R):UvE n (NN a) (NN b) k0=k0 (NN (a + b)):=by
 have key:∀ x y:Nat,(toL 1000000000 x).length<2 ^ 30→(toL 1000000000 y).length≤(toL 1000000000 x).length→(toL 1000000000 x).length + 1<n→UdD n (NN x) (NN y) k0=k0 (NN (x + y)):=by
  intro x y hx hyx hn
  obtain ⟨o',c',h1,h2,h3,h4,h5⟩:=Uf8 (R:=R) n (toL 1000000000 x) (toL 1000000000 y) (UaJ hB2 x) (UaJ hB2 y) hyx (by omega)
   (toL 1000000000 x).length n 0 (List.replicate ((toL 1000000000 x).length + 1) 0) 0 (by omega) (by omega) (by rw [List.length_replicate]) (Ugb hB2 _) (by omega) (by simp [val])
  rw [Uar hB2,Uar hB2] at h5
  have ht:=Ube n (o'.set (toL 1000000000 x).length c') (Ubd h3 (by omega) _) (by rw [List.length_set]; omega) (by rw [List.length_set]; omega) k0
  rw [Ugd h2,UaZ,List.length_take,Nat.min_eq_left (by omega),h5] at ht
  have e1:((toL 1000000000 x).length:Int) + 1=(((toL 1000000000 x).length + 1:Nat):Int):=by omega
  unfold UdD NN Ul9
  rw [show ((0:Nat):Int)=0 from rfl] at h1
  simp (disch:=(first | omega | (simp only [JlD]; omega))) only [↓JlG,JlE,JlF,e1,h1,Ugd h2]
  exact ht
 unfold UvE
 have l1:(NN a).length=(toL 1000000000 a).length:=Jjc _ _
 have l2:(NN b).length=(toL 1000000000 b).length:=Jjc _ _
 rw [l1,l2]
 by_cases h:(toL 1000000000 a).length<(toL 1000000000 b).length
 · rw [Jke (by omega),Nat.add_comm]
   exact key b a hlb (by omega) hnb
 · rw [c_neg (by omega)]
   exact key a b hla (by omega) hna
theorem UdW (n:Nat) (la lb:List Nat) (ha:∀ d∈la,d<1000000000) (hb:∀ d∈lb,d<1000000000) (hab:lb.length≤la.length) (hl:la.length<2 ^ 40) :
 ∀ (d m i:Nat) (o:List Nat) (c:Nat),d + i=la.length→d<m→o.length=la.length→(∀ x∈o,x<1000000000)→c≤1→val 1000000000 (la.take i) + 1000000000 ^ i * c=val 1000000000 (o.take i) + val 1000000000 (lb.take i) →
  ∃ (o':List Nat) (c':Nat),(∀ k0:List PV→Option R,UaQ n m (nl .u32 la) (nl .u32 lb) (nl .u32 o) c la.length i k0=k0 (nl .u32 o'))∧o'.length=la.length∧(∀ x∈o',x<1000000000)∧c'≤1 ∧
   val 1000000000 la + 1000000000 ^ la.length * c'=val 1000000000 o' + val 1000000000 lb
 | 0,m + 1,i,o,c,hd,hm,ho,hlt,hc,hv=>by
  have hi:i=la.length:=by omega
  subst hi
  refine ⟨o,c,fun k0=>?_,ho,hlt,hc,?_⟩
  · simp only [UaQ,Ub5]
    simp (disch:=(first | omega | (simp only [JlD]; omega))) only [↓JlG,JlE,JlF]
  · rw [List.take_length,List.take_of_length_le (by omega),List.take_of_length_le hab] at hv
    exact hv
 | d + 1,m + 1,i,o,c,hd,hm,ho,hlt,hc,hv=>by
  have hx:=Uad hB2 ha i
  have hy:=Uad hB2 hb i
  have step:∀ (dg c':Nat),dg<1000000000→c'≤1→la.getD i 0 + 1000000000 * c'=dg + c + lb.getD i 0→_:=fun dg c' h1 h2 h3 =>
   UdW n la lb ha hb hab hl d m (i + 1) (o.set i dg) c' (by omega) (by omega) (by rw [List.length_set]; exact ho) (Ubd hlt h1 i) h2
   (by
     rw [Udo _ (by omega),UaZ,List.length_take,Nat.min_eq_left (by omega),Uas 1000000000 la,Uas 1000000000 lb,Nat.pow_succ,Nat.mul_assoc]
     have:1000000000 ^ i * (la.getD i 0 + 1000000000 * c')=1000000000 ^ i * (dg + c + lb.getD i 0):=by rw [h3]
     rw [Nat.mul_add,Nat.mul_add,Nat.mul_add] at this
     omega)
  have e2:((i:Int) + 1)=((i + 1:Nat):Int):=by omega
  by_cases hneg:la.getD i 0<c + lb.getD i 0
  · obtain ⟨o',c',h1,h2⟩:=step (la.getD i 0 + 1000000000 - c - lb.getD i 0) 1 (by omega) (by omega) (by omega)
    refine ⟨o',c',fun k0=>?_,h2⟩
    rw [←h1 k0]
    simp only [UaQ,Ub5,UdE,Ub4]
    by_cases hi:i<lb.length
    · have e3:((la.getD i 0:Nat):Int) - (c:Int) - ((lb.getD i 0:Nat):Int) + 1000000000=((la.getD i 0 + 1000000000 - c - lb.getD i 0:Nat):Int):=by omega
      simp (disch:=(first | omega | (simp only [JlD]; omega))) only [↓JlG,JlE,JlF,e3,e2]
      rfl
    · have h0:=Uc9 (l:=lb) (i:=i) (by omega)
      have e3:((la.getD i 0:Nat):Int) - (c:Int) + 1000000000=((la.getD i 0 + 1000000000 - c - lb.getD i 0:Nat):Int):=by omega
      simp (disch:=(first | omega | (simp only [JlD]; omega))) only [↓JlG,JlE,JlF,e3,e2]
      rfl
  · obtain ⟨o',c',h1,h2⟩:=step (la.getD i 0 - c - lb.getD i 0) 0 (by omega) (by omega) (by omega)
    refine ⟨o',c',fun k0=>?_,h2⟩
    rw [←h1 k0]
    simp only [UaQ,Ub5,UdE,Ub4]
    by_cases hi:i<lb.length
    · have e3:((la.getD i 0:Nat):Int) - (c:Int) - ((lb.getD i 0:Nat):Int)=((la.getD i 0 - c - lb.getD i 0:Nat):Int):=by omega
      simp (disch:=(first | omega | (simp only [JlD]; omega))) only [↓JlG,JlE,JlF,e3,e2]
      rfl
    · have h0:=Uc9 (l:=lb) (i:=i) (by omega)
      have e3:((la.getD i 0:Nat):Int) - (c:Int)=((la.getD i 0 - c - lb.getD i 0:Nat):Int):=by omega
      simp (disch:=(first | omega | (simp only [JlD]; omega))) only [↓JlG,JlE,JlF,e3,e2]
      rfl
theorem UnY {x y:Nat} (h:x≤y):(toL 1000000000 x).length≤(toL 1000000000 y).length:=by
 by_cases hq:(toL 1000000000 x).length≤(toL 1000000000 y).length
 · exact hq
 · have:=UcX hB2 (x:=y) (y:=x) (by omega); omega
theorem UiH (n a b:Nat) (hba:b≤a) (hla:(toL 1000000000 a).length<2 ^ 30) (hna:(toL 1000000000 a).length + 1<n) (k0:List PV→Option R):Uuh n (NN a) (NN b) k0=k0 (NN (a - b)):=by
 obtain ⟨o',c',h1,h2,h3,h4,h5⟩:=UdW (R:=R) n (toL 1000000000 a) (toL 1000000000 b) (UaJ hB2 a) (UaJ hB2 b) (UnY hba) (by omega)
  (toL 1000000000 a).length n 0 (List.replicate (toL 1000000000 a).length 0) 0 (by omega) (by omega) (by rw [List.length_replicate]) (Ugb hB2 _) (by omega) (by simp [val])
 rw [Uar hB2,Uar hB2] at h5
 have hlt:=UdO hB2 o' h3
 rw [h2] at hlt
 have hc:c'=0:=by
  rcases Nat.lt_or_ge 0 c' with q | q
  · have:c'=1:=by omega
    subst this; omega
  · omega
 subst hc
 have ht:=Ube n o' h3 (by omega) (by omega) k0
 rw [show val 1000000000 o'=a - b from by omega] at ht
 unfold Uuh NN Um
 rw [show ((0:Nat):Int)=0 from rfl] at h1
 simp (disch:=(first | omega | (simp only [JlD]; omega))) only [↓JlG,JlE,JlF,h1]
 exact ht
theorem Ud2 (n:Nat) (la:List Nat) (by_:Nat) (hby:0<by_) (hby2:by_<4294967296) (ha:∀ d∈la,d<1000000000) (hl:la.length<2 ^ 40) :
 ∀ (i m:Nat) (o:List Nat) (r:Nat),i≤la.length→i<m→o.length=la.length→(∀ x∈o,x<1000000000)→r<by_ →
  val 1000000000 (la.drop i)=by_ * val 1000000000 (o.drop i) + r →
  ∃ (o':List Nat) (r':Nat),(∀ k0:List PV→Int→Option R,Ubk n m (nl .u32 la) by_ (nl .u32 o) r ((i:Int) - 1) k0=k0 (nl .u32 o') r')∧o'.length=la.length∧(∀ x∈o',x<1000000000)∧r'<by_∧val 1000000000 la=by_ * val 1000000000 o' + r'
 | 0,m + 1,o,r,hi,hm,ho,hlt,hr,hv=>by
  refine ⟨o,r,fun k0=>?_,ho,hlt,hr,by simpa using hv⟩
  simp only [Ubk,Udh]
  simp (disch:=(first | omega | (simp only [JlD]; omega))) only [↓JlG,JlE,JlF]
 | i + 1,m + 1,o,r,hi,hm,ho,hlt,hr,hv=>by
  have hx:=Uad hB2 ha i
  have hs:r * 1000000000 + la.getD i 0<by_ * 1000000000:=by
   have:(r + 1) * 1000000000≤by_ * 1000000000:=Nat.mul_le_mul_right _ hr
   omega
  have hq:(r * 1000000000 + la.getD i 0) / by_<1000000000:=Nat.div_lt_of_lt_mul hs
  have hmod:(r * 1000000000 + la.getD i 0) % by_<by_:=Nat.mod_lt _ hby
  have hdm:=Nat.div_add_mod (r * 1000000000 + la.getD i 0) by_
  have dropSucc:∀ l:List Nat,i<l.length→val 1000000000 (l.drop i)=l.getD i 0 + 1000000000 * val 1000000000 (l.drop (i + 1)):=fun l h=>by
   rw [List.drop_eq_getElem_cons h,val,List.getD_eq_getElem?_getD,List.getElem?_eq_getElem h]; rfl
  obtain ⟨o',r',h1,h2⟩:=Ud2 n la by_ hby hby2 ha hl i m (o.set i ((r * 1000000000 + la.getD i 0) / by_)) ((r * 1000000000 + la.getD i 0) % by_) (by omega) (by omega) (by rw [List.length_set]; exact ho) (Ubd hlt hq i) hmod
   (by
     rw [dropSucc la (by omega),dropSucc _ (by rw [List.length_set]; omega),List.drop_set_of_lt (by omega),hv,List.getD_eq_getElem?_getD,List.getD_eq_getElem?_getD,List.getElem?_set_self (by omega)]
     simp only [Option.getD_some]
     rw [List.getD_eq_getElem?_getD] at hdm
     rw [Nat.mul_add,Nat.mul_add,Nat.mul_left_comm by_ 1000000000]
     omega)
  refine ⟨o',r',fun k0=>?_,h2⟩
  rw [←h1 k0]
  have e1:((i + 1:Nat):Int) - 1=(i:Int):=by omega
  have e3:(r:Int) * 1000000000 + ((la.getD i 0:Nat):Int)=((r * 1000000000 + la.getD i 0:Nat):Int):=by omega
  have hd0:¬ ((by_:Int)=0):=by omega
  have t1:Int.tdiv ((r * 1000000000 + la.getD i 0:Nat):Int) (by_:Int)=(((r * 1000000000 + la.getD i 0) / by_:Nat):Int):=Jli _ _
  have t2:Int.tmod ((r * 1000000000 + la.getD i 0:Nat):Int) (by_:Int)=(((r * 1000000000 + la.getD i 0) % by_:Nat):Int):=Jlj _ _
  generalize (r * 1000000000 + la.getD i 0) / by_=q at *
  generalize (r * 1000000000 + la.getD i 0) % by_=md at *
  simp only [Ubk,Udh]
  simp (disch:=(first | omega | (simp only [JlD]; omega))) only [↓JlG,JlE,JlF,e1,e3,t1,t2]
theorem Ui1 (n a by_:Nat) (hby:0<by_) (hby2:by_<4294967296) (hla:(toL 1000000000 a).length<2 ^ 30) (hna:(toL 1000000000 a).length + 1<n) (k0:List PV→Int→Option R):Uuk n (NN a) by_ k0=k0 (NN (a / by_)) ((a % by_:Nat):Int):=by
 obtain ⟨o',r',h1,h2,h3,h4,h5⟩:=Ud2 (R:=R) n (toL 1000000000 a) by_ hby hby2 (UaJ hB2 a) (by omega)
  (toL 1000000000 a).length n (List.replicate (toL 1000000000 a).length 0) 0 (Nat.le_refl _) (by omega) (by rw [List.length_replicate]) (Ugb hB2 _) hby (by simp [val])
 rw [Uar hB2] at h5
 have hq:val 1000000000 o'=a / by_:=by rw [h5,Nat.mul_add_div hby,Nat.div_eq_of_lt h4]; omega
 have hr:r'=a % by_:=by rw [h5,Nat.mul_add_mod,Nat.mod_eq_of_lt h4]
 have ht:=fun k0=>Ube (R:=R) n o' h3 (by omega) (by omega) k0
 rw [hq] at ht
 rw [←hr]
 unfold Uuk Umd
 have hN:NN a=nl .u32 (toL 1000000000 a):=rfl
 rw [hN]
 rw [show ((0:Nat):Int)=0 from rfl] at h1
 simp (disch:=(first | omega | (simp only [JlD]; omega))) only [↓JlG,JlE,JlF,h1,ht]
theorem UaP {l:List Nat} {i:Nat} (h:i<l.length):val 1000000000 (l.drop i)=l.getD i 0 + 1000000000 * val 1000000000 (l.drop (i + 1)):=by
 rw [List.drop_eq_getElem_cons h,val,List.getD_eq_getElem?_getD,List.getElem?_eq_getElem h]; rfl
theorem Ui4 (n:Nat) (la lb:List Nat) (ha:∀ d∈la,d<1000000000) (hb:∀ d∈lb,d<1000000000) (hl:la.length + lb.length<2 ^ 40) (i:Nat) (hi:i<la.length) :
 ∀ (d m k:Nat) (o:List Nat) (c:Nat),d + k=lb.length→d<m→o.length=la.length + lb.length→(∀ x∈o,x<1000000000)→c<1000000000 →
  ∃ (o':List Nat) (c':Nat),(∀ k0:List PV→List PV→List PV→Int→Int→Int→Int→Option R,UcA n m (nl .u32 la) (nl .u32 lb) (nl .u32 o) i c la.length i lb.length k k0=k0 (nl .u32 la) (nl .u32 lb) (nl .u32 o') i c' la.length i) ∧
   o'.length=la.length + lb.length∧(∀ x∈o',x<1000000000)∧c'<1000000000∧o'.drop (i + lb.length)=o.drop (i + lb.length) ∧
   val 1000000000 o' + 1000000000 ^ (i + lb.length) * c'=val 1000000000 o + 1000000000 ^ (i + k) * c + la.getD i 0 * (1000000000 ^ (i + k) * val 1000000000 (lb.drop k))
 | 0,m + 1,k,o,c,hd,hm,ho,hlt,hc=>by
  have hk:k=lb.length:=by omega
  subst hk
  refine ⟨o,c,fun k0=>?_,ho,hlt,hc,rfl,?_⟩
  · simp only [UcA,Ufg]
    simp (disch:=(first | omega | (simp only [JlD]; omega))) only [↓JlG,JlE,JlF]
  · rw [List.drop_length]; simp [val]
 | d + 1,m + 1,k,o,c,hd,hm,ho,hlt,hc=>by
  have hx:=Uad hB2 ha i
  have hy:=Uad hB2 hb k
  have hz:=Uad hB2 hlt (i + k)
  have hxy:la.getD i 0 * lb.getD k 0≤999999999 * 999999999:=Nat.mul_le_mul (by omega) (by omega)
  obtain ⟨s,hs⟩:∃ s,s=c + (la.getD i 0 * lb.getD k 0 + o.getD (i + k) 0):=⟨_,rfl⟩
  have hs2:s / 1000000000<1000000000:=by omega
  obtain ⟨o',c',h1,h2,h3,h4,h5,h6⟩:=Ui4 n la lb ha hb hl i hi d m (k + 1) (o.set (i + k) (s % 1000000000)) (s / 1000000000) (by omega) (by omega) (by rw [List.length_set]; exact ho) (Ubd hlt (Nat.mod_lt _ (by omega)) _) hs2
  refine ⟨o',c',fun k0=>?_,h2,h3,h4,by rw [h5,List.drop_set_of_lt (by omega)],?_⟩
  · rw [←h1 k0]
    have e1:(i:Int) + (k:Int)=((i + k:Nat):Int):=by omega
    have e2:(k:Int) + 1=((k + 1:Nat):Int):=by omega
    have e4:((la.getD i 0:Nat):Int) * ((lb.getD k 0:Nat):Int)=((la.getD i 0 * lb.getD k 0:Nat):Int):=by rw [Int.natCast_mul]
    generalize la.getD i 0 * lb.getD k 0=xy at *
    have e3:(c:Int) + ((xy:Int) + ((o.getD (i + k) 0:Nat):Int))=(s:Int):=by omega
    simp only [UcA,Ufg]
    simp (disch:=(first | omega | (simp only [JlD]; omega))) only [↓JlG,JlE,JlF,e1,e2,e4,e3,JlA,JlB]
  · rw [h6,UaP (by omega:k<lb.length)]
    have hv:=UcZ 1000000000 (s % 1000000000) (l:=o) (i:=i + k) (by omega)
    have hm:=Nat.mod_add_div s 1000000000
    rw [show i + (k + 1)=(i + k) + 1 from by omega,Nat.pow_succ]
    generalize 1000000000 ^ (i + k)=P at *
    generalize val 1000000000 (List.drop (k + 1) lb)=V at *
    generalize val 1000000000 (o.set (i + k) (s % 1000000000))=W at *
    generalize val 1000000000 o=U at *
    generalize s % 1000000000=q at *
    generalize s / 1000000000=t at *
    generalize la.getD i 0=x at *
    generalize lb.getD k 0=y at *
    generalize o.getD (i + k) 0=z at *
    clear h1 h3 h4 h5 hlt ha hb
    have h7:P * q + P * (1000000000 * t)=P * c + P * (x * y) + P * z:=by rw [←Nat.mul_add,hm,hs]; grind
    grind
theorem Ugf (n:Nat) (la lb:List Nat) (ha:∀ d∈la,d<1000000000) (hb:∀ d∈lb,d<1000000000) (hl:la.length + lb.length<2 ^ 40) (hn:lb.length<n) :
 ∀ (d m i:Nat) (o:List Nat),d + i=la.length→d<m→o.length=la.length + lb.length→(∀ x∈o,x<1000000000)→o.drop (i + lb.length)=List.replicate (la.length - i) 0→val 1000000000 o=val 1000000000 (la.take i) * val 1000000000 lb →
  ∃ (o':List Nat),(∀ k0:List PV→Option R,Ucz n m (nl .u32 la) (nl .u32 lb) (nl .u32 o) la.length i k0=k0 (nl .u32 o'))∧o'.length=la.length + lb.length∧(∀ x∈o',x<1000000000)∧val 1000000000 o'=val 1000000000 la * val 1000000000 lb
 | 0,m + 1,i,o,hd,hm,ho,hlt,hz,hv=>by
  have hi:i=la.length:=by omega
  subst hi
  refine ⟨o,fun k0=>?_,ho,hlt,by rw [hv,List.take_length]⟩
  simp only [Ucz,Uff]
  simp (disch:=(first | omega | (simp only [JlD]; omega))) only [↓JlG,JlE,JlF]
 | d + 1,m + 1,i,o,hd,hm,ho,hlt,hz,hv=>by
  obtain ⟨o1,c1,h1,h2,h3,h4,h5,h6⟩:=Ui4 (R:=R) n la lb ha hb hl i (by omega) lb.length n 0 o 0 (by omega) hn ho hlt (by omega)
  have hg:o1.getD (i + lb.length) 0=0:=by
   have:=congrArg (fun l:List Nat=>l.getD 0 0) h5
   simp only [List.getD_eq_getElem?_getD,List.getElem?_drop,Nat.add_zero] at this
   rw [List.getD_eq_getElem?_getD,this]
   have h0:=congrArg (fun l:List Nat=>l.getD 0 0) hz
   simp only [List.getD_eq_getElem?_getD,List.getElem?_drop,Nat.add_zero] at h0
   rw [h0,List.getElem?_replicate]
   split <;> rfl
  have hvs:=UcZ 1000000000 c1 (l:=o1) (i:=i + lb.length) (by omega)
  rw [hg] at hvs
  obtain ⟨o',q1,q2⟩:=Ugf n la lb ha hb hl hn d m (i + 1) (o1.set (i + lb.length) c1) (by omega) (by omega) (by rw [List.length_set]; exact h2) (Ubd h3 h4 _)
   (by
     rw [show i + 1 + lb.length=(i + lb.length) + 1 from by omega,List.drop_set_of_lt (by omega),←List.drop_drop,h5,hz,List.drop_replicate]
     congr 1)
   (by
     rw [Uas 1000000000 la]
     rw [List.drop_zero,Nat.add_zero,Nat.mul_zero,Nat.add_zero,hv] at h6
     rw [Nat.mul_zero,Nat.add_zero] at hvs
     rw [hvs,h6]
     grind)
  refine ⟨o',fun k0=>?_,q2⟩
  rw [←q1 k0]
  have e1:(i:Int) + (lb.length:Int)=((i + lb.length:Nat):Int):=by omega
  have e2:(i:Int) + 1=((i + 1:Nat):Int):=by omega
  rw [show ((0:Nat):Int)=0 from rfl] at h1
  simp only [Ucz,Uff,Upe]
  simp (disch:=(first | omega | (simp only [JlD]; omega))) only [↓JlG,JlE,JlF,h1,e1,e2]
theorem UaD (n a b:Nat) (hla:(toL 1000000000 a).length<2 ^ 30) (hlb:(toL 1000000000 b).length<2 ^ 30) (hn:(toL 1000000000 a).length + (toL 1000000000 b).length<n) (k0:List PV→Option R):p58 n (NN a) (NN b) k0=k0 (NN (a * b)):=by
 obtain ⟨o',h1,h2,h3,h4⟩:=Ugf (R:=R) n (toL 1000000000 a) (toL 1000000000 b) (UaJ hB2 a) (UaJ hB2 b) (by omega) (by omega)
  (toL 1000000000 a).length n 0 (List.replicate ((toL 1000000000 a).length + (toL 1000000000 b).length) 0) (by omega) (by omega) (by rw [List.length_replicate]) (Ugb hB2 _)
  (by rw [List.drop_replicate]; congr 1; omega) (by rw [UmW]; simp [val])
 rw [Uar hB2,Uar hB2] at h4
 have ht:=fun k0=>Ube (R:=R) n o' h3 (by omega) (by omega) k0
 rw [h4] at ht
 have e1:((toL 1000000000 a).length:Int) + ((toL 1000000000 b).length:Int)=(((toL 1000000000 a).length + (toL 1000000000 b).length:Nat):Int):=by omega
 have hN:NN a=nl .u32 (toL 1000000000 a):=rfl
 have hM:NN b=nl .u32 (toL 1000000000 b):=rfl
 unfold p58 Upd
 rw [hN,hM]
 rw [show ((0:Nat):Int)=0 from rfl] at h1
 simp (disch:=(first | omega | (simp only [JlD]; omega))) only [↓JlG,JlE,JlF,e1,h1,ht]
end Go.Proofs.YtmgfmlhdnadglaaGreatDoor
set_option linter.unusedVariables false
set_option maxRecDepth 100000
namespace Go.Proofs.YtmgfmlhdnadglaaGreatDoor
open Go Th Go.Proofs
noncomputable section
variable {R:Type}
end
end Go.Proofs.YtmgfmlhdnadglaaGreatDoor
set_option linter.unusedVariables false
set_option linter.unusedSimpArgs false
namespace Go.Proofs.YtmgfmlhdnadglaaGreatDoor
open Go Th Go.Proofs
variable {R:Type}
def II (a:Nat):List PV:=nl .i64 (DL a)
abbrev sg (z:Int):Bool:=decide (z<0)
def Ujp (x y:Int):Int:=if x<y then -1 else if x=y then 0 else 1
end Go.Proofs.YtmgfmlhdnadglaaGreatDoor
set_option linter.unusedVariables false
set_option maxRecDepth 100000
namespace Go.Proofs.YtmgfmlhdnadglaaGreatDoor
open Go Th Go.Proofs
noncomputable section
variable {R:Type}
end
end Go.Proofs.YtmgfmlhdnadglaaGreatDoor
set_option linter.unusedVariables false
set_option linter.unusedSimpArgs false
namespace Go.Proofs.YtmgfmlhdnadglaaGreatDoor
open Go Th Go.Proofs
variable {R:Type}
end Go.Proofs.YtmgfmlhdnadglaaGreatDoor
set_option linter.unusedVariables false
set_option maxRecDepth 100000
namespace Go.Proofs.YtmgfmlhdnadglaaGreatDoor
open Go Th Go.Proofs
noncomputable section
variable {R:Type}
def Uax:Ann:={ loops:=[(5,ids [0,3,4],ids [2,3])],cuts:=[(6,ids [0,3,4],ids [0,2,3,4])],frz:=[],rm:=[.id] }
abbrev UfX (n:Nat):Env:=eC 141 (UtS n) (eC 140 (UtR n) (eC 139 (UtQ n) (eC 138 (UtP n) eN)))
theorem Uh7 (n:Nat):EnvOK Tryz.prog GI (UfX n):=.cons (.cons (.cons (.cons (.nil) (UwL n)) (UwM n)) (UwN n)) (UwO n)
def UbD (n:Nat) (x1:LP) (x2:ByteArray) (x3:Int) (k0:LP→ByteArray→Int→O R):O R :=
 k0 x1 x2 (IntKind.i64.wrap (x3 - 1))
def Ubj (n:Nat) (l0:LP→ByteArray→Int→O R) (x1:LP) (x2:ByteArray) (x3:Int) (k0:ByteArray→O R):O R :=
 bif (decide (x3≥0)) then (bif (inR x3 ((x1).length)) then (Ji9 .u32 ((x1).getD ((x3:Int).toNat) (.v (.bool false))) fun e4=>bif (JkS (IntKind.i64.wrap (e4))) then (let v5:=IntKind.i64.wrap (((x1).length:Int) - 1); bif (decide (x3<v5)) then (let v6:=IntKind.i64.wrap (9 - ((JiA (IntKind.i64.wrap (e4))).size:Int)); bif (decide ((0:Int)≤v6)&&decide ((v6:Int)≤9223372036854775807)&&JiT (((⟨#[48]⟩:ByteArray)).size * (v6:Int).toNat)) then (JjZ (Jlc (⟨#[48]⟩:ByteArray) v6) (JiA (IntKind.i64.wrap (e4))) fun s7=>bif (JiT ((x2).size + (s7).size)) then (UbD n x1 (x2++s7) x3 (fun y8 y9 y10=>l0 y8 y9 y10)) else none) else none) else (bif (JiT ((x2).size + (JiA (IntKind.i64.wrap (e4))).size)) then (UbD n x1 (x2++(JiA (IntKind.i64.wrap (e4)))) x3 (fun y11 y12 y13=>l0 y11 y12 y13)) else none)) else none) else none) else (k0 x2)
def UaF (n:Nat):Nat→LP→ByteArray→Int→(ByteArray→O R)→O R
 | 0,_,_,_,_=>none
 | m + 1,x1,x2,x3,k0=>Ubj n (fun x1 x2 x3=>UaF n m x1 x2 x3 k0) x1 x2 x3 k0
def Ue4 (n:Nat) (l0:LP→Int→O R) (l1:LP→ByteArray→Int→O R) (x1:LP) (x2:Int) (k0:ByteArray→O R) (k1:O R):O R :=
 bif (decide (x2≥0)) then (bif (inR x2 ((x1).length)) then (Ji9 .u32 ((x1).getD ((x2:Int).toNat) (.v (.bool false))) fun e3=>bif (JkS (IntKind.i64.wrap (e3))) then (let v4:=IntKind.i64.wrap (((x1).length:Int) - 1); bif (decide (x2<v4)) then (let v5:=IntKind.i64.wrap (9 - ((JiA (IntKind.i64.wrap (e3))).size:Int)); bif (decide ((0:Int)≤v5)&&decide ((v5:Int)≤9223372036854775807)&&JiT (((⟨#[48]⟩:ByteArray)).size * (v5:Int).toNat)) then (JjZ (Jlc (⟨#[48]⟩:ByteArray) v5) (JiA (IntKind.i64.wrap (e3))) fun s6=>bif (JiT ((ByteArray.empty).size + (s6).size)) then (UbD n x1 (ByteArray.empty++s6) x2 (fun y7 y8 y9=>l1 y7 y8 y9)) else none) else none) else (bif (JiT ((ByteArray.empty).size + (JiA (IntKind.i64.wrap (e3))).size)) then (UbD n x1 (ByteArray.empty++(JiA (IntKind.i64.wrap (e3)))) x2 (fun y10 y11 y12=>l1 y10 y11 y12)) else none)) else none) else none) else (k1)
def Udf (n:Nat):Nat→LP→Int→(ByteArray→O R)→(O R)→O R
 | 0,_,_,_,_=>none
 | m + 1,x1,x2,k0,k1=>Ue4 n (fun x1 x2=>Udf n m x1 x2 k0 k1) (fun x1 x2 x3=>UaF n m x1 x2 x3 k0) x1 x2 k0 k1
def Umb (n:Nat) (x1:LP) (x2:Int) (k0:ByteArray→O R) (k1:O R):O R:=Udf n n x1 x2 k0 k1
def Uui (n:Nat) (x1:LP) (k0:ByteArray→O R):O R :=
 bif (((x1).length:Int) == 0) then (k0 ⟨#[48]⟩) else (let v2:=IntKind.i64.wrap (((x1).length:Int) - 1); Umb n x1 v2 (fun y3=>k0 y3) (k0 ByteArray.empty))
abbrev UxT (n:Nat):Code→Fr→Kc R→O R:=evC Tryz.prog (UfX n) Uax n (36,[])
noncomputable def UjR:Code:=Jj3 (Jlk Tryz.f116) [1,1,1,0,1,0,0,1,1]
abbrev Uhf:Sl (List SV):=(cH (.c (sOb 181 5) (cI .n)))
abbrev Ulo (n:Nat) (K:Kc R):Uhf.T (O R):=fun x1 x2 x3=>UbD n x1 x2 x3 (fun y1 y2 y3=>xC Uax 6 K .normal [vH y1,dD,.ob 181 5 y2,vI y3])
noncomputable def Udw:Code:=Jj3 (Jlk Tryz.f116) [1,1,1,0,1,0,0]
abbrev UaC:Sl (List SV):=(cH (.c (sOb 181 5) (cI .n)))
abbrev UaU:Sl (List SV):=(cH (.c (sBx 181 (.c (sP Jlf) (.c sNl .n))) (cI .n)))
abbrev UbV (n m:Nat) (K:Kc R):UaC.T (O R):=fun x1 x2 x3=>UaF n m x1 x2 x3 (fun y1=>xL Uax 5 K (.exit 0) [dD,.ob 181 5 y1])
abbrev Un (n:Nat) (K:Kc R) (l0:UaC.T (O R)):UaC.T (O R):=fun x1 x2 x3=>Ubj n l0 x1 x2 x3 (fun y1=>xL Uax 5 K (.exit 0) [dD,.ob 181 5 y1])
abbrev Uc4 (n m:Nat) (K:Kc R):UaU.T (O R):=fun x1 x2=>Udf n m x1 x2 (fun y1=>xL Uax 5 K (.exit 0) [dD,.ob 181 5 y1]) (xL Uax 5 K (.exit 0) [dD,.bx 181 [.p (.v (.pointer none)),.nl]])
abbrev Una (n:Nat) (K:Kc R) (l0:UaU.T (O R)) (l1:UaC.T (O R)):UaU.T (O R):=fun x1 x2=>Ue4 n l0 l1 x1 x2 (fun y1=>xL Uax 5 K (.exit 0) [dD,.ob 181 5 y1]) (xL Uax 5 K (.exit 0) [dD,.bx 181 [.p (.v (.pointer none)),.nl]])
abbrev Ujf (n:Nat):Orc R:=fun i vs K=>JfJ (Nat.beq i 5) (Jjf (UaC.ap vs (UbV n n K)) (Jjf (UaU.ap vs (Uc4 n n K)) (JcB Uax 5 (UxT n Udw) n vs K))) (oN i vs K)
abbrev Ujb (n:Nat):Orc R:=oC Uax (UxT n) 6 UjR Uhf (Ulo n) oN
abbrev Uvl (R:Type) (n:Nat):=JcH (R:=R) Tryz.prog (UfX n) Uax n (36,[]) (Ujf n) (Ujb n)
theorem Urx (n:Nat):Uvl R n (true,6,UjR):=JkV (lo:=Ujf n) (cu:=Ujb n) (pO pN (by kernel_rfl)) Uhf (Ulo n) (fun K _ _ _=>by show _=_; kernel_rfl) fun _ _=>rfl
theorem UiX (n:Nat):Je6 (Uvl R n) (JaJ Uax Udw):=pO (pC (Urx n) pN) (by kernel_rfl)
theorem UhW (n:Nat):∀ m (K:Kc R),UaC.all (fun vs r=>JcB Uax 5 (JcU Tryz.prog (UfX n) Uax (36,[]) (Ujf n) (Ujb n) Udw) m vs K=r) (UbV n m K):=JiD (F:=UbV n) UaC (Un n) (fun K _ _ _=>rfl) (fun _ _=>rfl) (fun L K _ _ _=>by show _=_; kernel_rfl)
theorem Unn (n:Nat):∀ m (K:Kc R),UaU.all (fun vs r=>JcB Uax 5 (JcU Tryz.prog (UfX n) Uax (36,[]) (Ujf n) (Ujb n) Udw) m vs K=r) (Uc4 n m K):=Jhv (F1:=UbV n) (F:=Uc4 n) UaU UaC (Una n) (fun K _ _=>rfl) (fun _ _=>rfl) (UhW n) (fun L K _ _=>by show _=_; kernel_rfl)
theorem Ury (n:Nat):Uvl R n (false,5,Udw):=JkE (lo:=Ujf n) (cu:=Ujb n) (UiX n) UaC (UbV n n) (UhW n n) (JkE (lo:=Ujf n) (cu:=Ujb n) (UiX n) UaU (Uc4 n n) (Unn n n) fun _ _=>rfl)
theorem Uxg (n:Nat):Je6 (Uvl R n) (JaJ Uax (Jlk Tryz.f116)):=pO (pC (Ury n) pN) (by kernel_rfl)
abbrev t116:Sl (List SV):=(cH .n)
abbrev f116 (n:Nat) (K:List SV→O R):t116.T (O R):=fun x1=>Uui n x1 (fun y1=>K [vS y1])
abbrev UtG (n:Nat):FS:=fT [false] t116 (f116 n)
theorem UwC (n:Nat):FSound Tryz.prog GI 116 (UtG n):=gd Uax n (Uh7 n) Tryz.func116 (.cons (Uh7 n) t116 (f116 n) (fun K _=>(Jkp (c:=Jlk Tryz.f116) (by kernel_rfl) (Uxg n) K).trans (by kernel_rfl)) .nil) (by kernel_rfl)
def UbQ:Ann:={ loops:=[],cuts:=[(5,ids [1,4,24],ids [1,2,3]),(7,ids [1],ids [2,3]),(10,ids [1,5,6],ids [2,3]),(12,ids [5,6],ids [2,3]),(14,ids [5],ids [2,3])],frz:=[],rm:=[.id,.id] }
abbrev UqO (n:Nat):Env:=eC 116 (UtG n) (eC 115 (UqY n) (eC 100 (UqX n) eN))
theorem Uk7 (n:Nat):EnvOK Tryz.prog GI (UqO n):=.cons (.cons (.cons (.nil) (Uud n)) (Uue n)) (UwC n)
def UdY (n:Nat) (x1:Bool) (x2 x3 x4:LP) (x5:Bool) (k0:Bool→LP→LP→O R):O R :=
 bif x5 then (Use n x2 x4 (fun y6 y7=>Use n x3 x4 (fun y8 y9=>k0 x1 y6 y8))) else (k0 x1 x2 x3)
def Ufn (n:Nat) (x1:ByteArray) (k0:ByteArray→Int→O R):O R :=
 k0 x1 0
def Ufm (n:Nat) (x1 x2:ByteArray) (k0:ByteArray→Int→O R):O R :=
 bif (!eqS x2 (⟨#[49]⟩:ByteArray)) then (JjZ (⟨#[47]⟩:ByteArray) x2 fun s3=>JjZ x1 s3 fun s4=>Ufn n s4 (fun y5 y6=>k0 y5 y6)) else (Ufn n x1 (fun y7 y8=>k0 y7 y8))
def Ug2 (n:Nat) (x1:Bool) (x2 x3:LP) (x4 x5:ByteArray) (k0:ByteArray→Int→O R):O R :=
 bif x1 then (JjZ (⟨#[45]⟩:ByteArray) x4 fun s6=>Ufm n s6 x5 (fun y7 y8=>k0 y7 y8)) else (Ufm n x4 x5 (fun y9 y10=>k0 y9 y10))
def Uf5 (n:Nat) (x1:Bool) (x2 x3:LP) (k0:ByteArray→Int→O R):O R :=
 Uui n x2 (fun y4=>Uui n x3 (fun y5=>bif (decide (((y4).size:Int)>400)) then (k0 ⟨#[]⟩ 5) else (bif (bif false then true else (decide (((y5).size:Int)>400))) then (k0 ⟨#[]⟩ 5) else (Ug2 n x1 x2 x3 y4 y5 (fun y6 y7=>k0 y6 y7)))))
def p79 (n:Nat) (x1:Bool) (x2 x3:LP) (k0:ByteArray→Int→O R):O R :=
 bif (((x2).length:Int) == 0) then (k0 ⟨#[48]⟩ 0) else (Uug n x2 x3 (fun y4=>bif (decide (((y4).length:Int)>1)) then (UdY n x1 x2 x3 y4 true (fun y5 y6 y7=>Uf5 n y5 y6 y7 (fun y8 y9=>k0 y8 y9))) else (bif (inR 0 ((y4).length)) then (Ji9 .u32 ((y4).getD ((0:Int).toNat) (.v (.bool false))) fun e10=>UdY n x1 x2 x3 y4 (bif false then true else (decide (e10>1))) (fun y11 y12 y13=>Uf5 n y11 y12 y13 (fun y14 y15=>k0 y14 y15))) else none)))
abbrev E79 (n:Nat):Code→Fr→Kc R→O R:=evC Tryz.prog (UqO n) UbQ n (66,[])
noncomputable def Uoq:Code:=Jj3 (Jlk Tryz.f79) [1,1,0,1,1]
abbrev UmJ:Sl (List SV):=(.c (sBx 99 (cB (cH (cH .n)))) (cH (cB .n)))
abbrev UoP (n:Nat) (K:Kc R):UmJ.T (O R):=fun x1 x2 x3 x4 x5=>UdY n x1 x2 x3 x4 x5 (fun y1 y2 y3=>xC UbQ 5 K .normal [.bx 99 [vB y1,vH y2,vH y3],dD,dD])
noncomputable def Uor:Code:=Jj3 (Jlk Tryz.f79) [1,1,1]
abbrev UmK:Sl (List SV):=(.c (sBx 99 (cB (cH (cH .n)))) .n)
abbrev UoQ (n:Nat) (K:Kc R):UmK.T (O R):=fun x1 x2 x3=>Uf5 n x1 x2 x3 (fun y1 y2=>xC UbQ 7 K .ret [vS y1,vI y2])
noncomputable def Uj3:Code:=Jj3 (Jlk Tryz.f79) [1,1,1,1,1]
abbrev Uho:Sl (List SV):=(.c (sBx 99 (cB (cH (cH .n)))) (cS (cS .n)))
abbrev UlO (n:Nat) (K:Kc R):Uho.T (O R):=fun x1 x2 x3 x4 x5=>Ug2 n x1 x2 x3 x4 x5 (fun y1 y2=>xC UbQ 10 K .ret [vS y1,vI y2])
noncomputable def Uj4:Code:=Jj3 (Jlk Tryz.f79) [1,1,1,1,1,1]
abbrev Uhp:Sl (List SV):=(cS (cS .n))
abbrev UlP (n:Nat) (K:Kc R):Uhp.T (O R):=fun x1 x2=>Ufm n x1 x2 (fun y1 y2=>xC UbQ 12 K .ret [vS y1,vI y2])
noncomputable def Uj5:Code:=Jj3 (Jlk Tryz.f79) [1,1,1,1,1,1,1]
abbrev Uhq:Sl (List SV):=(cS .n)
abbrev UlQ (n:Nat) (K:Kc R):Uhq.T (O R):=fun x1=>Ufn n x1 (fun y1 y2=>xC UbQ 14 K .ret [vS y1,vI y2])
abbrev Us (n:Nat):Orc R:=oN
abbrev Ur5 (n:Nat):Orc R:=oC UbQ (E79 n) 14 Uj5 Uhq (UlQ n) (oC UbQ (E79 n) 12 Uj4 Uhp (UlP n) (oC UbQ (E79 n) 10 Uj3 Uho (UlO n) (oC UbQ (E79 n) 7 Uor UmK (UoQ n) (oC UbQ (E79 n) 5 Uoq UmJ (UoP n) oN))))
abbrev K79 (R:Type) (n:Nat):=JcH (R:=R) Tryz.prog (UqO n) UbQ n (66,[]) (Us n) (Ur5 n)
theorem UuT (n:Nat):K79 R n (true,5,Uoq):=JkV (lo:=Us n) (cu:=Ur5 n) (pO pN (by kernel_rfl)) UmJ (UoP n) (fun K _ _ _ _ _=>by show _=_; kernel_rfl) fun _ _=>rfl
theorem UrN (n:Nat):K79 R n (true,14,Uj5):=JkV (lo:=Us n) (cu:=Ur5 n) (pO pN (by kernel_rfl)) Uhq (UlQ n) (fun K _=>by show _=_; kernel_rfl) fun _ _=>rfl
theorem UrM (n:Nat):K79 R n (true,12,Uj4):=JkV (lo:=Us n) (cu:=Ur5 n) (pO (pC (UrN n) pN) (by kernel_rfl)) Uhp (UlP n) (fun K _ _=>by show _=_; kernel_rfl) fun _ _=>rfl
theorem UrL (n:Nat):K79 R n (true,10,Uj3):=JkV (lo:=Us n) (cu:=Ur5 n) (pO (pC (UrM n) pN) (by kernel_rfl)) Uho (UlO n) (fun K _ _ _ _ _=>by show _=_; kernel_rfl) fun _ _=>rfl
theorem UuU (n:Nat):K79 R n (true,7,Uor):=JkV (lo:=Us n) (cu:=Ur5 n) (pO (pC (UrL n) pN) (by kernel_rfl)) UmK (UoQ n) (fun K _ _ _=>by show _=_; kernel_rfl) fun _ _=>rfl
theorem UBK (n:Nat):Je6 (K79 R n) (JaJ UbQ (Jlk Tryz.f79)):=pO (pC (UuT n) (pC (UuU n) pN)) (by kernel_rfl)
abbrev t79:Sl (List SV):=(.c (sP (JlH (.c Jle (.c sSh (.c sSh .n))))) .n)
abbrev f79 (n:Nat) (K:List SV→O R):t79.T (O R):=fun x1 x2 x3=>p79 n x1 x2 x3 (fun y1 y2=>K [vS y1,vI y2])
abbrev Uwc (n:Nat):FS:=fT [false] t79 (f79 n)
theorem Uzd (n:Nat):FSound Tryz.prog GI 79 (Uwc n):=gd UbQ n (Uk7 n) Tryz.func79 (.cons (Uk7 n) t79 (f79 n) (fun K _ _ _=>(Jkp (c:=Jlk Tryz.f79) (by kernel_rfl) (UBK n) K).trans (by kernel_rfl)) .nil) (by kernel_rfl)
end
end Go.Proofs.YtmgfmlhdnadglaaGreatDoor
set_option linter.unusedVariables false
set_option linter.unusedSimpArgs false
namespace Go.Proofs.YtmgfmlhdnadglaaGreatDoor
open Go Th Go.Proofs
variable {R:Type}
theorem Uke (n:Nat) (xs q:List PV) (lv:List Nat) (hv:∀ d∈lv,d<1000000000) (g i:Nat) (hg:g<1000000000) (hi:i<2 ^ 40) (hlv:lv.length<2 ^ 40) :
 ∀ (d m j:Nat) (o:List Nat) (c s:Nat),d + j=lv.length→d<m→i + lv.length≤o.length→o.length<2 ^ 41→(∀ x∈o,x<1000000000)→c<1000000000→s≤1 →
  ∃ (o':List Nat) (c' s':Nat),(∀ k0:List PV→List PV→List PV→Int→List PV→Int→Int→Int→Int→Option R,UaA n m xs (nl .u32 o) (nl .u32 lv) lv.length q i g c s lv.length j k0=k0 xs (nl .u32 o') (nl .u32 lv) lv.length q i g c' s') ∧
   o'.length=o.length∧(∀ x∈o',x<1000000000)∧c'<1000000000∧s'≤1∧o'.drop (i + lv.length)=o.drop (i + lv.length) ∧
   val 1000000000 o' + 1000000000 ^ (i + j) * (c + s) + g * (1000000000 ^ (i + j) * val 1000000000 (lv.drop j))=val 1000000000 o + 1000000000 ^ (i + lv.length) * (c' + s')
 | 0,m + 1,j,o,c,s,hd,hm,ho,ho2,hlt,hc,hs=>by
  have hk:j=lv.length:=by omega
  subst hk
  refine ⟨o,c,s,fun k0=>?_,rfl,hlt,hc,hs,rfl,?_⟩
  · simp only [UaA,Ub9]
    simp (disch:=(first | omega | (simp only [JlD]; omega))) only [↓JlG,JlE,JlF]
  · rw [List.drop_length]; simp [val]
 | d + 1,m + 1,j,o,c,s,hd,hm,ho,ho2,hlt,hc,hs=>by
  have hx:=Uad hB2 hv j
  have hz:=Uad hB2 hlt (i + j)
  have hxy:g * lv.getD j 0≤999999999 * 999999999:=Nat.mul_le_mul (by omega) (by omega)
  obtain ⟨t,ht⟩:∃ t,t=c + g * lv.getD j 0:=⟨_,rfl⟩
  have ht2:t / 1000000000<1000000000:=by omega
  have htm:t % 1000000000<1000000000:=Nat.mod_lt _ (by omega)
  obtain ⟨b,hb⟩:∃ b:Nat,b=if o.getD (i + j) 0<t % 1000000000 + s then 1 else 0:=⟨_,rfl⟩
  obtain ⟨r,hr⟩:∃ r:Nat,r + (t % 1000000000 + s)=o.getD (i + j) 0 + 1000000000 * b:=⟨o.getD (i + j) 0 + 1000000000 * b - (t % 1000000000 + s),by split at hb <;> omega⟩
  have hr2:r<1000000000:=by split at hb <;> omega
  have hb1:b≤1:=by split at hb <;> omega
  obtain ⟨o',c',s',h1,h2,h3,h4,h5,h6,h7⟩:=Uke n xs q lv hv g i hg hi hlv d m (j + 1) (o.set (i + j) r) (t / 1000000000) b (by omega) (by omega) (by rw [List.length_set]; exact ho) (by rw [List.length_set]; exact ho2) (Ubd hlt hr2 _) ht2 hb1
  refine ⟨o',c',s',fun k0=>?_,by rw [h2,List.length_set],h3,h4,h5,by rw [h6,List.drop_set_of_lt (by omega)],?_⟩
  · rw [←h1 k0]
    have e1:(i:Int) + (j:Int)=((i + j:Nat):Int):=by omega
    have e2:(j:Int) + 1=((j + 1:Nat):Int):=by omega
    have e4:(g:Int) * ((lv.getD j 0:Nat):Int)=((g * lv.getD j 0:Nat):Int):=by rw [Int.natCast_mul]
    generalize g * lv.getD j 0=xy at *
    have e3:(c:Int) + (xy:Int)=(t:Int):=by omega
    have e5:((o.getD (i + j) 0:Nat):Int) - ((t % 1000000000:Nat):Int) - (s:Int)=(r:Int) - 1000000000 * (b:Int):=by omega
    generalize hzz:o.getD (i + j) 0=z at *
    have hm1:t<2 ^ 62:=by omega
    generalize hq:t / 1000000000=tq at *
    generalize hq2:t % 1000000000=tr at *
    simp only [UaA,Ub9,Ude]
    by_cases hbb:z<tr + s
    · rw [if_pos hbb] at hb
      subst hb
      have e6:(r:Int) - 1000000000 * ((1:Nat):Int) + 1000000000=(r:Int):=by omega
      simp (disch:=(first | omega | (simp only [JlD]; omega))) only [↓JlG,JlE,JlF,e1,e2,e4,e3,JlA,JlB,hq,hq2,hzz,e5,e6]
      rfl
    · rw [if_neg hbb] at hb
      subst hb
      have e6:(r:Int) - 1000000000 * ((0:Nat):Int)=(r:Int):=by omega
      simp (disch:=(first | omega | (simp only [JlD]; omega))) only [↓JlG,JlE,JlF,e1,e2,e4,e3,JlA,JlB,hq,hq2,hzz,e5,e6]
      rfl
  · rw [UaP (by omega:j<lv.length)]
    have hvs:=UcZ 1000000000 r (l:=o) (i:=i + j) (by omega)
    have hmd:=Nat.mod_add_div t 1000000000
    rw [show i + (j + 1)=(i + j) + 1 from by omega,Nat.pow_succ] at h7
    generalize 1000000000 ^ (i + j)=P at *
    generalize val 1000000000 (List.drop (j + 1) lv)=V at *
    generalize val 1000000000 (o.set (i + j) r)=W at *
    generalize val 1000000000 o=U at *
    generalize 1000000000 ^ (i + lv.length)=Q at *
    generalize t % 1000000000=tr at *
    generalize t / 1000000000=tq at *
    generalize lv.getD j 0=y at *
    generalize o.getD (i + j) 0=z at *
    clear h1 h3 h4 h5 hlt hv hb
    have h8:P * r + P * (tr + s)=P * z + P * (1000000000 * b):=by rw [←Nat.mul_add,←Nat.mul_add,hr]
    have h9:P * tr + P * (1000000000 * tq)=P * c + P * (g * y):=by rw [←Nat.mul_add,←Nat.mul_add,hmd,ht]
    grind
theorem UhR (n:Nat) (xs q:List PV) (lv:List Nat) (hv:∀ d∈lv,d<1000000000) (g i:Nat) (y:Int) (hi:i<2 ^ 40) (hlv:lv.length<2 ^ 40) :
 ∀ (d m j:Nat) (o:List Nat) (c:Nat),d + j=lv.length→d<m→i + lv.length≤o.length→o.length<2 ^ 41→(∀ x∈o,x<1000000000)→c≤1 →
  ∃ (o':List Nat) (c':Nat),(∀ k0:List PV→List PV→List PV→Int→List PV→Int→Int→Int→Int→Option R,UaI n m xs (nl .u32 o) (nl .u32 lv) lv.length q i g y c lv.length j k0=k0 xs (nl .u32 o') (nl .u32 lv) lv.length q i g y c') ∧
   o'.length=o.length∧(∀ x∈o',x<1000000000)∧c'≤1∧o'.drop (i + lv.length)=o.drop (i + lv.length) ∧
   val 1000000000 o' + 1000000000 ^ (i + lv.length) * c'=val 1000000000 o + 1000000000 ^ (i + j) * c + 1000000000 ^ (i + j) * val 1000000000 (lv.drop j)
 | 0,m + 1,j,o,c,hd,hm,ho,ho2,hlt,hc=>by
  have hk:j=lv.length:=by omega
  subst hk
  refine ⟨o,c,fun k0=>?_,rfl,hlt,hc,rfl,?_⟩
  · simp only [UaI,Uc]
    simp (disch:=(first | omega | (simp only [JlD]; omega))) only [↓JlG,JlE,JlF]
  · rw [List.drop_length]; simp [val]
 | d + 1,m + 1,j,o,c,hd,hm,ho,ho2,hlt,hc=>by
  have hx:=Uad hB2 hv j
  have hz:=Uad hB2 hlt (i + j)
  obtain ⟨t,ht⟩:∃ t,t=c + (o.getD (i + j) 0 + lv.getD j 0):=⟨_,rfl⟩
  have ht2:t / 1000000000≤1:=by omega
  have htm:t % 1000000000<1000000000:=Nat.mod_lt _ (by omega)
  obtain ⟨o',c',h1,h2,h3,h4,h5,h6⟩:=UhR n xs q lv hv g i y hi hlv d m (j + 1) (o.set (i + j) (t % 1000000000)) (t / 1000000000) (by omega) (by omega) (by rw [List.length_set]; exact ho) (by rw [List.length_set]; exact ho2) (Ubd hlt htm _) ht2
  refine ⟨o',c',fun k0=>?_,by rw [h2,List.length_set],h3,h4,by rw [h5,List.drop_set_of_lt (by omega)],?_⟩
  · rw [←h1 k0]
    have e1:(i:Int) + (j:Int)=((i + j:Nat):Int):=by omega
    have e2:(j:Int) + 1=((j + 1:Nat):Int):=by omega
    have e3:(c:Int) + (((o.getD (i + j) 0:Nat):Int) + ((lv.getD j 0:Nat):Int))=(t:Int):=by omega
    simp only [UaI,Uc]
    simp (disch:=(first | omega | (simp only [JlD]; omega))) only [↓JlG,JlE,JlF,e1,e2,e3,JlA,JlB]
  · rw [h6,UaP (by omega:j<lv.length)]
    have hvs:=UcZ 1000000000 (t % 1000000000) (l:=o) (i:=i + j) (by omega)
    have hmd:=Nat.mod_add_div t 1000000000
    rw [show i + (j + 1)=(i + j) + 1 from by omega,Nat.pow_succ]
    generalize 1000000000 ^ (i + j)=P at *
    generalize val 1000000000 (List.drop (j + 1) lv)=V at *
    generalize val 1000000000 (o.set (i + j) (t % 1000000000))=W at *
    generalize val 1000000000 o=U at *
    generalize 1000000000 ^ (i + lv.length)=Q at *
    generalize t % 1000000000=tr at *
    generalize t / 1000000000=tq at *
    generalize lv.getD j 0=y at *
    generalize o.getD (i + j) 0=z at *
    clear h1 h3 h4 h5 hlt hv
    have h9:P * tr + P * (1000000000 * tq)=P * c + (P * z + P * y):=by rw [←Nat.mul_add,←Nat.mul_add,←Nat.mul_add,hmd,ht]
    grind
theorem UfV (n:Nat) (xs q:List PV) (lu lv:List Nat) (hu:∀ d∈lu,d<1000000000) (hv:∀ d∈lv,d<1000000000) (i:Nat) (hi:i<2 ^ 40) (hlv:lv.length<2 ^ 40) (h2:2≤lv.length) (hul:i + lv.length<lu.length) (hul2:lu.length<2 ^ 41)
 (v1 v2 u3 U2:Nat) (hv1:lv.getD (lv.length - 1) 0=v1) (hv2:lv.getD (lv.length - 2) 0=v2) (hu3:lu.getD (i + lv.length - 2) 0=u3) (hU2:U2<v1 * 1000000000 + 1000000000) :
 ∀ (m g r:Nat),g<2 ^ 31→r<1000000000→1000000000≤r + m * v1→g * v1 + r=U2→(∀ x,x<1000000000→x * (v1 * 1000000000 + v2)≤U2 * 1000000000 + u3→x≤g) →
  ∃ g':Nat,(∀ k0:List PV→List PV→List PV→Int→List PV→Int→Int→Option R,UaH n m xs (nl .u32 lu) (nl .u32 lv) lv.length q i g r k0=k0 xs (nl .u32 lu) (nl .u32 lv) lv.length q i g') ∧
   g'<1000000000∧g' * (v1 * 1000000000 + v2)≤U2 * 1000000000 + u3∧(∀ x,x<1000000000→x * (v1 * 1000000000 + v2)≤U2 * 1000000000 + u3→x≤g')
 | 0,g,r,hg,hr,hm,hinv,hmax=>by omega
 | m + 1,g,r,hg,hr,hm,hinv,hmax=>by
  have hb1:v1<1000000000:=by rw [←hv1]; exact Uad hB2 hv _
  have hb2:v2<1000000000:=by rw [←hv2]; exact Uad hB2 hv _
  have hb3:u3<1000000000:=by rw [←hu3]; exact Uad hB2 hu _
  have e1:(lv.length:Int) - 1=((lv.length - 1:Nat):Int):=by omega
  have e2:(lv.length:Int) - 2=((lv.length - 2:Nat):Int):=by omega
  have e3:(i:Int) + (lv.length:Int)=((i + lv.length:Nat):Int):=by omega
  have e4:((i + lv.length:Nat):Int) - 2=((i + lv.length - 2:Nat):Int):=by omega
  have e5:(g:Int) * (v2:Int)=((g * v2:Nat):Int):=by rw [Int.natCast_mul]
  have e6:(r:Int) * 1000000000=((r * 1000000000:Nat):Int):=by omega
  have e7:((r * 1000000000:Nat):Int) + (u3:Int)=((r * 1000000000 + u3:Nat):Int):=by omega
  have e8:(r:Int) + (v1:Int)=((r + v1:Nat):Int):=by omega
  have hgv:g * v2≤2 ^ 31 * 1000000000:=Nat.mul_le_mul (by omega) (by omega)
  have hkey:g * (v1 * 1000000000 + v2) + r * 1000000000=U2 * 1000000000 + g * v2:=by rw [←hinv]; grind
  by_cases hc:1000000000≤g∨r * 1000000000 + u3<g * v2
  · have hg1:1≤g:=by
     rcases Nat.eq_zero_or_pos g with h0 | h0
     · subst h0; simp at hc
     · exact h0
    obtain ⟨p,rfl⟩:∃ p,g=p + 1:=⟨g - 1,by omega⟩
    have e9:((p + 1:Nat):Int) - 1=(p:Int):=by omega
    have hinv':p * v1 + (r + v1)=U2:=by rw [←hinv,Nat.succ_mul]; omega
    have hkey':p * (v1 * 1000000000 + v2) + (r + v1) * 1000000000=U2 * 1000000000 + p * v2:=by rw [←hinv']; grind
    have hmax':∀ x,x<1000000000→x * (v1 * 1000000000 + v2)≤U2 * 1000000000 + u3→x≤p:=by
     intro x hx hxu
     have:=hmax x hx hxu
     by_cases hxp:x=p + 1
     · subst hxp; exfalso; omega
     · omega
    by_cases hr2:1000000000≤r + v1
    · have hpb:p<1000000000:=by
       apply Nat.lt_of_not_le
       intro hp
       have:1000000000 * v1≤p * v1:=Nat.mul_le_mul_right _ hp
       omega
      have hpv:p * v2≤1000000000 * 1000000000:=Nat.mul_le_mul (by omega) (by omega)
      refine ⟨p,fun k0=>?_,hpb,by omega,hmax'⟩
      simp only [UaH,Ubb,Ub7]
      by_cases h1:1000000000≤p + 1
      · simp (disch:=(first | omega | (simp only [JlD]; omega))) only [↓JlG,JlE,JlF,e1,e2,e3,e4,hv1,hv2,hu3,e5,e6,e7,e8,e9]
      · simp (disch:=(first | omega | (simp only [JlD]; omega))) only [↓JlG,JlE,JlF,e1,e2,e3,e4,hv1,hv2,hu3,e5,e6,e7,e8,e9]
    · obtain ⟨g',h1,h3,h4,h5⟩:=UfV n xs q lu lv hu hv i hi hlv h2 hul hul2 v1 v2 u3 U2 hv1 hv2 hu3 hU2 m p (r + v1) (by omega) (by omega) (by rw [Nat.succ_mul] at hm; omega) hinv' hmax'
      refine ⟨g',fun k0=>?_,h3,h4,h5⟩
      rw [←h1 k0]
      simp only [UaH,Ubb,Ub7]
      by_cases h1:1000000000≤p + 1
      · simp (disch:=(first | omega | (simp only [JlD]; omega))) only [↓JlG,JlE,JlF,e1,e2,e3,e4,hv1,hv2,hu3,e5,e6,e7,e8,e9]
      · simp (disch:=(first | omega | (simp only [JlD]; omega))) only [↓JlG,JlE,JlF,e1,e2,e3,e4,hv1,hv2,hu3,e5,e6,e7,e8,e9]
  · have hc1:g<1000000000:=by omega
    have hc2:g * v2≤r * 1000000000 + u3:=by omega
    refine ⟨g,fun k0=>?_,hc1,by omega,hmax⟩
    simp only [UaH,Ubb]
    simp (disch:=(first | omega | (simp only [JlD]; omega))) only [↓JlG,JlE,JlF,e1,e2,e3,e4,hv1,hv2,hu3,e5,e6,e7,e8]
end Go.Proofs.YtmgfmlhdnadglaaGreatDoor
set_option linter.unusedVariables false
namespace Go.Proofs.YtmgfmlhdnadglaaGreatDoor
theorem Uwg {B D U P Vl Wl V W g:Nat} (hV:V=D * P + Vl) (hW:W=U * P + Wl) (hVl:Vl<P) (hWl:Wl<P) (hD:B≤D) (hg:g<B) (hgU:g * D≤U)
 (hmax:∀ x,x<B→x * D≤U→x≤g) (hWV:W<B * V):W / V≤g∧g * V<W + V:=by
 have hP:0<P:=by omega
 have hD0:0<D:=by omega
 have hDP:0<D * P:=Nat.mul_pos hD0 hP
 have hV0:0<V:=by omega
 constructor
 · apply hmax
   · exact Nat.div_lt_of_lt_mul (by rw [Nat.mul_comm]; exact hWV)
   · have h1:W / V * V≤W:=Nat.div_mul_le_self W V
     generalize W / V=Q at *
     apply Nat.le_of_not_lt
     intro h
     have h2:(U + 1) * P≤Q * D * P:=Nat.mul_le_mul_right _ h
     rw [hV,Nat.mul_add,←Nat.mul_assoc] at h1
     rw [Nat.succ_mul] at h2
     have h3:0≤Q * Vl:=Nat.zero_le _
     omega
 · have h1:g * D * P≤U * P:=Nat.mul_le_mul_right _ hgU
   have h2:g * Vl≤B * P:=Nat.mul_le_mul (by omega) (by omega)
   have h3:B * P≤D * P:=Nat.mul_le_mul_right _ hD
   have h4:g * Vl<B * P∨g * Vl=0:=by
    rcases Nat.eq_zero_or_pos Vl with h0 | h0
    · right; rw [h0,Nat.mul_zero]
    · left; exact Nat.mul_lt_mul_of_lt_of_lt hg hVl
   rw [hV,Nat.mul_add,←Nat.mul_assoc,hW]
   rcases h4 with h4 | h4 <;> omega
theorem Uac (b:Nat) (l:List Nat) (i:Nat):val b (l.drop i)=l.getD i 0 + b * val b (l.drop (i + 1)):=by
 by_cases h:i<l.length
 · rw [List.drop_eq_getElem_cons h,val,List.getD_eq_getElem?_getD,List.getElem?_eq_getElem h]; rfl
 · rw [List.drop_eq_nil_of_le (by omega),List.drop_eq_nil_of_le (by omega),Uc9 (by omega)]; simp [val]
theorem Uch {b:Nat} (hb:2≤b) (l:List Nat) (k:Nat) (h:val b l<b ^ k):val b (l.drop k)=0:=by
 by_cases hk:k≤l.length
 · have h1:=Uaq b l k hk
   rcases Nat.eq_zero_or_pos (val b (l.drop k)) with h0 | h0
   · exact h0
   · have:b ^ k * 1≤b ^ k * val b (l.drop k):=Nat.mul_le_mul_left _ h0
     omega
 · rw [List.drop_eq_nil_of_le (by omega)]; rfl
theorem Uq7 {B:Nat} (hB:2≤B) (o lv:List Nat) (ho:∀ d∈o,d<B) (hv:∀ d∈lv,d<B) (i:Nat) (h2:2≤lv.length) (hi:i + lv.length<o.length) (hW:val B (o.drop i)<B * val B lv) :
 ∃ Vl Wl,val B lv=(lv.getD (lv.length - 1) 0 * B + lv.getD (lv.length - 2) 0) * B ^ (lv.length - 2) + Vl∧Vl<B ^ (lv.length - 2) ∧
  val B (o.drop i)=((o.getD (i + lv.length) 0 * B + o.getD (i + lv.length - 1) 0) * B + o.getD (i + lv.length - 2) 0) * B ^ (lv.length - 2) + Wl∧Wl<B ^ (lv.length - 2) ∧
  o.getD (i + lv.length) 0 * B + o.getD (i + lv.length - 1) 0<lv.getD (lv.length - 1) 0 * B + B:=by
 have hVlt:=UdO hB lv hv
 have hWlt:val B (o.drop i)<B ^ (lv.length + 1):=by
  rw [Nat.pow_succ,Nat.mul_comm _ B]
  exact Nat.lt_of_lt_of_le hW (Nat.mul_le_mul_left _ (Nat.le_of_lt hVlt))
 have hz:=Uch hB _ _ hWlt
 rw [List.drop_drop] at hz
 have hoi:∀ d∈o.drop i,d<B:=fun d hd=>ho d (List.mem_of_mem_drop hd)
 have a1:=Uaq B lv (lv.length - 2) (by omega)
 have a2:=Uac B lv (lv.length - 2)
 have a3:=Uac B lv (lv.length - 1)
 rw [show lv.length - 2 + 1=lv.length - 1 from by omega] at a2
 rw [show lv.length - 1 + 1=lv.length from by omega,List.drop_length,show val B []=0 from rfl,Nat.mul_zero,Nat.add_zero] at a3
 rw [a3] at a2; rw [a2] at a1
 have b1:=Uaq B (o.drop i) (lv.length - 2) (by rw [List.length_drop]; omega)
 rw [List.drop_drop] at b1
 have b2:=Uac B o (i + (lv.length - 2))
 have b3:=Uac B o (i + lv.length - 1)
 have b4:=Uac B o (i + lv.length)
 rw [show i + (lv.length - 2) + 1=i + lv.length - 1 from by omega] at b2
 rw [show i + lv.length - 1 + 1=i + lv.length from by omega] at b3
 rw [show i + lv.length + 1=i + (lv.length + 1) from by omega,hz,Nat.mul_zero,Nat.add_zero] at b4
 rw [show i + (lv.length - 2)=i + lv.length - 2 from by omega] at b2 b1
 rw [b4] at b3; rw [b3] at b2; rw [b2] at b1
 have c1:=Uaj hB hv (i:=lv.length - 2) (by omega)
 have c2:=Uaj hB hoi (i:=lv.length - 2) (by rw [List.length_drop]; omega)
 have hP:0<B ^ (lv.length - 2):=Nat.pow_pos (by omega)
 have hv2:lv.getD (lv.length - 2) 0<B:=Uad hB hv _
 generalize B ^ (lv.length - 2)=P at *
 generalize val B (List.take (lv.length - 2) lv)=Vl at *
 generalize val B (List.take (lv.length - 2) (o.drop i))=Wl at *
 generalize val B lv=V at *
 generalize val B (o.drop i)=W at *
 generalize lv.getD (lv.length - 1) 0=v1 at *
 generalize lv.getD (lv.length - 2) 0=v2 at *
 generalize o.getD (i + lv.length) 0=z at *
 generalize o.getD (i + lv.length - 1) 0=z1 at *
 generalize o.getD (i + lv.length - 2) 0=z2 at *
 clear a2 a3 b2 b3 b4 hz hVlt hWlt
 refine ⟨Vl,Wl,by rw [a1]; grind,c1,by rw [b1]; grind,c2,?_⟩
 apply Nat.lt_of_not_le
 intro h
 have d1:(v1 * B + B) * (B * P)≤(z * B + z1) * (B * P):=Nat.mul_le_mul_right _ h
 have d2:V<(v1 + 1) * (B * P):=by
  have:v2 * P + P≤B * P:=by rw [←Nat.succ_mul]; exact Nat.mul_le_mul_right _ hv2
  rw [a1]; grind
 have d3:B * V<B * ((v1 + 1) * (B * P)):=Nat.mul_lt_mul_of_pos_left d2 (by omega)
 grind
theorem UsK {Bi P V W g t1 z cs vo vo1 lo:Nat} (r2:vo1=t1 + P * z) (r3:vo=lo + Bi * W) (r4:lo<Bi) (r5:t1<P) (q7:vo1 + g * (Bi * V)=vo + P * cs) :
 (cs≤z→g * V≤W)∧(z<cs→W<g * V):=by
 have e:g * (Bi * V)=Bi * (g * V):=by grind
 rw [e] at q7
 constructor
 · intro h
   have h1:P * cs≤P * z:=Nat.mul_le_mul_left _ h
   have h2:Bi * (g * V)<Bi * (W + 1):=by rw [Nat.mul_succ]; omega
   exact Nat.le_of_lt_succ (Nat.lt_of_mul_lt_mul_left h2)
 · intro h
   have h1:P * (z + 1)≤P * cs:=Nat.mul_le_mul_left _ h
   rw [Nat.mul_succ] at h1
   have h2:Bi * W<Bi * (g * V):=by omega
   exact Nat.lt_of_mul_lt_mul_left h2
end Go.Proofs.YtmgfmlhdnadglaaGreatDoor
set_option linter.unusedVariables false
set_option linter.unusedSimpArgs false
namespace Go.Proofs.YtmgfmlhdnadglaaGreatDoor
open Go Th Go.Proofs
variable {R:Type}
theorem UzE {B Bi BL P V W p r t2 z cs c2 vo vo1 vo2 lo:Nat} (hBi:0<Bi) (hP:P=Bi * BL) (r7:vo2=t2 + P * z) (r8:t2<P) (r3:vo=lo + Bi * W) (r4:lo<Bi) (hm1:W=p * V + r) (hm2:r<BL)
 (q7:vo1 + (p + 1) * (Bi * V)=vo + P * cs) (d6:vo2 + P * c2=vo1 + Bi * V):z + c2=cs∧t2 + Bi * (p * V)=vo:=by
 have e1:(p + 1) * (Bi * V)=Bi * (p * V) + Bi * V:=by grind
 rw [e1] at q7
 have e2:Bi * W=Bi * (p * V) + Bi * r:=by rw [hm1,Nat.mul_add]
 have e3:Bi * r + Bi≤P:=by rw [hP,←Nat.mul_succ]; exact Nat.mul_le_mul_left _ hm2
 have e4:t2 + P * z + P * c2=lo + Bi * r + P * cs:=by omega
 rw [Nat.add_assoc,←Nat.mul_add] at e4
 have h0:0<P:=by omega
 have h1:z + c2=cs:=by
  have a1:(t2 + P * (z + c2)) / P=z + c2:=by rw [Nat.add_mul_div_left _ _ h0,Nat.div_eq_of_lt r8,Nat.zero_add]
  have a2:(lo + Bi * r + P * cs) / P=cs:=by rw [Nat.add_mul_div_left _ _ h0,Nat.div_eq_of_lt (by omega),Nat.zero_add]
  rw [←a1,e4,a2]
 refine ⟨h1,?_⟩
 rw [h1] at e4
 omega
set_option maxHeartbeats 4000000 in
set_option maxHeartbeats 4000000 in
theorem Unm (n m:Nat) (xs:List PV) (o lv lq:List Nat) (ho:∀ d∈o,d<1000000000) (hv:∀ d∈lv,d<1000000000) (hq:∀ d∈lq,d<1000000000) (i:Nat) (h2:2≤lv.length) (hil:i + lv.length<o.length) (hiq:i<lq.length) (hol:o.length<2 ^ 40)
 (hn:lv.length + 2<n) (hv1:500000000≤lv.getD (lv.length - 1) 0) (hW:val 1000000000 (o.drop i)<1000000000 * val 1000000000 lv) :
 ∃ o':List Nat,(∀ k0:List PV→List PV→List PV→Option R,Uaw n (m + 1) xs (nl .u32 o) (nl .u32 lv) lv.length (nl .u32 lq) i k0=Uaw n m xs (nl .u32 o') (nl .u32 lv) lv.length (nl .u32 (lq.set i (val 1000000000 (o.drop i) / val 1000000000 lv))) ((i:Int) - 1) k0) ∧
  o'.length=o.length∧(∀ d∈o',d<1000000000)∧val 1000000000 o' + 1000000000 ^ i * (val 1000000000 (o.drop i) / val 1000000000 lv * val 1000000000 lv)=val 1000000000 o:=by
 obtain ⟨Vl,Wl,f1,f2,f3,f4,f5⟩:=Uq7 hB2 o lv ho hv i h2 hil hW
 have hb1:=Uad hB2 hv (lv.length - 1)
 have hb2:=Uad hB2 hv (lv.length - 2)
 have hbz:=Uad hB2 ho (i + lv.length)
 have hbz1:=Uad hB2 ho (i + lv.length - 1)
 have hbz2:=Uad hB2 ho (i + lv.length - 2)
 obtain ⟨U2,hU2⟩:∃ U2,U2=o.getD (i + lv.length) 0 * 1000000000 + o.getD (i + lv.length - 1) 0:=⟨_,rfl⟩
 rw [←hU2] at f3 f5
 obtain ⟨v1,hv1e⟩:∃ v1,lv.getD (lv.length - 1) 0=v1:=⟨_,rfl⟩
 obtain ⟨v2,hv2e⟩:∃ v2,lv.getD (lv.length - 2) 0=v2:=⟨_,rfl⟩
 obtain ⟨u3,hu3e⟩:∃ u3,o.getD (i + lv.length - 2) 0=u3:=⟨_,rfl⟩
 obtain ⟨z,hze⟩:∃ z,o.getD (i + lv.length) 0=z:=⟨_,rfl⟩
 obtain ⟨z1,hz1e⟩:∃ z1,o.getD (i + lv.length - 1) 0=z1:=⟨_,rfl⟩
 rw [hv1e,hv2e] at f1
 rw [hu3e] at f3
 rw [hv1e] at f5 hb1 hv1
 rw [hv2e] at hb2; rw [hze] at hbz hU2; rw [hz1e] at hbz1 hU2; rw [hu3e] at hbz2
 have hdm:=Nat.div_add_mod' U2 v1
 have hmod:U2 % v1<v1:=Nat.mod_lt _ (by omega)
 have hdv0:U2<v1 * 2147483648:=Nat.lt_of_lt_of_le f5 (by rw [show v1 * 2147483648=v1 * 1000000000 + v1 * 1147483648 from by rw [←Nat.mul_add]]; exact Nat.add_le_add_left (by clear f1 f2 f3 f4 f5 hdm hmod hU2; omega) _)
 have hdv:U2 / v1<2147483648:=Nat.div_lt_of_lt_mul hdv0
 obtain ⟨g,hg1,hg2,hg3,hg4⟩:=UfV (R:=R) n xs (nl .u32 lq) o lv ho hv i (by omega) (by omega) h2 hil (by omega) v1 v2 u3 U2 hv1e hv2e hu3e f5 n (U2 / v1) (U2 % v1) hdv (by omega)
  (by have:3 * v1≤n * v1:=Nat.mul_le_mul_right _ (by omega)
      omega) hdm
  (by intro x hx hxu
      rw [Nat.le_div_iff_mul_le (by omega)]
      apply Nat.le_of_not_lt
      intro h
      have h3:(U2 + 1) * 1000000000≤x * v1 * 1000000000:=Nat.mul_le_mul_right _ h
      rw [Nat.mul_add,←Nat.mul_assoc] at hxu
      have:0≤x * v2:=Nat.zero_le _
      omega)
 obtain ⟨k1,k2⟩:=Uwg (B:=1000000000) f1 f3 f2 f4 (by omega) hg2 hg3 hg4 hW
 obtain ⟨o1,c1,s1,q1,q2,q3,q4,q5,q6,q7⟩:=Uke (R:=R) n xs (nl .u32 lq) lv hv g i hg2 (by omega) (by omega) lv.length n 0 o 0 0 (by omega) (by omega) (by omega) (by omega) ho (by omega) (by omega)
 have hz':o1.getD (i + lv.length) 0=z:=by
  rw [←hze]
  have h:=congrArg (fun l=>l.getD 0 0) q6
  simpa [List.getD_eq_getElem?_getD] using h
 have r1:=Uaq 1000000000 o (i + lv.length) (by omega)
 have r2:=Uaq 1000000000 o1 (i + lv.length) (by omega)
 have r3:=Uaq 1000000000 o i (by omega)
 have r4:=Uaj hB2 ho (i:=i) (by omega)
 have r5:=Uaj hB2 q3 (i:=i + lv.length) (by omega)
 rw [q6] at r2
 have r6:val 1000000000 (o.drop (i + lv.length))=z:=by
  have hWlt:val 1000000000 (o.drop i)<1000000000 ^ (lv.length + 1):=by
   rw [Nat.pow_succ,Nat.mul_comm _ 1000000000]
   exact Nat.lt_of_lt_of_le hW (Nat.mul_le_mul_left _ (Nat.le_of_lt (UdO hB2 lv hv)))
  have hz:=Uch hB2 _ _ hWlt
  rw [List.drop_drop] at hz
  rw [Uac,show i + lv.length + 1=i + (lv.length + 1) from by omega,hz,hze,Nat.mul_zero,Nat.add_zero]
 rw [r6] at r1 r2
 simp only [Nat.add_zero,Nat.mul_zero,List.drop_zero] at q7
 obtain ⟨b1,b2⟩:=UsK r2 r3 r4 r5 q7
 have hV0:0<val 1000000000 lv:=by
  rcases Nat.eq_zero_or_pos (val 1000000000 lv) with h0 | h0
  · rw [h0] at hW; omega
  · exact h0
 by_cases hcs:c1 + s1≤z
 · have hQ:val 1000000000 (o.drop i) / val 1000000000 lv=g:=Nat.le_antisymm k1 ((Nat.le_div_iff_mul_le hV0).2 (b1 hcs))
   rw [hQ]
   have hgu:g<4294967296:=by omega
   have w1:(i:Int) + (lv.length:Int)=((i + lv.length:Nat):Int):=by omega
   have w2:((i + lv.length:Nat):Int) - 1=((i + lv.length - 1:Nat):Int):=by omega
   have w3:(lv.length:Int) - 1=((lv.length - 1:Nat):Int):=by omega
   have w4:(z:Int) * 1000000000 + (z1:Int)=(U2:Int):=by omega
   have w5:(z:Int) - (c1:Int) - (s1:Int)=((z - (c1 + s1):Nat):Int):=by omega
   refine ⟨o1.set (i + lv.length) (z - (c1 + s1)),fun k0=>?_,by rw [List.length_set,q2],Ubd q3 (by omega) _,?_⟩
   · clear f1 f2 f3 f4 f5 hg3 hg4 q7 r1 r2 r3 r4 r5 r6 b1 b2 hQ hW k1 k2 hdm q6 q3 hq ho hv
     have q1':∀ k0:List PV→List PV→List PV→Int→List PV→Int→Int→Int→Int→Option R,UaA n n xs (nl .u32 o) (nl .u32 lv) lv.length (nl .u32 lq) i g 0 0 lv.length 0 k0=k0 xs (nl .u32 o1) (nl .u32 lv) lv.length (nl .u32 lq) i g c1 s1:=q1
     have t1:Int.tdiv (U2:Int) (v1:Int)=((U2 / v1:Nat):Int):=Jli _ _
     have t2:Int.tmod (U2:Int) (v1:Int)=((U2 % v1:Nat):Int):=Jlj _ _
     generalize U2 / v1=g0 at *
     generalize U2 % v1=r0 at *
     clear q1
     simp only [Uaw,Uba,Ue2,Ue3,Ub8,Ub6]
     simp (disch:=(first | omega | (simp only [JlD]; omega))) only [↓JlG,JlE,JlF,w1,w2,w3,hze,hz1e,hv1e,w4,t1,t2,hg1,q1',hz',w5,q2]
   · have hs:=UcZ 1000000000 (z - (c1 + s1)) (l:=o1) (i:=i + lv.length) (by omega)
     rw [hz'] at hs
     have e2:1000000000 ^ (i + lv.length) * z=1000000000 ^ (i + lv.length) * (z - (c1 + s1)) + 1000000000 ^ (i + lv.length) * (c1 + s1):=by rw [←Nat.mul_add]; congr 1; omega
     have e3:g * (1000000000 ^ i * val 1000000000 lv)=1000000000 ^ i * (g * val 1000000000 lv):=by grind
     rw [e3] at q7
     generalize 1000000000 ^ (i + lv.length) * z=A1 at *
     omega
 · have hQ:val 1000000000 (o.drop i) / val 1000000000 lv + 1=g:=by
    have h1:=b2 (Nat.lt_of_not_le hcs)
    have h3:val 1000000000 (o.drop i) / val 1000000000 lv<g:=(Nat.div_lt_iff_lt_mul hV0).2 h1
    obtain ⟨p,rfl⟩:∃ p,g=p + 1:=⟨g - 1,(Nat.succ_pred_eq_of_pos (Nat.lt_of_le_of_lt (Nat.zero_le _) h3)).symm⟩
    have h4:p≤val 1000000000 (o.drop i) / val 1000000000 lv:=(Nat.le_div_iff_mul_le hV0).2 (by rw [Nat.succ_mul] at k2; omega)
    omega
   obtain ⟨p,rfl⟩:∃ p,g=p + 1:=⟨val 1000000000 (o.drop i) / val 1000000000 lv,hQ.symm⟩
   have hQ':val 1000000000 (o.drop i) / val 1000000000 lv=p:=by omega
   rw [hQ']
   obtain ⟨o2,c2,d1,d2,d3,d4,d5,d6⟩:=UhR (R:=R) n xs (nl .u32 lq) lv hv p i ((z:Int) - (c1:Int) - (s1:Int)) (by omega) (by omega) lv.length n 0 o1 0 (by omega) (by omega) (by omega) (by omega) q3 (by omega)
   simp only [Nat.add_zero,Nat.mul_zero,List.drop_zero] at d6
   have hz2:o2.getD (i + lv.length) 0=z:=by
    rw [←hz']
    have h:=congrArg (fun l=>l.getD 0 0) d5
    simpa [List.getD_eq_getElem?_getD] using h
   have r7:=Uaq 1000000000 o2 (i + lv.length) (by omega)
   have r8:=Uaj hB2 d3 (i:=i + lv.length) (by omega)
   rw [d5,q6,r6] at r7
   have hm1:val 1000000000 (o.drop i)=p * val 1000000000 lv + val 1000000000 (o.drop i) % val 1000000000 lv:=by
    rw [←hQ',Nat.div_add_mod']
   have hm2:val 1000000000 (o.drop i) % val 1000000000 lv<1000000000 ^ lv.length:=Nat.lt_trans (Nat.mod_lt _ hV0) (UdO hB2 lv hv)
   obtain ⟨top,low⟩:=UzE (B:=1000000000) (Nat.pow_pos (by omega):0<1000000000 ^ i) (by rw [Nat.pow_add]) r7 r8 r3 r4 hm1 hm2 q7 d6
   have hs:=UcZ 1000000000 0 (l:=o2) (i:=i + lv.length) (by omega)
   rw [hz2,Nat.mul_zero,Nat.add_zero] at hs
   refine ⟨o2.set (i + lv.length) 0,fun k0=>?_,by rw [List.length_set,d2,q2],Ubd d3 (by omega) _,?_⟩
   · have w1:(i:Int) + (lv.length:Int)=((i + lv.length:Nat):Int):=by omega
     have w2:((i + lv.length:Nat):Int) - 1=((i + lv.length - 1:Nat):Int):=by omega
     have w3:(lv.length:Int) - 1=((lv.length - 1:Nat):Int):=by omega
     have w4:(z:Int) * 1000000000 + (z1:Int)=(U2:Int):=by omega
     have w5:((p + 1:Nat):Int) - 1=(p:Int):=by omega
     have w6:(z:Int) - (c1:Int) - (s1:Int) + (c2:Int)=((0:Nat):Int):=by omega
     have hgu:p + 1<4294967296:=by omega
     clear f1 f2 f3 f4 f5 hg3 hg4 q7 r1 r2 r3 r4 r5 r6 b1 b2 hQ hQ' hW k1 k2 hdm q6 q3 hq ho hv r7 r8 hm1 hm2 low hs d3 d5 d6
     have q1':∀ k0:List PV→List PV→List PV→Int→List PV→Int→Int→Int→Int→Option R,UaA n n xs (nl .u32 o) (nl .u32 lv) lv.length (nl .u32 lq) i ((p + 1:Nat):Int) 0 0 lv.length 0 k0=k0 xs (nl .u32 o1) (nl .u32 lv) lv.length (nl .u32 lq) i ((p + 1:Nat):Int) c1 s1:=q1
     have d1':∀ k0:List PV→List PV→List PV→Int→List PV→Int→Int→Int→Int→Option R,UaI n n xs (nl .u32 o1) (nl .u32 lv) lv.length (nl .u32 lq) i p ((z:Int) - (c1:Int) - (s1:Int)) 0 lv.length 0 k0=k0 xs (nl .u32 o2) (nl .u32 lv) lv.length (nl .u32 lq) i p ((z:Int) - (c1:Int) - (s1:Int)) c2:=d1
     have t1:Int.tdiv (U2:Int) (v1:Int)=((U2 / v1:Nat):Int):=Jli _ _
     have t2:Int.tmod (U2:Int) (v1:Int)=((U2 % v1:Nat):Int):=Jlj _ _
     generalize U2 / v1=g0 at *
     generalize U2 % v1=r0 at *
     clear q1 d1
     simp only [Uaw,Uba,Ue2,Ue3,UiP,Ub8,Ub6]
     simp (disch:=(first | omega | (simp only [JlD]; omega))) only [↓JlG,JlE,JlF,w1,w2,w3,hze,hz1e,hv1e,w4,t1,t2,hg1,q1',hz',w5,d1',w6,q2,d2]
   · generalize 1000000000 ^ (i + lv.length) * z=A1 at *
     generalize 1000000000 ^ i * (p * val 1000000000 lv)=A2 at *
     omega
theorem UhS (n:Nat) (xs:List PV) (lv:List Nat) (hv:∀ d∈lv,d<1000000000) (h2:2≤lv.length) (hn:lv.length + 2<n) (hv1:500000000≤lv.getD (lv.length - 1) 0) (U:Nat) :
 ∀ (d m:Nat) (o lq:List Nat),(∀ x∈o,x<1000000000)→(∀ x∈lq,x<1000000000)→lq.length + lv.length=o.length→d≤lq.length→d<m→o.length<2 ^ 40→val 1000000000 (o.drop d)<val 1000000000 lv →
  val 1000000000 o + 1000000000 ^ d * (val 1000000000 lv * val 1000000000 (lq.drop d))=U →
  ∃ o' lq':List Nat,(∀ k0:List PV→List PV→List PV→Option R,Uaw n m xs (nl .u32 o) (nl .u32 lv) lv.length (nl .u32 lq) ((d:Int) - 1) k0=k0 xs (nl .u32 o') (nl .u32 lq'))∧o'.length=o.length∧lq'.length=lq.length ∧
   (∀ x∈o',x<1000000000)∧(∀ x∈lq',x<1000000000)∧val 1000000000 o'<val 1000000000 lv∧val 1000000000 o' + val 1000000000 lv * val 1000000000 lq'=U
 | 0,m + 1,o,lq,ho,hq,hl,hd,hm,h40,hlt,hU=>by
  rw [List.drop_zero] at hlt hU
  rw [Nat.pow_zero,Nat.one_mul] at hU
  refine ⟨o,lq,fun k0=>?_,rfl,rfl,ho,hq,hlt,hU⟩
  simp only [Uaw,Uba]
  simp (disch:=(first | omega | (simp only [JlD]; omega))) only [↓JlG,JlE,JlF]
 | d + 1,m + 1,o,lq,ho,hq,hl,hd,hm,h40,hlt,hU=>by
  have hod:=Uad hB2 ho d
  have hW:val 1000000000 (o.drop d)<1000000000 * val 1000000000 lv:=by
   rw [Uac]
   have:1000000000 * val 1000000000 (o.drop (d + 1)) + 1000000000≤1000000000 * val 1000000000 lv:=by rw [←Nat.mul_succ]; exact Nat.mul_le_mul_left _ hlt
   omega
  obtain ⟨o',s1,s2,s3,s4⟩:=Unm (R:=R) n m xs o lv lq ho hv hq d h2 (by omega) (by omega) h40 hn hv1 hW
  have hV0:0<val 1000000000 lv:=by omega
  have hpB:val 1000000000 (o.drop d) / val 1000000000 lv<1000000000:=Nat.div_lt_of_lt_mul (by rw [Nat.mul_comm]; exact hW)
  obtain ⟨p,hp⟩:∃ p,val 1000000000 (o.drop d) / val 1000000000 lv=p:=⟨_,rfl⟩
  have r1:=Uaq 1000000000 o d (by omega)
  have r2:=Uaq 1000000000 o' d (by omega)
  have r3:=Uaj hB2 ho (i:=d) (by omega)
  have r4:=Uaj hB2 s3 (i:=d) (by omega)
  have hdm:=Nat.div_add_mod' (val 1000000000 (o.drop d)) (val 1000000000 lv)
  have hmod:val 1000000000 (o.drop d) % val 1000000000 lv<val 1000000000 lv:=Nat.mod_lt _ hV0
  rw [hp] at s1 s4 hpB hdm
  have hrest:val 1000000000 (o'.drop d)=val 1000000000 (o.drop d) % val 1000000000 lv:=by
   have h0:0<1000000000 ^ d:=Nat.pow_pos (by omega)
   generalize 1000000000 ^ d=P at *
   rw [r1,r2,←hdm,Nat.mul_add] at s4
   have e:val 1000000000 (List.take d o') + P * val 1000000000 (List.drop d o')=val 1000000000 (List.take d o) + P * (val 1000000000 (o.drop d) % val 1000000000 lv):=by
    omega
   have a1:(val 1000000000 (List.take d o') + P * val 1000000000 (List.drop d o')) / P=val 1000000000 (List.drop d o'):=by rw [Nat.add_mul_div_left _ _ h0,Nat.div_eq_of_lt r4,Nat.zero_add]
   have a2:(val 1000000000 (List.take d o) + P * (val 1000000000 (o.drop d) % val 1000000000 lv)) / P=val 1000000000 (o.drop d) % val 1000000000 lv:=by rw [Nat.add_mul_div_left _ _ h0,Nat.div_eq_of_lt r3,Nat.zero_add]
   rw [←a1,e,a2]
  have hqv:val 1000000000 ((lq.set d p).drop d)=p + 1000000000 * val 1000000000 (lq.drop (d + 1)):=by
   rw [Uac,List.drop_set_of_lt (by omega),List.getD_eq_getElem?_getD,List.getElem?_set_self (by omega)]; rfl
  obtain ⟨o2,lq2,t1,t2,t3,t4,t5,t6,t7⟩:=UhS n xs lv hv h2 hn hv1 U d m o' (lq.set d p) s3 (Ubd hq hpB _) (by rw [List.length_set,s2]; exact hl) (by rw [List.length_set]; omega) (by omega) (by omega) (by rw [hrest]; exact hmod)
   (by
     rw [hqv,←hU,←s4,Nat.pow_succ]
     generalize 1000000000 ^ d=P
     generalize val 1000000000 (lq.drop (d + 1))=Q
     generalize val 1000000000 lv=V
     grind)
  refine ⟨o2,lq2,fun k0=>?_,by rw [t2,s2],by rw [t3,List.length_set],t4,t5,t6,t7⟩
  rw [←t1 k0,←s1 k0,show ((d + 1:Nat):Int) - 1=(d:Int) from by omega]
theorem Unz (B t:Nat) (hB:B=1000000000) (ht:1≤t) (htB:t<B):500000000≤B / (t + 1) * t∧B / (t + 1) * (t + 1)≤B∧1≤B / (t + 1):=by
 have h1:B / (t + 1) * (t + 1)≤B:=Nat.div_mul_le_self _ _
 have h2:1≤B / (t + 1):=(Nat.le_div_iff_mul_le (by omega)).2 (by omega)
 have h3:=Nat.div_add_mod' B (t + 1)
 have h4:B % (t + 1)<t + 1:=Nat.mod_lt _ (by omega)
 refine ⟨?_,h1,h2⟩
 generalize B / (t + 1)=q at *
 generalize B % (t + 1)=r at *
 rw [Nat.mul_succ] at h3
 by_cases c1:q=1
 · subst c1; omega
 by_cases c2:t=1
 · subst c2; omega
 obtain ⟨s,rfl⟩:∃ s,t=s + 2:=⟨t - 2,by omega⟩
 have h5:2 * (s + 1)≤q * (s + 1):=Nat.mul_le_mul_right _ (by omega)
 have h6:q * (s + 2)=q * (s + 1) + q:=by grind
 omega
theorem UcY {b:Nat} (hb:2≤b) {x:Nat} (h0:x≠0) (hx:x<b):toL b x=[x]:=by
 rw [UaY hb h0,Nat.mod_eq_of_lt hx,Nat.div_eq_of_lt hx,Uai]
theorem UfO {b:Nat} (hb:2≤b) {x:Nat} (h0:x≠0):1≤(toL b x).length∧(toL b x).getD ((toL b x).length - 1) 0 * b ^ ((toL b x).length - 1)≤x∧x<((toL b x).getD ((toL b x).length - 1) 0 + 1) * b ^ ((toL b x).length - 1)∧1≤(toL b x).getD ((toL b x).length - 1) 0:=by
 have hl:1≤(toL b x).length:=by
  rcases Nat.eq_zero_or_pos (toL b x).length with h | h
  · exact absurd ((Ubt hb).1 (List.eq_nil_of_length_eq_zero h)) h0
  · exact h
 have h1:=Uaq b (toL b x) ((toL b x).length - 1) (by omega)
 rw [Uac,show (toL b x).length - 1 + 1=(toL b x).length from by omega,List.drop_length,show val b []=0 from rfl,Nat.mul_zero,Nat.add_zero,Uar hb] at h1
 have h2:=Uaj hb (UaJ hb x) (i:=(toL b x).length - 1) (by omega)
 have h3:=Ui5 hb x
 rw [List.getLast?_eq_getElem?] at h3
 have h4:1≤(toL b x).getD ((toL b x).length - 1) 0:=by
  apply Nat.one_le_iff_ne_zero.2
  intro h
  rw [List.getD_eq_getElem?_getD,List.getElem?_eq_getElem (by omega)] at h
  rw [List.getElem?_eq_getElem (by omega)] at h3
  exact h3 (congrArg some h)
 refine ⟨hl,?_,?_,h4⟩
 · rw [Nat.mul_comm]; omega
 · rw [Nat.succ_mul,Nat.mul_comm]; omega
theorem Ujn {b:Nat} (hb:2≤b) {x k:Nat} (h:k<(toL b x).length):b ^ k≤x:=by
 apply Nat.le_of_not_lt
 intro q
 have:=(Uah hb x k).2 q
 omega
set_option maxHeartbeats 2000000 in
theorem Ukd (n a b:Nat) (hb:0<b) (hla:(toL 1000000000 a).length<2 ^ 20) (hlb:(toL 1000000000 b).length<2 ^ 20) (hn:(toL 1000000000 a).length + (toL 1000000000 b).length + 10<n) (k0:List PV→List PV→Option R) :
 Use n (NN a) (NN b) k0=k0 (NN (a / b)) (NN (a % b)):=by
 have hc:=fun k0=>Uk (R:=R) n a b (by omega) (by omega) (by omega) k0
 unfold Use
 simp only [hc]
 by_cases hab:a<b
 · have e:UdU a b=-1:=by unfold UdU; rw [if_pos hab]
   have e0:NN 0=[]:=by unfold NN; rw [Uai]; rfl
   rw [Nat.div_eq_of_lt hab,Nat.mod_eq_of_lt hab,e0]
   simp (disch:=(first | omega | (simp only [JlD]; omega))) only [↓JlG,JlE,JlF,e]
 have e:0≤UdU a b:=by unfold UdU; rw [if_neg hab]; split <;> omega
 obtain ⟨tl,t0,t1,t2⟩:=UfO hB2 (x:=b) (by omega)
 have hbt:=Uad hB2 (UaJ hB2 b) ((toL 1000000000 b).length - 1)
 have hN:NN b=nl .u32 (toL 1000000000 b):=rfl
 by_cases h1:(toL 1000000000 b).length=1
 · have hb1:b<1000000000:=by
    have:=(Uah hB2 b 1).1 (by omega)
    rwa [Nat.pow_one] at this
   have hone:=UcY hB2 (x:=b) (by omega) hb1
   have hs:=fun k0=>Ui1 (R:=R) n a b hb (by omega) (by omega) (by omega) k0
   have hmod:a % b<b:=Nat.mod_lt _ hb
   have ht:=fun k0=>Ube (R:=R) n [a % b] (by simp; omega) (by simp; omega) (by simp) k0
   rw [show val 1000000000 [a % b]=a % b from by simp [val]] at ht
   have hN1:NN b=nl .u32 [b]:=by rw [hN,hone]
   have e1:([b].getD 0 0)=b:=rfl
   simp only [Ue1]
   rw [hN1]
   have hcond:((([b]:List Nat).length:Int) == 1)=true:=rfl
   have hg:∀ (K:Int→Option R),Ji9 .u32 ((nl .u32 [b]).getD (0:Int).toNat (PV.v (Value.bool false))) K=K (b:Int):=fun K=>Jhk (l:=[b]) (i:=0) (by simp)
   simp (disch:=(first | omega | (simp only [JlD]; omega))) only [↓JlG,JlE,JlF,hcond,hg,hs,Jlm,ht]
   rfl
 obtain ⟨L,hL⟩:∃ L,(toL 1000000000 b).length=L:=⟨_,rfl⟩
 obtain ⟨t,htop⟩:∃ t,(toL 1000000000 b).getD ((toL 1000000000 b).length - 1) 0=t:=⟨_,rfl⟩
 rw [htop] at t0 t1 t2 hbt
 rw [hL] at htop t0 t1 hlb hn tl h1
 obtain ⟨n1,n2,n3⟩:=Unz 1000000000 t rfl t2 hbt
 obtain ⟨f,hf⟩:∃ f,f=1000000000 / (t + 1):=⟨_,rfl⟩
 rw [←hf] at n1 n2 n3
 have hfB:f<1000000000:=by
  have:f * 2≤f * (t + 1):=Nat.mul_le_mul_left _ (by omega)
  omega
 have hNf:[PV.v (.int .u32 (f:Int))]=NN f:=by unfold NN; rw [UcY hB2 (by omega) hfB,Jlm]
 have hfl:(toL 1000000000 f).length=1:=by rw [UcY hB2 (by omega) hfB]; rfl
 have hPL:1000000000 ^ L=1000000000 ^ (L - 1) * 1000000000:=by rw [←Nat.pow_succ]; congr 1; omega
 have hvlt:b * f<1000000000 ^ L:=by
  have a1:b * f<(t + 1) * 1000000000 ^ (L - 1) * f:=Nat.mul_lt_mul_of_pos_right t1 (by omega)
  have a2:(t + 1) * 1000000000 ^ (L - 1) * f≤1000000000 ^ (L - 1) * 1000000000:=by
   have:(t + 1) * 1000000000 ^ (L - 1) * f=1000000000 ^ (L - 1) * (f * (t + 1)):=by grind
   rw [this]; exact Nat.mul_le_mul_left _ n2
  omega
 have hvge:500000000 * 1000000000 ^ (L - 1)≤b * f:=by
  have a1:t * 1000000000 ^ (L - 1) * f≤b * f:=Nat.mul_le_mul_right _ t0
  have a2:t * 1000000000 ^ (L - 1) * f=f * t * 1000000000 ^ (L - 1):=by grind
  have a3:500000000 * 1000000000 ^ (L - 1)≤f * t * 1000000000 ^ (L - 1):=Nat.mul_le_mul_right _ n1
  omega
 have hP0:0<1000000000 ^ (L - 1):=Nat.pow_pos (by omega)
 have hvl:(toL 1000000000 (b * f)).length=L:=by
  have a1:=(Uah hB2 (b * f) L).2 hvlt
  have a2:¬ (toL 1000000000 (b * f)).length≤L - 1:=fun h=>by
   have:=(Uah hB2 (b * f) (L - 1)).1 h
   omega
  omega
 obtain ⟨_,_,v2,_⟩:=UfO hB2 (x:=b * f) (by omega)
 rw [hvl] at v2
 have hvtop:500000000≤(toL 1000000000 (b * f)).getD (L - 1) 0:=by
  apply Nat.le_of_not_lt
  intro h
  have:((toL 1000000000 (b * f)).getD (L - 1) 0 + 1) * 1000000000 ^ (L - 1)≤500000000 * 1000000000 ^ (L - 1):=Nat.mul_le_mul_right _ h
  omega
 have hle:b * f≤a * f:=Nat.mul_le_mul_right _ (by omega)
 obtain ⟨A,hA⟩:∃ A,(toL 1000000000 (a * f)).length=A:=⟨_,rfl⟩
 have hA1:L≤A:=by
  rw [←hvl,←hA]
  exact (Uah hB2 (b * f) _).2 (Nat.lt_of_le_of_lt hle ((Uah hB2 (a * f) _).1 (Nat.le_refl _)))
 have hA2:A≤(toL 1000000000 a).length + 1:=by
  rw [←hA]
  apply (Uah hB2 (a * f) _).2
  rw [Nat.pow_succ]
  exact Nat.mul_lt_mul_of_lt_of_lt ((Uah hB2 a _).1 (Nat.le_refl _)) hfB
 obtain ⟨o,ho⟩:∃ o,o=toL 1000000000 (a * f)++[0]:=⟨_,rfl⟩
 have hol:o.length=A + 1:=by rw [ho,List.length_append,hA]; rfl
 have hod:∀ x∈o,x<1000000000:=by
  intro x hx
  rw [ho] at hx
  rcases List.mem_append.1 hx with h | h
  · exact UaJ hB2 _ x h
  · simp at h; omega
 have hov:val 1000000000 o=a * f:=by rw [ho,Uci,Uar hB2]
 have hdrop:val 1000000000 (o.drop (A + 1 - L))<val 1000000000 (toL 1000000000 (b * f)):=by
  rw [Uar hB2]
  have a1:=Uaq 1000000000 o (A + 1 - L) (by omega)
  have a2:a * f<1000000000 ^ A:=by rw [←hA]; exact (Uah hB2 _ _).1 (Nat.le_refl _)
  have a3:1000000000 ^ A=1000000000 ^ (A + 1 - L) * 1000000000 ^ (L - 1):=by rw [←Nat.pow_add]; congr 1; omega
  rw [hov] at a1
  have a4:1000000000 ^ (A + 1 - L) * val 1000000000 (o.drop (A + 1 - L))<1000000000 ^ (A + 1 - L) * 1000000000 ^ (L - 1):=by omega
  have a5:=Nat.lt_of_mul_lt_mul_left a4
  omega
 obtain ⟨o',lq',q1,q2,q3,q4,q5,q6,q7⟩:=UhS (R:=R) n (NN f) (toL 1000000000 (b * f)) (UaJ hB2 _) (by omega) (by omega) (by rw [hvl]; exact hvtop) (a * f) (A + 1 - L) n o (List.replicate (A + 1 - L) 0) hod (Ugb hB2 _) (by rw [List.length_replicate]; omega) (by rw [List.length_replicate]; omega) (by omega) (by omega) hdrop
  (by rw [List.drop_replicate,Nat.sub_self,hov]; simp [val])
 rw [Uar hB2] at q6 q7
 have hbf:0<b * f:=Nat.mul_pos hb (by omega)
 have hq:val 1000000000 lq'=a / b:=by
  have:a * f / (b * f)=val 1000000000 lq':=by rw [←q7,Nat.add_mul_div_left _ _ hbf,Nat.div_eq_of_lt q6,Nat.zero_add]
  rw [←this,Nat.mul_div_mul_right _ _ (by omega)]
 have hr:val 1000000000 o'=a % b * f:=by
  have:a * f % (b * f)=val 1000000000 o':=by rw [←q7,Nat.add_mul_mod_self_left,Nat.mod_eq_of_lt q6]
  rw [←this,Nat.mul_mod_mul_right]
 have m1:=fun k0=>UaD (R:=R) n a f (by omega) (by omega) (by omega) k0
 have m2:=fun k0=>UaD (R:=R) n b f (by omega) (by omega) (by omega) k0
 have m3:=fun k0=>Ube (R:=R) n o' q4 (by omega) (by omega) k0
 have m4:=fun k0=>Ube (R:=R) n lq' q5 (by rw [q3,List.length_replicate]; omega) (by rw [q3,List.length_replicate]; omega) k0
 have hrl:(toL 1000000000 (a % b * f)).length≤L:=by
  apply (Uah hB2 _ _).2
  rw [←hr]
  exact Nat.lt_trans q6 hvlt
 have m5:=fun k0=>Ui1 (R:=R) n (a % b * f) f (by omega) (by omega) (by omega) (by omega) k0
 rw [hr] at m3
 rw [hq] at m4
 rw [Nat.mul_div_cancel _ (by omega)] at m5
 have w1:((L:Int) == 1)=false:=by simp; omega
 have w2:(L:Int) - 1=((L - 1:Nat):Int):=by omega
 have w3:(t:Int) + 1=((t + 1:Nat):Int):=by omega
 have w4:Int.tdiv 1000000000 ((t + 1:Nat):Int)=(f:Int):=by rw [hf]; exact Jli 1000000000 (t + 1)
 have w5:((0 + A + (0 + 1):Nat):Int) - (L:Int)=((A + 1 - L:Nat):Int):=by omega
 have w6:nl .u32 (toL 1000000000 (a * f))++([.v (.int .u32 0)]:List PV)=nl .u32 o:=by
  rw [ho,←Jjb]; rfl
 have hNa:NN (a * f)=nl .u32 (toL 1000000000 (a * f)):=rfl
 have hNb:NN (b * f)=nl .u32 (toL 1000000000 (b * f)):=rfl
 have w7:((A + 1:Nat):Int) - (L:Int)=((A + 1 - L:Nat):Int):=by omega
 rw [hvl] at q1
 have hg:∀ (K:Int→Option R),Ji9 .u32 ((NN f).getD (0:Int).toNat (PV.v (Value.bool false))) K=K (f:Int):=fun K=>by rw [←hNf]; rfl
 have hNl:(NN f).length=1:=by rw [←hNf]; rfl
 simp only [Ue1,UgP,UgQ,UgR,UgS,UeZ,Ue0,UiO]
 rw [hN]
 clear hdrop hvge hvlt n1 n2 hPL q6 q7 t0 t1 v2 hle hr hq hbf hP0 hov
 simp (disch:=(first | omega | (simp only [JlD]; omega))) only [↓JlG,JlE,JlF,w1,hL,htop,w2,w3,w4,hNf,m1]
 rw [←hN]
 simp (disch:=(first | omega | (simp only [JlD]; omega))) only [↓JlG,JlE,JlF,m2,hNa,hNb,hA,hvl,w5,List.nil_append,w6,hol,w7,q1,m3,hNl,hg,m5,m4]
theorem Uiy (n:Nat) (k0:List PV→Option R):∀ (m a b:Nat),b<m→(toL 1000000000 a).length<2 ^ 19→(toL 1000000000 b).length<2 ^ 19→(toL 1000000000 a).length + (toL 1000000000 b).length + 10<n→(toL 1000000000 b).length + (toL 1000000000 b).length + 10<n →
 Ub2 n m (NN a) (NN b) k0=k0 (NN (Nat.gcd b a))
 | m + 1,a,b,hm,ha,hb,hn,hn2=>by
  simp only [Ub2,UeR]
  have hN:(NN b).length=(toL 1000000000 b).length:=by unfold NN; rw [Jjc]
  by_cases h0:b=0
  · subst h0
    rw [Uai] at hN
    have hN':(NN 0).length=0:=hN
    simp (disch:=(first | omega | (simp only [JlD]; omega))) only [↓JlG,JlE,JlF,hN',Nat.gcd_zero_left]
  · have hl:1≤(toL 1000000000 b).length:=(UfO hB2 h0).1
    have hd:=fun k0=>Ukd (R:=R) n a b (by omega) (by omega) (by omega) (by omega) k0
    have hlt:a % b<b:=Nat.mod_lt _ (by omega)
    have hlr:(toL 1000000000 (a % b)).length≤(toL 1000000000 b).length:=(Uah hB2 _ _).2 (Nat.lt_trans hlt ((Uah hB2 _ _).1 (Nat.le_refl _)))
    have ih:=Uiy n k0 m b (a % b) (by omega) hb (by omega) (by omega) (by omega)
    simp (disch:=(first | omega | (simp only [JlD]; omega))) only [↓JlG,JlE,JlF,hN,hd]
    rw [ih,←Nat.gcd_rec]
theorem UoW (n a b:Nat) (hbn:b<n) (ha:(toL 1000000000 a).length<2 ^ 19) (hb:(toL 1000000000 b).length<2 ^ 19) (hn:(toL 1000000000 a).length + (toL 1000000000 b).length + 10<n) (hn2:(toL 1000000000 b).length + (toL 1000000000 b).length + 10<n) (k0:List PV→Option R) :
 Uug n (NN a) (NN b) k0=k0 (NN (Nat.gcd b a)):=by
 unfold Uug Ul6
 exact Uiy n _ n a b hbn ha hb hn hn2
theorem Unx (l k:Nat):JkT 0 ((l:Int) - (k:Int))=((l - k:Nat):Int):=by
 unfold JkT; split <;> omega
theorem UjC {s:List UInt8} (h:∀ c∈s,isD c=true) (h0:s≠[]) (hl:s.length≤18) (K:Int→Option R):Jia (bs s) K=K (ofD s:Int):=by
 unfold Jia
 rw [Jg6,Um5 s h h0 hl,Jd4,decide_eq_true (by omega)]; rfl
theorem Ud0 (n:Nat):∀ (m:Nat) (s:List UInt8) (o:List Nat),(∀ c∈s,isD c=true)→(∀ d∈o,d<1000000000)→s.length<m→s.length + o.length<2 ^ 30 →
 ∃ o':List Nat,(∀ k0:List PV→Option R,UcI n m (bs s) (nl .u32 o) k0=k0 (nl .u32 o'))∧(∀ d∈o',d<1000000000)∧o'.length≤o.length + s.length∧val 1000000000 o'=val 1000000000 o + 1000000000 ^ o.length * ofD s
 | m + 1,s,o,hs,ho,hm,hl=>by
  by_cases h0:s=[]
  · subst h0
    refine ⟨o,fun k0=>?_,ho,by omega,by rw [show ofD []=0 from rfl]; simp⟩
    simp only [UcI,Ufq]
    simp (disch:=(first | omega | (simp only [JlD]; omega))) only [↓JlG,JlE,JlF]
  · have hpos:0<s.length:=List.length_pos_iff.2 h0
    obtain ⟨k,hk⟩:∃ k,k=s.length - 9:=⟨_,rfl⟩
    have h1:∀ c∈s.take k,isD c=true:=fun c h=>hs c (List.mem_of_mem_take h)
    have h2:∀ c∈s.drop k,isD c=true:=fun c h=>hs c (List.mem_of_mem_drop h)
    have h3:(s.drop k).length≤9:=by rw [List.length_drop]; omega
    have h4:s.drop k≠[]:=by intro e; have:=congrArg List.length e; rw [List.length_drop,List.length_nil] at this; omega
    have h5:ofD (s.drop k)<1000000000:=Nat.lt_of_lt_of_le (Ul2 h2) (Nat.pow_le_pow_right (n:=10) (by omega) h3)
    have h6:ofD s=ofD (s.take k) * 1000000000 + ofD (s.drop k):=by
     conv=>lhs; rw [←List.take_append_drop k s]
     rw [Uji]
     by_cases hk0:k=0
     · subst hk0
       rw [List.take_zero,show ofD []=0 from rfl,Nat.zero_mul,Nat.zero_mul]
     · rw [List.length_drop,show s.length - k=9 from by omega]
    obtain ⟨o',q1,q2,q3,q4⟩:=Ud0 n m (s.take k) (o++[ofD (s.drop k)]) h1 (by
     intro d hd
     rcases List.mem_append.1 hd with h | h
     · exact ho d h
     · rw [List.mem_singleton.1 h]; exact h5) (by rw [List.length_take]; omega) (by rw [List.length_take,List.length_append,List.length_singleton]; omega)
    refine ⟨o',fun k0=>?_,q2,by rw [List.length_append,List.length_singleton,List.length_take] at q3; omega,?_⟩
    · rw [←q1 k0]
      have w1:JkT 0 ((s.length:Int) - 9)=(k:Int):=by rw [hk]; exact Unx s.length 9
      have w2:List.drop k (List.take s.length s)=s.drop k:=by rw [List.take_length]
      have w3:=fun K=>UjC (R:=R) h2 h4 (by omega) K
      have w4:List.drop 0 (List.take k s)=s.take k:=rfl
      simp only [UcI,Ufq]
      simp (disch:=(first | omega | (simp only [JlD]; omega))) only [↓JlG,JlE,JlF,w1,w2,w3,Jlm]
    · rw [q4,UaZ,h6,List.length_append,List.length_singleton,Nat.pow_succ]
      grind
theorem Ufu (n:Nat) (s:List UInt8) (hs:∀ c∈s,isD c=true) (hl:s.length<2 ^ 20) (hn:s.length<n) (k0:List PV→Option R):p98 n (bs s) k0=k0 (NN (ofD s)):=by
 obtain ⟨o',q1,q2,q3,q4⟩:=Ud0 (R:=R) n n s [] hs (by intro d h; cases h) hn (by simp; omega)
 rw [List.length_nil] at q3
 have ht:=Ube (R:=R) n o' q2 (by omega) (by omega) k0
 rw [q4,show val 1000000000 []=0 from rfl,List.length_nil,Nat.pow_zero,Nat.one_mul,Nat.zero_add] at ht
 unfold p98 Upi
 rw [show ([]:List PV)=nl .u32 [] from rfl,q1,ht]
theorem UiF (d:Nat) (h:d<1000000000):JiA (d:Int)=bs (dec d):=by
 unfold JiA Lib.itoa
 rw [if_neg (by omega),Int.toNat_natCast]; rfl
theorem UiA (d:Nat) (h:d<1000000000):JkS (d:Int)=true:=by
 unfold JkS; simp; omega
theorem UnU (k:Nat):Lib.repeatL [48] k=List.replicate k 48:=by
 induction k with
 | zero=>rfl
 | succ k ih=>rw [Lib.repeatL,ih]; rfl
theorem Uyd {d:Nat} (h:d<1000000000):(dec d).length≤9:=(Ua8 d 9 (by omega)).2 h
theorem Uge (n:Nat) (l:List Nat) (hl:∀ d∈l,d<1000000000) (h30:l.length<2 ^ 30) (k0:ByteArray→Option R):∀ (i m:Nat),i<l.length→i<m→val 1000000000 (l.drop i)≠0→(dec (val 1000000000 (l.drop i))).length≤9 * (l.length - i) →
 UaF n m (nl .u32 l) (bs (dec (val 1000000000 (l.drop i)))) ((i:Int) - 1) k0=k0 (bs (dec (val 1000000000 l)))
 | 0,m + 1,hi,hm,h0,hb=>by
  rw [List.drop_zero] at *
  simp only [UaF,Ubj]
  simp (disch:=(first | omega | (simp only [JlD]; omega))) only [↓JlG,JlE,JlF]
 | i + 1,m + 1,hi,hm,h0,hb=>by
  have hd:=Uad hB2 hl i
  have hv:=Uac 1000000000 l i
  have hstep:=UhO 9 (val 1000000000 (l.drop (i + 1))) (l.getD i 0) h0 hd
  have e:val 1000000000 (l.drop (i + 1)) * 10 ^ 9 + l.getD i 0=val 1000000000 (l.drop i):=by rw [hv]; omega
  rw [e] at hstep
  have h9:=Uyd hd
  have hp:=Upj 8 (l.getD i 0) hd
  have hlp:(pad 9 (l.getD i 0)).length=9:=by rw [←hp,List.length_append,List.length_replicate]; omega
  have hlen:(dec (val 1000000000 (l.drop i))).length≤9 * (l.length - i):=by rw [hstep,List.length_append,hlp]; omega
  have ih:=Uge n l hl h30 k0 i m (by omega) (by omega) (by rw [hv]; omega) hlen
  rw [hstep,←hp] at ih
  have w1:((i + 1:Nat):Int) - 1=(i:Int):=by omega
  have w2:=UiF _ hd
  have w3:=UiA _ hd
  have w4:((9:Int) - ((dec (l.getD i 0)).length:Int))=((8 + 1 - (dec (l.getD i 0)).length:Nat):Int):=by omega
  have w5:Jlc (bs [48]) ((8 + 1 - (dec (l.getD i 0)).length:Nat):Int)=bs (List.replicate (8 + 1 - (dec (l.getD i 0)).length) 48):=by
   rw [Jld,Int.toNat_natCast,UnU]
  have w6:(⟨#[48]⟩:ByteArray).size=1:=rfl
  simp only [UaF,Ubj,UbD]
  simp (disch:=(first | omega | (simp only [JlD]; omega))) only [↓JlG,JlE,JlF,w1,w2,w3,w4,w5,w6,ih]
theorem UmR (n a:Nat) (hl:(toL 1000000000 a).length<2 ^ 30) (hn:(toL 1000000000 a).length<n) (k0:ByteArray→Option R):Uui n (NN a) k0=k0 (bs (dec a)):=by
 unfold Uui NN
 by_cases h0:a=0
 · subst h0
   rw [Uai,Uan]
   rfl
 obtain ⟨t1,t2,t3,t4⟩:=UfO hB2 h0
 have hlt:=UaJ hB2 a
 have hval:=Uar hB2 a
 generalize toL 1000000000 a=l at *
 obtain ⟨m,rfl⟩:∃ m,n=m + 1:=⟨n - 1,by omega⟩
 have hd:=Uad hB2 hlt (l.length - 1)
 have hv:=Uac 1000000000 l (l.length - 1)
 rw [show l.length - 1 + 1=l.length from by omega,List.drop_length,show val 1000000000 []=0 from rfl,Nat.mul_zero,Nat.add_zero] at hv
 have h9:=Uyd hd
 have ih:=Uge (m + 1) l hlt hl k0 (l.length - 1) m (by omega) (by omega) (by omega) (by rw [hv]; omega)
 rw [hv,hval] at ih
 have w0:((l.length:Int) == 0)=false:=by simp; intro e; rw [e] at t1; simp at t1
 have w1:((l.length:Int) - 1)=((l.length - 1:Nat):Int):=by omega
 have w2:=UiF _ hd
 have w3:=UiA _ hd
 simp only [Umb,Udf,Ue4,UbD]
 simp (disch:=(first | omega | (simp only [JlD]; omega))) only [↓JlG,JlE,JlF,w0,w1,w2,w3,List.nil_append,ih]
def Uzo (a b:Nat):Prop:=a≠0∧(10 ^ 400≤a / Nat.gcd a b∨10 ^ 400≤b / Nat.gcd a b)
instance (a b:Nat):Decidable (Uzo a b):=by unfold Uzo; infer_instance
def zs (neg:Bool) (a:Nat):Int:=if neg then -(a:Int) else a
theorem Ubf (neg:Bool) (a:Nat):(zs neg a).natAbs=a:=by cases neg <;> simp [zs]
theorem UbM (z:Int):zs (decide (z<0)) z.natAbs=z:=by
 unfold zs; split <;> rename_i h <;> simp at h <;> omega
theorem Ur2 (neg:Bool):zs neg 0=0:=by cases neg <;> rfl
theorem UgN (neg:Bool) {a:Nat} (h:a≠0):Lib.itoa (zs neg a)=(if neg then [45] else [])++dec a:=by
 unfold Lib.itoa
 cases neg
 · rw [if_neg (by simp [zs])]; simp [zs]
 · rw [if_pos (by simp [zs]; omega)]; simp [zs]
theorem UbZ (a:Nat):Lib.itoa (a:Int)=dec a:=by unfold Lib.itoa; rw [if_neg (by omega),Int.toNat_natCast]
theorem Uo1 (neg:Bool) (a b:Nat) (hb:b≠0):(mkRat (zs neg a) b).num=zs neg (a / Nat.gcd b a):=by
 rw [Rat.num_mkRat,if_neg hb,Ubf]
 cases neg
 · simp [zs]
 · simp only [zs,if_true]
   rw [Int.neg_ediv_of_dvd (Int.natCast_dvd_natCast.2 (Nat.gcd_dvd_right b a))]
   rfl
theorem Uo0 (neg:Bool) (a b:Nat) (hb:b≠0):(mkRat (zs neg a) b).den=b / Nat.gcd b a:=by
 rw [Rat.den_mkRat,if_neg hb,Ubf]
def Uaf (q:Rat):List UInt8:=Lib.itoa q.num++if q.den=1 then [] else 47::dec q.den
def fits (q:Rat):Prop:=q.num.natAbs<10 ^ 400∧q.den<10 ^ 400
instance (q:Rat):Decidable (fits q):=by unfold fits; infer_instance
theorem UmC:Uaf 0=[48]:=by
 unfold Uaf
 rw [show (0:Rat).num=((0:Nat):Int) from rfl,UbZ,Uan]; rfl
theorem Upv:NN 0=[]:=by unfold NN; rw [Uai]; rfl
theorem Un3 (a:Nat):(NN a).length=(toL 1000000000 a).length:=by unfold NN; rw [Jjc]
theorem Uen {a:Nat} (h0:a≠0) (h:a<1000000000):NN a=[PV.v (.int .u32 (a:Int))]:=by unfold NN; rw [UcY hB2 h0 h,Jlm]
theorem Usl:NN 1=[PV.v (.int .u32 1)]:=Uen (by omega) (by omega)
theorem Uz8 {a k:Nat} (h:a<1000000000 ^ k):(toL 1000000000 a).length≤k:=(Uah hB2 a k).2 h
theorem Ub {a b k:Nat} (h:(toL 1000000000 b).length≤k) (hab:a≤b):(toL 1000000000 a).length≤k:=(Uah hB2 a k).2 (Nat.lt_of_le_of_lt hab ((Uah hB2 b k).1 h))
theorem Umx (n:Nat) (neg t:Bool) (a b g:Nat) (hg:g≠0) (ht:t=false→g=1) (ha:(toL 1000000000 a).length<2 ^ 18) (hb:(toL 1000000000 b).length<2 ^ 18) (hgl:(toL 1000000000 g).length<2 ^ 18) (hn:2 ^ 20<n) (k0:Bool→List PV→List PV→Option R) :
 UdY n neg (NN a) (NN b) (NN g) t k0=k0 neg (NN (a / g)) (NN (b / g)):=by
 unfold UdY
 cases t
 · rw [ht rfl,Nat.div_one,Nat.div_one]; rfl
 · have d1:=fun k0=>Ukd (R:=R) n a g (by omega) (by omega) (by omega) (by omega) k0
   have d2:=fun k0=>Ukd (R:=R) n b g (by omega) (by omega) (by omega) (by omega) k0
   simp only [cond_true,d1,d2]
theorem Ujl (n:Nat) (neg:Bool) (a b:Nat) (hb0:b≠0) (ha:(toL 1000000000 a).length<2 ^ 18) (hb:(toL 1000000000 b).length<2 ^ 18) (hn:2 ^ 20<n) (hbn:b<n) (k0:ByteArray→Int→Option R) :
 p79 n neg (NN a) (NN b) k0=if fits (mkRat (zs neg a) b) then k0 (bs (Uaf (mkRat (zs neg a) b))) 0 else k0 (bs []) 5:=by
 unfold p79
 by_cases h0:a=0
 · subst h0
   rw [Ur2,Rat.zero_mkRat]
   rw [if_pos (by decide +kernel),Upv,UmC]
   rfl
 have hg:=fun k0=>UoW (R:=R) n a b hbn (by omega) (by omega) (by omega) (by omega) k0
 have hg0:Nat.gcd b a≠0:=fun e=>h0 (Nat.gcd_eq_zero_iff.1 e).2
 have hgl:(toL 1000000000 (Nat.gcd b a)).length≤(toL 1000000000 a).length:=Ub (Nat.le_refl _) (Nat.le_of_dvd (by omega) (Nat.gcd_dvd_right b a))
 obtain ⟨g,hge⟩:∃ g,Nat.gcd b a=g:=⟨_,rfl⟩
 have hal:¬ (toL 1000000000 a).length=0:=fun e=>h0 ((Ubt hB2).1 (List.eq_nil_of_length_eq_zero e))
 have hda:g ∣ a:=by rw [←hge]; exact Nat.gcd_dvd_right b a
 have hdb:g ∣ b:=by rw [←hge]; exact Nat.gcd_dvd_left b a
 have hag:a / g≠0:=by
  have:=Nat.div_mul_cancel hda
  intro e; rw [e] at this; omega
 have hbg:b / g≠0:=by
  have:=Nat.div_mul_cancel hdb
  intro e; rw [e] at this; omega
 have hla:(toL 1000000000 (a / g)).length<2 ^ 18:=Nat.lt_of_le_of_lt (Ub (Nat.le_refl _) (Nat.div_le_self a g)) ha
 have hlb:(toL 1000000000 (b / g)).length<2 ^ 18:=Nat.lt_of_le_of_lt (Ub (Nat.le_refl _) (Nat.div_le_self b g)) hb
 have e0:(((toL 1000000000 a).length:Int) == 0)=false:=by rw [JkZ]; simpa using hal
 have key:∀ t:Bool,(t=false→g=1)→UdY n neg (NN a) (NN b) (NN g) t (fun (y5:Bool) (y6:List PV) (y7:List PV)=>Uf5 n y5 y6 y7 (fun (y8:ByteArray) (y9:Int)=>k0 y8 y9))=if fits (mkRat (zs neg a) b) then k0 (bs (Uaf (mkRat (zs neg a) b))) 0 else k0 (bs []) 5:=by
  intro t ht
  rw [Umx n neg t a b g (by omega) ht ha hb (by rw [←hge]; omega) hn]
  unfold Uf5
  have t1:=fun k0=>UmR (R:=R) n (a / g) (by omega) (by omega) k0
  have t2:=fun k0=>UmR (R:=R) n (b / g) (by omega) (by omega) k0
  simp only [t1,t2]
  have hf:fits (mkRat (zs neg a) b)↔((dec (a / g)).length≤400∧(dec (b / g)).length≤400):=by
   unfold fits
   rw [Uo1 neg a b hb0,Uo0 neg a b hb0,Ubf,hge,Ua8 _ _ (by omega),Ua8 _ _ (by omega)]
  have hr:Uaf (mkRat (zs neg a) b)=(if neg then [45] else [])++dec (a / g)++if b / g=1 then [] else 47::dec (b / g):=by
   unfold Uaf
   rw [Uo1 neg a b hb0,Uo0 neg a b hb0,hge,UgN neg hag]
  by_cases c1:400<(dec (a / g)).length
  · rw [if_neg (by rw [hf]; omega)]
    simp (disch:=(first | omega | (simp only [JlD]; omega))) only [↓JlG,JlE,JlF]
  by_cases c2:400<(dec (b / g)).length
  · rw [if_neg (by rw [hf]; omega)]
    simp (disch:=(first | omega | (simp only [JlD]; omega))) only [↓JlG,JlE,JlF]
  rw [if_pos (by rw [hf]; omega),hr]
  have e1:(dec (b / g) == [49])=decide (b / g=1):=by
   rw [Bool.eq_iff_iff,beq_iff_eq,decide_eq_true_iff]
   constructor
   · intro e; exact UbC (e.trans (Uaz (by omega:1<10)).symm)
   · intro e; rw [e,Uaz (by omega)]; rfl
  simp only [Ug2,Ufm,Ufn]
  cases neg
  · by_cases c3:b / g=1
    · have e2:(dec (b / g) == [49])=true:=by rw [e1]; simpa using c3
      rw [if_pos c3]
      simp (disch:=(first | omega | (simp only [JlD]; omega))) only [↓JlG,JlE,JlF,e2]
      simp
    · have e2:(dec (b / g) == [49])=false:=by rw [e1]; simpa using c3
      rw [if_neg c3]
      simp (disch:=(first | omega | (simp only [JlD]; omega))) only [↓JlG,JlE,JlF,e2]
      simp
  · by_cases c3:b / g=1
    · have e2:(dec (b / g) == [49])=true:=by rw [e1]; simpa using c3
      rw [if_pos c3]
      simp (disch:=(first | omega | (simp only [JlD]; omega))) only [↓JlG,JlE,JlF,e2]
      simp
    · have e2:(dec (b / g) == [49])=false:=by rw [e1]; simpa using c3
      rw [if_neg c3]
      simp (disch:=(first | omega | (simp only [JlD]; omega))) only [↓JlG,JlE,JlF,e2]
      simp
 simp only [hg,hge,Un3]
 by_cases c:1<(toL 1000000000 g).length
 · have:1000000000 ^ 1≤g:=Ujn hB2 c
   simp (disch:=(first | omega | (simp only [JlD]; omega))) only [↓JlG,JlE,JlF,e0,key true (fun h=>by cases h)]
 · have hg1:g<1000000000:=by
    have:=(Uah hB2 g 1).1 (by omega)
    rwa [Nat.pow_one] at this
   have hgl1:(toL 1000000000 g).length=1:=by rw [UcY hB2 (by omega) hg1]; rfl
   have hgi:∀ (K:Int→Option R),Ji9 .u32 ((NN g).getD (0:Int).toNat (PV.v (Value.bool false))) K=K (g:Int):=fun K=>by rw [Uen (by omega) hg1]; rfl
   have e3:decide ((g:Int)>1)=false→g=1:=by intro h; simp at h; omega
   simp (disch:=(first | omega | (simp only [JlD]; omega))) only [↓JlG,JlE,JlF,e0,hgi,hgl1]
   exact key _ e3
def Ugk (s:List UInt8):Bool:=!s.isEmpty&&decide (s.length≤400)&&!(s.head? == some 48&&decide (1<s.length))&&s.all isD
theorem UfT (c:UInt8):([48,49,50,51,52,53,54,55,56,57]:List UInt8).contains c=isD c:=by
 rw [Bool.eq_iff_iff,UaG]
 simp only [List.contains_eq_mem,List.mem_cons,List.not_mem_nil,or_false,decide_eq_true_eq,←UInt8.toNat_inj]
 have e:∀ k:Nat,k<256→(UInt8.ofNat k).toNat=k:=fun k h=>by rw [UInt8.toNat_ofNat']; omega
 show (c.toNat=48∨c.toNat=49∨c.toNat=50∨c.toNat=51∨c.toNat=52∨c.toNat=53∨c.toNat=54∨c.toNat=55∨c.toNat=56∨c.toNat=57)↔_
 omega
theorem Ub1 {α:Type} (p:α→Bool) (l:List α) {x:α} (h:x∈l):p x=true∨x∈l.dropWhile p:=by
 induction l with
 | nil=>cases h
 | cons a r ih =>
  rw [List.dropWhile_cons]
  by_cases ha:p a=true
  · rw [if_pos ha]
    rcases List.mem_cons.1 h with rfl | h
    · exact Or.inl ha
    · exact ih h
  · rw [if_neg ha]; exact Or.inr h
theorem UeD {α:Type} (p:α→Bool) (l:List α):l.dropWhile p=[]↔∀ x∈l,p x=true:=by
 constructor
 · intro h x hx
   rcases Ub1 p l hx with h1 | h1
   · exact h1
   · rw [h] at h1; cases h1
 · intro h
   induction l with
   | nil=>rfl
   | cons a r ih=>rw [List.dropWhile_cons,if_pos (h a (List.mem_cons_self ..)),ih fun x hx=>h x (List.mem_cons_of_mem _ hx)]
theorem Un0 (s:List UInt8):((Lib.trimS s [48,49,50,51,52,53,54,55,56,57]) == [])=s.all isD:=by
 have hp:(([48,49,50,51,52,53,54,55,56,57]:List UInt8).contains ·)=isD:=funext UfT
 unfold Lib.trimS Lib.trimLeftS Lib.trimRightS
 rw [hp,Bool.eq_iff_iff,beq_iff_eq,UeD,List.all_eq_true]
 constructor
 · intro h c hc
   rcases Ub1 isD s.reverse (List.mem_reverse.2 hc) with h1 | h1
   · exact h1
   · exact h c (List.mem_reverse.2 h1)
 · intro h c hc
   have:c∈s.reverse:=(List.dropWhile_sublist _).subset (List.mem_reverse.1 hc)
   exact h c (List.mem_reverse.1 this)
theorem UnZ (s:List UInt8):eqS (JkK (bs s) (bs [48,49,50,51,52,53,54,55,56,57])) (bs [])=s.all isD:=by
 rw [←Un0]; rfl
theorem UmT (s:List UInt8) (h:s.length≤400):Jji (bs s) (bs [48,49,50,51,52,53,54,55,56,57])=true:=by
 unfold Jji
 rw [Jd4,decide_eq_true (by omega)]; rfl
theorem Uql (c:UInt8) (r:List UInt8):Jc6 (bs (c::r)) 0=(c.toNat:Int):=rfl
theorem Uvn (c d:UInt8):(((c.toNat:Nat):Int) == ((d.toNat:Nat):Int))=(c == d):=JlC
theorem Udy (n:Nat) (s:List UInt8) (hs:s.length<2 ^ 40) (k0:Bool→Option R):p99 n (bs s) k0=k0 (Ugk s):=by
 unfold p99
 cases s with
 | nil=>rfl
 | cons c r =>
  have e0:eqS (bs (c::r)) (⟨#[]⟩:ByteArray)=false:=rfl
  rw [List.length_cons] at hs
  by_cases h4:400<r.length + 1
  · have e1:Ugk (c::r)=false:=by
     unfold Ugk
     rw [List.length_cons,decide_eq_false (by omega)]; simp
    have e0':((c::r) == ([]:List UInt8))=false:=rfl
    simp (disch:=(first | omega | (simp only [JlD]; omega))) only [↓JlG,JlE,JlF,e0,e1,List.length_cons,e0']
  have e0':((c::r) == ([]:List UInt8))=false:=rfl
  have t1:=UmT (c::r) (by rw [List.length_cons]; omega)
  have t2:=UnZ (c::r)
  by_cases hc:c=48
  · subst hc
    have e2:(Jc6 (bs (48::r)) 0 == 48)=true:=rfl
    by_cases h5:1<r.length + 1
    · have e1:Ugk (48::r)=false:=by
       unfold Ugk
       rw [List.length_cons,decide_eq_true h5]; simp
      simp (disch:=(first | omega | (simp only [JlD]; omega))) only [↓JlG,JlE,JlF,e0,e1,e2,List.length_cons,e0']
    · have e1:Ugk (48::r)=(48::r).all isD:=by
       unfold Ugk
       rw [List.length_cons,decide_eq_false h5,decide_eq_true (by omega)]; simp
      simp (disch:=(first | omega | (simp only [JlD]; omega))) only [↓JlG,JlE,JlF,e0,e1,e2,List.length_cons,e0',t1,t2]
  · have e2:(Jc6 (bs (c::r)) 0 == 48)=false:=by
     rw [Uql]
     have:=Uvn c 48
     rw [show ((48:UInt8).toNat:Int)=48 from rfl] at this
     rw [this]; simpa using hc
    have e1:Ugk (c::r)=(c::r).all isD:=by
     unfold Ugk
     rw [List.length_cons,decide_eq_true (by omega:r.length + 1≤400)]
     simp [hc]
    simp (disch:=(first | omega | (simp only [JlD]; omega))) only [↓JlG,JlE,JlF,e0,e1,e2,List.length_cons,e0',t1,t2]
def Ubg (s:List UInt8):Bool × List UInt8:=match s with
 | 45::r=>(true,r)
 | s=>(false,s)
theorem UhL (s:List UInt8):(Ubg s).2.length≤s.length:=by
 unfold Ubg; split <;> simp
theorem UbT (c:UInt8) (r:List UInt8):Ubg (c::r)=if c=45 then (true,r) else (false,c::r):=by
 unfold Ubg
 by_cases h:c=45
 · subst h; rfl
 · rw [if_neg h]
   split
   · rename_i e; injection e with e1 _; exact absurd e1 h
   · rfl
theorem UfU (n:Nat) (s:List UInt8) (hs:s.length<2 ^ 40) (k0:ByteArray→Bool→Option R):UvG n (bs s) ⟨#[45]⟩ k0=k0 (bs (Ubg s).2) (Ubg s).1:=by
 unfold UvG Uw5 Uw6
 cases s with
 | nil=>rfl
 | cons c r =>
  rw [List.length_cons] at hs
  have hz:((⟨#[45]⟩:ByteArray)).size=1:=rfl
  have e1:List.take (0 + 1) (c::r)=[c]:=rfl
  have e3:List.drop (0 + 1) (c::List.take r.length r)=r:=by rw [List.take_length]; rfl
  have e2:([c] == [45])=decide (c=45):=by
   rw [Bool.eq_iff_iff]; simp
  rw [UbT]
  by_cases hc:c=45
  · rw [if_pos hc]
    simp (disch:=(first | omega | (simp only [JlD]; omega))) only [↓JlG,JlE,JlF,hz,List.length_cons,e1,e2,List.length_nil,List.take_succ_cons,e3]
  · rw [if_neg hc]
    simp (disch:=(first | omega | (simp only [JlD]; omega))) only [↓JlG,JlE,JlF,hz,List.length_cons,e1,e2,List.length_nil,List.take_succ_cons,e3]
def UoZ (s:List UInt8):Bool:=Ugk (Ubg s).2&&!((Ubg s).1&&(Ubg s).2 == [48])
theorem Ucm (n:Nat) (s:List UInt8) (hs:s.length<2 ^ 40) (k0:Bool→ByteArray→Bool→Option R):p97 n (bs s) k0=k0 (Ubg s).1 (bs (Ubg s).2) (UoZ s):=by
 have hl:=UhL s
 have h1:=fun k0=>UfU (R:=R) n s hs k0
 have h2:=fun k0=>Udy (R:=R) n (Ubg s).2 (by omega) k0
 unfold p97
 simp only [h1,h2,UoZ]
 generalize (Ubg s).1=neg
 generalize (Ubg s).2=r
 cases Ugk r
 · rfl
 · cases neg
   · rfl
   · rfl
theorem UhP {a:Nat} (h:a<10 ^ 400):Ugk (dec a)=true:=by
 have h1:=(Ua8 a 400 (by omega)).2 h
 have h2:=UhN a
 have h3:=UhM a
 unfold Ugk
 rw [decide_eq_true h1]
 have e1:(dec a).isEmpty=false:=by simpa using h2
 have e2:(dec a).all isD=true:=List.all_eq_true.2 (Ua7 a)
 have e3:((dec a).head? == some 48&&decide (1<(dec a).length))=false:=by
  rcases h3 with h3 | h3
  · have:((dec a).head? == some 48)=false:=by simpa using h3
    rw [this]; rfl
  · rw [h3]; simp
 rw [e1,e2,e3]; rfl
theorem UhQ {s:List UInt8} (h:Ugk s=true):ofD s<10 ^ 400∧s=dec (ofD s):=by
 unfold Ugk at h
 simp only [Bool.and_eq_true,Bool.not_eq_true',List.isEmpty_eq_false_iff,decide_eq_true_eq] at h
 obtain ⟨⟨⟨h1,h2⟩,h3⟩,h4⟩:=h
 have h4':∀ c∈s,isD c=true:=List.all_eq_true.1 h4
 have e:dec (ofD s)=s:=Uka h4' h1 (by
  by_cases h5:s.head? = some 48
  · right
    rw [h5] at h3
    simp at h3
    have:=List.length_pos_iff.2 h1
    omega
  · exact Or.inl h5)
 refine ⟨(Ua8 (ofD s) 400 (by omega)).1 ?_,e.symm⟩
 rw [e]; exact h2
theorem Unj (a:Nat):Ubg (dec a)=(false,dec a):=by
 have h:=Ua7 a
 cases hd:dec a with
 | nil=>rfl
 | cons c r =>
  rw [UbT,if_neg]
  intro e
  rw [hd] at h
  have:=h c (List.mem_cons_self ..)
  rw [e] at this
  exact absurd this (by decide)
theorem Uau (z:Int):Ubg (Lib.itoa z)=(decide (z<0),dec z.natAbs):=by
 unfold Lib.itoa
 by_cases h:z<0
 · rw [if_pos h,decide_eq_true h]; rfl
 · rw [if_neg h,decide_eq_false h]
   have:z.toNat=z.natAbs:=by omega
   rw [this]; exact Unj _
theorem UlY {z:Int} (h:z.natAbs<10 ^ 400):UoZ (Lib.itoa z)=true:=by
 unfold UoZ
 rw [Uau]
 simp only [UhP h,Bool.true_and]
 by_cases hz:z<0
 · have:(dec z.natAbs == [48])=false:=by
    simp only [beq_eq_false_iff_ne,ne_eq]
    intro e
    have:=UbC (e.trans Uan.symm)
    omega
   rw [this]; simp
 · simp [hz]
theorem Udx (s:List UInt8):s=(if (Ubg s).1 then [45] else [])++(Ubg s).2:=by
 cases s with
 | nil=>rfl
 | cons c r =>
  rw [UbT]
  by_cases h:c=45
  · rw [if_pos h,h]; rfl
  · rw [if_neg h]; rfl
theorem UiC {s:List UInt8} (h:UoZ s=true):∃ z:Int,z.natAbs<10 ^ 400∧s=Lib.itoa z:=by
 unfold UoZ at h
 simp only [Bool.and_eq_true,Bool.not_eq_true'] at h
 obtain ⟨h1,h2⟩:=h
 obtain ⟨h3,h4⟩:=UhQ h1
 have h5:=Udx s
 refine ⟨zs (Ubg s).1 (ofD (Ubg s).2),by rw [Ubf]; exact h3,?_⟩
 by_cases h0:ofD (Ubg s).2=0
 · rw [h0] at h4
   have e:(Ubg s).1=false:=by
    rw [h4,Uan] at h2
    simpa using h2
   rw [h0,e]
   rw [e,h4] at h5
   rw [h5]
   exact (UbZ 0).symm
 · rw [UgN _ h0,←h4]; exact h5
theorem Uav {a:Nat} (h:a<10 ^ 400):(toL 1000000000 a).length≤45 :=
 Uz8 (Nat.lt_of_lt_of_le h (by decide +kernel))
theorem Uck {a:Nat} (h:a<10 ^ 400):(dec a).length≤400:=(Ua8 a 400 (by omega)).2 h
end Go.Proofs.YtmgfmlhdnadglaaGreatDoor
set_option linter.unusedVariables false
set_option maxRecDepth 100000
namespace Go.Proofs.YtmgfmlhdnadglaaGreatDoor
open Go Th Go.Proofs
noncomputable section
variable {R:Type}
end
end Go.Proofs.YtmgfmlhdnadglaaGreatDoor
set_option linter.unusedVariables false
set_option linter.unusedSimpArgs false
namespace Go.Proofs.YtmgfmlhdnadglaaGreatDoor
open Go Th Go.Proofs
variable {R:Type}
theorem Uam {α:Type} (a b:α):(bif true then a else b)=a:=(Eq.refl _).trans (Eq.refl _)
theorem Uak {α:Type} (a b:α):(bif false then a else b)=b:=(Eq.refl _).trans (Eq.refl _)
theorem Usc:(!true)=false:=(Eq.refl _).trans (Eq.refl _)
theorem Uq9:(!false)=true:=(Eq.refl _).trans (Eq.refl _)
def sl (l:List (List UInt8)):List PV:=l.map fun s=>PV.v (.string (bs s))
theorem Uag (l:List (List UInt8)):(sl l).length=l.length:=by unfold sl; rw [List.length_map]
end Go.Proofs.YtmgfmlhdnadglaaGreatDoor
set_option linter.unusedVariables false
set_option maxRecDepth 100000
namespace Go.Proofs.YtmgfmlhdnadglaaGreatDoor
open Go Th Go.Proofs
noncomputable section
variable {R:Type}
def UpL:Ann:={ loops:=[],cuts:=[],frz:=[],rm:=[.id,.id,.id] }
abbrev Utb (n:Nat):Env:=eC 95 (Uwe n) eN
theorem UkS (n:Nat):EnvOK Tryz.prog GI (Utb n):=.cons (.nil) (Uzf n)
def p54 (n:Nat) (x1 x2:ByteArray) (k0:Int→Int→Bool→O R):O R :=
 p95 n x1 (fun y3 y4=>p95 n x2 (fun y5 y6=>bif y4 then (k0 y3 y5 (bif true then y6 else false)) else (k0 y3 y5 false)))
abbrev UAm (n:Nat):Orc R:=oN
abbrev UzT (n:Nat):Orc R:=oN
abbrev K54 (R:Type) (n:Nat):=JcH (R:=R) Tryz.prog (Utb n) UpL n (27,[]) (UAm n) (UzT n)
theorem UBv (n:Nat):Je6 (K54 R n) (JaJ UpL (Jlk Tryz.f54)):=pO pN (by kernel_rfl)
abbrev t54:Sl (List SV):=(cS (cS .n))
abbrev f54 (n:Nat) (K:List SV→O R):t54.T (O R):=fun x1 x2=>p54 n x1 x2 (fun y1 y2 y3=>K [vI y1,vI y2,vB y3])
abbrev Uvw (n:Nat):FS:=fT [false,false] t54 (f54 n)
theorem UwX (n:Nat):FSound Tryz.prog GI 54 (Uvw n):=gd UpL n (UkS n) Tryz.func54 (.cons (UkS n) t54 (f54 n) (fun K _ _=>(Jkp (c:=Jlk Tryz.f54) (by kernel_rfl) (UBv n) K).trans (by kernel_rfl)) .nil) (by kernel_rfl)
end
end Go.Proofs.YtmgfmlhdnadglaaGreatDoor
set_option linter.unusedVariables false
set_option linter.unusedSimpArgs false
namespace Go.Proofs.YtmgfmlhdnadglaaGreatDoor
open Go Th Go.Proofs
variable {R:Type}
theorem Ud1 (n:Nat) (neg:Bool) (t:List UInt8) (ht:t.length≤9):∀ (d m i acc:Nat),d + i=t.length→d<m→acc<10 ^ i →
 (∀ c∈t.drop i,isD c=true)→∀ (k0:Int→Bool→Bool→Int→Option R) (k1:Bool→Int→Option R),UaT n m neg (bs t) acc t.length i k0 k1=k1 neg ((acc * 10 ^ (t.length - i) + ofD (t.drop i):Nat):Int)
 | 0,m + 1,i,acc,hd,hm,ha,hs,k0,k1=>by
  rw [List.drop_eq_nil_of_le (by omega),show t.length - i=0 from by omega,Nat.pow_zero,Nat.mul_one,show ofD []=0 from rfl,Nat.add_zero]
  simp only [UaT,UcH]
  simp (disch:=(first | omega | (simp only [JlD]; omega))) only [↓JlG,JlE]
  rfl
 | d + 1,m + 1,i,acc,hd,hm,ha,hs,k0,k1=>by
  have hi:i<t.length:=by omega
  have hdr:t.drop i=t[i]::t.drop (i + 1):=List.drop_eq_getElem_cons hi
  rw [hdr] at hs ⊢
  have hc:=UaG.1 (hs _ (List.mem_cons_self ..))
  have hp:(10:Nat) ^ i≤10 ^ 9:=Nat.pow_le_pow_right (by omega) (by omega)
  have ih:=Ud1 n neg t ht d m (i + 1) (10 * acc + (t[i].toNat - 48)) (by omega) (by omega) (by rw [Nat.pow_succ]; omega) (fun c h=>hs c (List.mem_cons_of_mem _ h)) k0 k1
  have e1:(i:Int) + 1=((i + 1:Nat):Int):=by omega
  have e2:Jc6 (bs t) (i:Int)=(t[i].toNat:Int):=JjY hi
  have e4:(t[i].toNat:Int) - 48=((t[i].toNat - 48:Nat):Int):=by omega
  have e5:(10:Int) * (acc:Int) + ((t[i].toNat - 48:Nat):Int)=((10 * acc + (t[i].toNat - 48):Nat):Int):=by omega
  have hdl:(t.drop (i + 1)).length=t.length - (i + 1):=List.length_drop
  have e6:acc * 10 ^ (t.length - i) + ofD (t[i]::t.drop (i + 1))=(10 * acc + (t[i].toNat - 48)) * 10 ^ (t.length - (i + 1)) + ofD (t.drop (i + 1)):=by
   have:ofD (t[i]::t.drop (i + 1))=(t[i].toNat - 48) * 10 ^ (t.length - (i + 1)) + ofD (t.drop (i + 1)):=by
    unfold ofD dg; rw [List.map_cons,UmX,List.length_map,hdl]
   rw [this,show t.length - i=(t.length - (i + 1)) + 1 from by omega,Nat.pow_succ]
   grind
  rw [e6,←ih]
  simp only [UaT,UcH]
  simp (disch:=(first | omega | (simp only [JlD]; omega))) only [↓JlG,JlE,e1,e2,e4,e5,wu8]
theorem Uby (n:Nat) (neg:Bool) (t:List UInt8) (ht:t.length≤9):∀ (d m i acc:Nat),d + i=t.length→d<m→acc<10 ^ i →
 ¬ (∀ c∈t.drop i,isD c=true)→∃ y:Int,∀ (k0:Int→Bool→Bool→Int→Option R) (k1:Bool→Int→Option R),UaT n m neg (bs t) acc t.length i k0 k1=k0 0 false neg y
 | 0,m + 1,i,acc,hd,hm,ha,hs=>by
  rw [List.drop_eq_nil_of_le (by omega)] at hs
  exact absurd (fun c h=>by cases h) hs
 | d + 1,m + 1,i,acc,hd,hm,ha,hs=>by
  have hi:i<t.length:=by omega
  have hdr:t.drop i=t[i]::t.drop (i + 1):=List.drop_eq_getElem_cons hi
  rw [hdr] at hs
  have hp:(10:Nat) ^ i≤10 ^ 9:=Nat.pow_le_pow_right (by omega) (by omega)
  have e1:(i:Int) + 1=((i + 1:Nat):Int):=by omega
  have e2:Jc6 (bs t) (i:Int)=(t[i].toNat:Int):=JjY hi
  by_cases h:isD t[i]=true
  · have hc:=UaG.1 h
    have hs':¬ ∀ c∈t.drop (i + 1),isD c=true:=fun q=>hs (by
     intro c hc
     rcases List.mem_cons.1 hc with rfl | hc
     · exact h
     · exact q c hc)
    obtain ⟨y,ih⟩:=Uby n neg t ht d m (i + 1) (10 * acc + (t[i].toNat - 48)) (by omega) (by omega) (by rw [Nat.pow_succ]; omega) hs'
    refine ⟨y,fun k0 k1=>?_⟩
    have e4:(t[i].toNat:Int) - 48=((t[i].toNat - 48:Nat):Int):=by omega
    have e5:(10:Int) * (acc:Int) + ((t[i].toNat - 48:Nat):Int)=((10 * acc + (t[i].toNat - 48):Nat):Int):=by omega
    rw [←ih k0 k1]
    simp only [UaT,UcH]
    simp (disch:=(first | omega | (simp only [JlD]; omega))) only [↓JlG,JlE,e1,e2,e4,e5,wu8]
  · have hc:¬ (48≤t[i].toNat∧t[i].toNat≤57):=fun q=>h (UaG.2 q)
    refine ⟨acc,fun k0 k1=>?_⟩
    simp only [UaT,UcH]
    by_cases h1:t[i].toNat<48
    · simp (disch:=(first | omega | (simp only [JlD]; omega))) only [↓JlG,JlE,e1,e2]
    · simp (disch:=(first | omega | (simp only [JlD]; omega))) only [↓JlG,JlE,e1,e2]
theorem Umv (n:Nat) (hn:20≤n) (s t:List UInt8) (neg:Bool) (hsl:s.length<2 ^ 40) (h0:t≠[]) (ht:t.length≤9) (hd:∀ c∈t,isD c=true) (hz:t.head? = some 48→s.length≤1) (k0:Int→Bool→Option R) :
 Uce n (bs s) neg (bs t) k0=k0 (zs neg (ofD t)) true:=by
 have hlt:=Ul2 hd
 have hp:(10:Nat) ^ t.length≤10 ^ 9:=Nat.pow_le_pow_right (by omega) ht
 have hlp:=fun (k0:Int→Bool→Bool→Int→Option R) (k1:Bool→Int→Option R)=>Ud1 (R:=R) n neg t ht t.length n 0 0 (by omega) (by omega) (by simp) (by rw [List.drop_zero]; exact hd) k0 k1
 rw [Nat.zero_mul,List.drop_zero,Nat.zero_add,show ((0:Nat):Int)=0 from rfl] at hlp
 cases t with
 | nil=>exact absurd rfl h0
 | cons c r =>
  have e0:((c::r) == ([]:List UInt8))=false:=rfl
  have e1:Jc6 (bs (c::r)) 0=(c.toNat:Int):=rfl
  have hb:=Uvn c 48
  rw [show ((48:UInt8).toNat:Int)=48 from rfl] at hb
  rw [List.length_cons] at ht
  simp only [List.length_cons] at hlp
  generalize hv:ofD (c::r)=v at *
  by_cases hc:c=48
  · have e2:(c == 48)=true:=by simpa using hc
    have hs1:=hz (by rw [hc]; rfl)
    simp only [Uce,UdZ,UcG,UiW]
    cases neg
    · simp (disch:=(first | omega | (simp only [JlD]; omega))) only [↓JlG,JlE,List.length_cons,e0,e1,hb,e2,hlp]
      rfl
    · simp (disch:=(first | omega | (simp only [JlD]; omega))) only [↓JlG,JlE,List.length_cons,e0,e1,hb,e2,hlp,Int.zero_sub]
      rfl
  · have e2:(c == 48)=false:=by simpa using hc
    simp only [Uce,UdZ,UcG,UiW]
    cases neg
    · simp (disch:=(first | omega | (simp only [JlD]; omega))) only [↓JlG,JlE,List.length_cons,e0,e1,hb,e2,hlp]
      rfl
    · simp (disch:=(first | omega | (simp only [JlD]; omega))) only [↓JlG,JlE,List.length_cons,e0,e1,hb,e2,hlp,Int.zero_sub]
      rfl
theorem Ujk (n:Nat) (hn:20≤n) (s t:List UInt8) (neg:Bool) (hsl:s.length<2 ^ 40) (htl:t.length<2 ^ 40) (h:¬ (t≠[]∧t.length≤9∧(∀ c∈t,isD c=true)∧(t.head? = some 48→s.length≤1))) :
 ∀ k0:Int→Bool→Option R,Uce n (bs s) neg (bs t) k0=k0 0 false:=by
 intro k0
 cases t with
 | nil=>rfl
 | cons c r =>
  have e0:((c::r) == ([]:List UInt8))=false:=rfl
  have e1:Jc6 (bs (c::r)) 0=(c.toNat:Int):=rfl
  have hb:=Uvn c 48
  rw [show ((48:UInt8).toNat:Int)=48 from rfl] at hb
  rw [List.length_cons] at htl
  simp only [Uce,UdZ,UcG,UiW]
  by_cases h9:9<r.length + 1
  · simp (disch:=(first | omega | (simp only [JlD]; omega))) only [↓JlG,JlE,List.length_cons,e0]
  · by_cases hd:∀ x∈c::r,isD x=true
    · have hs:c=48∧1<s.length:=by
       by_cases hc:c=48
       · refine ⟨hc,?_⟩
         apply Nat.lt_of_not_le
         intro q
         exact h ⟨by simp,by rw [List.length_cons]; omega,hd,fun _=>q⟩
       · exact absurd ⟨by simp,by rw [List.length_cons]; omega,hd,fun q=>absurd (by simpa using q) hc⟩ h
      have e2:(c == 48)=true:=by simpa using hs.1
      have hs1:=hs.2
      simp (disch:=(first | omega | (simp only [JlD]; omega))) only [↓JlG,JlE,List.length_cons,e0,e1,hb,e2]
    · obtain ⟨y,hlp⟩:=Uby (R:=R) n neg (c::r) (by rw [List.length_cons]; omega) (r.length + 1) n 0 0 (by rw [List.length_cons]) (by omega) (by simp) (by rw [List.drop_zero]; exact hd)
      rw [show ((0:Nat):Int)=0 from rfl] at hlp
      simp only [List.length_cons] at hlp
      by_cases hc:c=48
      · have e2:(c == 48)=true:=by simpa using hc
        by_cases hs1:1<s.length
        · simp (disch:=(first | omega | (simp only [JlD]; omega))) only [↓JlG,JlE,List.length_cons,e0,e1,hb,e2]
        · simp (disch:=(first | omega | (simp only [JlD]; omega))) only [↓JlG,JlE,List.length_cons,e0,e1,hb,e2,hlp]
      · have e2:(c == 48)=false:=by simpa using hc
        simp (disch:=(first | omega | (simp only [JlD]; omega))) only [↓JlG,JlE,List.length_cons,e0,e1,hb,e2,hlp]
theorem UdK (n:Nat) (s:List UInt8) (hs:s.length<2 ^ 40) (k0:Int→Bool→Option R):p95 n (bs s) k0=Uce n (bs s) (Ubg s).1 (bs (Ubg s).2) k0:=by
 unfold p95
 cases s with
 | nil=>rfl
 | cons c r =>
  rw [List.length_cons] at hs
  have e0:((c::r) == ([]:List UInt8))=false:=rfl
  have e1:Jc6 (bs (c::r)) 0=(c.toNat:Int):=rfl
  have hb:=Uvn c 45
  rw [show ((45:UInt8).toNat:Int)=45 from rfl] at hb
  have e3:List.drop (1:Int).toNat (List.take (r.length + 1) (c::r))=r:=by
   show List.drop 1 (c::List.take r.length r)=r
   rw [List.take_length]; rfl
  rw [UbT]
  by_cases hc:c=45
  · have e2:(c == 45)=true:=by simpa using hc
    rw [if_pos hc]
    simp (disch:=(first | omega | (simp only [JlD]; omega))) only [↓JlG,JlE,List.length_cons,e0,e1,hb,e2,Uf7,Jjh,e3]
  · have e2:(c == 45)=false:=by simpa using hc
    rw [if_neg hc]
    simp (disch:=(first | omega | (simp only [JlD]; omega))) only [↓JlG,JlE,List.length_cons,e0,e1,hb,e2,Uf7]
theorem Udl (n:Nat) (hn:20≤n) (v:Int) (hv:v.natAbs<10 ^ 9) (k0:Int→Bool→Option R):p95 n (bs (Lib.itoa v)) k0=k0 v true:=by
 have hl:=(Ua8 v.natAbs 9 (by omega)).2 hv
 have hin:=Udx (Lib.itoa v)
 rw [Uau] at hin
 have hls:(Lib.itoa v).length≤10:=by
  rw [hin,List.length_append]
  split <;> simp <;> omega
 rw [UdK n _ (by omega),Uau,Umv n hn _ _ _ (by omega) (UhN _) hl (Ua7 _) ?_,Uco,UbM]
 intro h48
 rcases UhM v.natAbs with h | h
 · exact absurd h48 h
 · by_cases hv0:v<0
   · exfalso
     have h1:=Ua7 v.natAbs
     cases hd:dec v.natAbs with
     | nil=>exact UhN _ hd
     | cons c r =>
      rw [hd] at h48 h
      simp at h48 h
      have:dec v.natAbs=dec 0:=by rw [hd,h48,h,Uan]
      have:=UbC this
      omega
   · rw [hin,decide_eq_false hv0]
     simp only [Bool.false_eq_true,if_false,List.nil_append]
     omega
theorem Ug (n:Nat) (hn:20≤n) (s:List UInt8) (hs:s.length<2 ^ 40) (h:¬ ∃ v:Int,v.natAbs<10 ^ 9∧s=Lib.itoa v) (k0:Int→Bool→Option R):p95 n (bs s) k0=k0 0 false:=by
 have hl:=UhL s
 rw [UdK n s hs]
 refine Ujk n hn s _ _ hs (by omega) ?_ k0
 rintro ⟨h1,h2,h3,h4⟩
 apply h
 have hin:=Udx s
 have hd:dec (ofD (Ubg s).2)=(Ubg s).2:=Uka h3 h1 (by
  by_cases hz:(Ubg s).2.head? = some 48
  · right
    have:=h4 hz
    have:=List.length_pos_iff.2 h1
    omega
  · exact Or.inl hz)
 have hlt:ofD (Ubg s).2<10 ^ 9:=(Ua8 _ 9 (by omega)).1 (by rw [hd]; exact h2)
 refine ⟨zs (Ubg s).1 (ofD (Ubg s).2),by rw [Ubf]; exact hlt,?_⟩
 by_cases h0:ofD (Ubg s).2=0
 · have e:(Ubg s).1=false:=by
    cases hb:(Ubg s).1 with
    | false=>rfl
    | true =>
     exfalso
     rw [h0,Uan] at hd
     have h5:=h4 (by rw [←hd]; rfl)
     rw [hb,←hd] at hin
     rw [hin] at h5
     simp at h5
   rw [h0,e]
   rw [e,←hd,h0] at hin
   rw [hin]
   exact (UbZ 0).symm
 · rw [UgN _ h0,hd]; exact hin
end Go.Proofs.YtmgfmlhdnadglaaGreatDoor
set_option linter.unusedVariables false
set_option maxRecDepth 100000
namespace Go.Proofs.YtmgfmlhdnadglaaGreatDoor
open Go Th Go.Proofs
noncomputable section
variable {R:Type}
end
end Go.Proofs.YtmgfmlhdnadglaaGreatDoor
