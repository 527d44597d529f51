/- Proved: part 4 of the proof that the law CertifyBest returns true at all its arguments (no further conditions). -/
import Derived.Test.YtmgfmlhdnadglaaGreatDoorT1
import Derived.Test.YtmgfmlhdnadglaaGreatDoorProg
import Derived.Test.YtmgfmlhdnadglaaGreatDoorT2
import Derived.Lib.ItoaNum
import Derived.Lib.AtoiAll
set_option linter.unusedVariables false
set_option maxRecDepth 100000
namespace Go.Proofs.YtmgfmlhdnadglaaGreatDoor
open Go Th Go.Proofs
abbrev GI:GInv:=GInv.tab Tryz.prog "internal/strconv.uint64pow10" .u64 Lib.pow10Tab 0 (by kernel_rfl)
def layr166:Go.Shelf.Ren:=⟨fun | 166=>140 | 240=>169 | 276=>192 | n=>n,fun | 0=>0 | 3=>3 | 4=>4 | 5=>5 | 9=>9 | 20=>20 | 37=>173 | 70=>179 | 72=>181 | 75=>166 | 80=>154 | 164=>227 | n=>n,fun | n=>n⟩
theorem Urs:Go.Proofs.Lays.n166 Tryz.prog layr166:={
 mixed:=by kernel_rfl
 f166:=Tryz.func140.trans (congrArg some (by kernel_rfl))
 f240:=Tryz.func169.trans (congrArg some (by kernel_rfl))
 f276:=Tryz.func192.trans (congrArg some (by kernel_rfl))
 t0:=Tryz.underlying0
 a0:=Tryz.isAgg0
 z0:=Tryz.sizeOf0
 v0:=Tryz.zeroValue0
 t3:=Tryz.underlying3
 a3:=Tryz.isAgg3
 z3:=Tryz.sizeOf3
 v3:=Tryz.zeroValue3
 t4:=Tryz.underlying4
 a4:=Tryz.isAgg4
 z4:=Tryz.sizeOf4
 v4:=Tryz.zeroValue4
 t9:=Tryz.underlying9
 a9:=Tryz.isAgg9
 z9:=Tryz.sizeOf9
 v9:=Tryz.zeroValue9
 t20:=Tryz.underlying20
 a20:=Tryz.isAgg20
 z20:=Tryz.sizeOf20
 v20:=Tryz.zeroValue20
 t37:=Tryz.underlying173
 a37:=Tryz.isAgg173
 z37:=Tryz.sizeOf173
 v37:=Tryz.zeroValue173
 t70:=Tryz.underlying179
 a70:=Tryz.isAgg179
 z70:=Tryz.sizeOf179
 v70:=Tryz.zeroValue179
 t72:=Tryz.underlying181
 a72:=Tryz.isAgg181
 z72:=Tryz.sizeOf181
 v72:=Tryz.zeroValue181
 t75:=Tryz.underlying166
 a75:=Tryz.isAgg166
 z75:=Tryz.sizeOf166
 v75:=Tryz.zeroValue166
 t164:=Tryz.underlying227
 a164:=Tryz.isAgg227
 z164:=Tryz.sizeOf227
 v164:=Tryz.zeroValue227 }
theorem Urt:Builder.Extra Tryz.prog layr166:={
 sizeBuilder:=by kernel_rfl
 liesBuilder:=by kernel_rfl
 t5:=Tryz.underlying5
 a5:=Tryz.isAgg5
 z5:=Tryz.sizeOf5
 v5:=Tryz.zeroValue5
 infoByte:=by kernel_rfl
 cellsByte:=by kernel_rfl
 sizeByte:=by kernel_rfl
 neB5:=by decide }
noncomputable def Uwq (n:Nat):FS:=fsFormatInt
theorem Uzq (n:Nat):FSound Tryz.prog GI 60 (Uwq n):=Jjh (Jlu Tryz.func60 (by kernel_rfl) (by kernel_rfl)) (fun F W h=>h.2) Tryz.strconv_FormatInt_10
noncomputable def Ut6 (n:Nat):FS:=fsAtoi
theorem UwW (n:Nat):FSound Tryz.prog GI 129 (Ut6 n):=Jk6 (Jlu Tryz.func129 (by kernel_rfl) (by kernel_rfl)) (fun s h1 v h2 w=>Tryz.strconv_Atoi_ok s h1 v h2 w)
noncomputable def Ut7 (n:Nat):FS:=fsTrim
theorem UwX (n:Nat):FSound Tryz.prog GI 130 (Ut7 n):=Jk8 (Jlu Tryz.func130 (by kernel_rfl) (by kernel_rfl)) (fun s t w h1 h2 h3=>Any.strings_Trim_laid Tryz.lays160 (by kernel_rfl) s t w h1 h2 h3)
noncomputable def Uu (n:Nat):FS:=fsItoa
theorem Uw0 (n:Nat):FSound Tryz.prog GI 138 (Uu n):=Jk7 (Jlu Tryz.func138 (by kernel_rfl) (by kernel_rfl)) (fun F W h=>h.2) Tryz.strconv_Itoa
noncomputable def Uua (n:Nat):FS:=fsRepeat
theorem Uw1 (n:Nat):FSound Tryz.prog GI 139 (Uua n):=JkA (Jlu Tryz.func139 (by kernel_rfl) (by kernel_rfl)) (fun s c w h1 h2=>Tryz.strings_Repeat s c w h1 h2)
noncomputable def Uub (n:Nat):FS:=JaV 181 5
theorem Uw2 (n:Nat):FSound Tryz.prog GI 140 (Uub n):=Jh6 Urs Urt (Jlu Tryz.func140 (by kernel_rfl) (by kernel_rfl))
noncomputable def Uuc (n:Nat):FS:=Jcn 181 5
theorem Uw3 (n:Nat):FSound Tryz.prog GI 141 (Uuc n):=JkB Tryz.lays169 Tryz.Builder_Extra_169 (Jlu Tryz.func141 (by kernel_rfl) (by kernel_rfl))
noncomputable def Uud (n:Nat):FS:=fsIndex1
theorem Uw4 (n:Nat):FSound Tryz.prog GI 148 (Uud n):=Jkz (Jlu Tryz.func148 (by kernel_rfl) (by kernel_rfl)) Tryz.stringslite_Index_one
end Go.Proofs.YtmgfmlhdnadglaaGreatDoor
set_option linter.unusedVariables false
set_option maxRecDepth 100000
namespace Go.Proofs.YtmgfmlhdnadglaaGreatDoor
open Go Th Go.Proofs
noncomputable section
variable {R:Type}
def UjM:Ann:={ loops:=[],cuts:=[],frz:=[],rm:=[.id,.id,.id] }
abbrev Uo6 (n:Nat):Env:=eC 148 (Uud n) eN
theorem Uiy (n:Nat):EnvOK Tryz.prog GI (Uo6 n):=.cons (.nil) (Uw4 n)
def Uxf (n:Nat) (x1:ByteArray) (k0:ByteArray→ByteArray→Bool→O R):O R :=
 let v2:=Lib.indexByte (x1).data.toList (((⟨#[47]⟩:ByteArray)).data.toList.headD 0); bif (decide (v2≥0)) then (bif (Je5 0 v2 (x1).size) then (let v3:=IntKind.i64.wrap (v2 + ((⟨#[47]⟩:ByteArray).size:Int)); bif (Je5 v3 ((x1).size:Int) (x1).size) then (k0 (ByteArray.extract x1 (0:Int).toNat (v2:Int).toNat) (ByteArray.extract x1 (v3:Int).toNat (((x1).size:Int):Int).toNat) true) else none) else none) else (k0 x1 ⟨#[]⟩ false)
abbrev UwB (n:Nat):Orc R:=oN
abbrev Uv8 (n:Nat):Orc R:=oN
abbrev UzN (R:Type) (n:Nat):=JcH (R:=R) Tryz.prog (Uo6 n) UjM n (23,[]) (UwB n) (Uv8 n)
theorem Uxw (n:Nat):Je6 (UzN R n) (JaJ UjM (Jll Tryz.f127)):=pO pN (by kernel_rfl)
abbrev t127:Sl (List SV):=(cS (.c (sP (Jlz (⟨#[47]⟩:ByteArray))) .n))
abbrev f127 (n:Nat) (K:List SV→O R):t127.T (O R):=fun x1=>Uxf n x1 (fun y1 y2 y3=>K [vS y1,vS y2,vB y3])
abbrev Ut4 (n:Nat):FS:=fT [false,false] t127 (f127 n)
theorem UwU (n:Nat):FSound Tryz.prog GI 127 (Ut4 n):=gd UjM n (Uiy n) Tryz.func127 (.cons (Uiy n) t127 (f127 n) (fun K _=>(Jkq (c:=Jll Tryz.f127) (by kernel_rfl) (Uxw n) K).trans (by kernel_rfl)) .nil) (by kernel_rfl)
def Uqk:Ann:={ loops:=[],cuts:=[],frz:=[],rm:=[.id,.id,.id] }
abbrev UtH (n:Nat):Env:=eC 127 (Ut4 n) eN
theorem Ulu (n:Nat):EnvOK Tryz.prog GI (UtH n):=.cons (.nil) (UwU n)
def p96 (n:Nat) (x1:ByteArray) (k0:ByteArray→ByteArray→Bool→O R):O R :=
 Uxf n x1 (fun y2 y3 y4=>k0 y2 y3 y4)
abbrev UAM (n:Nat):Orc R:=oN
abbrev UAh (n:Nat):Orc R:=oN
abbrev K96 (R:Type) (n:Nat):=JcH (R:=R) Tryz.prog (UtH n) Uqk n (13,[]) (UAM n) (UAh n)
theorem UB2 (n:Nat):Je6 (K96 R n) (JaJ Uqk (Jll Tryz.f96)):=pO pN (by kernel_rfl)
abbrev t96:Sl (List SV):=(cS (.c (sP (Jlz (⟨#[47]⟩:ByteArray))) .n))
abbrev f96 (n:Nat) (K:List SV→O R):t96.T (O R):=fun x1=>p96 n x1 (fun y1 y2 y3=>K [vS y1,vS y2,vB y3])
abbrev Uy2 (n:Nat):FS:=fT [false,false] t96 (f96 n)
theorem UBf (n:Nat):FSound Tryz.prog GI 96 (Uy2 n):=gd Uqk n (Ulu n) Tryz.func96 (.cons (Ulu n) t96 (f96 n) (fun K _=>(Jkq (c:=Jll Tryz.f96) (by kernel_rfl) (UB2 n) K).trans (by kernel_rfl)) .nil) (by kernel_rfl)
def Uqm:Ann:={ loops:=[],cuts:=[],frz:=[],rm:=[.id] }
abbrev UtJ (n:Nat):Env:=eC 130 (Ut7 n) eN
theorem Ulx (n:Nat):EnvOK Tryz.prog GI (UtJ n):=.cons (.nil) (UwX n)
def p99 (n:Nat) (x1:ByteArray) (k0:Bool→O R):O R :=
 bif (eqS x1 (⟨#[]⟩:ByteArray)) then (k0 false) else (bif (bif false then true else (decide (((x1).size:Int)>400))) then (k0 false) else (bif (inR 0 (x1).size) then (bif (Jc6 x1 0 == 48) then (bif (bif false then true else (bif true then (decide (((x1).size:Int)>1)) else false)) then (k0 false) else (bif (Jjj x1 (⟨#[48,49,50,51,52,53,54,55,56,57]⟩:ByteArray)) then (k0 (eqS (JkL x1 (⟨#[48,49,50,51,52,53,54,55,56,57]⟩:ByteArray)) (⟨#[]⟩:ByteArray))) else none)) else (bif (Jjj x1 (⟨#[48,49,50,51,52,53,54,55,56,57]⟩:ByteArray)) then (k0 (eqS (JkL x1 (⟨#[48,49,50,51,52,53,54,55,56,57]⟩:ByteArray)) (⟨#[]⟩:ByteArray))) else none)) else none))
abbrev UAO (n:Nat):Orc R:=oN
abbrev UAj (n:Nat):Orc R:=oN
abbrev K99 (R:Type) (n:Nat):=JcH (R:=R) Tryz.prog (UtJ n) Uqm n (23,[]) (UAO n) (UAj n)
theorem UB5 (n:Nat):Je6 (K99 R n) (JaJ Uqm (Jll Tryz.f99)):=pO pN (by kernel_rfl)
abbrev t99:Sl (List SV):=(cS .n)
abbrev f99 (n:Nat) (K:List SV→O R):t99.T (O R):=fun x1=>p99 n x1 (fun y1=>K [vB y1])
abbrev Uww (n:Nat):FS:=fT [false] t99 (f99 n)
theorem Uzw (n:Nat):FSound Tryz.prog GI 99 (Uww n):=gd Uqm n (Ulx n) Tryz.func99 (.cons (Ulx n) t99 (f99 n) (fun K _=>(Jkq (c:=Jll Tryz.f99) (by kernel_rfl) (UB5 n) K).trans (by kernel_rfl)) .nil) (by kernel_rfl)
def UjP:Ann:={ loops:=[],cuts:=[],frz:=[],rm:=[.id] }
abbrev Uo9 (n:Nat):Env:=eN
theorem UiD (n:Nat):EnvOK Tryz.prog GI (Uo9 n):=.nil
def Uxi (n:Nat) (x1 x2:ByteArray) (k0:Bool→O R):O R :=
 bif (decide (((x1).size:Int)≥((x2).size:Int))) then (bif (Je5 0 ((x2).size:Int) (x1).size) then (k0 (bif true then eqS (ByteArray.extract x1 (0:Int).toNat (((x2).size:Int):Int).toNat) x2 else false)) else none) else (k0 false)
abbrev UwE (n:Nat):Orc R:=oN
abbrev Uwa (n:Nat):Orc R:=oN
abbrev UzQ (R:Type) (n:Nat):=JcH (R:=R) Tryz.prog (Uo9 n) UjP n (18,[]) (UwE n) (Uwa n)
theorem UxB (n:Nat):Je6 (UzQ R n) (JaJ UjP (Jll Tryz.f177)):=pO pN (by kernel_rfl)
abbrev UxV:Sl (List SV):=(cS (cS .n))
abbrev f177 (n:Nat) (K:List SV→O R):UxV.T (O R):=fun x1 x2=>Uxi n x1 x2 (fun y1=>K [vB y1])
abbrev Uuf (n:Nat):FS:=fT [false,false] UxV (f177 n)
theorem Uw6 (n:Nat):FSound Tryz.prog GI 177 (Uuf n):=gd UjP n (UiD n) Tryz.func177 (.cons (UiD n) UxV (f177 n) (fun K _ _=>(Jkq (c:=Jll Tryz.f177) (by kernel_rfl) (UxB n) K).trans (by kernel_rfl)) .nil) (by kernel_rfl)
def UjO:Ann:={ loops:=[],cuts:=[],frz:=[],rm:=[.id,.id] }
abbrev Uo8 (n:Nat):Env:=eC 177 (Uuf n) eN
theorem UiC (n:Nat):EnvOK Tryz.prog GI (Uo8 n):=.cons (.nil) (Uw6 n)
def Uxh (n:Nat) (x1 x2:ByteArray) (k0:ByteArray→Bool→O R):O R :=
 Uxi n x1 x2 (fun y3=>bif (!y3) then (k0 x1 false) else (bif (Je5 ((x2).size:Int) ((x1).size:Int) (x1).size) then (k0 (ByteArray.extract x1 (((x2).size:Int):Int).toNat (((x1).size:Int):Int).toNat) true) else none))
abbrev UwD (n:Nat):Orc R:=oN
abbrev Uw (n:Nat):Orc R:=oN
abbrev UzP (R:Type) (n:Nat):=JcH (R:=R) Tryz.prog (Uo8 n) UjO n (15,[]) (UwD n) (Uw n)
theorem UxA (n:Nat):Je6 (UzP R n) (JaJ UjO (Jll Tryz.f149)):=pO pN (by kernel_rfl)
abbrev UxU:Sl (List SV):=(cS (cS .n))
abbrev f149 (n:Nat) (K:List SV→O R):UxU.T (O R):=fun x1 x2=>Uxh n x1 x2 (fun y1 y2=>K [vS y1,vB y2])
abbrev Uue (n:Nat):FS:=fT [false,false] UxU (f149 n)
theorem Uw5 (n:Nat):FSound Tryz.prog GI 149 (Uue n):=gd UjO n (UiC n) Tryz.func149 (.cons (UiC n) UxU (f149 n) (fun K _ _=>(Jkq (c:=Jll Tryz.f149) (by kernel_rfl) (UxA n) K).trans (by kernel_rfl)) .nil) (by kernel_rfl)
def UjN:Ann:={ loops:=[],cuts:=[],frz:=[],rm:=[.id,.id] }
abbrev Uo7 (n:Nat):Env:=eC 149 (Uue n) eN
theorem Uiz (n:Nat):EnvOK Tryz.prog GI (Uo7 n):=.cons (.nil) (Uw5 n)
def UvV (n:Nat) (x1 x2:ByteArray) (k0:ByteArray→Bool→O R):O R :=
 Uxh n x1 x2 (fun y3 y4=>k0 y3 y4)
abbrev UwC (n:Nat):Orc R:=oN
abbrev Uv9 (n:Nat):Orc R:=oN
abbrev UzO (R:Type) (n:Nat):=JcH (R:=R) Tryz.prog (Uo7 n) UjN n (11,[]) (UwC n) (Uv9 n)
theorem Uxx (n:Nat):Je6 (UzO R n) (JaJ UjN (Jll Tryz.f128)):=pO pN (by kernel_rfl)
abbrev UxR:Sl (List SV):=(cS (cS .n))
abbrev f128 (n:Nat) (K:List SV→O R):UxR.T (O R):=fun x1 x2=>UvV n x1 x2 (fun y1 y2=>K [vS y1,vB y2])
abbrev Ut5 (n:Nat):FS:=fT [false,false] UxR (f128 n)
theorem UwV (n:Nat):FSound Tryz.prog GI 128 (Ut5 n):=gd UjN n (Uiz n) Tryz.func128 (.cons (Uiz n) UxR (f128 n) (fun K _ _=>(Jkq (c:=Jll Tryz.f128) (by kernel_rfl) (Uxx n) K).trans (by kernel_rfl)) .nil) (by kernel_rfl)
def Uql:Ann:={ loops:=[],cuts:=[],frz:=[],rm:=[.id,.id,.id] }
abbrev UtI (n:Nat):Env:=eC 128 (Ut5 n) (eC 99 (Uww n) eN)
theorem Ulv (n:Nat):EnvOK Tryz.prog GI (UtI n):=.cons (.cons (.nil) (Uzw n)) (UwV n)
def p97 (n:Nat) (x1:ByteArray) (k0:Bool→ByteArray→Bool→O R):O R :=
 UvV n x1 ⟨#[45]⟩ (fun y2 y3=>p99 n y2 (fun y4=>bif y4 then (bif y3 then (k0 y3 y2 (bif true then (!(bif true then eqS y2 (⟨#[48]⟩:ByteArray) else false)) else false)) else (k0 y3 y2 true)) else (k0 y3 y2 false)))
abbrev UAN (n:Nat):Orc R:=oN
abbrev UAi (n:Nat):Orc R:=oN
abbrev K97 (R:Type) (n:Nat):=JcH (R:=R) Tryz.prog (UtI n) Uql n (24,[]) (UAN n) (UAi n)
theorem UB3 (n:Nat):Je6 (K97 R n) (JaJ Uql (Jll Tryz.f97)):=pO pN (by kernel_rfl)
abbrev t97:Sl (List SV):=(cS .n)
abbrev f97 (n:Nat) (K:List SV→O R):t97.T (O R):=fun x1=>p97 n x1 (fun y1 y2 y3=>K [vB y1,vS y2,vB y3])
abbrev Uy3 (n:Nat):FS:=fT [false] t97 (f97 n)
theorem UBg (n:Nat):FSound Tryz.prog GI 97 (Uy3 n):=gd Uql n (Ulv n) Tryz.func97 (.cons (Ulv n) t97 (f97 n) (fun K _=>(Jkq (c:=Jll Tryz.f97) (by kernel_rfl) (UB3 n) K).trans (by kernel_rfl)) .nil) (by kernel_rfl)
def UdJ:Ann:={ loops:=[(1,ids [0],ids [0,2])],cuts:=[],frz:=[],rm:=[.id] }
abbrev UkA (n:Nat):Env:=eN
theorem Uim (n:Nat):EnvOK Tryz.prog GI (UkA n):=.nil
def Ufh (n:Nat) (l0:LP→O R) (x1:LP) (k0:LP→O R):O R :=
 bif (decide (((x1).length:Int)>0)) then (let v2:=IntKind.i64.wrap (((x1).length:Int) - 1); bif (inR v2 ((x1).length)) then (Jj .u32 ((x1).getD ((v2:Int).toNat) (.v (.bool false))) fun e3=>bif (bif true then (e3 == 0) else false) then (let v4:=IntKind.i64.wrap (((x1).length:Int) - 1); bif (Jgx 1 x1&&Je5 0 v4 ((x1).length)) then (l0 (((x1).take (v4:Int).toNat).drop (0:Int).toNat)) else none) else (k0 x1)) else none) else (k0 x1)
def Uch (n:Nat):Nat→LP→(LP→O R)→O R
 | 0,_,_=>none
 | m + 1,x1,k0=>Ufh n (fun x1=>Uch n m x1 k0) x1 k0
def Ums (n:Nat) (x1:LP) (k0:LP→O R):O R:=Uch n n x1 k0
def Umr (n:Nat) (x1:LP) (k0:LP→O R):O R :=
 Ums n x1 (fun y2=>k0 y2)
abbrev UzE (n:Nat):Code→Fr→Kc R→O R:=evC Tryz.prog (UkA n) UdJ n (21,[])
noncomputable def UjX:Code:=Jj4 (Jll Tryz.f101) [1,0,0,0]
abbrev Uc2:Sl (List SV):=(cH .n)
abbrev Ug0 (n m:Nat) (K:Kc R):Uc2.T (O R):=fun x1=>Uch n m x1 (fun y1=>xL UdJ 1 K (.exit 0) [vH y1,dD])
abbrev Uqp (n:Nat) (K:Kc R) (l0:Uc2.T (O R)):Uc2.T (O R):=fun x1=>Ufh n l0 x1 (fun y1=>xL UdJ 1 K (.exit 0) [vH y1,dD])
abbrev Uul (n:Nat):Orc R:=oL UdJ (UzE n) n 1 UjX Uc2 (Ug0 n n) oN
abbrev Ut (n:Nat):Orc R:=oN
abbrev Ux9 (R:Type) (n:Nat):=JcH (R:=R) Tryz.prog (UkA n) UdJ n (21,[]) (Uul n) (Ut n)
theorem UrF (n:Nat):Ux9 R n (false,1,UjX):=JkF (lo:=Uul n) (cu:=Ut n) (pO pN (by kernel_rfl)) Uc2 (Ug0 n n) (JiE (F:=Ug0 n) Uc2 (Uqp n) (fun K _=>rfl) (fun _ _=>rfl) (fun L K _=>by show _=_; kernel_rfl) n) fun _ _=>rfl
theorem Uxk (n:Nat):Je6 (Ux9 R n) (JaJ UdJ (Jll Tryz.f101)):=pO (pC (UrF n) pN) (by kernel_rfl)
abbrev UxI:Sl (List SV):=(cH .n)
abbrev f101 (n:Nat) (K:List SV→O R):UxI.T (O R):=fun x1=>Umr n x1 (fun y1=>K [vH y1])
abbrev Uhb (n:Nat):FS:=fT [false] UxI (f101 n)
theorem UjB (n:Nat):FSound Tryz.prog GI 101 (Uhb n):=gd UdJ n (Uim n) Tryz.func101 (.cons (Uim n) UxI (f101 n) (fun K _=>(Jkq (c:=Jll Tryz.f101) (by kernel_rfl) (Uxk n) K).trans (by kernel_rfl)) .nil) (by kernel_rfl)
def UgN:Ann:={ loops:=[(2,[(0,.id),(3,.own 143)],ids [2,3])],cuts:=[],frz:=[],rm:=[.id] }
abbrev Urc (n:Nat):Env:=eC 129 (Ut6 n) (eC 101 (Uhb n) eN)
theorem Ulw (n:Nat):EnvOK Tryz.prog GI (Urc n):=.cons (.cons (.nil) (UjB n)) (UwW n)
def UfL (n:Nat) (l0:ByteArray→LP→O R) (x1:ByteArray) (x2:LP) (k0:LP→O R):O R :=
 bif (decide (((x1).size:Int)>0)) then (let v3:=IntKind.i64.wrap (((x1).size:Int) - 9); bif (Je5 (JkU 0 v3) ((x1).size:Int) (x1).size) then (Jib (ByteArray.extract x1 (JkU 0 v3:Int).toNat (((x1).size:Int):Int).toNat) fun v4=>bif (Jbu ((x2).length + 1) 4) then (bif (Je5 0 (JkU 0 v3) (x1).size) then (l0 (ByteArray.extract x1 (0:Int).toNat (JkU 0 v3:Int).toNat) (x2++([.v (.int .u32 (IntKind.u32.wrap (v4)))]:LP))) else none) else none) else none) else (k0 x2)
def UcZ (n:Nat):Nat→ByteArray→LP→(LP→O R)→O R
 | 0,_,_,_=>none
 | m + 1,x1,x2,k0=>UfL n (fun x1 x2=>UcZ n m x1 x2 k0) x1 x2 k0
def UpL (n:Nat) (x1:ByteArray) (x2:LP) (k0:LP→O R):O R:=UcZ n n x1 x2 k0
def p98 (n:Nat) (x1:ByteArray) (k0:LP→O R):O R :=
 UpL n x1 [] (fun y2=>Umr n y2 (fun y3=>k0 y3))
abbrev E98 (n:Nat):Code→Fr→Kc R→O R:=evC Tryz.prog (Urc n) UgN n (31,[])
noncomputable def Uo0:Code:=Jj4 (Jll Tryz.f98) [1,1,0,0,0]
abbrev UeI:Sl (List SV):=(cS (cO 143 .n))
abbrev Umb (n m:Nat) (K:Kc R):UeI.T (O R):=fun x1 x2=>UcZ n m x1 x2 (fun y1=>xL UgN 2 K (.exit 0) [dD,.own 143 y1])
abbrev Us3 (n:Nat) (K:Kc R) (l0:UeI.T (O R)):UeI.T (O R):=fun x1 x2=>UfL n l0 x1 x2 (fun y1=>xL UgN 2 K (.exit 0) [dD,.own 143 y1])
abbrev Uzg (n:Nat):Orc R:=oL UgN (E98 n) n 2 Uo0 UeI (Umb n n) oN
abbrev Uyq (n:Nat):Orc R:=oN
abbrev K98 (R:Type) (n:Nat):=JcH (R:=R) Tryz.prog (Urc n) UgN n (31,[]) (Uzg n) (Uyq n)
theorem Uvi (n:Nat):K98 R n (false,2,Uo0):=JkF (lo:=Uzg n) (cu:=Uyq n) (pO pN (by kernel_rfl)) UeI (Umb n n) (JiE (F:=Umb n) UeI (Us3 n) (fun K _ _=>rfl) (fun _ _=>rfl) (fun L K _ _=>by show _=_; kernel_rfl) n) fun _ _=>rfl
theorem UB4 (n:Nat):Je6 (K98 R n) (JaJ UgN (Jll Tryz.f98)):=pO (pC (Uvi n) pN) (by kernel_rfl)
abbrev t98:Sl (List SV):=(cS .n)
abbrev f98 (n:Nat) (K:List SV→O R):t98.T (O R):=fun x1=>p98 n x1 (fun y1=>K [vH y1])
abbrev Uy4 (n:Nat):FS:=fT [false] t98 (f98 n)
theorem UBh (n:Nat):FSound Tryz.prog GI 98 (Uy4 n):=gd UgN n (Ulw n) Tryz.func98 (.cons (Ulw n) t98 (f98 n) (fun K _=>(Jkq (c:=Jll Tryz.f98) (by kernel_rfl) (UB4 n) K).trans (by kernel_rfl)) .nil) (by kernel_rfl)
def UeS:Ann:={ loops:=[(6,ids [0,1,5],ids [4])],cuts:=[],frz:=[],rm:=[.id] }
abbrev Uq5 (n:Nat):Env:=eN
theorem Uld (n:Nat):EnvOK Tryz.prog GI (Uq5 n):=.nil
def UfC (n:Nat) (l0:LP→LP→Int→O R) (x1 x2:LP) (x3:Int) (k0:Int→O R) (k1:O R):O R :=
 bif (decide (x3≥0)) then (bif (inR x3 ((x1).length)) then (Jj .u32 ((x1).getD ((x3:Int).toNat) (.v (.bool false))) fun e4=>bif (inR x3 ((x2).length)) then (Jj .u32 ((x2).getD ((x3:Int).toNat) (.v (.bool false))) fun e5=>bif (e4 != e5) then (bif (inR x3 ((x1).length)) then (Jj .u32 ((x1).getD ((x3:Int).toNat) (.v (.bool false))) fun e6=>bif (inR x3 ((x2).length)) then (Jj .u32 ((x2).getD ((x3:Int).toNat) (.v (.bool false))) fun e7=>bif (decide (e6<e7)) then (k0 (-1)) else (k0 1)) else none) else none) else (l0 x1 x2 (IntKind.i64.wrap (x3 - 1)))) else none) else none) else (k1)
def UcS (n:Nat):Nat→LP→LP→Int→(Int→O R)→(O R)→O R
 | 0,_,_,_,_,_=>none
 | m + 1,x1,x2,x3,k0,k1=>UfC n (fun x1 x2 x3=>UcS n m x1 x2 x3 k0 k1) x1 x2 x3 k0 k1
def UpE (n:Nat) (x1 x2:LP) (x3:Int) (k0:Int→O R) (k1:O R):O R:=UcS n n x1 x2 x3 k0 k1
def p57 (n:Nat) (x1 x2:LP) (k0:Int→O R):O R :=
 bif (((x1).length:Int) != ((x2).length:Int)) then (bif (decide (((x1).length:Int)<((x2).length:Int))) then (k0 (-1)) else (k0 1)) else (let v3:=IntKind.i64.wrap (((x1).length:Int) - 1); UpE n x1 x2 v3 (fun y4=>k0 y4) (k0 0))
abbrev E57 (n:Nat):Code→Fr→Kc R→O R:=evC Tryz.prog (Uq5 n) UeS n (41,[])
noncomputable def UoN:Code:=Jj4 (Jll Tryz.f57) [1,1,0,1,0,0]
abbrev UeA:Sl (List SV):=(cH (cH (cI .n)))
abbrev UlY (n m:Nat) (K:Kc R):UeA.T (O R):=fun x1 x2 x3=>UcS n m x1 x2 x3 (fun y1=>xL UeS 6 K .ret [vI y1]) (xL UeS 6 K (.exit 0) [dD])
abbrev UsV (n:Nat) (K:Kc R) (l0:UeA.T (O R)):UeA.T (O R):=fun x1 x2 x3=>UfC n l0 x1 x2 x3 (fun y1=>xL UeS 6 K .ret [vI y1]) (xL UeS 6 K (.exit 0) [dD])
abbrev Uzd (n:Nat):Orc R:=oL UeS (E57 n) n 6 UoN UeA (UlY n n) oN
abbrev Uyn (n:Nat):Orc R:=oN
abbrev K57 (R:Type) (n:Nat):=JcH (R:=R) Tryz.prog (Uq5 n) UeS n (41,[]) (Uzd n) (Uyn n)
theorem Uu4 (n:Nat):K57 R n (false,6,UoN):=JkF (lo:=Uzd n) (cu:=Uyn n) (pO pN (by kernel_rfl)) UeA (UlY n n) (JiE (F:=UlY n) UeA (UsV n) (fun K _ _ _=>rfl) (fun _ _=>rfl) (fun L K _ _ _=>by show _=_; kernel_rfl) n) fun _ _=>rfl
theorem UBL (n:Nat):Je6 (K57 R n) (JaJ UeS (Jll Tryz.f57)):=pO (pC (Uu4 n) pN) (by kernel_rfl)
abbrev t57:Sl (List SV):=(cH (cH .n))
abbrev f57 (n:Nat) (K:List SV→O R):t57.T (O R):=fun x1 x2=>p57 n x1 x2 (fun y1=>K [vI y1])
abbrev UvK (n:Nat):FS:=fT [false,false] t57 (f57 n)
theorem Uxa (n:Nat):FSound Tryz.prog GI 57 (UvK n):=gd UeS n (Uld n) Tryz.func57 (.cons (Uld n) t57 (f57 n) (fun K _ _=>(Jkq (c:=Jll Tryz.f57) (by kernel_rfl) (UBL n) K).trans (by kernel_rfl)) .nil) (by kernel_rfl)
def Ud8:Ann:={ loops:=[(3,ids [0,1,5,16,17],ids [4,5]),(7,ids [0,1,5,6,7,16,17,21,22],ids [0,1,4,5,6,7,16,17])],cuts:=[],frz:=[],rm:=[.id] }
abbrev Uq6 (n:Nat):Env:=eC 101 (Uhb n) eN
theorem Ule (n:Nat):EnvOK Tryz.prog GI (Uq6 n):=.cons (.nil) (UjB n)
def UfE (n:Nat) (l0:LP→LP→LP→Int→Int→Int→Int→Int→Int→O R) (x1 x2 x3:LP) (x4 x5 x6 x7 x8 x9:Int) (k0:LP→LP→LP→Int→Int→Int→Int→O R):O R :=
 bif (decide (x9<x8)) then (bif (inR x4 ((x1).length)) then (Jj .u32 ((x1).getD ((x4:Int).toNat) (.v (.bool false))) fun e10=>bif (inR x9 ((x2).length)) then (Jj .u32 ((x2).getD ((x9:Int).toNat) (.v (.bool false))) fun e11=>let v12:=IntKind.u64.wrap ((IntKind.u64.wrap (e10)) * (IntKind.u64.wrap (e11))); bif (inR (IntKind.i64.wrap (x4 + x9)) ((x3).length)) then (Jj .u32 ((x3).getD ((IntKind.i64.wrap (x4 + x9):Int).toNat) (.v (.bool false))) fun e13=>let v14:=IntKind.u64.wrap (v12 + (IntKind.u64.wrap (e13))); bif decide (1000000000=0) then none else (let v15:=Int.tmod (IntKind.u64.wrap (x5 + v14)) 1000000000; bif (inR (IntKind.i64.wrap (x4 + x9)) ((x3).length)) then (Jj .u32 ((x3).getD ((IntKind.i64.wrap (x4 + x9):Int).toNat) (.v (.bool false))) fun e16=>bif decide (1000000000=0) then none else (let v17:=IntKind.u64.wrap (Int.tdiv (IntKind.u64.wrap (x5 + v14)) 1000000000); l0 x1 x2 ((x3).set ((IntKind.i64.wrap (x4 + x9):Int).toNat) (.v (.int .u32 (IntKind.u32.wrap (v15))))) x4 v17 x6 x7 x8 (IntKind.i64.wrap (x9 + 1)))) else none)) else none) else none) else none) else (k0 x1 x2 x3 x4 x5 x6 x7)
def UcU (n:Nat):Nat→LP→LP→LP→Int→Int→Int→Int→Int→Int→(LP→LP→LP→Int→Int→Int→Int→O R)→O R
 | 0,_,_,_,_,_,_,_,_,_,_=>none
 | m + 1,x1,x2,x3,x4,x5,x6,x7,x8,x9,k0=>UfE n (fun x1 x2 x3 x4 x5 x6 x7 x8 x9=>UcU n m x1 x2 x3 x4 x5 x6 x7 x8 x9 k0) x1 x2 x3 x4 x5 x6 x7 x8 x9 k0
def UpG (n:Nat) (x1 x2 x3:LP) (x4 x5 x6 x7 x8 x9:Int) (k0:LP→LP→LP→Int→Int→Int→Int→O R):O R:=UcU n n x1 x2 x3 x4 x5 x6 x7 x8 x9 k0
def UfD (n:Nat) (l0:LP→LP→LP→Int→Int→O R) (x1 x2 x3:LP) (x4 x5:Int) (k0:LP→O R):O R :=
 bif (decide (x5<x4)) then (UpG n x1 x2 x3 x5 0 x4 x5 ((x2).length:Int) 0 (fun y6 y7 y8 y9 y10 y11 y12=>let v13:=IntKind.i64.wrap (y9 + ((y7).length:Int)); bif (inR v13 ((y8).length)) then (Jj .u32 ((y8).getD ((v13:Int).toNat) (.v (.bool false))) fun e14=>l0 y6 y7 ((y8).set ((v13:Int).toNat) (.v (.int .u32 (IntKind.u32.wrap (y10))))) y11 (IntKind.i64.wrap (y12 + 1))) else none)) else (k0 x3)
def UcT (n:Nat):Nat→LP→LP→LP→Int→Int→(LP→O R)→O R
 | 0,_,_,_,_,_,_=>none
 | m + 1,x1,x2,x3,x4,x5,k0=>UfD n (fun x1 x2 x3 x4 x5=>UcT n m x1 x2 x3 x4 x5 k0) x1 x2 x3 x4 x5 k0
def UpF (n:Nat) (x1 x2 x3:LP) (x4 x5:Int) (k0:LP→O R):O R:=UcT n n x1 x2 x3 x4 x5 k0
def p58 (n:Nat) (x1 x2:LP) (k0:LP→O R):O R :=
 let v3:=IntKind.i64.wrap (((x1).length:Int) + ((x2).length:Int)); bif (decide ((0:Int)≤v3)&&decide ((v3:Int)≤v3)&&Jbu (v3:Int).toNat 4) then (UpF n x1 x2 (List.replicate (v3:Int).toNat (.v (.int .u32 0):PV)) ((x1).length:Int) 0 (fun y4=>Umr n y4 (fun y5=>k0 y5))) else none
abbrev E58 (n:Nat):Code→Fr→Kc R→O R:=evC Tryz.prog (Uq6 n) Ud8 n (68,[])
noncomputable def UoO:Code:=Jj4 (Jll Tryz.f58) [1,1,0,1,0,0]
abbrev UeB:Sl (List SV):=(cH (cH (cO 143 (cI (cI .n)))))
abbrev UlZ (n m:Nat) (K:Kc R):UeB.T (O R):=fun x1 x2 x3 x4 x5=>UcT n m x1 x2 x3 x4 x5 (fun y1=>xL Ud8 3 K (.exit 0) [dD,.own 143 y1])
abbrev UsW (n:Nat) (K:Kc R) (l0:UeB.T (O R)):UeB.T (O R):=fun x1 x2 x3 x4 x5=>UfD n l0 x1 x2 x3 x4 x5 (fun y1=>xL Ud8 3 K (.exit 0) [dD,.own 143 y1])
noncomputable def UoP:Code:=Jj4 (Jll Tryz.f58) [1,1,0,1,0,0,1,1,0,0,1,1,0,1,0,0]
abbrev UeC:Sl (List SV):=(cH (cH (cO 143 (cI (.c (sP (Jlv .u64)) (cI (cI (cI (cI .n)))))))))
abbrev Ul0 (n m:Nat) (K:Kc R):UeC.T (O R):=fun x1 x2 x3 x4 x5 x6 x7 x8 x9=>UcU n m x1 x2 x3 x4 x5 x6 x7 x8 x9 (fun y1 y2 y3 y4 y5 y6 y7=>xL Ud8 7 K (.exit 2) [vH y1,vH y2,dD,.own 143 y3,vI y4,.p (.v (.int .u64 y5)),vI y6,vI y7])
abbrev UsX (n:Nat) (K:Kc R) (l0:UeC.T (O R)):UeC.T (O R):=fun x1 x2 x3 x4 x5 x6 x7 x8 x9=>UfE n l0 x1 x2 x3 x4 x5 x6 x7 x8 x9 (fun y1 y2 y3 y4 y5 y6 y7=>xL Ud8 7 K (.exit 2) [vH y1,vH y2,dD,.own 143 y3,vI y4,.p (.v (.int .u64 y5)),vI y6,vI y7])
abbrev UwH (n:Nat):Orc R:=oL Ud8 (E58 n) n 7 UoP UeC (Ul0 n n) (oL Ud8 (E58 n) n 3 UoO UeB (UlZ n n) oN)
abbrev Uwd (n:Nat):Orc R:=oN
abbrev K58 (R:Type) (n:Nat):=JcH (R:=R) Tryz.prog (Uq6 n) Ud8 n (68,[]) (UwH n) (Uwd n)
theorem Uu6 (n:Nat):K58 R n (false,7,UoP):=JkF (lo:=UwH n) (cu:=Uwd n) (pO pN (by kernel_rfl)) UeC (Ul0 n n) (JiE (F:=Ul0 n) UeC (UsX n) (fun K _ _ _ _ _ _ _ _ _=>rfl) (fun _ _=>rfl) (fun L K _ _ _ _ _ _ _ _ _=>by show _=_; kernel_rfl) n) fun _ _=>rfl
theorem Uu5 (n:Nat):K58 R n (false,3,UoO):=JkF (lo:=UwH n) (cu:=Uwd n) (pO (pC (Uu6 n) pN) (by kernel_rfl)) UeB (UlZ n n) (JiE (F:=UlZ n) UeB (UsW n) (fun K _ _ _ _ _=>rfl) (fun _ _=>rfl) (fun L K _ _ _ _ _=>by show _=_; kernel_rfl) n) fun _ _=>rfl
theorem UBM (n:Nat):Je6 (K58 R n) (JaJ Ud8 (Jll Tryz.f58)):=pO (pC (Uu5 n) pN) (by kernel_rfl)
abbrev t58:Sl (List SV):=(cH (cH .n))
abbrev f58 (n:Nat) (K:List SV→O R):t58.T (O R):=fun x1 x2=>p58 n x1 x2 (fun y1=>K [vH y1])
abbrev Uuh (n:Nat):FS:=fT [false,false] t58 (f58 n)
theorem UvQ (n:Nat):FSound Tryz.prog GI 58 (Uuh n):=gd Ud8 n (Ule n) Tryz.func58 (.cons (Ule n) t58 (f58 n) (fun K _ _=>(Jkq (c:=Jll Tryz.f58) (by kernel_rfl) (UBM n) K).trans (by kernel_rfl)) .nil) (by kernel_rfl)
def UdL:Ann:={ loops:=[(4,ids [0,1,6,7,8],ids [4,5,6,7])],cuts:=[],frz:=[],rm:=[.id,.id] }
abbrev UkJ (n:Nat):Env:=eC 101 (Uhb n) eN
theorem UiB (n:Nat):EnvOK Tryz.prog GI (UkJ n):=.cons (.nil) (UjB n)
def Udy (n:Nat) (l0:LP→Int→LP→Int→Int→O R) (x1:LP) (x2:Int) (x3:LP) (x4 x5:Int) (k0:LP→Int→O R):O R :=
 bif (decide (x5≥0)) then (bif (inR x5 ((x1).length)) then (Jj .u32 ((x1).getD ((x5:Int).toNat) (.v (.bool false))) fun e6=>let v7:=IntKind.u64.wrap ((IntKind.u64.wrap (x4 * 1000000000)) + (IntKind.u64.wrap (e6))); bif decide (IntKind.u64.wrap (x2)=0) then none else (let v8:=IntKind.u64.wrap (Int.tdiv v7 (IntKind.u64.wrap (x2))); bif (inR x5 ((x3).length)) then (Jj .u32 ((x3).getD ((x5:Int).toNat) (.v (.bool false))) fun e9=>bif decide (IntKind.u64.wrap (x2)=0) then none else (let v10:=Int.tmod v7 (IntKind.u64.wrap (x2)); l0 x1 x2 ((x3).set ((x5:Int).toNat) (.v (.int .u32 (IntKind.u32.wrap (v8))))) v10 (IntKind.i64.wrap (x5 - 1)))) else none)) else none) else (k0 x3 x4)
def UbA (n:Nat):Nat→LP→Int→LP→Int→Int→(LP→Int→O R)→O R
 | 0,_,_,_,_,_,_=>none
 | m + 1,x1,x2,x3,x4,x5,k0=>Udy n (fun x1 x2 x3 x4 x5=>UbA n m x1 x2 x3 x4 x5 k0) x1 x2 x3 x4 x5 k0
def UmB (n:Nat) (x1:LP) (x2:Int) (x3:LP) (x4 x5:Int) (k0:LP→Int→O R):O R:=UbA n n x1 x2 x3 x4 x5 k0
def UuG (n:Nat) (x1:LP) (x2:Int) (k0:LP→Int→O R):O R :=
 bif (decide ((0:Int)≤((x1).length:Int))&&decide ((((x1).length:Int):Int)≤((x1).length:Int))&&Jbu (((x1).length:Int):Int).toNat 4) then (let v3:=IntKind.i64.wrap (((x1).length:Int) - 1); UmB n x1 x2 (List.replicate (((x1).length:Int):Int).toNat (.v (.int .u32 0):PV)) 0 v3 (fun y4 y5=>Umr n y4 (fun y6=>k0 y6 (IntKind.u32.wrap (y5))))) else none
abbrev UzJ (n:Nat):Code→Fr→Kc R→O R:=evC Tryz.prog (UkJ n) UdL n (43,[])
noncomputable def Ukc:Code:=Jj4 (Jll Tryz.f137) [1,1,1,0,1,0,0]
abbrev Ud:Sl (List SV):=(cH (.c (sP (Jlv .u32)) (cO 143 (.c (sP (Jlv .u64)) (cI .n)))))
abbrev Ug8 (n m:Nat) (K:Kc R):Ud.T (O R):=fun x1 x2 x3 x4 x5=>UbA n m x1 x2 x3 x4 x5 (fun y1 y2=>xL UdL 4 K (.exit 0) [dD,dD,.own 143 y1,.p (.v (.int .u64 y2))])
abbrev Uqx (n:Nat) (K:Kc R) (l0:Ud.T (O R)):Ud.T (O R):=fun x1 x2 x3 x4 x5=>Udy n l0 x1 x2 x3 x4 x5 (fun y1 y2=>xL UdL 4 K (.exit 0) [dD,dD,.own 143 y1,.p (.v (.int .u64 y2))])
abbrev Uuq (n:Nat):Orc R:=oL UdL (UzJ n) n 4 Ukc Ud (Ug8 n n) oN
abbrev Ute (n:Nat):Orc R:=oN
abbrev Uyd (R:Type) (n:Nat):=JcH (R:=R) Tryz.prog (UkJ n) UdL n (43,[]) (Uuq n) (Ute n)
theorem UrW (n:Nat):Uyd R n (false,4,Ukc):=JkF (lo:=Uuq n) (cu:=Ute n) (pO pN (by kernel_rfl)) Ud (Ug8 n n) (JiE (F:=Ug8 n) Ud (Uqx n) (fun K _ _ _ _ _=>rfl) (fun _ _=>rfl) (fun L K _ _ _ _ _=>by show _=_; kernel_rfl) n) fun _ _=>rfl
theorem Uxz (n:Nat):Je6 (Uyd R n) (JaJ UdL (Jll Tryz.f137)):=pO (pC (UrW n) pN) (by kernel_rfl)
abbrev UxT:Sl (List SV):=(cH (.c (sP (Jlv .u32)) .n))
abbrev f137 (n:Nat) (K:List SV→O R):UxT.T (O R):=fun x1 x2=>UuG n x1 x2 (fun y1 y2=>K [vH y1,.p (.v (.int .u32 y2))])
abbrev Ut9 (n:Nat):FS:=fT [false,false] UxT (f137 n)
theorem UwZ (n:Nat):FSound Tryz.prog GI 137 (Ut9 n):=gd UdL n (UiB n) Tryz.func137 (.cons (UiB n) UxT (f137 n) (fun K _ _=>(Jkq (c:=Jll Tryz.f137) (by kernel_rfl) (Uxz n) K).trans (by kernel_rfl)) .nil) (by kernel_rfl)
def Uab:Ann:={ loops:=[(12,ids [8,9,10,11,12,13],ids [4,5,8,9,12]),(16,ids [8,9,10,11,12,13,15,16],ids [4,5,8,9,10,11,12,13,15]),(22,ids [8,9,10,11,12,13,15,17,18,151,152],ids [4,5,8,9,10,11,12,13,15,17,18]),(38,ids [8,9,10,11,12,13,15,21,22,207,208],ids [4,5,8,9,10,11,12,13,15,21,22])],cuts:=[(3,ids [0,1],ids [4,5]),(6,ids [0,1],ids [4,5]),(7,ids [0,1,8],ids [4,5]),(8,ids [8,9,10],ids [4,5]),(9,ids [8,9,10],ids [4,5]),(10,ids [8,9,10,11],ids [4,5]),(11,ids [8,9,10,11,12],ids [4,5]),(13,ids [8,9,10,11,12,13],ids [4,5,8,9,10,11,12,13]),(17,ids [8,9,10,11,12,13,15,16],ids [4,5,8,9,10,11,12,13,15,16]),(31,ids [8,9,10,11,12,13,15,17,18,19,20,151,152],ids [4,5,8,9,10,11,12,13,15,17,18,151,152]),(45,ids [8,9,10,11,12,13,15,21],ids [4,5,8,9,10,11,12,13])],frz:=[],rm:=[.sh,.id] }
abbrev UkG (n:Nat):Env:=eC 137 (Ut9 n) (eC 101 (Uhb n) (eC 58 (Uuh n) (eC 57 (UvK n) eN)))
theorem Uiu (n:Nat):EnvOK Tryz.prog GI (UkG n):=.cons (.cons (.cons (.cons (.nil) (Uxa n)) (UvQ n)) (UjB n)) (UwZ n)
def Ucm (n:Nat) (x1 x2 x3:LP) (x4:Int) (x5:LP) (x6 x7 x8:Int) (k0:LP→LP→LP→Int→LP→Int→Int→Int→O R) (k1:LP→LP→LP→Int→LP→Int→Int→Int→O R):O R :=
 bif (inR (IntKind.i64.wrap (x4 - 1)) ((x3).length)) then (Jj .u32 ((x3).getD ((IntKind.i64.wrap (x4 - 1):Int).toNat) (.v (.bool false))) fun e9=>let v10:=IntKind.u64.wrap (x8 + (IntKind.u64.wrap (e9))); bif (decide (v10≥1000000000)) then (k0 x1 x2 x3 x4 x5 x6 (IntKind.u64.wrap (x7 - 1)) v10) else (k1 x1 x2 x3 x4 x5 x6 (IntKind.u64.wrap (x7 - 1)) v10)) else none
def Ubm (n:Nat) (l0:LP→LP→LP→Int→LP→Int→Int→Int→O R) (x1 x2 x3:LP) (x4:Int) (x5:LP) (x6 x7 x8:Int) (k0:LP→LP→LP→Int→LP→Int→Int→O R):O R :=
 bif (decide (x7≥1000000000)) then (Ucm n x1 x2 x3 x4 x5 x6 x7 x8 (fun y9 y10 y11 y12 y13 y14 y15 y16=>k0 y9 y10 y11 y12 y13 y14 y15) (fun y17 y18 y19 y20 y21 y22 y23 y24=>l0 y17 y18 y19 y20 y21 y22 y23 y24)) else (bif (inR (IntKind.i64.wrap (x4 - 2)) ((x3).length)) then (Jj .u32 ((x3).getD ((IntKind.i64.wrap (x4 - 2):Int).toNat) (.v (.bool false))) fun e25=>let v26:=IntKind.u64.wrap (x7 * (IntKind.u64.wrap (e25))); let v27:=IntKind.i64.wrap ((IntKind.i64.wrap (x6 + x4)) - 2); bif (inR v27 ((x2).length)) then (Jj .u32 ((x2).getD ((v27:Int).toNat) (.v (.bool false))) fun e28=>let v29:=IntKind.u64.wrap ((IntKind.u64.wrap (x8 * 1000000000)) + (IntKind.u64.wrap (e28))); bif (bif false then true else (decide (v26>v29))) then (Ucm n x1 x2 x3 x4 x5 x6 x7 x8 (fun y30 y31 y32 y33 y34 y35 y36 y37=>k0 y30 y31 y32 y33 y34 y35 y36) (fun y38 y39 y40 y41 y42 y43 y44 y45=>l0 y38 y39 y40 y41 y42 y43 y44 y45)) else (k0 x1 x2 x3 x4 x5 x6 x7)) else none) else none)
def UaN (n:Nat):Nat→LP→LP→LP→Int→LP→Int→Int→Int→(LP→LP→LP→Int→LP→Int→Int→O R)→O R
 | 0,_,_,_,_,_,_,_,_,_=>none
 | m + 1,x1,x2,x3,x4,x5,x6,x7,x8,k0=>Ubm n (fun x1 x2 x3 x4 x5 x6 x7 x8=>UaN n m x1 x2 x3 x4 x5 x6 x7 x8 k0) x1 x2 x3 x4 x5 x6 x7 x8 k0
def Ufn (n:Nat) (x1 x2 x3:LP) (x4:Int) (x5:LP) (x6 x7 x8:Int) (k0:LP→LP→LP→Int→LP→Int→Int→O R):O R:=UaN n n x1 x2 x3 x4 x5 x6 x7 x8 k0
def Udv (n:Nat) (x1 x2 x3:LP) (x4:Int) (x5:LP) (x6 x7 x8 x9 x10 x11 x12 x13:Int) (k0:LP→LP→LP→Int→LP→Int→Int→Int→Int→Int→Int→O R):O R :=
 bif (inR (IntKind.i64.wrap (x6 + x10)) ((x2).length)) then (Jj .u32 ((x2).getD ((IntKind.i64.wrap (x6 + x10):Int).toNat) (.v (.bool false))) fun e14=>k0 x1 ((x2).set ((IntKind.i64.wrap (x6 + x10):Int).toNat) (.v (.int .u32 (IntKind.u32.wrap (x11))))) x3 x4 x5 x6 x7 x8 x9 x12 x13) else none
def Uco (n:Nat) (l0:LP→LP→LP→Int→LP→Int→Int→Int→Int→Int→Int→O R) (x1 x2 x3:LP) (x4:Int) (x5:LP) (x6 x7 x8 x9 x10 x11:Int) (k0:LP→LP→LP→Int→LP→Int→Int→Int→Int→O R):O R :=
 bif (decide (x11<x10)) then (bif (inR x11 ((x3).length)) then (Jj .u32 ((x3).getD ((x11:Int).toNat) (.v (.bool false))) fun e12=>let v13:=IntKind.u64.wrap (x7 * (IntKind.u64.wrap (e12))); bif (inR (IntKind.i64.wrap (x6 + x11)) ((x2).length)) then (Jj .u32 ((x2).getD ((IntKind.i64.wrap (x6 + x11):Int).toNat) (.v (.bool false))) fun e14=>bif decide (1000000000=0) then none else (let v15:=Int.tmod (IntKind.u64.wrap (x8 + v13)) 1000000000; let v16:=IntKind.i64.wrap ((IntKind.i64.wrap (e14)) - (IntKind.i64.wrap (v15))); bif decide (1000000000=0) then none else (let v17:=IntKind.u64.wrap (Int.tdiv (IntKind.u64.wrap (x8 + v13)) 1000000000); bif (decide (IntKind.i64.wrap (v16 - x9)<0)) then (let v18:=IntKind.i64.wrap ((IntKind.i64.wrap (v16 - x9)) + 1000000000); Udv n x1 x2 x3 x4 x5 x6 x7 v17 1 x11 v18 x10 x11 (fun y19 y20 y21 y22 y23 y24 y25 y26 y27 y28 y29=>l0 y19 y20 y21 y22 y23 y24 y25 y26 y27 y28 (IntKind.i64.wrap (y29 + 1)))) else (Udv n x1 x2 x3 x4 x5 x6 x7 v17 0 x11 (IntKind.i64.wrap (v16 - x9)) x10 x11 (fun y30 y31 y32 y33 y34 y35 y36 y37 y38 y39 y40=>l0 y30 y31 y32 y33 y34 y35 y36 y37 y38 y39 (IntKind.i64.wrap (y40 + 1))))))) else none) else none) else (k0 x1 x2 x3 x4 x5 x6 x7 x8 x9)
def UaE (n:Nat):Nat→LP→LP→LP→Int→LP→Int→Int→Int→Int→Int→Int→(LP→LP→LP→Int→LP→Int→Int→Int→Int→O R)→O R
 | 0,_,_,_,_,_,_,_,_,_,_,_,_=>none
 | m + 1,x1,x2,x3,x4,x5,x6,x7,x8,x9,x10,x11,k0=>Uco n (fun x1 x2 x3 x4 x5 x6 x7 x8 x9 x10 x11=>UaE n m x1 x2 x3 x4 x5 x6 x7 x8 x9 x10 x11 k0) x1 x2 x3 x4 x5 x6 x7 x8 x9 x10 x11 k0
def Ufo (n:Nat) (x1 x2 x3:LP) (x4:Int) (x5:LP) (x6 x7 x8 x9 x10 x11:Int) (k0:LP→LP→LP→Int→LP→Int→Int→Int→Int→O R):O R:=UaE n n x1 x2 x3 x4 x5 x6 x7 x8 x9 x10 x11 k0
def Ucp (n:Nat) (l0:LP→LP→LP→Int→LP→Int→Int→Int→Int→Int→Int→O R) (x1 x2 x3:LP) (x4:Int) (x5:LP) (x6 x7 x8 x9 x10 x11:Int) (k0:LP→LP→LP→Int→LP→Int→Int→Int→Int→O R):O R :=
 bif (decide (x11<x10)) then (bif (inR (IntKind.i64.wrap (x6 + x11)) ((x2).length)) then (Jj .u32 ((x2).getD ((IntKind.i64.wrap (x6 + x11):Int).toNat) (.v (.bool false))) fun e12=>bif (inR x11 ((x3).length)) then (Jj .u32 ((x3).getD ((x11:Int).toNat) (.v (.bool false))) fun e13=>let v14:=IntKind.u32.wrap (x9 + (IntKind.u32.wrap (e12 + e13))); bif decide (1000000000=0) then none else (bif (inR (IntKind.i64.wrap (x6 + x11)) ((x2).length)) then (Jj .u32 ((x2).getD ((IntKind.i64.wrap (x6 + x11):Int).toNat) (.v (.bool false))) fun e15=>bif decide (1000000000=0) then none else (let v16:=IntKind.u32.wrap (Int.tdiv v14 1000000000); l0 x1 ((x2).set ((IntKind.i64.wrap (x6 + x11):Int).toNat) (.v (.int .u32 (Int.tmod v14 1000000000)))) x3 x4 x5 x6 x7 x8 v16 x10 (IntKind.i64.wrap (x11 + 1)))) else none)) else none) else none) else (k0 x1 x2 x3 x4 x5 x6 x7 x8 x9)
def UaO (n:Nat):Nat→LP→LP→LP→Int→LP→Int→Int→Int→Int→Int→Int→(LP→LP→LP→Int→LP→Int→Int→Int→Int→O R)→O R
 | 0,_,_,_,_,_,_,_,_,_,_,_,_=>none
 | m + 1,x1,x2,x3,x4,x5,x6,x7,x8,x9,x10,x11,k0=>Ucp n (fun x1 x2 x3 x4 x5 x6 x7 x8 x9 x10 x11=>UaO n m x1 x2 x3 x4 x5 x6 x7 x8 x9 x10 x11 k0) x1 x2 x3 x4 x5 x6 x7 x8 x9 x10 x11 k0
def Ujb (n:Nat) (x1 x2 x3:LP) (x4:Int) (x5:LP) (x6 x7 x8 x9 x10 x11:Int) (k0:LP→LP→LP→Int→LP→Int→Int→Int→Int→O R):O R:=UaO n n x1 x2 x3 x4 x5 x6 x7 x8 x9 x10 x11 k0
def Ucn (n:Nat) (x1 x2 x3:LP) (x4:Int) (x5:LP) (x6 x7 x8:Int) (k0:LP→LP→LP→Int→LP→Int→O R):O R :=
 bif (inR (IntKind.i64.wrap (x6 + x4)) ((x2).length)) then (Jj .u32 ((x2).getD ((IntKind.i64.wrap (x6 + x4):Int).toNat) (.v (.bool false))) fun e9=>bif (inR x6 ((x5).length)) then (Jj .u32 ((x5).getD ((x6:Int).toNat) (.v (.bool false))) fun e10=>k0 x1 ((x2).set ((IntKind.i64.wrap (x6 + x4):Int).toNat) (.v (.int .u32 (IntKind.u32.wrap (x8))))) x3 x4 ((x5).set ((x6:Int).toNat) (.v (.int .u32 (IntKind.u32.wrap (x7))))) x6) else none) else none
def Ucl (n:Nat) (x1 x2 x3:LP) (x4:Int) (x5:LP) (x6:Int) (k0:LP→LP→LP→Int→LP→Int→O R):O R :=
 k0 x1 x2 x3 x4 x5 (IntKind.i64.wrap (x6 - 1))
def Ubl (n:Nat) (l0:LP→LP→LP→Int→LP→Int→O R) (x1 x2 x3:LP) (x4:Int) (x5:LP) (x6:Int) (k0:LP→LP→LP→O R):O R :=
 bif (decide (x6≥0)) then (bif (inR (IntKind.i64.wrap (x6 + x4)) ((x2).length)) then (Jj .u32 ((x2).getD ((IntKind.i64.wrap (x6 + x4):Int).toNat) (.v (.bool false))) fun e7=>let v8:=IntKind.u64.wrap ((IntKind.u64.wrap (e7)) * 1000000000); let v9:=IntKind.i64.wrap ((IntKind.i64.wrap (x6 + x4)) - 1); bif (inR v9 ((x2).length)) then (Jj .u32 ((x2).getD ((v9:Int).toNat) (.v (.bool false))) fun e10=>let v11:=IntKind.u64.wrap (v8 + (IntKind.u64.wrap (e10))); bif (inR (IntKind.i64.wrap (x4 - 1)) ((x3).length)) then (Jj .u32 ((x3).getD ((IntKind.i64.wrap (x4 - 1):Int).toNat) (.v (.bool false))) fun e12=>bif decide (IntKind.u64.wrap (e12)=0) then none else (let v13:=IntKind.u64.wrap (Int.tdiv v11 (IntKind.u64.wrap (e12))); bif (inR (IntKind.i64.wrap (x4 - 1)) ((x3).length)) then (Jj .u32 ((x3).getD ((IntKind.i64.wrap (x4 - 1):Int).toNat) (.v (.bool false))) fun e14=>bif decide (IntKind.u64.wrap (e14)=0) then none else (let v15:=Int.tmod v11 (IntKind.u64.wrap (e14)); Ufn n x1 x2 x3 x4 x5 x6 v13 v15 (fun y16 y17 y18 y19 y20 y21 y22=>Ufo n y16 y17 y18 y19 y20 y21 y22 0 0 y19 0 (fun y23 y24 y25 y26 y27 y28 y29 y30 y31=>bif (inR (IntKind.i64.wrap (y28 + y26)) ((y24).length)) then (Jj .u32 ((y24).getD ((IntKind.i64.wrap (y28 + y26):Int).toNat) (.v (.bool false))) fun e32=>let v33:=IntKind.i64.wrap ((IntKind.i64.wrap (e32)) - (IntKind.i64.wrap (y30))); bif (decide (IntKind.i64.wrap (v33 - y31)<0)) then (Ujb n y23 y24 y25 y26 y27 y28 (IntKind.u64.wrap (y29 - 1)) (IntKind.i64.wrap (v33 - y31)) 0 y26 0 (fun y34 y35 y36 y37 y38 y39 y40 y41 y42=>let v43:=IntKind.i64.wrap (y41 + (IntKind.i64.wrap (y42))); Ucn n y34 y35 y36 y37 y38 y39 y40 v43 (fun y44 y45 y46 y47 y48 y49=>Ucl n y44 y45 y46 y47 y48 y49 (fun y50 y51 y52 y53 y54 y55=>l0 y50 y51 y52 y53 y54 y55)))) else (Ucn n y23 y24 y25 y26 y27 y28 y29 (IntKind.i64.wrap (v33 - y31)) (fun y56 y57 y58 y59 y60 y61=>Ucl n y56 y57 y58 y59 y60 y61 (fun y62 y63 y64 y65 y66 y67=>l0 y62 y63 y64 y65 y66 y67)))) else none)))) else none)) else none) else none) else none) else (k0 x1 x2 x5)
def Uaz (n:Nat):Nat→LP→LP→LP→Int→LP→Int→(LP→LP→LP→O R)→O R
 | 0,_,_,_,_,_,_,_=>none
 | m + 1,x1,x2,x3,x4,x5,x6,k0=>Ubl n (fun x1 x2 x3 x4 x5 x6=>Uaz n m x1 x2 x3 x4 x5 x6 k0) x1 x2 x3 x4 x5 x6 k0
def Uja (n:Nat) (x1 x2 x3:LP) (x4:Int) (x5:LP) (x6:Int) (k0:LP→LP→LP→O R):O R:=Uaz n n x1 x2 x3 x4 x5 x6 k0
def Ufl (n:Nat) (x1 x2 x3:LP) (x4:Int) (x5:LP) (k0:LP→LP→O R):O R :=
 let v6:=IntKind.i64.wrap (((x2).length:Int) - x4); Uja n x1 x2 x3 x4 x5 (IntKind.i64.wrap (v6 - 1)) (fun y7 y8 y9=>Umr n y8 (fun y10=>bif (inR 0 ((y7).length)) then (Jj .u32 ((y7).getD ((0:Int).toNat) (.v (.bool false))) fun e11=>UuG n y10 e11 (fun y12 y13=>Umr n y9 (fun y14=>k0 y14 y12))) else none))
def Ufk (n:Nat) (x1 x2 x3:LP) (x4:Int) (k0:LP→LP→O R):O R :=
 let v5:=IntKind.i64.wrap (((x2).length:Int) - x4); bif (decide ((0:Int)≤v5)&&decide ((v5:Int)≤v5)&&Jbu (v5:Int).toNat 4) then (Ufl n x1 x2 x3 x4 (List.replicate (v5:Int).toNat (.v (.int .u32 0):PV)) (fun y6 y7=>k0 y6 y7)) else none
def Uhh (n:Nat) (x1 x2 x3:LP) (k0:LP→LP→O R):O R :=
 Ufk n x1 x2 x3 ((x3).length:Int) (fun y4 y5=>k0 y4 y5)
def Uhg (n:Nat) (x1 x2 x3:LP) (k0:LP→LP→O R):O R :=
 bif (Jgx 1 x2&&Jbu (0 + (x2).length) 4) then (bif (Jbu (([]++x2).length + 1) 4) then (Uhh n x1 (([]++x2)++([.v (.int .u32 0)]:LP)) x3 (fun y4 y5=>k0 y4 y5)) else none) else none
def Uhf (n:Nat) (x1 x2 x3:LP) (k0:LP→LP→O R):O R :=
 p58 n x1 x3 (fun y4=>p58 n x2 x3 (fun y5=>Uhg n x3 y4 y5 (fun y6 y7=>k0 y6 y7)))
def Uhe (n:Nat) (x1 x2:LP) (k0:LP→LP→O R):O R :=
 let v3:=IntKind.i64.wrap (((x2).length:Int) - 1); bif (inR v3 ((x2).length)) then (Jj .u32 ((x2).getD ((v3:Int).toNat) (.v (.bool false))) fun e4=>bif decide (IntKind.u32.wrap (e4 + 1)=0) then none else (let v5:=IntKind.u32.wrap (Int.tdiv 1000000000 (IntKind.u32.wrap (e4 + 1))); Uhf n x1 x2 ([.v (.int .u32 v5)]:LP) (fun y6 y7=>k0 y6 y7))) else none
def Ufm (n:Nat) (x1 x2:LP) (k0:LP→LP→O R):O R :=
 bif (((x2).length:Int) == 1) then (bif (inR 0 ((x2).length)) then (Jj .u32 ((x2).getD ((0:Int).toNat) (.v (.bool false))) fun e3=>UuG n x1 e3 (fun y4 y5=>Umr n ([.v (.int .u32 y5)]:LP) (fun y6=>k0 y4 y6))) else none) else (Uhe n x1 x2 (fun y7 y8=>k0 y7 y8))
def Usy (n:Nat) (x1 x2:LP) (k0:LP→LP→O R):O R :=
 p57 n x1 x2 (fun y3=>bif (decide (y3<0)) then (k0 [] x1) else (Ufm n x1 x2 (fun y4 y5=>k0 y4 y5)))
abbrev UgL (n:Nat):Code→Fr→Kc R→O R:=evC Tryz.prog (UkG n) Uab n (262,[])
noncomputable def Uj5:Code:=Jj4 (Jll Tryz.f115) [1,1]
abbrev Uhx:Sl (List SV):=(cH (cH .n))
abbrev UlC (n:Nat) (K:Kc R):Uhx.T (O R):=fun x1 x2=>Ufm n x1 x2 (fun y1 y2=>xC Uab 3 K .ret [vH y1,vH y2])
noncomputable def Uj6:Code:=Jj4 (Jll Tryz.f115) [1,1,1]
abbrev Uhy:Sl (List SV):=(cH (cH .n))
abbrev UlD (n:Nat) (K:Kc R):Uhy.T (O R):=fun x1 x2=>Uhe n x1 x2 (fun y1 y2=>xC Uab 6 K .ret [vH y1,vH y2])
noncomputable def Uj7:Code:=Jj4 (Jll Tryz.f115) [1,1,1,1]
abbrev Uhz:Sl (List SV):=(cH (cH (cO 143 .n)))
abbrev UlE (n:Nat) (K:Kc R):Uhz.T (O R):=fun x1 x2 x3=>Uhf n x1 x2 x3 (fun y1 y2=>xC Uab 7 K .ret [vH y1,vH y2])
noncomputable def Uj8:Code:=Jj4 (Jll Tryz.f115) [1,1,1,1,1]
abbrev UhA:Sl (List SV):=(cH (cH (cH .n)))
abbrev UlF (n:Nat) (K:Kc R):UhA.T (O R):=fun x1 x2 x3=>Uhg n x1 x2 x3 (fun y1 y2=>xC Uab 8 K .ret [vH y1,vH y2])
noncomputable def Uj9:Code:=Jj4 (Jll Tryz.f115) [1,1,1,1,1,1]
abbrev UhB:Sl (List SV):=(cH (cO 143 (cH .n)))
abbrev UlG (n:Nat) (K:Kc R):UhB.T (O R):=fun x1 x2 x3=>Uhh n x1 x2 x3 (fun y1 y2=>xC Uab 9 K .ret [vH y1,vH y2])
noncomputable def Uh0:Code:=Jj4 (Jll Tryz.f115) [1,1,1,1,1,1,1]
abbrev UfY:Sl (List SV):=(cH (cO 143 (cH (cI .n))))
abbrev UiK (n:Nat) (K:Kc R):UfY.T (O R):=fun x1 x2 x3 x4=>Ufk n x1 x2 x3 x4 (fun y1 y2=>xC Uab 10 K .ret [vH y1,vH y2])
noncomputable def Uh1:Code:=Jj4 (Jll Tryz.f115) [1,1,1,1,1,1,1,1]
abbrev UfZ:Sl (List SV):=(cH (cO 143 (cH (cI (cO 143 .n)))))
abbrev UiL (n:Nat) (K:Kc R):UfZ.T (O R):=fun x1 x2 x3 x4 x5=>Ufl n x1 x2 x3 x4 x5 (fun y1 y2=>xC Uab 11 K .ret [vH y1,vH y2])
noncomputable def Uh2:Code:=Jj4 (Jll Tryz.f115) [1,1,1,1,1,1,1,1,0,1,0,0,1,1]
abbrev Uf0:Sl (List SV):=(cH (cO 143 (cH (cI (cO 143 (cI .n))))))
abbrev UiM (n:Nat) (K:Kc R):Uf0.T (O R):=fun x1 x2 x3 x4 x5 x6=>Ucl n x1 x2 x3 x4 x5 x6 (fun y1 y2 y3 y4 y5 y6=>xC Uab 13 K .normal [dD,dD,vH y1,.own 143 y2,vH y3,vI y4,.own 143 y5,vI y6])
noncomputable def Uh3:Code:=Jj4 (Jll Tryz.f115) [1,1,1,1,1,1,1,1,0,1,0,0,1,0,0,1,1,0,0,0,1]
abbrev Uf1:Sl (List SV):=(cH (cO 143 (cH (cI (cO 143 (cI (.c (sP (Jlv .u64)) (.c (sP (Jlv .u64)) .n))))))))
abbrev UiN (n:Nat) (K:Kc R):Uf1.T (O R):=fun x1 x2 x3 x4 x5 x6 x7 x8=>Ucm n x1 x2 x3 x4 x5 x6 x7 x8 (fun y1 y2 y3 y4 y5 y6 y7 y8=>xC Uab 17 K (.exit 2) [dD,dD,vH y1,.own 143 y2,vH y3,vI y4,.own 143 y5,vI y6,.p (.v (.int .u64 y7)),.p (.v (.int .u64 y8))]) (fun y1 y2 y3 y4 y5 y6 y7 y8=>xC Uab 17 K .normal [dD,dD,vH y1,.own 143 y2,vH y3,vI y4,.own 143 y5,vI y6,.p (.v (.int .u64 y7)),.p (.v (.int .u64 y8))])
noncomputable def Uh4:Code:=Jj4 (Jll Tryz.f115) [1,1,1,1,1,1,1,1,0,1,0,0,1,0,0,1,1,1,1,0,1,0,0,1,1,0,0,1,1,1,1,1,1]
abbrev Uf2:Sl (List SV):=(cH (cO 143 (cH (cI (cO 143 (cI (.c (sP (Jlv .u64)) (.c (sP (Jlv .u64)) (cI (cI (cI (cI (cI .n)))))))))))))
abbrev UiO (n:Nat) (K:Kc R):Uf2.T (O R):=fun x1 x2 x3 x4 x5 x6 x7 x8 x9 x10 x11 x12 x13=>Udv n x1 x2 x3 x4 x5 x6 x7 x8 x9 x10 x11 x12 x13 (fun y1 y2 y3 y4 y5 y6 y7 y8 y9 y10 y11=>xC Uab 31 K .normal [dD,dD,vH y1,.own 143 y2,vH y3,vI y4,.own 143 y5,vI y6,.p (.v (.int .u64 y7)),.p (.v (.int .u64 y8)),vI y9,vI y10,vI y11])
noncomputable def Uh5:Code:=Jj4 (Jll Tryz.f115) [1,1,1,1,1,1,1,1,0,1,0,0,1,0,0,1,1,1,1,1,1,1]
abbrev Uf3:Sl (List SV):=(cH (cO 143 (cH (cI (cO 143 (cI (.c (sP (Jlv .u64)) (cI .n))))))))
abbrev UiP (n:Nat) (K:Kc R):Uf3.T (O R):=fun x1 x2 x3 x4 x5 x6 x7 x8=>Ucn n x1 x2 x3 x4 x5 x6 x7 x8 (fun y1 y2 y3 y4 y5 y6=>xC Uab 45 K .normal [dD,dD,vH y1,.own 143 y2,vH y3,vI y4,.own 143 y5,vI y6])
noncomputable def Uh6:Code:=Jj4 (Jll Tryz.f115) [1,1,1,1,1,1,1,1,0,1,0,0]
abbrev UbG:Sl (List SV):=(cH (cO 143 (cH (cI (cO 143 (cI .n))))))
abbrev Ue5 (n m:Nat) (K:Kc R):UbG.T (O R):=fun x1 x2 x3 x4 x5 x6=>Uaz n m x1 x2 x3 x4 x5 x6 (fun y1 y2 y3=>xL Uab 12 K (.exit 0) [dD,dD,vH y1,.own 143 y2,.own 143 y3])
abbrev Uno (n:Nat) (K:Kc R) (l0:UbG.T (O R)):UbG.T (O R):=fun x1 x2 x3 x4 x5 x6=>Ubl n l0 x1 x2 x3 x4 x5 x6 (fun y1 y2 y3=>xL Uab 12 K (.exit 0) [dD,dD,vH y1,.own 143 y2,.own 143 y3])
noncomputable def Uh7:Code:=Jj4 (Jll Tryz.f115) [1,1,1,1,1,1,1,1,0,1,0,0,1,0,0,1,1,0,0,0]
abbrev UbH:Sl (List SV):=(cH (cO 143 (cH (cI (cO 143 (cI (.c (sP (Jlv .u64)) (.c (sP (Jlv .u64)) .n))))))))
abbrev Ue6 (n m:Nat) (K:Kc R):UbH.T (O R):=fun x1 x2 x3 x4 x5 x6 x7 x8=>UaN n m x1 x2 x3 x4 x5 x6 x7 x8 (fun y1 y2 y3 y4 y5 y6 y7=>xL Uab 16 K (.exit 2) [dD,dD,vH y1,.own 143 y2,vH y3,vI y4,.own 143 y5,vI y6,.p (.v (.int .u64 y7))])
abbrev Unp (n:Nat) (K:Kc R) (l0:UbH.T (O R)):UbH.T (O R):=fun x1 x2 x3 x4 x5 x6 x7 x8=>Ubm n l0 x1 x2 x3 x4 x5 x6 x7 x8 (fun y1 y2 y3 y4 y5 y6 y7=>xL Uab 16 K (.exit 2) [dD,dD,vH y1,.own 143 y2,vH y3,vI y4,.own 143 y5,vI y6,.p (.v (.int .u64 y7))])
noncomputable def Uh8:Code:=Jj4 (Jll Tryz.f115) [1,1,1,1,1,1,1,1,0,1,0,0,1,0,0,1,1,1,1,0,1,0,0]
abbrev UbI:Sl (List SV):=(cH (cO 143 (cH (cI (cO 143 (cI (.c (sP (Jlv .u64)) (.c (sP (Jlv .u64)) (cI (cI (cI .n)))))))))))
abbrev Ue7 (n m:Nat) (K:Kc R):UbI.T (O R):=fun x1 x2 x3 x4 x5 x6 x7 x8 x9 x10 x11=>UaE n m x1 x2 x3 x4 x5 x6 x7 x8 x9 x10 x11 (fun y1 y2 y3 y4 y5 y6 y7 y8 y9=>xL Uab 22 K (.exit 4) [dD,dD,vH y1,.own 143 y2,vH y3,vI y4,.own 143 y5,vI y6,.p (.v (.int .u64 y7)),.p (.v (.int .u64 y8)),vI y9])
abbrev Unq (n:Nat) (K:Kc R) (l0:UbI.T (O R)):UbI.T (O R):=fun x1 x2 x3 x4 x5 x6 x7 x8 x9 x10 x11=>Uco n l0 x1 x2 x3 x4 x5 x6 x7 x8 x9 x10 x11 (fun y1 y2 y3 y4 y5 y6 y7 y8 y9=>xL Uab 22 K (.exit 4) [dD,dD,vH y1,.own 143 y2,vH y3,vI y4,.own 143 y5,vI y6,.p (.v (.int .u64 y7)),.p (.v (.int .u64 y8)),vI y9])
noncomputable def Uh9:Code:=Jj4 (Jll Tryz.f115) [1,1,1,1,1,1,1,1,0,1,0,0,1,0,0,1,1,1,1,1,1,0,1,0,1,1,0,1,0,0]
abbrev UbJ:Sl (List SV):=(cH (cO 143 (cH (cI (cO 143 (cI (.c (sP (Jlv .u64)) (cI (.c (sP (Jlv .u32)) (cI (cI .n)))))))))))
abbrev Ue8 (n m:Nat) (K:Kc R):UbJ.T (O R):=fun x1 x2 x3 x4 x5 x6 x7 x8 x9 x10 x11=>UaO n m x1 x2 x3 x4 x5 x6 x7 x8 x9 x10 x11 (fun y1 y2 y3 y4 y5 y6 y7 y8 y9=>xL Uab 38 K (.exit 6) [dD,dD,vH y1,.own 143 y2,vH y3,vI y4,.own 143 y5,vI y6,.p (.v (.int .u64 y7)),vI y8,.p (.v (.int .u32 y9))])
abbrev Unr (n:Nat) (K:Kc R) (l0:UbJ.T (O R)):UbJ.T (O R):=fun x1 x2 x3 x4 x5 x6 x7 x8 x9 x10 x11=>Ucp n l0 x1 x2 x3 x4 x5 x6 x7 x8 x9 x10 x11 (fun y1 y2 y3 y4 y5 y6 y7 y8 y9=>xL Uab 38 K (.exit 6) [dD,dD,vH y1,.own 143 y2,vH y3,vI y4,.own 143 y5,vI y6,.p (.v (.int .u64 y7)),vI y8,.p (.v (.int .u32 y9))])
abbrev UbO (n:Nat):Orc R:=oL Uab (UgL n) n 38 Uh9 UbJ (Ue8 n n) (oL Uab (UgL n) n 22 Uh8 UbI (Ue7 n n) (oL Uab (UgL n) n 16 Uh7 UbH (Ue6 n n) (oL Uab (UgL n) n 12 Uh6 UbG (Ue5 n n) oN)))
abbrev UbN (n:Nat):Orc R:=oC Uab (UgL n) 45 Uh5 Uf3 (UiP n) (oC Uab (UgL n) 31 Uh4 Uf2 (UiO n) (oC Uab (UgL n) 17 Uh3 Uf1 (UiN n) (oC Uab (UgL n) 13 Uh2 Uf0 (UiM n) (oC Uab (UgL n) 11 Uh1 UfZ (UiL n) (oC Uab (UgL n) 10 Uh0 UfY (UiK n) (oC Uab (UgL n) 9 Uj9 UhB (UlG n) (oC Uab (UgL n) 8 Uj8 UhA (UlF n) (oC Uab (UgL n) 7 Uj7 Uhz (UlE n) (oC Uab (UgL n) 6 Uj6 Uhy (UlD n) (oC Uab (UgL n) 3 Uj5 Uhx (UlC n) oN))))))))))
abbrev UgH (R:Type) (n:Nat):=JcH (R:=R) Tryz.prog (UkG n) Uab n (262,[]) (UbO n) (UbN n)
theorem Uoc (n:Nat):UgH R n (true,17,Uh3):=JkW (lo:=UbO n) (cu:=UbN n) (pO pN (by kernel_rfl)) Uf1 (UiN n) (fun K _ _ _ _ _ _ _ _=>by show _=_; kernel_rfl) fun _ _=>rfl
theorem Uog (n:Nat):UgH R n (false,16,Uh7):=JkF (lo:=UbO n) (cu:=UbN n) (pO (pC (Uoc n) pN) (by kernel_rfl)) UbH (Ue6 n n) (JiE (F:=Ue6 n) UbH (Unp n) (fun K _ _ _ _ _ _ _ _=>rfl) (fun _ _=>rfl) (fun L K _ _ _ _ _ _ _ _=>by show _=_; kernel_rfl) n) fun _ _=>rfl
theorem Uod (n:Nat):UgH R n (true,31,Uh4):=JkW (lo:=UbO n) (cu:=UbN n) (pO pN (by kernel_rfl)) Uf2 (UiO n) (fun K _ _ _ _ _ _ _ _ _ _ _ _ _=>by show _=_; kernel_rfl) fun _ _=>rfl
theorem Uoh (n:Nat):UgH R n (false,22,Uh8):=JkF (lo:=UbO n) (cu:=UbN n) (pO (pC (Uod n) pN) (by kernel_rfl)) UbI (Ue7 n n) (JiE (F:=Ue7 n) UbI (Unq n) (fun K _ _ _ _ _ _ _ _ _ _ _=>rfl) (fun _ _=>rfl) (fun L K _ _ _ _ _ _ _ _ _ _ _=>by show _=_; kernel_rfl) n) fun _ _=>rfl
theorem Uoi (n:Nat):UgH R n (false,38,Uh9):=JkF (lo:=UbO n) (cu:=UbN n) (pO pN (by kernel_rfl)) UbJ (Ue8 n n) (JiE (F:=Ue8 n) UbJ (Unr n) (fun K _ _ _ _ _ _ _ _ _ _ _=>rfl) (fun _ _=>rfl) (fun L K _ _ _ _ _ _ _ _ _ _ _=>by show _=_; kernel_rfl) n) fun _ _=>rfl
theorem Uoe (n:Nat):UgH R n (true,45,Uh5):=JkW (lo:=UbO n) (cu:=UbN n) (pO pN (by kernel_rfl)) Uf3 (UiP n) (fun K _ _ _ _ _ _ _ _=>by show _=_; kernel_rfl) fun _ _=>rfl
theorem Uob (n:Nat):UgH R n (true,13,Uh2):=JkW (lo:=UbO n) (cu:=UbN n) (pO pN (by kernel_rfl)) Uf0 (UiM n) (fun K _ _ _ _ _ _=>by show _=_; kernel_rfl) fun _ _=>rfl
theorem Uof (n:Nat):UgH R n (false,12,Uh6):=JkF (lo:=UbO n) (cu:=UbN n) (pO (pC (Uog n) (pC (Uoh n) (pC (Uoi n) (pC (Uoe n) (pC (Uob n) pN))))) (by kernel_rfl)) UbG (Ue5 n n) (JiE (F:=Ue5 n) UbG (Uno n) (fun K _ _ _ _ _ _=>rfl) (fun _ _=>rfl) (fun L K _ _ _ _ _ _=>by show _=_; kernel_rfl) n) fun _ _=>rfl
theorem Uoa (n:Nat):UgH R n (true,11,Uh1):=JkW (lo:=UbO n) (cu:=UbN n) (pO (pC (Uof n) pN) (by kernel_rfl)) UfZ (UiL n) (fun K _ _ _ _ _=>by show _=_; kernel_rfl) fun _ _=>rfl
theorem Uo (n:Nat):UgH R n (true,10,Uh0):=JkW (lo:=UbO n) (cu:=UbN n) (pO (pC (Uoa n) pN) (by kernel_rfl)) UfY (UiK n) (fun K _ _ _ _=>by show _=_; kernel_rfl) fun _ _=>rfl
theorem UrR (n:Nat):UgH R n (true,9,Uj9):=JkW (lo:=UbO n) (cu:=UbN n) (pO (pC (Uo n) pN) (by kernel_rfl)) UhB (UlG n) (fun K _ _ _=>by show _=_; kernel_rfl) fun _ _=>rfl
theorem UrQ (n:Nat):UgH R n (true,8,Uj8):=JkW (lo:=UbO n) (cu:=UbN n) (pO (pC (UrR n) pN) (by kernel_rfl)) UhA (UlF n) (fun K _ _ _=>by show _=_; kernel_rfl) fun _ _=>rfl
theorem UrP (n:Nat):UgH R n (true,7,Uj7):=JkW (lo:=UbO n) (cu:=UbN n) (pO (pC (UrQ n) pN) (by kernel_rfl)) Uhz (UlE n) (fun K _ _ _=>by show _=_; kernel_rfl) fun _ _=>rfl
theorem UrO (n:Nat):UgH R n (true,6,Uj6):=JkW (lo:=UbO n) (cu:=UbN n) (pO (pC (UrP n) pN) (by kernel_rfl)) Uhy (UlD n) (fun K _ _=>by show _=_; kernel_rfl) fun _ _=>rfl
theorem UrN (n:Nat):UgH R n (true,3,Uj5):=JkW (lo:=UbO n) (cu:=UbN n) (pO (pC (UrO n) pN) (by kernel_rfl)) Uhx (UlC n) (fun K _ _=>by show _=_; kernel_rfl) fun _ _=>rfl
theorem Uxs (n:Nat):Je6 (UgH R n) (JaJ Uab (Jll Tryz.f115)):=pO (pC (UrN n) pN) (by kernel_rfl)
abbrev UxP:Sl (List SV):=(cH (cH .n))
abbrev f115 (n:Nat) (K:List SV→O R):UxP.T (O R):=fun x1 x2=>Usy n x1 x2 (fun y1 y2=>K [vH y1,vH y2])
abbrev Url (n:Nat):FS:=fT [false,false] UxP (f115 n)
theorem Uuz (n:Nat):FSound Tryz.prog GI 115 (Url n):=gd Uab n (Uiu n) Tryz.func115 (.cons (Uiu n) UxP (f115 n) (fun K _ _=>(Jkq (c:=Jll Tryz.f115) (by kernel_rfl) (Uxs n) K).trans (by kernel_rfl)) .nil) (by kernel_rfl)
def UdI:Ann:={ loops:=[(1,ids [0,1],ids [0,4])],cuts:=[],frz:=[],rm:=[.id] }
abbrev Ukz (n:Nat):Env:=eC 115 (Url n) eN
theorem Uil (n:Nat):EnvOK Tryz.prog GI (Ukz n):=.cons (.nil) (Uuz n)
def Ufg (n:Nat) (l0:LP→LP→O R) (x1 x2:LP) (k0:LP→O R):O R :=
 bif (decide (((x2).length:Int)>0)) then (Usy n x1 x2 (fun y3 y4=>l0 x2 y4)) else (k0 x1)
def Ucg (n:Nat):Nat→LP→LP→(LP→O R)→O R
 | 0,_,_,_=>none
 | m + 1,x1,x2,k0=>Ufg n (fun x1 x2=>Ucg n m x1 x2 k0) x1 x2 k0
def Umq (n:Nat) (x1 x2:LP) (k0:LP→O R):O R:=Ucg n n x1 x2 k0
def UuC (n:Nat) (x1 x2:LP) (k0:LP→O R):O R :=
 Umq n x1 x2 (fun y3=>k0 y3)
abbrev UzD (n:Nat):Code→Fr→Kc R→O R:=evC Tryz.prog (Ukz n) UdI n (19,[])
noncomputable def UjW:Code:=Jj4 (Jll Tryz.f100) [1,0,0,0]
abbrev Uc1:Sl (List SV):=(cH (cH .n))
abbrev UgZ (n m:Nat) (K:Kc R):Uc1.T (O R):=fun x1 x2=>Ucg n m x1 x2 (fun y1=>xL UdI 1 K (.exit 0) [vH y1,dD])
abbrev Uqo (n:Nat) (K:Kc R) (l0:Uc1.T (O R)):Uc1.T (O R):=fun x1 x2=>Ufg n l0 x1 x2 (fun y1=>xL UdI 1 K (.exit 0) [vH y1,dD])
abbrev Uuk (n:Nat):Orc R:=oL UdI (UzD n) n 1 UjW Uc1 (UgZ n n) oN
abbrev Us9 (n:Nat):Orc R:=oN
abbrev Ux8 (R:Type) (n:Nat):=JcH (R:=R) Tryz.prog (Ukz n) UdI n (19,[]) (Uuk n) (Us9 n)
theorem UrE (n:Nat):Ux8 R n (false,1,UjW):=JkF (lo:=Uuk n) (cu:=Us9 n) (pO pN (by kernel_rfl)) Uc1 (UgZ n n) (JiE (F:=UgZ n) Uc1 (Uqo n) (fun K _ _=>rfl) (fun _ _=>rfl) (fun L K _ _=>by show _=_; kernel_rfl) n) fun _ _=>rfl
theorem Uxj (n:Nat):Je6 (Ux8 R n) (JaJ UdI (Jll Tryz.f100)):=pO (pC (UrE n) pN) (by kernel_rfl)
abbrev UxH:Sl (List SV):=(cH (cH .n))
abbrev f100 (n:Nat) (K:List SV→O R):UxH.T (O R):=fun x1 x2=>UuC n x1 x2 (fun y1=>K [vH y1])
abbrev Urk (n:Nat):FS:=fT [false,false] UxH (f100 n)
theorem Uuy (n:Nat):FSound Tryz.prog GI 100 (Urk n):=gd UdI n (Uil n) Tryz.func100 (.cons (Uil n) UxH (f100 n) (fun K _ _=>(Jkq (c:=Jll Tryz.f100) (by kernel_rfl) (Uxj n) K).trans (by kernel_rfl)) .nil) (by kernel_rfl)
def Ujs:Ann:={ loops:=[],cuts:=[(10,ids [2,5,10],ids [2,3])],frz:=[],rm:=[.id,.id] }
abbrev Uq4 (n:Nat):Env:=eC 100 (Urk n) (eC 99 (Uww n) (eC 98 (Uy4 n) (eC 97 (Uy3 n) (eC 96 (Uy2 n) eN))))
theorem Ulc (n:Nat):EnvOK Tryz.prog GI (Uq4 n):=.cons (.cons (.cons (.cons (.cons (.nil) (UBf n)) (UBg n)) (UBh n)) (Uzw n)) (Uuy n)
def UfB (n:Nat) (x1:Bool) (x2:ByteArray) (x3:Bool) (x4 x5:LP) (k0:Bool→LP→LP→Bool→O R):O R :=
 p98 n x2 (fun y6=>UuC n x4 y6 (fun y7=>bif (((y7).length:Int) == 1) then (bif (inR 0 ((y7).length)) then (Jj .u32 ((y7).getD ((0:Int).toNat) (.v (.bool false))) fun e8=>k0 x3 x4 y6 (bif true then (e8 == 1) else false)) else none) else (k0 x3 x4 y6 false)))
def p56 (n:Nat) (x1:ByteArray) (k0:Bool→LP→LP→Bool→O R):O R :=
 p96 n x1 (fun y2 y3 y4=>p97 n y2 (fun y5 y6 y7=>bif (!y7) then (k0 false [] [] false) else (p98 n y6 (fun y8=>bif (!y4) then (k0 y5 y8 ([.v (.int .u32 1)]:LP) true) else (p99 n y3 (fun y9=>bif (!y9) then (k0 false [] [] false) else (bif (bif false then true else eqS y3 (⟨#[48]⟩:ByteArray)) then (k0 false [] [] false) else (bif (bif false then true else eqS y3 (⟨#[49]⟩:ByteArray)) then (k0 false [] [] false) else (UfB n false y3 y5 y8 ([.v (.int .u32 1)]:LP) (fun y10 y11 y12 y13=>k0 y10 y11 y12 y13))))))))))
abbrev E56 (n:Nat):Code→Fr→Kc R→O R:=evC Tryz.prog (Uq4 n) Ujs n (65,[])
noncomputable def Ukj:Code:=Jj4 (Jll Tryz.f56) [1,1,1,1,1,1,1]
abbrev UhI:Sl (List SV):=(.c (sBx 99 (cB (.c sNl (.c sNl .n)))) (cS (.c (sBx 99 (cB (cH (cH .n)))) .n)))
abbrev UlX (n:Nat) (K:Kc R):UhI.T (O R):=fun x1 x2 x3 x4 x5=>UfB n x1 x2 x3 x4 x5 (fun y1 y2 y3 y4=>xC Ujs 10 K .ret [.bx 99 [vB y1,vH y2,vH y3],vB y4])
abbrev Uzc (n:Nat):Orc R:=oN
abbrev Uym (n:Nat):Orc R:=oC Ujs (E56 n) 10 Ukj UhI (UlX n) oN
abbrev K56 (R:Type) (n:Nat):=JcH (R:=R) Tryz.prog (Uq4 n) Ujs n (65,[]) (Uzc n) (Uym n)
theorem Ur5 (n:Nat):K56 R n (true,10,Ukj):=JkW (lo:=Uzc n) (cu:=Uym n) (pO pN (by kernel_rfl)) UhI (UlX n) (fun K _ _ _ _ _=>by show _=_; kernel_rfl) fun _ _=>rfl
theorem UBK (n:Nat):Je6 (K56 R n) (JaJ Ujs (Jll Tryz.f56)):=pO (pC (Ur5 n) pN) (by kernel_rfl)
abbrev t56:Sl (List SV):=(cS .n)
abbrev f56 (n:Nat) (K:List SV→O R):t56.T (O R):=fun x1=>p56 n x1 (fun y1 y2 y3 y4=>K [.p (.agg [.v (.bool y1),.sh y2,.sh y3]),vB y4])
abbrev Uug (n:Nat):FS:=fT [false] t56 (f56 n)
theorem UvP (n:Nat):FSound Tryz.prog GI 56 (Uug n):=gd Ujs n (Ulc n) Tryz.func56 (.cons (Ulc n) t56 (f56 n) (fun K _=>(Jkq (c:=Jll Tryz.f56) (by kernel_rfl) (UBK n) K).trans (by kernel_rfl)) .nil) (by kernel_rfl)
def Ubg:Ann:={ loops:=[(9,ids [4,5,6,37,38],ids [2,3,4,6])],cuts:=[(2,ids [0,4],ids [2,3]),(5,ids [0,4,5],ids [2,3]),(7,ids [4,5],ids [2,3]),(17,ids [6],ids [2,3])],frz:=[],rm:=[.id,.id] }
abbrev Urb (n:Nat):Env:=eN
theorem Ult (n:Nat):EnvOK Tryz.prog GI (Urb n):=.nil
def UcY (n:Nat) (l0:Bool→ByteArray→Int→Int→Int→O R) (x1:Bool) (x2:ByteArray) (x3 x4 x5:Int) (k0:Int→Bool→Bool→Int→O R) (k1:Bool→Int→O R):O R :=
 bif (decide (x5<x4)) then (bif (inR x5 (x2).size) then (bif (decide (Jc6 x2 x5<48)) then (k0 0 false x1 x3) else (bif (inR x5 (x2).size) then (bif (bif false then true else (decide (Jc6 x2 x5>57))) then (k0 0 false x1 x3) else (bif (inR x5 (x2).size) then (let v6:=IntKind.u8.wrap ((Jc6 x2 x5) - 48); let v7:=IntKind.i64.wrap ((IntKind.i64.wrap (10 * x3)) + (IntKind.i64.wrap (v6))); l0 x1 x2 v7 x4 (IntKind.i64.wrap (x5 + 1))) else none)) else none)) else none) else (k1 x1 x3)
def Ua4 (n:Nat):Nat→Bool→ByteArray→Int→Int→Int→(Int→Bool→Bool→Int→O R)→(Bool→Int→O R)→O R
 | 0,_,_,_,_,_,_,_=>none
 | m + 1,x1,x2,x3,x4,x5,k0,k1=>UcY n (fun x1 x2 x3 x4 x5=>Ua4 n m x1 x2 x3 x4 x5 k0 k1) x1 x2 x3 x4 x5 k0 k1
def Ujh (n:Nat) (x1:Bool) (x2:ByteArray) (x3 x4 x5:Int) (k0:Int→Bool→Bool→Int→O R) (k1:Bool→Int→O R):O R:=Ua4 n n x1 x2 x3 x4 x5 k0 k1
def UcX (n:Nat) (x1:Int) (k0:Int→Bool→O R):O R :=
 k0 x1 true
def Uek (n:Nat) (x1:Bool) (x2:ByteArray) (k0:Int→Bool→O R):O R :=
 Ujh n x1 x2 0 ((x2).size:Int) 0 (fun y3 y4 y5 y6=>k0 y3 y4) (fun y7 y8=>bif y7 then (UcX n (IntKind.i64.wrap (0 - y8)) (fun y9 y10=>k0 y9 y10)) else (UcX n y8 (fun y11 y12=>k0 y11 y12)))
def Ucv (n:Nat) (x1:ByteArray) (x2:Bool) (x3:ByteArray) (k0:Int→Bool→O R):O R :=
 bif (eqS x3 (⟨#[]⟩:ByteArray)) then (k0 0 false) else (bif (bif false then true else (decide (((x3).size:Int)>9))) then (k0 0 false) else (bif (inR 0 (x3).size) then (bif (Jc6 x3 0 == 48) then (bif (bif false then true else (bif true then (decide (((x1).size:Int)>1)) else false)) then (k0 0 false) else (Uek n x2 x3 (fun y4 y5=>k0 y4 y5))) else (Uek n x2 x3 (fun y6 y7=>k0 y6 y7))) else none))
def Ugv (n:Nat) (x1:ByteArray) (x2:Bool) (k0:Int→Bool→O R):O R :=
 bif x2 then (bif (Je5 1 ((x1).size:Int) (x1).size) then (Ucv n x1 x2 (ByteArray.extract x1 (1:Int).toNat (((x1).size:Int):Int).toNat) (fun y3 y4=>k0 y3 y4)) else none) else (Ucv n x1 x2 x1 (fun y5 y6=>k0 y5 y6))
def p95 (n:Nat) (x1:ByteArray) (k0:Int→Bool→O R):O R :=
 bif (!eqS x1 (⟨#[]⟩:ByteArray)) then (bif (inR 0 (x1).size) then (Ugv n x1 (bif true then (Jc6 x1 0 == 45) else false) (fun y2 y3=>k0 y2 y3)) else none) else (Ugv n x1 false (fun y4 y5=>k0 y4 y5))
abbrev E95 (n:Nat):Code→Fr→Kc R→O R:=evC Tryz.prog (Urb n) Ubg n (64,[])
noncomputable def UoW:Code:=Jj4 (Jll Tryz.f95) [1,1]
abbrev Um3:Sl (List SV):=(cS (cB .n))
abbrev Upi (n:Nat) (K:Kc R):Um3.T (O R):=fun x1 x2=>Ugv n x1 x2 (fun y1 y2=>xC Ubg 2 K .ret [vI y1,vB y2])
noncomputable def UoX:Code:=Jj4 (Jll Tryz.f95) [1,1,1,1]
abbrev Um4:Sl (List SV):=(cS (cB (cS .n)))
abbrev Upj (n:Nat) (K:Kc R):Um4.T (O R):=fun x1 x2 x3=>Ucv n x1 x2 x3 (fun y1 y2=>xC Ubg 5 K .ret [vI y1,vB y2])
noncomputable def UoY:Code:=Jj4 (Jll Tryz.f95) [1,1,1,1,1]
abbrev Um5:Sl (List SV):=(cB (cS .n))
abbrev Upk (n:Nat) (K:Kc R):Um5.T (O R):=fun x1 x2=>Uek n x1 x2 (fun y1 y2=>xC Ubg 7 K .ret [vI y1,vB y2])
noncomputable def Uko:Code:=Jj4 (Jll Tryz.f95) [1,1,1,1,1,1,1,1]
abbrev UhO:Sl (List SV):=(cI .n)
abbrev Um (n:Nat) (K:Kc R):UhO.T (O R):=fun x1=>UcX n x1 (fun y1 y2=>xC Ubg 17 K .ret [vI y1,vB y2])
noncomputable def UoZ:Code:=Jj4 (Jll Tryz.f95) [1,1,1,1,1,1,0,1,0,0]
abbrev UeH:Sl (List SV):=(cB (cS (cI (cI (cI .n)))))
abbrev Uma (n m:Nat) (K:Kc R):UeH.T (O R):=fun x1 x2 x3 x4 x5=>Ua4 n m x1 x2 x3 x4 x5 (fun y1 y2 y3 y4=>xL Ubg 9 K .ret [vI y1,vB y2,vB y3,vI y4]) (fun y1 y2=>xL Ubg 9 K (.exit 0) [dD,dD,vB y1,vI y2])
abbrev Us2 (n:Nat) (K:Kc R) (l0:UeH.T (O R)):UeH.T (O R):=fun x1 x2 x3 x4 x5=>UcY n l0 x1 x2 x3 x4 x5 (fun y1 y2 y3 y4=>xL Ubg 9 K .ret [vI y1,vB y2,vB y3,vI y4]) (fun y1 y2=>xL Ubg 9 K (.exit 0) [dD,dD,vB y1,vI y2])
abbrev Usv (n:Nat):Orc R:=oL Ubg (E95 n) n 9 UoZ UeH (Uma n n) oN
abbrev Usq (n:Nat):Orc R:=oC Ubg (E95 n) 17 Uko UhO (Um n) (oC Ubg (E95 n) 7 UoY Um5 (Upk n) (oC Ubg (E95 n) 5 UoX Um4 (Upj n) (oC Ubg (E95 n) 2 UoW Um3 (Upi n) oN)))
abbrev K95 (R:Type) (n:Nat):=JcH (R:=R) Tryz.prog (Urb n) Ubg n (64,[]) (Usv n) (Usq n)
theorem Uvh (n:Nat):K95 R n (false,9,UoZ):=JkF (lo:=Usv n) (cu:=Usq n) (pO pN (by kernel_rfl)) UeH (Uma n n) (JiE (F:=Uma n) UeH (Us2 n) (fun K _ _ _ _ _=>rfl) (fun _ _=>rfl) (fun L K _ _ _ _ _=>by show _=_; kernel_rfl) n) fun _ _=>rfl
theorem Ur9 (n:Nat):K95 R n (true,17,Uko):=JkW (lo:=Usv n) (cu:=Usq n) (pO pN (by kernel_rfl)) UhO (Um n) (fun K _=>by show _=_; kernel_rfl) fun _ _=>rfl
theorem Uvg (n:Nat):K95 R n (true,7,UoY):=JkW (lo:=Usv n) (cu:=Usq n) (pO (pC (Uvh n) (pC (Ur9 n) pN)) (by kernel_rfl)) Um5 (Upk n) (fun K _ _=>by show _=_; kernel_rfl) fun _ _=>rfl
theorem Uvf (n:Nat):K95 R n (true,5,UoX):=JkW (lo:=Usv n) (cu:=Usq n) (pO (pC (Uvg n) pN) (by kernel_rfl)) Um4 (Upj n) (fun K _ _ _=>by show _=_; kernel_rfl) fun _ _=>rfl
theorem Uve (n:Nat):K95 R n (true,2,UoW):=JkW (lo:=Usv n) (cu:=Usq n) (pO (pC (Uvf n) pN) (by kernel_rfl)) Um3 (Upi n) (fun K _ _=>by show _=_; kernel_rfl) fun _ _=>rfl
theorem UB1 (n:Nat):Je6 (K95 R n) (JaJ Ubg (Jll Tryz.f95)):=pO (pC (Uve n) pN) (by kernel_rfl)
abbrev t95:Sl (List SV):=(cS .n)
abbrev f95 (n:Nat) (K:List SV→O R):t95.T (O R):=fun x1=>p95 n x1 (fun y1 y2=>K [vI y1,vB y2])
abbrev Uwv (n:Nat):FS:=fT [false] t95 (f95 n)
theorem Uzv (n:Nat):FSound Tryz.prog GI 95 (Uwv n):=gd Ubg n (Ult n) Tryz.func95 (.cons (Ult n) t95 (f95 n) (fun K _=>(Jkq (c:=Jll Tryz.f95) (by kernel_rfl) (UB1 n) K).trans (by kernel_rfl)) .nil) (by kernel_rfl)
def Up7:Ann:={ loops:=[],cuts:=[],frz:=[],rm:=[.id] }
abbrev Utu (n:Nat):Env:=eC 95 (Uwv n) (eC 56 (Uug n) eN)
theorem Ul (n:Nat):EnvOK Tryz.prog GI (Utu n):=.cons (.cons (.nil) (UvP n)) (Uzv n)
def p53 (n:Nat) (x1:ByteArray) (k0:Bool→O R):O R :=
 p95 n x1 (fun y2 y3=>bif y3 then (k0 true) else (p56 n x1 (fun y4 y5 y6 y7=>k0 y7)))
abbrev UAz (n:Nat):Orc R:=oN
abbrev Uz5 (n:Nat):Orc R:=oN
abbrev K53 (R:Type) (n:Nat):=JcH (R:=R) Tryz.prog (Utu n) Up7 n (19,[]) (UAz n) (Uz5 n)
theorem UBH (n:Nat):Je6 (K53 R n) (JaJ Up7 (Jll Tryz.f53)):=pO pN (by kernel_rfl)
abbrev t53:Sl (List SV):=(cS .n)
abbrev f53 (n:Nat) (K:List SV→O R):t53.T (O R):=fun x1=>p53 n x1 (fun y1=>K [vB y1])
abbrev Urm (n:Nat):FS:=fT [false] t53 (f53 n)
theorem Usx (n:Nat):FSound Tryz.prog GI 53 (Urm n):=gd Up7 n (Ul n) Tryz.func53 (.cons (Ul n) t53 (f53 n) (fun K _=>(Jkq (c:=Jll Tryz.f53) (by kernel_rfl) (UBH n) K).trans (by kernel_rfl)) .nil) (by kernel_rfl)
end
end Go.Proofs.YtmgfmlhdnadglaaGreatDoor
set_option linter.unusedVariables false
set_option linter.unusedSimpArgs false
namespace Go.Proofs.YtmgfmlhdnadglaaGreatDoor
open Go Th Go.Proofs
def val (b:Nat):List Nat→Nat
 | []=>0
 | d::r=>d + b * val b r
def toL (b:Nat) (n:Nat):List Nat :=
 if h:n=0∨b<2 then [] else n % b::toL b (n / b)
termination_by n
decreasing_by
 have:2≤b:=by omega
 exact Nat.div_lt_self (by omega) this
theorem Uah (b:Nat):toL b 0=[]:=by unfold toL; simp
theorem Ua9 {b n:Nat} (hb:2≤b) (h:n≠0):toL b n=n % b::toL b (n / b):=by
 conv=>lhs; unfold toL
 rw [dif_neg (by omega)]
theorem Uas {b:Nat} (hb:2≤b) (n:Nat):val b (toL b n)=n:=by
 induction n using Nat.strongRecOn with
 | _ n ih =>
  by_cases h:n=0
  · subst h; rw [Uah]; rfl
  · rw [Ua9 hb h,val,ih (n / b) (Nat.div_lt_self (by omega) hb)]
    exact Nat.mod_add_div n b
theorem UaP {b:Nat} (hb:2≤b) (n:Nat):∀ d∈toL b n,d<b:=by
 induction n using Nat.strongRecOn with
 | _ n ih =>
  by_cases h:n=0
  · subst h; rw [Uah]; intro d hd; cases hd
  · rw [Ua9 hb h]
    intro d hd
    rcases List.mem_cons.1 hd with rfl | hd
    · exact Nat.mod_lt _ (by omega)
    · exact ih (n / b) (Nat.div_lt_self (by omega) hb) d hd
theorem UbK {b n:Nat} (hb:2≤b):toL b n=[]↔n=0:=by
 constructor
 · intro h
   have:=Uas hb n
   rw [h] at this
   exact this.symm
 · rintro rfl; exact Uah b
theorem UbL (b:Nat):∀ (x y:List Nat),val b (x++y)=val b x + b ^ x.length * val b y
 | [],y=>by simp [val]
 | d::x,y=>by
  simp only [List.cons_append,val,List.length_cons,UbL b x y,Nat.pow_succ]
  rw [Nat.mul_add,←Nat.mul_assoc,Nat.mul_comm (b ^ x.length) b]; omega
theorem Ub (b:Nat) (x:List Nat) (d:Nat):val b (x++[d])=val b x + b ^ x.length * d:=by
 rw [UbL]; simp [val]
theorem Und (b k:Nat):val b (List.replicate k 0)=0:=by
 induction k with
 | zero=>rfl
 | succ k ih=>simp [List.replicate_succ,val,ih]
theorem Ud3 {b:Nat} (hb:2≤b):∀ (l:List Nat),(∀ d∈l,d<b)→val b l<b ^ l.length
 | [],_=>by simp [val]
 | d::r,h=>by
  have h1:=Ud3 hb r fun x hx=>h x (List.mem_cons_of_mem _ hx)
  have h2:=h d (List.mem_cons_self ..)
  simp only [val,List.length_cons,Nat.pow_succ]
  have:b * val b r + b≤b ^ r.length * b:=by
   rw [Nat.mul_comm (b ^ r.length) b,←Nat.mul_succ]
   exact Nat.mul_le_mul_left b h1
  omega
theorem UhP {b:Nat} (hb:2≤b):∀ (l:List Nat),(∀ d∈l,d<b)→l.getLast? ≠ some 0→toL b (val b l)=l
 | [],_,_=>Uah b
 | d::r,h,hl=>by
  have hd:=h d (List.mem_cons_self ..)
  have hr:r.getLast? ≠ some 0:=by
   intro e
   cases r with
   | nil=>cases e
   | cons x r=>rw [List.getLast?_cons_cons] at hl; exact hl e
  have ih:=UhP hb r (fun x hx=>h x (List.mem_cons_of_mem _ hx)) hr
  have hne:val b (d::r)≠0:=by
   intro e
   simp only [val,Nat.add_eq_zero_iff,Nat.mul_eq_zero] at e
   have hv:val b r=0:=by omega
   rw [hv,Uah] at ih
   rw [←ih] at hl
   exact hl (by rw [e.1]; rfl)
  rw [Ua9 hb hne]
  simp only [val]
  rw [Nat.add_mul_mod_self_left,Nat.mod_eq_of_lt hd,Nat.add_mul_div_left _ _ (by omega),Nat.div_eq_of_lt hd,Nat.zero_add,ih]
theorem Ucz (b:Nat) (l:List Nat):val b (l++[0])=val b l:=by rw [Ub]; simp
theorem Uai {b:Nat} (hb:2≤b) (n k:Nat):(toL b n).length≤k↔n<b ^ k:=by
 induction k generalizing n with
 | zero =>
  rw [Nat.pow_zero]
  constructor
  · intro h
    have:toL b n=[]:=List.eq_nil_of_length_eq_zero (by omega)
    rw [UbK hb] at this; omega
  · intro h
    have:n=0:=by omega
    subst this
    rw [Uah]; exact Nat.le_refl _
 | succ k ih =>
  by_cases h:n=0
  · subst h; rw [Uah]; simp; exact Nat.pow_pos (by omega)
  · rw [Ua9 hb h,List.length_cons,Nat.succ_le_succ_iff,ih,Nat.pow_succ,Nat.mul_comm,Nat.div_lt_iff_lt_mul (by omega),Nat.mul_comm]
theorem Udd {b:Nat} (hb:2≤b) {x y:Nat} (h:(toL b x).length<(toL b y).length):x<y:=by
 have h1:=(Uai hb x (toL b x).length).1 (Nat.le_refl _)
 have h2:¬ y<b ^ (toL b x).length:=fun q=>by have:=(Uai hb y _).2 q; omega
 omega
theorem Ujn {b:Nat} (hb:2≤b) (n:Nat):(toL b n).getLast? ≠ some 0:=by
 induction n using Nat.strongRecOn with
 | _ n ih =>
  by_cases h:n=0
  · subst h; rw [Uah]; simp
  · rw [Ua9 hb h]
    by_cases h2:n / b=0
    · rw [h2,Uah]
      have:n<b:=by
       rcases (Nat.div_eq_zero_iff).1 h2 with q | q <;> omega
      rw [Nat.mod_eq_of_lt this]
      simpa using h
    · have:=ih (n / b) (Nat.div_lt_self (by omega) hb)
      rw [Ua9 hb h2] at this ⊢
      rw [List.getLast?_cons_cons]
      exact this
theorem UbR {l:List Nat} {i:Nat} (h:i<l.length):l.take (i + 1)=l.take i++[l.getD i 0]:=by
 rw [List.take_succ_eq_append_getElem h,List.getD_eq_getElem?_getD,List.getElem?_eq_getElem h]; rfl
theorem UaI (b:Nat) {l:List Nat} {i:Nat} (h:i<l.length):val b (l.take (i + 1))=val b (l.take i) + b ^ i * l.getD i 0:=by
 rw [UbR h,Ub,List.length_take,Nat.min_eq_left (by omega)]
theorem Uak {b:Nat} (hb:2≤b) {l:List Nat} (hl:∀ d∈l,d<b) {i:Nat} (h:i≤l.length):val b (l.take i)<b ^ i:=by
 have:=Ud3 hb (l.take i) fun x hx=>hl x (List.mem_of_mem_take hx)
 rwa [List.length_take,Nat.min_eq_left h] at this
theorem Uaf {b:Nat} (hb:2≤b) {l:List Nat} (hl:∀ d∈l,d<b) (i:Nat):l.getD i 0<b:=by
 rw [List.getD_eq_getElem?_getD]
 cases h:l[i]? with
 | none=>simp; omega
 | some x=>exact hl x (List.mem_of_getElem? h)
theorem Uap (b:Nat) (l:List Nat) (i:Nat) (h:i≤l.length):val b l=val b (l.take i) + b ^ i * val b (l.drop i):=by
 conv=>lhs; rw [←List.take_append_drop i l]
 rw [UbL,List.length_take,Nat.min_eq_left h]
theorem UdE {l:List Nat} {i:Nat} (d:Nat) (h:i<l.length):(l.set i d).take (i + 1)=l.take i++[d]:=by
 rw [UbR (by rw [List.length_set]; exact h),List.take_set_of_le (Nat.le_refl _),List.getD_eq_getElem?_getD,List.getElem?_set_self h]; rfl
theorem Ubo {b:Nat} {l:List Nat} (hl:∀ d∈l,d<b) {x:Nat} (hx:x<b) (i:Nat):∀ d∈l.set i x,d<b:=by
 intro d hd
 rcases List.mem_or_eq_of_mem_set hd with h | h
 · exact hl d h
 · rw [h]; exact hx
theorem Udf (b:Nat) {l:List Nat} {i:Nat} (d:Nat) (h:i<l.length):val b (l.set i d) + b ^ i * l.getD i 0=val b l + b ^ i * d:=by
 have h1:=Uap b (l.set i d) (i + 1) (by rw [List.length_set]; omega)
 have h2:=Uap b l (i + 1) (by omega)
 rw [UdE d h,List.drop_set_of_lt (by omega),Ub,List.length_take,Nat.min_eq_left (by omega)] at h1
 rw [UaI b h] at h2
 omega
theorem Ugz {b:Nat} (hb:2≤b) (n:Nat):∀ d∈List.replicate n 0,d<b:=by
 intro d hd
 rw [List.mem_replicate] at hd
 omega
theorem Uau (b:Nat) (l:List Nat) (i:Nat):val b (l.take (i + 1))=val b (l.take i) + b ^ i * l.getD i 0:=by
 by_cases h:i<l.length
 · exact UaI b h
 · rw [List.take_of_length_le (by omega),List.take_of_length_le (by omega),List.getD_eq_getElem?_getD,List.getElem?_eq_none (by omega)]; simp
theorem Udp {l:List Nat} {i:Nat} (h:l.length≤i):l.getD i 0=0:=by rw [List.getD_eq_getElem?_getD,List.getElem?_eq_none h]; rfl
theorem Ujx (b i v c s:Nat) (hb:0<b):v + b ^ i * (s % b) + b ^ (i + 1) * (s / b)=v + b ^ i * s:=by
 rw [Nat.pow_succ,Nat.mul_assoc,Nat.add_assoc,←Nat.mul_add,Nat.mod_add_div]
theorem UgC {l:List Nat} {i:Nat} (h:l.length=i + 1) (d:Nat):l.set i d=l.take i++[d]:=by
 have:=UdE d (l:=l) (i:=i) (by omega)
 rw [List.take_of_length_le (by rw [List.length_set]; omega)] at this
 exact this
theorem hT2:2≤10:=by decide
def ch (d:Nat):UInt8:=UInt8.ofNat (48 + d)
theorem Udj {d:Nat} (h:d<10):(ch d).toNat=48 + d:=by
 unfold ch; rw [UInt8.toNat_ofNat']; omega
def DL (a:Nat):List Nat:=(toL 10 a).reverse
abbrev dec (a:Nat):List UInt8:=Lib.decDigits a
theorem UaK {a:Nat} (h:a<10):dec a=[ch a]:=by unfold dec; rw [Lib.decDigits,dif_pos h]; rfl
theorem UgU {a:Nat} (h:10≤a):dec a=dec (a / 10)++[ch (a % 10)]:=by
 unfold dec; rw [Lib.decDigits,dif_neg (by omega)]; rfl
theorem Uan:dec 0=[48]:=UaK (by omega)
theorem Usj {x:Nat} (h0:x≠0) (hx:x<10):toL 10 x=[x]:=by
 rw [Ua9 hT2 h0,Nat.mod_eq_of_lt hx,Nat.div_eq_of_lt hx,Uah]
theorem UcC (a:Nat) (h:a≠0):dec a=(DL a).map ch:=by
 induction a using Nat.strongRecOn with
 | _ a ih =>
  unfold DL
  by_cases h1:a<10
  · rw [UaK h1,Usj h h1]; rfl
  · rw [UgU (by omega),ih (a / 10) (by omega) (by omega),Ua9 hT2 h,List.reverse_cons,List.map_append]; rfl
theorem UpR (a:Nat):∀ d∈DL a,d<10:=fun d h=>UaP hT2 a d (List.mem_reverse.1 h)
theorem UpS:DL 0=[]:=by unfold DL; rw [Uah]; rfl
theorem UsD {a:Nat}:DL a=[]↔a=0:=by unfold DL; rw [List.reverse_eq_nil_iff,UbK hT2]
theorem UsC (a k:Nat):(DL a).length≤k↔a<10 ^ k:=by unfold DL; rw [List.length_reverse,Uai hT2]
def vb (l:List Nat):Nat:=val 10 l.reverse
theorem Uvr:vb []=0:=rfl
theorem UgG (x y:List Nat):vb (x++y)=vb x * 10 ^ y.length + vb y:=by
 unfold vb; rw [List.reverse_append,UbL,List.length_reverse,Nat.mul_comm]; omega
theorem Une (d:Nat) (l:List Nat):vb (d::l)=d * 10 ^ l.length + vb l:=by
 have:=UgG [d] l
 rw [show vb [d]=d from by simp [vb,val]] at this
 exact this
theorem Ux5 (a:Nat):vb (DL a)=a:=by unfold vb DL; rw [List.reverse_reverse,Uas hT2]
theorem Ux6 (l:List Nat) (h:∀ d∈l,d<10):vb l<10 ^ l.length:=by
 have:=Ud3 hT2 l.reverse fun d hd=>h d (List.mem_reverse.1 hd)
 rwa [List.length_reverse] at this
theorem UvX {l:List Nat} (h:∀ d∈l,d<10) (hl:l.head? ≠ some 0):DL (vb l)=l:=by
 unfold DL vb
 rw [UhP hT2 l.reverse (fun d hd=>h d (List.mem_reverse.1 hd)) (by rw [List.getLast?_reverse]; exact hl),List.reverse_reverse]
theorem UpQ (a:Nat):(DL a).head? ≠ some 0:=by
 unfold DL; rw [List.head?_reverse]; exact Ujn hT2 a
def isD (c:UInt8):Bool:=decide (48≤c.toNat)&&decide (c.toNat≤57)
theorem UaM {c:UInt8}:isD c=true↔48≤c.toNat∧c.toNat≤57:=by simp [isD]
def dg (s:List UInt8):List Nat:=s.map fun c=>c.toNat - 48
theorem Utg {s:List UInt8} (h:∀ c∈s,isD c=true):∀ d∈dg s,d<10:=by
 intro d hd
 simp only [dg,List.mem_map] at hd
 obtain ⟨c,hc,rfl⟩:=hd
 have:=UaM.1 (h c hc)
 omega
theorem Uv3 {s:List UInt8} (h:∀ c∈s,isD c=true):(dg s).map ch=s:=by
 unfold dg
 rw [List.map_map]
 conv=>rhs; rw [←List.map_id s]
 apply List.map_congr_left
 intro c hc
 have:=UaM.1 (h c hc)
 simp only [Function.comp,id]
 apply UInt8.toNat_inj.1
 rw [Udj (by omega)]; omega
theorem Uwg {l:List Nat} (h:∀ d∈l,d<10):dg (l.map ch)=l:=by
 unfold dg
 rw [List.map_map]
 conv=>rhs; rw [←List.map_id l]
 apply List.map_congr_left
 intro d hd
 simp only [Function.comp,id]
 rw [Udj (h d hd)]; omega
theorem Uuj {l:List Nat} (h:∀ d∈l,d<10):∀ c∈l.map ch,isD c=true:=by
 intro c hc
 rw [List.mem_map] at hc
 obtain ⟨d,hd,rfl⟩:=hc
 have:=h d hd
 rw [UaM,Udj this]; omega
def ofD (s:List UInt8):Nat:=vb (dg s)
theorem UjA (s t:List UInt8):ofD (s++t)=ofD s * 10 ^ t.length + ofD t:=by
 unfold ofD dg; rw [List.map_append,UgG,List.length_map]
theorem Umm {s:List UInt8} (h:∀ c∈s,isD c=true):ofD s<10 ^ s.length:=by
 have:=Ux6 (dg s) (Utg h)
 rwa [dg,List.length_map] at this
theorem Ubi (a:Nat):∀ c∈dec a,isD c=true:=by
 by_cases h:a=0
 · subst h; rw [Uan]; intro c hc; simp at hc; subst hc; rfl
 · rw [UcC a h]; exact Uuj (UpR a)
theorem UcF (a:Nat):ofD (dec a)=a:=by
 by_cases h:a=0
 · subst h; rw [Uan]; rfl
 · rw [UcC a h,ofD,Uwg (UpR a),Ux5]
theorem UbS {a b:Nat} (h:dec a=dec b):a=b:=by rw [←UcF a,h,UcF]
theorem Uks (a:Nat):dec a≠[]:=by
 by_cases h:a=0
 · subst h; rw [Uan]; simp
 · rw [UcC a h]; simp [UsD,h]
theorem Ubj (a k:Nat) (hk:1≤k):(dec a).length≤k↔a<10 ^ k:=by
 by_cases h:a=0
 · subst h; rw [Uan]
   have:0<10 ^ k:=Nat.pow_pos (by omega)
   simp [hk,this]
 · rw [UcC a h,List.length_map,UsC]
theorem Ukt {s:List UInt8} (h:∀ c∈s,isD c=true) (h0:s≠[]) (h1:s.head? ≠ some 48∨s.length=1):dec (ofD s)=s:=by
 by_cases hz:s=[48]
 · subst hz; rw [show ofD [48]=0 from rfl,Uan]
 · have hh:s.head? ≠ some 48:=by
    rcases h1 with h1 | h1
    · exact h1
    · intro e
      match s,h1,e with
      | [c],_,e=>simp at e; subst e; exact hz rfl
   have hd:(dg s).head? ≠ some 0:=by
    match s,h0 with
    | c::r,_ =>
     simp only [dg,List.map_cons,List.head?_cons,ne_eq,Option.some.injEq] at hh ⊢
     have:=UaM.1 (h c (List.mem_cons_self ..))
     intro e
     exact hh (by apply UInt8.toNat_inj.1; show c.toNat=48; omega)
   have hD:=UvX (Utg h) hd
   have hne:ofD s≠0:=by
    intro e
    unfold ofD at e
    rw [e,UpS] at hD
    simp [dg] at hD
    exact h0 (by first | exact hD | exact hD.symm)
   rw [UcC _ hne]
   unfold ofD
   rw [hD,Uv3 h]
theorem Uic (a:Nat):(dec a).head? ≠ some 48∨(dec a).length=1:=by
 by_cases h:a=0
 · subst h; rw [Uan]; right; rfl
 · left
   rw [UcC a h]
   have:=UpQ a
   have hl:=UpR a
   cases hD:DL a with
   | nil=>simp
   | cons d r =>
    rw [hD] at this hl
    simp only [List.map_cons,List.head?_cons,ne_eq,Option.some.injEq] at this ⊢
    intro e
    have h2:=congrArg UInt8.toNat e
    rw [Udj (hl d (List.mem_cons_self ..))] at h2
    have:(48:UInt8).toNat=48:=rfl
    omega
def pad:Nat→Nat→List UInt8
 | 0,_=>[]
 | k + 1,d=>pad k (d / 10)++[ch (d % 10)]
theorem Un3 (k:Nat):pad k 0=List.replicate k 48:=by
 induction k with
 | zero=>rfl
 | succ k ih=>rw [pad,Nat.zero_div,ih,List.replicate_succ']; rfl
theorem UpM:∀ (k d:Nat),d<10 ^ (k + 1)→List.replicate (k + 1 - (dec d).length) 48++dec d=pad (k + 1) d
 | 0,d,h=>by
  have h':d<10:=by simpa using h
  rw [UaK h',pad,pad,Nat.mod_eq_of_lt h']; rfl
 | k + 1,d,h=>by
  by_cases h1:d<10
  · rw [UaK h1,pad,Nat.mod_eq_of_lt h1,Nat.div_eq_of_lt h1,Un3]; rfl
  · have ih:=UpM k (d / 10) (by rw [Nat.pow_succ] at h; omega)
    rw [UgU (by omega),pad,←ih,List.length_append,List.length_singleton,←List.append_assoc]
    congr 3
    omega
theorem Uid:∀ (k h d:Nat),h≠0→d<10 ^ k→dec (h * 10 ^ k + d)=dec h++pad k d
 | 0,h,d,h0,hd=>by
  have:d=0:=by simpa using hd
  subst this
  simp [pad]
 | k + 1,h,d,h0,hd=>by
  have hp:0<10 ^ k:=Nat.pow_pos (by omega)
  have e:h * 10 ^ (k + 1)=10 * (h * 10 ^ k):=by rw [Nat.pow_succ]; grind
  have hge:1 * 1≤h * 10 ^ k:=Nat.mul_le_mul (by omega) hp
  rw [Nat.pow_succ] at hd
  rw [UgU (by omega),pad,←List.append_assoc,←Uid k h (d / 10) h0 (by omega)]
  congr 3
  · omega
  · omega
theorem Ucw:∀ (s:List UInt8) (acc:Nat),(∀ c∈s,isD c=true)→(acc + 1) * 10 ^ s.length≤1000000000000000000→Lib.parseUint10 acc s=.ok (acc * 10 ^ s.length + ofD s)
 | [],acc,_,_=>by simp [Lib.parseUint10,ofD,dg,Uvr]
 | c::r,acc,h,hb=>by
  have hc:=UaM.1 (h c (List.mem_cons_self ..))
  rw [List.length_cons,Nat.pow_succ] at hb
  have hp:0<10 ^ r.length:=Nat.pow_pos (by omega)
  have h1:(acc + 1) * 10≤(acc + 1) * (10 ^ r.length * 10):=Nat.mul_le_mul_left _ (by omega)
  have ih:=Ucw r (acc * 10 + (c.toNat - 48)) (fun x hx=>h x (List.mem_cons_of_mem _ hx)) (by
   have:(acc * 10 + (c.toNat - 48) + 1) * 10 ^ r.length≤((acc + 1) * 10) * 10 ^ r.length:=Nat.mul_le_mul_right _ (by omega)
   have e:(acc + 1) * (10 ^ r.length * 10)=((acc + 1) * 10) * 10 ^ r.length:=by grind
   omega)
  rw [Lib.parseUint10,if_pos hc,if_neg (by omega),if_neg (by omega),ih]
  congr 1
  have:ofD (c::r)=(c.toNat - 48) * 10 ^ r.length + ofD r:=by
   unfold ofD dg; rw [List.map_cons,Une,List.length_map]
  rw [this,List.length_cons,Nat.pow_succ]
  grind
theorem Unn (s:List UInt8) (h:∀ c∈s,isD c=true) (h0:s≠[]) (hl:s.length≤18):Lib.atoiAll s=.ok (ofD s:Int):=by
 match s,h0 with
 | c::r,_ =>
  have hc:=UaM.1 (h c (List.mem_cons_self ..))
  have hlt:=Umm h
  have hp:10 ^ (c::r).length≤10 ^ 18:=Nat.pow_le_pow_right (by omega) hl
  have hu:=Ucw (c::r) 0 h (by rw [Nat.zero_add,Nat.one_mul]; exact hp)
  rw [Nat.zero_mul,Nat.zero_add] at hu
  have e1:¬ (c.toNat=43∨c.toNat=45):=by omega
  have e2:¬ c.toNat=45:=by omega
  unfold Lib.atoiAll
  simp only [if_neg e1,Lib.parseMag,List.cons_ne_nil,if_false,hu]
  rw [if_neg (by omega),if_neg (by omega),if_neg e2]
end Go.Proofs.YtmgfmlhdnadglaaGreatDoor
set_option linter.unusedVariables false
set_option maxRecDepth 100000
namespace Go.Proofs.YtmgfmlhdnadglaaGreatDoor
open Go Th Go.Proofs
noncomputable section
variable {R:Type}
def Ubd:Ann:={ loops:=[(6,ids [0,1,5,6,20,21],ids [0,4,5,6])],cuts:=[(3,ids [0,1],ids [4]),(11,ids [0,1,5,6,7,20,21],ids [0,1,4,5,6,20,21])],frz:=[],rm:=[.id] }
abbrev UkB (n:Nat):Env:=eC 101 (Uhb n) eN
theorem Uin (n:Nat):EnvOK Tryz.prog GI (UkB n):=.cons (.nil) (UjB n)
def Udr (n:Nat) (x1 x2 x3:LP) (x4 x5 x6 x7:Int) (k0:LP→LP→LP→Int→Int→Int→O R):O R :=
 bif decide (1000000000=0) then none else (bif (inR x5 ((x3).length)) then (Jj .u32 ((x3).getD ((x5:Int).toNat) (.v (.bool false))) fun e8=>bif decide (1000000000=0) then none else (let v9:=IntKind.u32.wrap (Int.tdiv x4 1000000000); k0 x1 x2 ((x3).set ((x5:Int).toNat) (.v (.int .u32 (Int.tmod x4 1000000000)))) v9 x6 x7)) else none)
def Uds (n:Nat) (l0:LP→LP→LP→Int→Int→Int→O R) (x1 x2 x3:LP) (x4 x5 x6:Int) (k0:LP→LP→Int→O R):O R :=
 bif (decide (x6<x5)) then (bif (inR x6 ((x1).length)) then (Jj .u32 ((x1).getD ((x6:Int).toNat) (.v (.bool false))) fun e7=>bif (decide (x6<((x2).length:Int))) then (bif (inR x6 ((x2).length)) then (Jj .u32 ((x2).getD ((x6:Int).toNat) (.v (.bool false))) fun e8=>let v9:=IntKind.u32.wrap ((IntKind.u32.wrap (x4 + e7)) + e8); Udr n x1 x2 x3 v9 x6 x5 x6 (fun y10 y11 y12 y13 y14 y15=>l0 y10 y11 y12 y13 y14 (IntKind.i64.wrap (y15 + 1)))) else none) else (Udr n x1 x2 x3 (IntKind.u32.wrap (x4 + e7)) x6 x5 x6 (fun y16 y17 y18 y19 y20 y21=>l0 y16 y17 y18 y19 y20 (IntKind.i64.wrap (y21 + 1))))) else none) else (k0 x1 x3 x4)
def Ubv (n:Nat):Nat→LP→LP→LP→Int→Int→Int→(LP→LP→Int→O R)→O R
 | 0,_,_,_,_,_,_,_=>none
 | m + 1,x1,x2,x3,x4,x5,x6,k0=>Uds n (fun x1 x2 x3 x4 x5 x6=>Ubv n m x1 x2 x3 x4 x5 x6 k0) x1 x2 x3 x4 x5 x6 k0
def Umt (n:Nat) (x1 x2 x3:LP) (x4 x5 x6:Int) (k0:LP→LP→Int→O R):O R:=Ubv n n x1 x2 x3 x4 x5 x6 k0
def UdS (n:Nat) (x1 x2:LP) (k0:LP→O R):O R :=
 let v3:=IntKind.i64.wrap (((x1).length:Int) + 1); bif (decide ((0:Int)≤v3)&&decide ((v3:Int)≤v3)&&Jbu (v3:Int).toNat 4) then (Umt n x1 x2 (List.replicate (v3:Int).toNat (.v (.int .u32 0):PV)) 0 ((x1).length:Int) 0 (fun y4 y5 y6=>bif (inR ((y4).length:Int) ((y5).length)) then (Jj .u32 ((y5).getD ((((y4).length:Int):Int).toNat) (.v (.bool false))) fun e7=>Umr n ((y5).set ((((y4).length:Int):Int).toNat) (.v (.int .u32 y6))) (fun y8=>k0 y8)) else none)) else none
def UvR (n:Nat) (x1 x2:LP) (k0:LP→O R):O R :=
 bif (decide (((x1).length:Int)<((x2).length:Int))) then (UdS n x2 x1 (fun y3=>k0 y3)) else (UdS n x1 x2 (fun y4=>k0 y4))
abbrev UvY (n:Nat):Code→Fr→Kc R→O R:=evC Tryz.prog (UkB n) Ubd n (55,[])
noncomputable def UjY:Code:=Jj4 (Jll Tryz.f103) [1,1]
abbrev Uhv:Sl (List SV):=(cH (cH .n))
abbrev Ulz (n:Nat) (K:Kc R):Uhv.T (O R):=fun x1 x2=>UdS n x1 x2 (fun y1=>xC Ubd 3 K .ret [vH y1])
noncomputable def UhU:Code:=Jj4 (Jll Tryz.f103) [1,1,1,1,0,1,0,0,1,1,0,0,1,1,1]
abbrev UfS:Sl (List SV):=(cH (cH (cO 143 (.c (sP (Jlv .u32)) (cI (cI (cI .n)))))))
abbrev UiE (n:Nat) (K:Kc R):UfS.T (O R):=fun x1 x2 x3 x4 x5 x6 x7=>Udr n x1 x2 x3 x4 x5 x6 x7 (fun y1 y2 y3 y4 y5 y6=>xC Ubd 11 K .normal [vH y1,vH y2,dD,.own 143 y3,.p (.v (.int .u32 y4)),vI y5,vI y6])
noncomputable def UjZ:Code:=Jj4 (Jll Tryz.f103) [1,1,1,1,0,1,0,0]
abbrev Uc3:Sl (List SV):=(cH (cH (cO 143 (.c (sP (Jlv .u32)) (cI (cI .n))))))
abbrev Ug1 (n m:Nat) (K:Kc R):Uc3.T (O R):=fun x1 x2 x3 x4 x5 x6=>Ubv n m x1 x2 x3 x4 x5 x6 (fun y1 y2 y3=>xL Ubd 6 K (.exit 0) [vH y1,dD,.own 143 y2,.p (.v (.int .u32 y3))])
abbrev Uqq (n:Nat) (K:Kc R) (l0:Uc3.T (O R)):Uc3.T (O R):=fun x1 x2 x3 x4 x5 x6=>Uds n l0 x1 x2 x3 x4 x5 x6 (fun y1 y2 y3=>xL Ubd 6 K (.exit 0) [vH y1,dD,.own 143 y2,.p (.v (.int .u32 y3))])
abbrev UnU (n:Nat):Orc R:=oL Ubd (UvY n) n 6 UjZ Uc3 (Ug1 n n) oN
abbrev UnE (n:Nat):Orc R:=oC Ubd (UvY n) 11 UhU UfS (UiE n) (oC Ubd (UvY n) 3 UjY Uhv (Ulz n) oN)
abbrev Uvx (R:Type) (n:Nat):=JcH (R:=R) Tryz.prog (UkB n) Ubd n (55,[]) (UnU n) (UnE n)
theorem Un4 (n:Nat):Uvx R n (true,11,UhU):=JkW (lo:=UnU n) (cu:=UnE n) (pO pN (by kernel_rfl)) UfS (UiE n) (fun K _ _ _ _ _ _ _=>by show _=_; kernel_rfl) fun _ _=>rfl
theorem UrH (n:Nat):Uvx R n (false,6,UjZ):=JkF (lo:=UnU n) (cu:=UnE n) (pO (pC (Un4 n) pN) (by kernel_rfl)) Uc3 (Ug1 n n) (JiE (F:=Ug1 n) Uc3 (Uqq n) (fun K _ _ _ _ _ _=>rfl) (fun _ _=>rfl) (fun L K _ _ _ _ _ _=>by show _=_; kernel_rfl) n) fun _ _=>rfl
theorem UrG (n:Nat):Uvx R n (true,3,UjY):=JkW (lo:=UnU n) (cu:=UnE n) (pO (pC (UrH n) pN) (by kernel_rfl)) Uhv (Ulz n) (fun K _ _=>by show _=_; kernel_rfl) fun _ _=>rfl
theorem Uxl (n:Nat):Je6 (Uvx R n) (JaJ Ubd (Jll Tryz.f103)):=pO (pC (UrG n) pN) (by kernel_rfl)
abbrev UxJ:Sl (List SV):=(cH (cH .n))
abbrev f103 (n:Nat) (K:List SV→O R):UxJ.T (O R):=fun x1 x2=>UvR n x1 x2 (fun y1=>K [vH y1])
abbrev UtU (n:Nat):FS:=fT [false,false] UxJ (f103 n)
theorem UwK (n:Nat):FSound Tryz.prog GI 103 (UtU n):=gd Ubd n (Uin n) Tryz.func103 (.cons (Uin n) UxJ (f103 n) (fun K _ _=>(Jkq (c:=Jll Tryz.f103) (by kernel_rfl) (Uxl n) K).trans (by kernel_rfl)) .nil) (by kernel_rfl)
def Ube:Ann:={ loops:=[(4,ids [0,1,5,6,13,14],ids [4,5])],cuts:=[(9,ids [0,1,5,7,8,13,14],ids [0,1,4,5,6,13,14]),(13,ids [0,1,5,6,7,8,13,14],ids [0,1,4,5,6,13,14])],frz:=[],rm:=[.id] }
abbrev UkC (n:Nat):Env:=eC 101 (Uhb n) eN
theorem Uio (n:Nat):EnvOK Tryz.prog GI (UkC n):=.cons (.nil) (UjB n)
def Uci (n:Nat) (x1 x2 x3:LP) (x4 x5 x6 x7 x8:Int) (k0:LP→LP→LP→Int→Int→Int→O R):O R :=
 bif (inR x5 ((x3).length)) then (Jj .u32 ((x3).getD ((x5:Int).toNat) (.v (.bool false))) fun e9=>k0 x1 x2 ((x3).set ((x5:Int).toNat) (.v (.int .u32 (IntKind.u32.wrap (x6))))) x4 x7 x8) else none
def UdT (n:Nat) (x1 x2 x3:LP) (x4 x5 x6 x7:Int) (k0:LP→LP→LP→Int→Int→Int→O R):O R :=
 bif (decide (x5<0)) then (Uci n x1 x2 x3 1 x4 (IntKind.i64.wrap (x5 + 1000000000)) x6 x7 (fun y8 y9 y10 y11 y12 y13=>k0 y8 y9 y10 y11 y12 y13)) else (Uci n x1 x2 x3 0 x4 x5 x6 x7 (fun y14 y15 y16 y17 y18 y19=>k0 y14 y15 y16 y17 y18 y19))
def Ucj (n:Nat) (l0:LP→LP→LP→Int→Int→Int→O R) (x1 x2 x3:LP) (x4 x5 x6:Int) (k0:LP→O R):O R :=
 bif (decide (x6<x5)) then (bif (inR x6 ((x1).length)) then (Jj .u32 ((x1).getD ((x6:Int).toNat) (.v (.bool false))) fun e7=>let v8:=IntKind.i64.wrap ((IntKind.i64.wrap (e7)) - x4); bif (decide (x6<((x2).length:Int))) then (bif (inR x6 ((x2).length)) then (Jj .u32 ((x2).getD ((x6:Int).toNat) (.v (.bool false))) fun e9=>let v10:=IntKind.i64.wrap (v8 - (IntKind.i64.wrap (e9))); UdT n x1 x2 x3 x6 v10 x5 x6 (fun y11 y12 y13 y14 y15 y16=>l0 y11 y12 y13 y14 y15 (IntKind.i64.wrap (y16 + 1)))) else none) else (UdT n x1 x2 x3 x6 v8 x5 x6 (fun y17 y18 y19 y20 y21 y22=>l0 y17 y18 y19 y20 y21 (IntKind.i64.wrap (y22 + 1))))) else none) else (k0 x3)
def Ua0 (n:Nat):Nat→LP→LP→LP→Int→Int→Int→(LP→O R)→O R
 | 0,_,_,_,_,_,_,_=>none
 | m + 1,x1,x2,x3,x4,x5,x6,k0=>Ucj n (fun x1 x2 x3 x4 x5 x6=>Ua0 n m x1 x2 x3 x4 x5 x6 k0) x1 x2 x3 x4 x5 x6 k0
def Umu (n:Nat) (x1 x2 x3:LP) (x4 x5 x6:Int) (k0:LP→O R):O R:=Ua0 n n x1 x2 x3 x4 x5 x6 k0
def UuD (n:Nat) (x1 x2:LP) (k0:LP→O R):O R :=
 bif (decide ((0:Int)≤((x1).length:Int))&&decide ((((x1).length:Int):Int)≤((x1).length:Int))&&Jbu (((x1).length:Int):Int).toNat 4) then (Umu n x1 x2 (List.replicate (((x1).length:Int):Int).toNat (.v (.int .u32 0):PV)) 0 ((x1).length:Int) 0 (fun y3=>Umr n y3 (fun y4=>k0 y4))) else none
abbrev UvZ (n:Nat):Code→Fr→Kc R→O R:=evC Tryz.prog (UkC n) Ube n (47,[])
noncomputable def Uj0:Code:=Jj4 (Jll Tryz.f104) [1,1,1,0,1,0,0,1,1,0,0,1,1,1]
abbrev Uhw:Sl (List SV):=(cH (cH (cO 143 (cI (cI (cI (cI .n)))))))
abbrev UlA (n:Nat) (K:Kc R):Uhw.T (O R):=fun x1 x2 x3 x4 x5 x6 x7=>UdT n x1 x2 x3 x4 x5 x6 x7 (fun y1 y2 y3 y4 y5 y6=>xC Ube 9 K .normal [vH y1,vH y2,dD,.own 143 y3,vI y4,vI y5,vI y6])
noncomputable def UhV:Code:=Jj4 (Jll Tryz.f104) [1,1,1,0,1,0,0,1,1,0,0,1,1,1,1,1]
abbrev UfT:Sl (List SV):=(cH (cH (cO 143 (cI (cI (cI (cI (cI .n))))))))
abbrev UiF (n:Nat) (K:Kc R):UfT.T (O R):=fun x1 x2 x3 x4 x5 x6 x7 x8=>Uci n x1 x2 x3 x4 x5 x6 x7 x8 (fun y1 y2 y3 y4 y5 y6=>xC Ube 13 K .normal [vH y1,vH y2,dD,.own 143 y3,vI y4,vI y5,vI y6])
noncomputable def Uj1:Code:=Jj4 (Jll Tryz.f104) [1,1,1,0,1,0,0]
abbrev Uc4:Sl (List SV):=(cH (cH (cO 143 (cI (cI (cI .n))))))
abbrev Ug2 (n m:Nat) (K:Kc R):Uc4.T (O R):=fun x1 x2 x3 x4 x5 x6=>Ua0 n m x1 x2 x3 x4 x5 x6 (fun y1=>xL Ube 4 K (.exit 0) [dD,.own 143 y1])
abbrev Uqr (n:Nat) (K:Kc R) (l0:Uc4.T (O R)):Uc4.T (O R):=fun x1 x2 x3 x4 x5 x6=>Ucj n l0 x1 x2 x3 x4 x5 x6 (fun y1=>xL Ube 4 K (.exit 0) [dD,.own 143 y1])
abbrev UnV (n:Nat):Orc R:=oL Ube (UvZ n) n 4 Uj1 Uc4 (Ug2 n n) oN
abbrev UnF (n:Nat):Orc R:=oC Ube (UvZ n) 13 UhV UfT (UiF n) (oC Ube (UvZ n) 9 Uj0 Uhw (UlA n) oN)
abbrev Uvy (R:Type) (n:Nat):=JcH (R:=R) Tryz.prog (UkC n) Ube n (47,[]) (UnV n) (UnF n)
theorem Un5 (n:Nat):Uvy R n (true,13,UhV):=JkW (lo:=UnV n) (cu:=UnF n) (pO pN (by kernel_rfl)) UfT (UiF n) (fun K _ _ _ _ _ _ _ _=>by show _=_; kernel_rfl) fun _ _=>rfl
theorem UrI (n:Nat):Uvy R n (true,9,Uj0):=JkW (lo:=UnV n) (cu:=UnF n) (pO (pC (Un5 n) pN) (by kernel_rfl)) Uhw (UlA n) (fun K _ _ _ _ _ _ _=>by show _=_; kernel_rfl) fun _ _=>rfl
theorem UrJ (n:Nat):Uvy R n (false,4,Uj1):=JkF (lo:=UnV n) (cu:=UnF n) (pO (pC (UrI n) pN) (by kernel_rfl)) Uc4 (Ug2 n n) (JiE (F:=Ug2 n) Uc4 (Uqr n) (fun K _ _ _ _ _ _=>rfl) (fun _ _=>rfl) (fun L K _ _ _ _ _ _=>by show _=_; kernel_rfl) n) fun _ _=>rfl
theorem Uxm (n:Nat):Je6 (Uvy R n) (JaJ Ube (Jll Tryz.f104)):=pO (pC (UrJ n) pN) (by kernel_rfl)
abbrev UxK:Sl (List SV):=(cH (cH .n))
abbrev f104 (n:Nat) (K:List SV→O R):UxK.T (O R):=fun x1 x2=>UuD n x1 x2 (fun y1=>K [vH y1])
abbrev UtV (n:Nat):FS:=fT [false,false] UxK (f104 n)
theorem UwL (n:Nat):FSound Tryz.prog GI 104 (UtV n):=gd Ube n (Uio n) Tryz.func104 (.cons (Uio n) UxK (f104 n) (fun K _ _=>(Jkq (c:=Jll Tryz.f104) (by kernel_rfl) (Uxm n) K).trans (by kernel_rfl)) .nil) (by kernel_rfl)
end
end Go.Proofs.YtmgfmlhdnadglaaGreatDoor
set_option linter.unusedVariables false
set_option linter.unusedSimpArgs false
namespace Go.Proofs.YtmgfmlhdnadglaaGreatDoor
open Go Th Go.Proofs
variable {R:Type}
theorem hB2:2≤1000000000:=by decide
def NN (a:Nat):List PV:=nl .u32 (toL 1000000000 a)
theorem UgF (n:Nat) (k0:List PV→Option R):∀ (m:Nat) (l:List Nat),(∀ d∈l,d<1000000000)→l.length<m→l.length<2 ^ 40→Uch n m (nl .u32 l) k0=k0 (NN (val 1000000000 l))
 | m + 1,l,hl,hm,hb=>by
  simp only [Uch,Ufh]
  rcases List.eq_nil_or_concat l with rfl | ⟨r,d,rfl⟩
  · simp (disch:=(first | omega | (simp only [JlE]; omega))) only [↓JlH,JlF,JlG]
    unfold NN
    rw [show val 1000000000 []=0 from rfl,Uah]
  · rw [List.concat_eq_append] at *
    have hlen:(r++[d]).length=r.length + 1:=by simp
    have hg:(r++[d]).getD r.length 0=d:=by rw [List.getD_eq_getElem?_getD,List.getElem?_append_right (Nat.le_refl _)]; simp
    have ht:(r++[d]).take r.length=r:=List.take_left
    have e1:((r.length + (0 + 1):Nat):Int) - 1=(r.length:Int):=by omega
    rw [hlen] at hm hb
    by_cases hd:d=0
    · subst hd
      have ih:=UgF n k0 m r (fun x hx=>hl x (by simp [hx])) (by omega) (by omega)
      simp (disch:=(first | omega | (simp only [JlE]; omega))) only [↓JlH,JlF,JlG,e1,hg,Jk0,ht,ih]
      rw [Ucz]
      rfl
    · have hne:(d == 0)=false:=by simpa using hd
      simp (disch:=(first | omega | (simp only [JlE]; omega))) only [↓JlH,JlF,JlG,e1,hg,Jk0,hne]
      congr 1
      unfold NN
      rw [UhP hB2 _ hl (by rw [List.getLast?_append]; simpa using hd)]
theorem Ubp (n:Nat) (l:List Nat) (hl:∀ d∈l,d<1000000000) (hn:l.length<n) (hb:l.length<2 ^ 40) (k0:List PV→Option R):Umr n (nl .u32 l) k0=k0 (NN (val 1000000000 l)):=by
 unfold Umr Ums
 exact UgF n _ n l hl hn hb
def Ued (a b:Nat):Int:=if a<b then -1 else if b<a then 1 else 0
theorem Ui (n:Nat) (la lb:List Nat) (ha:∀ d∈la,d<1000000000) (hb:∀ d∈lb,d<1000000000) (hlen:la.length=lb.length) (hl:la.length<2 ^ 40) (k0:Int→Option R) (k1:Option R) :
 ∀ (i m:Nat),i≤la.length→i<m→UcS n m (nl .u32 la) (nl .u32 lb) ((i:Int) - 1) k0 k1 =
  if val 1000000000 (la.take i)<val 1000000000 (lb.take i) then k0 (-1) else if val 1000000000 (lb.take i)<val 1000000000 (la.take i) then k0 1 else k1
 | 0,m + 1,_,_=>by
  simp only [UcS,UfC]
  simp (disch:=(first | omega | (simp only [JlE]; omega))) only [↓JlH,JlF,JlG]
  rfl
 | i + 1,m + 1,h,hm=>by
  have ih:=Ui n la lb ha hb hlen hl k0 k1 i m (by omega) (by omega)
  have e1:((i + 1:Nat):Int) - 1=(i:Int):=by omega
  have va:=Uak hB2 ha (i:=i) (by omega)
  have vb:=Uak hB2 hb (i:=i) (by omega)
  rw [UaI 1000000000 (by omega:i<la.length),UaI 1000000000 (by omega:i<lb.length)]
  simp only [UcS,UfC]
  simp (disch:=(first | omega | (simp only [JlE]; omega))) only [↓JlH,JlF,JlG,e1,JjY]
  have hd:=Uaf hB2 ha i
  have hd2:=Uaf hB2 hb i
  generalize la.getD i 0=x at *
  generalize lb.getD i 0=y at *
  by_cases he:x=y
  · subst he
    rw [bne_self_eq_false,cond_false,ih]
    simp only [Nat.add_lt_add_iff_right]
  · rw [bne_iff_ne.2 he,cond_true]
    by_cases hlt:x<y
    · have:1000000000 ^ i * x + 1000000000 ^ i≤1000000000 ^ i * y:=by rw [←Nat.mul_succ]; exact Nat.mul_le_mul_left _ hlt
      rw [Jkf (by omega),if_pos (by omega)]
    · have hgt:y<x:=by omega
      have:1000000000 ^ i * y + 1000000000 ^ i≤1000000000 ^ i * x:=by rw [←Nat.mul_succ]; exact Nat.mul_le_mul_left _ hgt
      rw [c_neg (by omega),if_neg (by omega),if_pos (by omega)]
theorem Ukq (n a b:Nat) (hla:(toL 1000000000 a).length<2 ^ 40) (hlb:(toL 1000000000 b).length<2 ^ 40) (hn:(toL 1000000000 a).length<n) (k0:Int→Option R):p57 n (NN a) (NN b) k0=k0 (Ued a b):=by
 unfold p57 NN Ued
 by_cases he:(toL 1000000000 a).length=(toL 1000000000 b).length
 · have:((toL 1000000000 a).length != (toL 1000000000 b).length)=false:=by simp [he]
   have hlp:=Ui n _ _ (UaP hB2 a) (UaP hB2 b) he hla (fun y4=>k0 y4) (k0 0) (toL 1000000000 a).length n (Nat.le_refl _) hn
   rw [List.take_length,show (toL 1000000000 b).take (toL 1000000000 a).length=toL 1000000000 b from by rw [he,List.take_length],Uas hB2,Uas hB2] at hlp
   simp only [Jjd]
   rw [JjY,this,cond_false,w64 (by omega) (by omega)]
   unfold UpE
   rw [hlp]
   split
   · rfl
   · split <;> rfl
 · have:((toL 1000000000 a).length != (toL 1000000000 b).length)=true:=by simpa using he
   by_cases hlt:(toL 1000000000 a).length<(toL 1000000000 b).length
   · have h2:=Udd hB2 hlt
     simp (disch:=(first | omega | (simp only [JlE]; omega))) only [↓JlH,JlF,JlG,JjY,this]
   · have h2:=Udd hB2 (x:=b) (y:=a) (by omega)
     simp (disch:=(first | omega | (simp only [JlE]; omega))) only [↓JlH,JlF,JlG,JjY,this]
theorem Ugw (n:Nat) (la lb:List Nat) (ha:∀ d∈la,d<1000000000) (hb:∀ d∈lb,d<1000000000) (hab:lb.length≤la.length) (hl:la.length<2 ^ 40) :
 ∀ (d m i:Nat) (o:List Nat) (c:Nat),d + i=la.length→d<m→o.length=la.length + 1→(∀ x∈o,x<1000000000)→c≤1→val 1000000000 (o.take i) + 1000000000 ^ i * c=val 1000000000 (la.take i) + val 1000000000 (lb.take i) →
  ∃ (o':List Nat) (c':Nat),(∀ k0:List PV→List PV→Int→Option R,Ubv n m (nl .u32 la) (nl .u32 lb) (nl .u32 o) c la.length i k0=k0 (nl .u32 la) (nl .u32 o') c')∧o'.length=la.length + 1∧(∀ x∈o',x<1000000000)∧c'≤1 ∧
   val 1000000000 (o'.take la.length) + 1000000000 ^ la.length * c'=val 1000000000 la + val 1000000000 lb
 | 0,m + 1,i,o,c,hd,hm,ho,hlt,hc,hv=>by
  have hi:i=la.length:=by omega
  subst hi
  refine ⟨o,c,fun k0=>?_,ho,hlt,hc,?_⟩
  · simp only [Ubv,Uds]
    simp (disch:=(first | omega | (simp only [JlE]; omega))) only [↓JlH,JlF,JlG]
  · rw [hv,List.take_length,List.take_of_length_le hab]
 | d + 1,m + 1,i,o,c,hd,hm,ho,hlt,hc,hv=>by
  have hx:=Uaf hB2 ha i
  have hy:=Uaf hB2 hb i
  have hs2:c + la.getD i 0 + lb.getD i 0<2 * 1000000000:=by omega
  have step:=Ugw n la lb ha hb hab hl d m (i + 1) (o.set i ((c + la.getD i 0 + lb.getD i 0) % 1000000000)) ((c + la.getD i 0 + lb.getD i 0) / 1000000000) (by omega) (by omega) (by rw [List.length_set]; exact ho)
   (Ubo hlt (Nat.mod_lt _ (by decide)) i) (by have:=Nat.div_lt_of_lt_mul (show c + la.getD i 0 + lb.getD i 0<1000000000 * 2 by omega); omega)
   (by rw [UdE _ (by omega),Ub,List.length_take,Nat.min_eq_left (by omega),Ujx 1000000000 i _ c _ (by decide),Uau 1000000000 la,Uau 1000000000 lb,Nat.mul_add,Nat.mul_add]; omega)
  obtain ⟨o',c',h1,h2⟩:=step
  refine ⟨o',c',fun k0=>?_,h2⟩
  rw [←h1 k0]
  have e2:((i:Int) + 1)=((i + 1:Nat):Int):=by omega
  simp only [Ubv,Uds,Udr]
  by_cases hi:i<lb.length
  · have e3:((c:Int) + ((la.getD i 0:Nat):Int) + ((lb.getD i 0:Nat):Int))=((c + la.getD i 0 + lb.getD i 0:Nat):Int):=by omega
    simp (disch:=(first | omega | (simp only [JlE]; omega))) only [↓JlH,JlF,JlG,e3,e2,JlB,JlC]
  · have h0:=Udp (l:=lb) (i:=i) (by omega)
    rw [h0] at *
    have e3:((c:Int) + ((la.getD i 0:Nat):Int))=((c + la.getD i 0 + 0:Nat):Int):=by omega
    simp (disch:=(first | omega | (simp only [JlE]; omega))) only [↓JlH,JlF,JlG,e3,e2,JlB,JlC]
theorem UrD (n a b:Nat) (hla:(toL 1000000000 a).length<2 ^ 30) (hlb:(toL 1000000000 b).length<2 ^ 30) (hna:(toL 1000000000 a).length + 1<n) (hnb:(toL 1000000000 b).length + 1<n) (k0:List PV→Option R):UvR n (NN a) (NN b) k0=k0 (NN (a + b)):=by
 have key:∀ x y:Nat,(toL 1000000000 x).length<2 ^ 30→(toL 1000000000 y).length≤(toL 1000000000 x).length→(toL 1000000000 x).length + 1<n→UdS n (NN x) (NN y) k0=k0 (NN (x + y)):=by
  intro x y hx hyx hn
  obtain ⟨o',c',h1,h2,h3,h4,h5⟩:=Ugw (R:=R) n (toL 1000000000 x) (toL 1000000000 y) (UaP hB2 x) (UaP hB2 y) hyx (by omega)
   (toL 1000000000 x).length n 0 (List.replicate ((toL 1000000000 x).length + 1) 0) 0 (by omega) (by omega) (by rw [List.length_replicate]) (Ugz hB2 _) (by omega) (by simp [val])
  rw [Uas hB2,Uas hB2] at h5
  have ht:=Ubp n (o'.set (toL 1000000000 x).length c') (Ubo h3 (by omega) _) (by rw [List.length_set]; omega) (by rw [List.length_set]; omega) k0
  rw [UgC h2,Ub,List.length_take,Nat.min_eq_left (by omega),h5] at ht
  have e1:((toL 1000000000 x).length:Int) + 1=(((toL 1000000000 x).length + 1:Nat):Int):=by omega
  unfold UdS NN Umt
  rw [show ((0:Nat):Int)=0 from rfl] at h1
  simp (disch:=(first | omega | (simp only [JlE]; omega))) only [↓JlH,JlF,JlG,e1,h1,UgC h2]
  exact ht
 unfold UvR
 have l1:(NN a).length=(toL 1000000000 a).length:=Jjd _ _
 have l2:(NN b).length=(toL 1000000000 b).length:=Jjd _ _
 rw [l1,l2]
 by_cases h:(toL 1000000000 a).length<(toL 1000000000 b).length
 · rw [Jkf (by omega),Nat.add_comm]
   exact key b a hlb (by omega) hnb
 · rw [c_neg (by omega)]
   exact key a b hla (by omega) hna
theorem Uef (n:Nat) (la lb:List Nat) (ha:∀ d∈la,d<1000000000) (hb:∀ d∈lb,d<1000000000) (hab:lb.length≤la.length) (hl:la.length<2 ^ 40) :
 ∀ (d m i:Nat) (o:List Nat) (c:Nat),d + i=la.length→d<m→o.length=la.length→(∀ x∈o,x<1000000000)→c≤1→val 1000000000 (la.take i) + 1000000000 ^ i * c=val 1000000000 (o.take i) + val 1000000000 (lb.take i) →
  ∃ (o':List Nat) (c':Nat),(∀ k0:List PV→Option R,Ua0 n m (nl .u32 la) (nl .u32 lb) (nl .u32 o) c la.length i k0=k0 (nl .u32 o'))∧o'.length=la.length∧(∀ x∈o',x<1000000000)∧c'≤1 ∧
   val 1000000000 la + 1000000000 ^ la.length * c'=val 1000000000 o' + val 1000000000 lb
 | 0,m + 1,i,o,c,hd,hm,ho,hlt,hc,hv=>by
  have hi:i=la.length:=by omega
  subst hi
  refine ⟨o,c,fun k0=>?_,ho,hlt,hc,?_⟩
  · simp only [Ua0,Ucj]
    simp (disch:=(first | omega | (simp only [JlE]; omega))) only [↓JlH,JlF,JlG]
  · rw [List.take_length,List.take_of_length_le (by omega),List.take_of_length_le hab] at hv
    exact hv
 | d + 1,m + 1,i,o,c,hd,hm,ho,hlt,hc,hv=>by
  have hx:=Uaf hB2 ha i
  have hy:=Uaf hB2 hb i
  have step:∀ (dg c':Nat),dg<1000000000→c'≤1→la.getD i 0 + 1000000000 * c'=dg + c + lb.getD i 0→_:=fun dg c' h1 h2 h3 =>
   Uef n la lb ha hb hab hl d m (i + 1) (o.set i dg) c' (by omega) (by omega) (by rw [List.length_set]; exact ho) (Ubo hlt h1 i) h2
   (by
     rw [UdE _ (by omega),Ub,List.length_take,Nat.min_eq_left (by omega),Uau 1000000000 la,Uau 1000000000 lb,Nat.pow_succ,Nat.mul_assoc]
     have:1000000000 ^ i * (la.getD i 0 + 1000000000 * c')=1000000000 ^ i * (dg + c + lb.getD i 0):=by rw [h3]
     rw [Nat.mul_add,Nat.mul_add,Nat.mul_add] at this
     omega)
  have e2:((i:Int) + 1)=((i + 1:Nat):Int):=by omega
  by_cases hneg:la.getD i 0<c + lb.getD i 0
  · obtain ⟨o',c',h1,h2⟩:=step (la.getD i 0 + 1000000000 - c - lb.getD i 0) 1 (by omega) (by omega) (by omega)
    refine ⟨o',c',fun k0=>?_,h2⟩
    rw [←h1 k0]
    simp only [Ua0,Ucj,UdT,Uci]
    by_cases hi:i<lb.length
    · have e3:((la.getD i 0:Nat):Int) - (c:Int) - ((lb.getD i 0:Nat):Int) + 1000000000=((la.getD i 0 + 1000000000 - c - lb.getD i 0:Nat):Int):=by omega
      simp (disch:=(first | omega | (simp only [JlE]; omega))) only [↓JlH,JlF,JlG,e3,e2]
      rfl
    · have h0:=Udp (l:=lb) (i:=i) (by omega)
      have e3:((la.getD i 0:Nat):Int) - (c:Int) + 1000000000=((la.getD i 0 + 1000000000 - c - lb.getD i 0:Nat):Int):=by omega
      simp (disch:=(first | omega | (simp only [JlE]; omega))) only [↓JlH,JlF,JlG,e3,e2]
      rfl
  · obtain ⟨o',c',h1,h2⟩:=step (la.getD i 0 - c - lb.getD i 0) 0 (by omega) (by omega) (by omega)
    refine ⟨o',c',fun k0=>?_,h2⟩
    rw [←h1 k0]
    simp only [Ua0,Ucj,UdT,Uci]
    by_cases hi:i<lb.length
    · have e3:((la.getD i 0:Nat):Int) - (c:Int) - ((lb.getD i 0:Nat):Int)=((la.getD i 0 - c - lb.getD i 0:Nat):Int):=by omega
      simp (disch:=(first | omega | (simp only [JlE]; omega))) only [↓JlH,JlF,JlG,e3,e2]
      rfl
    · have h0:=Udp (l:=lb) (i:=i) (by omega)
      have e3:((la.getD i 0:Nat):Int) - (c:Int)=((la.getD i 0 - c - lb.getD i 0:Nat):Int):=by omega
      simp (disch:=(first | omega | (simp only [JlE]; omega))) only [↓JlH,JlF,JlG,e3,e2]
      rfl
theorem Uoq {x y:Nat} (h:x≤y):(toL 1000000000 x).length≤(toL 1000000000 y).length:=by
 by_cases hq:(toL 1000000000 x).length≤(toL 1000000000 y).length
 · exact hq
 · have:=Udd hB2 (x:=y) (y:=x) (by omega); omega
theorem Ui6 (n a b:Nat) (hba:b≤a) (hla:(toL 1000000000 a).length<2 ^ 30) (hna:(toL 1000000000 a).length + 1<n) (k0:List PV→Option R):UuD n (NN a) (NN b) k0=k0 (NN (a - b)):=by
 obtain ⟨o',c',h1,h2,h3,h4,h5⟩:=Uef (R:=R) n (toL 1000000000 a) (toL 1000000000 b) (UaP hB2 a) (UaP hB2 b) (Uoq hba) (by omega)
  (toL 1000000000 a).length n 0 (List.replicate (toL 1000000000 a).length 0) 0 (by omega) (by omega) (by rw [List.length_replicate]) (Ugz hB2 _) (by omega) (by simp [val])
 rw [Uas hB2,Uas hB2] at h5
 have hlt:=Ud3 hB2 o' h3
 rw [h2] at hlt
 have hc:c'=0:=by
  rcases Nat.lt_or_ge 0 c' with q | q
  · have:c'=1:=by omega
    subst this; omega
  · omega
 subst hc
 have ht:=Ubp n o' h3 (by omega) (by omega) k0
 rw [show val 1000000000 o'=a - b from by omega] at ht
 unfold UuD NN Umu
 rw [show ((0:Nat):Int)=0 from rfl] at h1
 simp (disch:=(first | omega | (simp only [JlE]; omega))) only [↓JlH,JlF,JlG,h1]
 exact ht
theorem Ueo (n:Nat) (la:List Nat) (by_:Nat) (hby:0<by_) (hby2:by_<4294967296) (ha:∀ d∈la,d<1000000000) (hl:la.length<2 ^ 40) :
 ∀ (i m:Nat) (o:List Nat) (r:Nat),i≤la.length→i<m→o.length=la.length→(∀ x∈o,x<1000000000)→r<by_ →
  val 1000000000 (la.drop i)=by_ * val 1000000000 (o.drop i) + r →
  ∃ (o':List Nat) (r':Nat),(∀ k0:List PV→Int→Option R,UbA n m (nl .u32 la) by_ (nl .u32 o) r ((i:Int) - 1) k0=k0 (nl .u32 o') r')∧o'.length=la.length∧(∀ x∈o',x<1000000000)∧r'<by_∧val 1000000000 la=by_ * val 1000000000 o' + r'
 | 0,m + 1,o,r,hi,hm,ho,hlt,hr,hv=>by
  refine ⟨o,r,fun k0=>?_,ho,hlt,hr,by simpa using hv⟩
  simp only [UbA,Udy]
  simp (disch:=(first | omega | (simp only [JlE]; omega))) only [↓JlH,JlF,JlG]
 | i + 1,m + 1,o,r,hi,hm,ho,hlt,hr,hv=>by
  have hx:=Uaf hB2 ha i
  have hs:r * 1000000000 + la.getD i 0<by_ * 1000000000:=by
   have:(r + 1) * 1000000000≤by_ * 1000000000:=Nat.mul_le_mul_right _ hr
   omega
  have hq:(r * 1000000000 + la.getD i 0) / by_<1000000000:=Nat.div_lt_of_lt_mul hs
  have hmod:(r * 1000000000 + la.getD i 0) % by_<by_:=Nat.mod_lt _ hby
  have hdm:=Nat.div_add_mod (r * 1000000000 + la.getD i 0) by_
  have dropSucc:∀ l:List Nat,i<l.length→val 1000000000 (l.drop i)=l.getD i 0 + 1000000000 * val 1000000000 (l.drop (i + 1)):=fun l h=>by
   rw [List.drop_eq_getElem_cons h,val,List.getD_eq_getElem?_getD,List.getElem?_eq_getElem h]; rfl
  obtain ⟨o',r',h1,h2⟩:=Ueo n la by_ hby hby2 ha hl i m (o.set i ((r * 1000000000 + la.getD i 0) / by_)) ((r * 1000000000 + la.getD i 0) % by_) (by omega) (by omega) (by rw [List.length_set]; exact ho) (Ubo hlt hq i) hmod
   (by
     rw [dropSucc la (by omega),dropSucc _ (by rw [List.length_set]; omega),List.drop_set_of_lt (by omega),hv,List.getD_eq_getElem?_getD,List.getD_eq_getElem?_getD,List.getElem?_set_self (by omega)]
     simp only [Option.getD_some]
     rw [List.getD_eq_getElem?_getD] at hdm
     rw [Nat.mul_add,Nat.mul_add,Nat.mul_left_comm by_ 1000000000]
     omega)
  refine ⟨o',r',fun k0=>?_,h2⟩
  rw [←h1 k0]
  have e1:((i + 1:Nat):Int) - 1=(i:Int):=by omega
  have e3:(r:Int) * 1000000000 + ((la.getD i 0:Nat):Int)=((r * 1000000000 + la.getD i 0:Nat):Int):=by omega
  have hd0:¬ ((by_:Int)=0):=by omega
  have t1:Int.tdiv ((r * 1000000000 + la.getD i 0:Nat):Int) (by_:Int)=(((r * 1000000000 + la.getD i 0) / by_:Nat):Int):=Jlj _ _
  have t2:Int.tmod ((r * 1000000000 + la.getD i 0:Nat):Int) (by_:Int)=(((r * 1000000000 + la.getD i 0) % by_:Nat):Int):=Jlk _ _
  generalize (r * 1000000000 + la.getD i 0) / by_=q at *
  generalize (r * 1000000000 + la.getD i 0) % by_=md at *
  simp only [UbA,Udy]
  simp (disch:=(first | omega | (simp only [JlE]; omega))) only [↓JlH,JlF,JlG,e1,e3,t1,t2]
theorem Ujl (n a by_:Nat) (hby:0<by_) (hby2:by_<4294967296) (hla:(toL 1000000000 a).length<2 ^ 30) (hna:(toL 1000000000 a).length + 1<n) (k0:List PV→Int→Option R):UuG n (NN a) by_ k0=k0 (NN (a / by_)) ((a % by_:Nat):Int):=by
 obtain ⟨o',r',h1,h2,h3,h4,h5⟩:=Ueo (R:=R) n (toL 1000000000 a) by_ hby hby2 (UaP hB2 a) (by omega)
  (toL 1000000000 a).length n (List.replicate (toL 1000000000 a).length 0) 0 (Nat.le_refl _) (by omega) (by rw [List.length_replicate]) (Ugz hB2 _) hby (by simp [val])
 rw [Uas hB2] at h5
 have hq:val 1000000000 o'=a / by_:=by rw [h5,Nat.mul_add_div hby,Nat.div_eq_of_lt h4]; omega
 have hr:r'=a % by_:=by rw [h5,Nat.mul_add_mod,Nat.mod_eq_of_lt h4]
 have ht:=fun k0=>Ubp (R:=R) n o' h3 (by omega) (by omega) k0
 rw [hq] at ht
 rw [←hr]
 unfold UuG UmB
 have hN:NN a=nl .u32 (toL 1000000000 a):=rfl
 rw [hN]
 rw [show ((0:Nat):Int)=0 from rfl] at h1
 simp (disch:=(first | omega | (simp only [JlE]; omega))) only [↓JlH,JlF,JlG,h1,ht]
theorem UaZ {l:List Nat} {i:Nat} (h:i<l.length):val 1000000000 (l.drop i)=l.getD i 0 + 1000000000 * val 1000000000 (l.drop (i + 1)):=by
 rw [List.drop_eq_getElem_cons h,val,List.getD_eq_getElem?_getD,List.getElem?_eq_getElem h]; rfl
theorem Ujm (n:Nat) (la lb:List Nat) (ha:∀ d∈la,d<1000000000) (hb:∀ d∈lb,d<1000000000) (hl:la.length + lb.length<2 ^ 40) (i:Nat) (hi:i<la.length) :
 ∀ (d m k:Nat) (o:List Nat) (c:Nat),d + k=lb.length→d<m→o.length=la.length + lb.length→(∀ x∈o,x<1000000000)→c<1000000000 →
  ∃ (o':List Nat) (c':Nat),(∀ k0:List PV→List PV→List PV→Int→Int→Int→Int→Option R,UcU n m (nl .u32 la) (nl .u32 lb) (nl .u32 o) i c la.length i lb.length k k0=k0 (nl .u32 la) (nl .u32 lb) (nl .u32 o') i c' la.length i) ∧
   o'.length=la.length + lb.length∧(∀ x∈o',x<1000000000)∧c'<1000000000∧o'.drop (i + lb.length)=o.drop (i + lb.length) ∧
   val 1000000000 o' + 1000000000 ^ (i + lb.length) * c'=val 1000000000 o + 1000000000 ^ (i + k) * c + la.getD i 0 * (1000000000 ^ (i + k) * val 1000000000 (lb.drop k))
 | 0,m + 1,k,o,c,hd,hm,ho,hlt,hc=>by
  have hk:k=lb.length:=by omega
  subst hk
  refine ⟨o,c,fun k0=>?_,ho,hlt,hc,rfl,?_⟩
  · simp only [UcU,UfE]
    simp (disch:=(first | omega | (simp only [JlE]; omega))) only [↓JlH,JlF,JlG]
  · rw [List.drop_length]; simp [val]
 | d + 1,m + 1,k,o,c,hd,hm,ho,hlt,hc=>by
  have hx:=Uaf hB2 ha i
  have hy:=Uaf hB2 hb k
  have hz:=Uaf hB2 hlt (i + k)
  have hxy:la.getD i 0 * lb.getD k 0≤999999999 * 999999999:=Nat.mul_le_mul (by omega) (by omega)
  obtain ⟨s,hs⟩:∃ s,s=c + (la.getD i 0 * lb.getD k 0 + o.getD (i + k) 0):=⟨_,rfl⟩
  have hs2:s / 1000000000<1000000000:=by omega
  obtain ⟨o',c',h1,h2,h3,h4,h5,h6⟩:=Ujm n la lb ha hb hl i hi d m (k + 1) (o.set (i + k) (s % 1000000000)) (s / 1000000000) (by omega) (by omega) (by rw [List.length_set]; exact ho) (Ubo hlt (Nat.mod_lt _ (by omega)) _) hs2
  refine ⟨o',c',fun k0=>?_,h2,h3,h4,by rw [h5,List.drop_set_of_lt (by omega)],?_⟩
  · rw [←h1 k0]
    have e1:(i:Int) + (k:Int)=((i + k:Nat):Int):=by omega
    have e2:(k:Int) + 1=((k + 1:Nat):Int):=by omega
    have e4:((la.getD i 0:Nat):Int) * ((lb.getD k 0:Nat):Int)=((la.getD i 0 * lb.getD k 0:Nat):Int):=by rw [Int.natCast_mul]
    generalize la.getD i 0 * lb.getD k 0=xy at *
    have e3:(c:Int) + ((xy:Int) + ((o.getD (i + k) 0:Nat):Int))=(s:Int):=by omega
    simp only [UcU,UfE]
    simp (disch:=(first | omega | (simp only [JlE]; omega))) only [↓JlH,JlF,JlG,e1,e2,e4,e3,JlB,JlC]
  · rw [h6,UaZ (by omega:k<lb.length)]
    have hv:=Udf 1000000000 (s % 1000000000) (l:=o) (i:=i + k) (by omega)
    have hm:=Nat.mod_add_div s 1000000000
    rw [show i + (k + 1)=(i + k) + 1 from by omega,Nat.pow_succ]
    generalize 1000000000 ^ (i + k)=P at *
    generalize val 1000000000 (List.drop (k + 1) lb)=V at *
    generalize val 1000000000 (o.set (i + k) (s % 1000000000))=W at *
    generalize val 1000000000 o=U at *
    generalize s % 1000000000=q at *
    generalize s / 1000000000=t at *
    generalize la.getD i 0=x at *
    generalize lb.getD k 0=y at *
    generalize o.getD (i + k) 0=z at *
    clear h1 h3 h4 h5 hlt ha hb
    have h7:P * q + P * (1000000000 * t)=P * c + P * (x * y) + P * z:=by rw [←Nat.mul_add,hm,hs]; grind
    grind
theorem UgE (n:Nat) (la lb:List Nat) (ha:∀ d∈la,d<1000000000) (hb:∀ d∈lb,d<1000000000) (hl:la.length + lb.length<2 ^ 40) (hn:lb.length<n) :
 ∀ (d m i:Nat) (o:List Nat),d + i=la.length→d<m→o.length=la.length + lb.length→(∀ x∈o,x<1000000000)→o.drop (i + lb.length)=List.replicate (la.length - i) 0→val 1000000000 o=val 1000000000 (la.take i) * val 1000000000 lb →
  ∃ (o':List Nat),(∀ k0:List PV→Option R,UcT n m (nl .u32 la) (nl .u32 lb) (nl .u32 o) la.length i k0=k0 (nl .u32 o'))∧o'.length=la.length + lb.length∧(∀ x∈o',x<1000000000)∧val 1000000000 o'=val 1000000000 la * val 1000000000 lb
 | 0,m + 1,i,o,hd,hm,ho,hlt,hz,hv=>by
  have hi:i=la.length:=by omega
  subst hi
  refine ⟨o,fun k0=>?_,ho,hlt,by rw [hv,List.take_length]⟩
  simp only [UcT,UfD]
  simp (disch:=(first | omega | (simp only [JlE]; omega))) only [↓JlH,JlF,JlG]
 | d + 1,m + 1,i,o,hd,hm,ho,hlt,hz,hv=>by
  obtain ⟨o1,c1,h1,h2,h3,h4,h5,h6⟩:=Ujm (R:=R) n la lb ha hb hl i (by omega) lb.length n 0 o 0 (by omega) hn ho hlt (by omega)
  have hg:o1.getD (i + lb.length) 0=0:=by
   have:=congrArg (fun l:List Nat=>l.getD 0 0) h5
   simp only [List.getD_eq_getElem?_getD,List.getElem?_drop,Nat.add_zero] at this
   rw [List.getD_eq_getElem?_getD,this]
   have h0:=congrArg (fun l:List Nat=>l.getD 0 0) hz
   simp only [List.getD_eq_getElem?_getD,List.getElem?_drop,Nat.add_zero] at h0
   rw [h0,List.getElem?_replicate]
   split <;> rfl
  have hvs:=Udf 1000000000 c1 (l:=o1) (i:=i + lb.length) (by omega)
  rw [hg] at hvs
  obtain ⟨o',q1,q2⟩:=UgE n la lb ha hb hl hn d m (i + 1) (o1.set (i + lb.length) c1) (by omega) (by omega) (by rw [List.length_set]; exact h2) (Ubo h3 h4 _)
   (by
     rw [show i + 1 + lb.length=(i + lb.length) + 1 from by omega,List.drop_set_of_lt (by omega),←List.drop_drop,h5,hz,List.drop_replicate]
     congr 1)
   (by
     rw [Uau 1000000000 la]
     rw [List.drop_zero,Nat.add_zero,Nat.mul_zero,Nat.add_zero,hv] at h6
     rw [Nat.mul_zero,Nat.add_zero] at hvs
     rw [hvs,h6]
     grind)
  refine ⟨o',fun k0=>?_,q2⟩
  rw [←q1 k0]
  have e1:(i:Int) + (lb.length:Int)=((i + lb.length:Nat):Int):=by omega
  have e2:(i:Int) + 1=((i + 1:Nat):Int):=by omega
  rw [show ((0:Nat):Int)=0 from rfl] at h1
  simp only [UcT,UfD,UpG]
  simp (disch:=(first | omega | (simp only [JlE]; omega))) only [↓JlH,JlF,JlG,h1,e1,e2]
theorem UaH (n a b:Nat) (hla:(toL 1000000000 a).length<2 ^ 30) (hlb:(toL 1000000000 b).length<2 ^ 30) (hn:(toL 1000000000 a).length + (toL 1000000000 b).length<n) (k0:List PV→Option R):p58 n (NN a) (NN b) k0=k0 (NN (a * b)):=by
 obtain ⟨o',h1,h2,h3,h4⟩:=UgE (R:=R) n (toL 1000000000 a) (toL 1000000000 b) (UaP hB2 a) (UaP hB2 b) (by omega) (by omega)
  (toL 1000000000 a).length n 0 (List.replicate ((toL 1000000000 a).length + (toL 1000000000 b).length) 0) (by omega) (by omega) (by rw [List.length_replicate]) (Ugz hB2 _)
  (by rw [List.drop_replicate]; congr 1; omega) (by rw [Und]; simp [val])
 rw [Uas hB2,Uas hB2] at h4
 have ht:=fun k0=>Ubp (R:=R) n o' h3 (by omega) (by omega) k0
 rw [h4] at ht
 have e1:((toL 1000000000 a).length:Int) + ((toL 1000000000 b).length:Int)=(((toL 1000000000 a).length + (toL 1000000000 b).length:Nat):Int):=by omega
 have hN:NN a=nl .u32 (toL 1000000000 a):=rfl
 have hM:NN b=nl .u32 (toL 1000000000 b):=rfl
 unfold p58 UpF
 rw [hN,hM]
 rw [show ((0:Nat):Int)=0 from rfl] at h1
 simp (disch:=(first | omega | (simp only [JlE]; omega))) only [↓JlH,JlF,JlG,e1,h1,ht]
end Go.Proofs.YtmgfmlhdnadglaaGreatDoor
set_option linter.unusedVariables false
set_option maxRecDepth 100000
namespace Go.Proofs.YtmgfmlhdnadglaaGreatDoor
open Go Th Go.Proofs
noncomputable section
variable {R:Type}
end
end Go.Proofs.YtmgfmlhdnadglaaGreatDoor
set_option linter.unusedVariables false
set_option linter.unusedSimpArgs false
namespace Go.Proofs.YtmgfmlhdnadglaaGreatDoor
open Go Th Go.Proofs
variable {R:Type}
def II (a:Nat):List PV:=nl .i64 (DL a)
abbrev sg (z:Int):Bool:=decide (z<0)
def UjF (x y:Int):Int:=if x<y then -1 else if x=y then 0 else 1
end Go.Proofs.YtmgfmlhdnadglaaGreatDoor
set_option linter.unusedVariables false
set_option maxRecDepth 100000
namespace Go.Proofs.YtmgfmlhdnadglaaGreatDoor
open Go Th Go.Proofs
noncomputable section
variable {R:Type}
end
end Go.Proofs.YtmgfmlhdnadglaaGreatDoor
set_option linter.unusedVariables false
set_option linter.unusedSimpArgs false
namespace Go.Proofs.YtmgfmlhdnadglaaGreatDoor
open Go Th Go.Proofs
variable {R:Type}
end Go.Proofs.YtmgfmlhdnadglaaGreatDoor
set_option linter.unusedVariables false
set_option maxRecDepth 100000
namespace Go.Proofs.YtmgfmlhdnadglaaGreatDoor
open Go Th Go.Proofs
noncomputable section
variable {R:Type}
def UaA:Ann:={ loops:=[(5,ids [0,3,4],ids [2,3])],cuts:=[(6,ids [0,3,4],ids [0,2,3,4])],frz:=[],rm:=[.id] }
abbrev Ugh (n:Nat):Env:=eC 141 (Uuc n) (eC 140 (Uub n) (eC 139 (Uua n) (eC 138 (Uu n) eN)))
theorem Uiv (n:Nat):EnvOK Tryz.prog GI (Ugh n):=.cons (.cons (.cons (.cons (.nil) (Uw0 n)) (Uw1 n)) (Uw2 n)) (Uw3 n)
def UbT (n:Nat) (x1:LP) (x2:ByteArray) (x3:Int) (k0:LP→ByteArray→Int→O R):O R :=
 k0 x1 x2 (IntKind.i64.wrap (x3 - 1))
def Ubz (n:Nat) (l0:LP→ByteArray→Int→O R) (x1:LP) (x2:ByteArray) (x3:Int) (k0:ByteArray→O R):O R :=
 bif (decide (x3≥0)) then (bif (inR x3 ((x1).length)) then (Jj .u32 ((x1).getD ((x3:Int).toNat) (.v (.bool false))) fun e4=>bif (JkT (IntKind.i64.wrap (e4))) then (let v5:=IntKind.i64.wrap (((x1).length:Int) - 1); bif (decide (x3<v5)) then (let v6:=IntKind.i64.wrap (9 - ((JiB (IntKind.i64.wrap (e4))).size:Int)); bif (decide ((0:Int)≤v6)&&decide ((v6:Int)≤9223372036854775807)&&JiU (((⟨#[48]⟩:ByteArray)).size * (v6:Int).toNat)) then (Jj0 (Jld (⟨#[48]⟩:ByteArray) v6) (JiB (IntKind.i64.wrap (e4))) fun s7=>bif (JiU ((x2).size + (s7).size)) then (UbT n x1 (x2++s7) x3 (fun y8 y9 y10=>l0 y8 y9 y10)) else none) else none) else (bif (JiU ((x2).size + (JiB (IntKind.i64.wrap (e4))).size)) then (UbT n x1 (x2++(JiB (IntKind.i64.wrap (e4)))) x3 (fun y11 y12 y13=>l0 y11 y12 y13)) else none)) else none) else none) else (k0 x2)
def UaJ (n:Nat):Nat→LP→ByteArray→Int→(ByteArray→O R)→O R
 | 0,_,_,_,_=>none
 | m + 1,x1,x2,x3,k0=>Ubz n (fun x1 x2 x3=>UaJ n m x1 x2 x3 k0) x1 x2 x3 k0
def Ufp (n:Nat) (l0:LP→Int→O R) (l1:LP→ByteArray→Int→O R) (x1:LP) (x2:Int) (k0:ByteArray→O R) (k1:O R):O R :=
 bif (decide (x2≥0)) then (bif (inR x2 ((x1).length)) then (Jj .u32 ((x1).getD ((x2:Int).toNat) (.v (.bool false))) fun e3=>bif (JkT (IntKind.i64.wrap (e3))) then (let v4:=IntKind.i64.wrap (((x1).length:Int) - 1); bif (decide (x2<v4)) then (let v5:=IntKind.i64.wrap (9 - ((JiB (IntKind.i64.wrap (e3))).size:Int)); bif (decide ((0:Int)≤v5)&&decide ((v5:Int)≤9223372036854775807)&&JiU (((⟨#[48]⟩:ByteArray)).size * (v5:Int).toNat)) then (Jj0 (Jld (⟨#[48]⟩:ByteArray) v5) (JiB (IntKind.i64.wrap (e3))) fun s6=>bif (JiU ((ByteArray.empty).size + (s6).size)) then (UbT n x1 (ByteArray.empty++s6) x2 (fun y7 y8 y9=>l1 y7 y8 y9)) else none) else none) else (bif (JiU ((ByteArray.empty).size + (JiB (IntKind.i64.wrap (e3))).size)) then (UbT n x1 (ByteArray.empty++(JiB (IntKind.i64.wrap (e3)))) x2 (fun y10 y11 y12=>l1 y10 y11 y12)) else none)) else none) else none) else (k1)
def Udw (n:Nat):Nat→LP→Int→(ByteArray→O R)→(O R)→O R
 | 0,_,_,_,_=>none
 | m + 1,x1,x2,k0,k1=>Ufp n (fun x1 x2=>Udw n m x1 x2 k0 k1) (fun x1 x2 x3=>UaJ n m x1 x2 x3 k0) x1 x2 k0 k1
def Umy (n:Nat) (x1:LP) (x2:Int) (k0:ByteArray→O R) (k1:O R):O R:=Udw n n x1 x2 k0 k1
def UuE (n:Nat) (x1:LP) (k0:ByteArray→O R):O R :=
 bif (((x1).length:Int) == 0) then (k0 ⟨#[48]⟩) else (let v2:=IntKind.i64.wrap (((x1).length:Int) - 1); Umy n x1 v2 (fun y3=>k0 y3) (k0 ByteArray.empty))
abbrev Ux7 (n:Nat):Code→Fr→Kc R→O R:=evC Tryz.prog (Ugh n) UaA n (36,[])
noncomputable def Uk:Code:=Jj4 (Jll Tryz.f116) [1,1,1,0,1,0,0,1,1]
abbrev UhC:Sl (List SV):=(cH (.c (sOb 181 5) (cI .n)))
abbrev UlH (n:Nat) (K:Kc R):UhC.T (O R):=fun x1 x2 x3=>UbT n x1 x2 x3 (fun y1 y2 y3=>xC UaA 6 K .normal [vH y1,dD,.ob 181 5 y2,vI y3])
noncomputable def UdN:Code:=Jj4 (Jll Tryz.f116) [1,1,1,0,1,0,0]
abbrev UaG:Sl (List SV):=(cH (.c (sOb 181 5) (cI .n)))
abbrev Ua5:Sl (List SV):=(cH (.c (sBx 181 (.c (sP Jlg) (.c sNl .n))) (cI .n)))
abbrev Uca (n m:Nat) (K:Kc R):UaG.T (O R):=fun x1 x2 x3=>UaJ n m x1 x2 x3 (fun y1=>xL UaA 5 K (.exit 0) [dD,.ob 181 5 y1])
abbrev Uns (n:Nat) (K:Kc R) (l0:UaG.T (O R)):UaG.T (O R):=fun x1 x2 x3=>Ubz n l0 x1 x2 x3 (fun y1=>xL UaA 5 K (.exit 0) [dD,.ob 181 5 y1])
abbrev Udk (n m:Nat) (K:Kc R):Ua5.T (O R):=fun x1 x2=>Udw n m x1 x2 (fun y1=>xL UaA 5 K (.exit 0) [dD,.ob 181 5 y1]) (xL UaA 5 K (.exit 0) [dD,.bx 181 [.p (.v (.pointer none)),.nl]])
abbrev Unt (n:Nat) (K:Kc R) (l0:Ua5.T (O R)) (l1:UaG.T (O R)):Ua5.T (O R):=fun x1 x2=>Ufp n l0 l1 x1 x2 (fun y1=>xL UaA 5 K (.exit 0) [dD,.ob 181 5 y1]) (xL UaA 5 K (.exit 0) [dD,.bx 181 [.p (.v (.pointer none)),.nl]])
abbrev Ujz (n:Nat):Orc R:=fun i vs K=>JfK (Nat.beq i 5) (Jjg (UaG.ap vs (Uca n n K)) (Jjg (Ua5.ap vs (Udk n n K)) (JcB UaA 5 (Ux7 n UdN) n vs K))) (oN i vs K)
abbrev Ujw (n:Nat):Orc R:=oC UaA (Ux7 n) 6 Uk UhC (UlH n) oN
abbrev Uvz (R:Type) (n:Nat):=JcH (R:=R) Tryz.prog (Ugh n) UaA n (36,[]) (Ujz n) (Ujw n)
theorem UrS (n:Nat):Uvz R n (true,6,Uk):=JkW (lo:=Ujz n) (cu:=Ujw n) (pO pN (by kernel_rfl)) UhC (UlH n) (fun K _ _ _=>by show _=_; kernel_rfl) fun _ _=>rfl
theorem Uji (n:Nat):Je6 (Uvz R n) (JaJ UaA UdN):=pO (pC (UrS n) pN) (by kernel_rfl)
theorem Uik (n:Nat):∀ m (K:Kc R),UaG.all (fun vs r=>JcB UaA 5 (JcU Tryz.prog (Ugh n) UaA (36,[]) (Ujz n) (Ujw n) UdN) m vs K=r) (Uca n m K):=JiE (F:=Uca n) UaG (Uns n) (fun K _ _ _=>rfl) (fun _ _=>rfl) (fun L K _ _ _=>by show _=_; kernel_rfl)
theorem UnI (n:Nat):∀ m (K:Kc R),Ua5.all (fun vs r=>JcB UaA 5 (JcU Tryz.prog (Ugh n) UaA (36,[]) (Ujz n) (Ujw n) UdN) m vs K=r) (Udk n m K):=Jhw (F1:=Uca n) (F:=Udk n) Ua5 UaG (Unt n) (fun K _ _=>rfl) (fun _ _=>rfl) (Uik n) (fun L K _ _=>by show _=_; kernel_rfl)
theorem UrT (n:Nat):Uvz R n (false,5,UdN):=JkF (lo:=Ujz n) (cu:=Ujw n) (Uji n) UaG (Uca n n) (Uik n n) (JkF (lo:=Ujz n) (cu:=Ujw n) (Uji n) Ua5 (Udk n n) (UnI n n) fun _ _=>rfl)
theorem Uxt (n:Nat):Je6 (Uvz R n) (JaJ UaA (Jll Tryz.f116)):=pO (pC (UrT n) pN) (by kernel_rfl)
abbrev t116:Sl (List SV):=(cH .n)
abbrev f116 (n:Nat) (K:List SV→O R):t116.T (O R):=fun x1=>UuE n x1 (fun y1=>K [vS y1])
abbrev Ut1 (n:Nat):FS:=fT [false] t116 (f116 n)
theorem UwR (n:Nat):FSound Tryz.prog GI 116 (Ut1 n):=gd UaA n (Uiv n) Tryz.func116 (.cons (Uiv n) t116 (f116 n) (fun K _=>(Jkq (c:=Jll Tryz.f116) (by kernel_rfl) (Uxt n) K).trans (by kernel_rfl)) .nil) (by kernel_rfl)
def Ub6:Ann:={ loops:=[],cuts:=[(5,ids [1,4,24],ids [1,2,3]),(7,ids [1],ids [2,3]),(10,ids [1,5,6],ids [2,3]),(12,ids [5,6],ids [2,3]),(14,ids [5],ids [2,3])],frz:=[],rm:=[.id,.id] }
abbrev Ura (n:Nat):Env:=eC 116 (Ut1 n) (eC 115 (Url n) (eC 100 (Urk n) eN))
theorem Ulp (n:Nat):EnvOK Tryz.prog GI (Ura n):=.cons (.cons (.cons (.nil) (Uuy n)) (Uuz n)) (UwR n)
def Uej (n:Nat) (x1:Bool) (x2 x3 x4:LP) (x5:Bool) (k0:Bool→LP→LP→O R):O R :=
 bif x5 then (Usy n x2 x4 (fun y6 y7=>Usy n x3 x4 (fun y8 y9=>k0 x1 y6 y8))) else (k0 x1 x2 x3)
def UfJ (n:Nat) (x1:ByteArray) (k0:ByteArray→Int→O R):O R :=
 k0 x1 0
def UfI (n:Nat) (x1 x2:ByteArray) (k0:ByteArray→Int→O R):O R :=
 bif (!eqS x2 (⟨#[49]⟩:ByteArray)) then (Jj0 (⟨#[47]⟩:ByteArray) x2 fun s3=>Jj0 x1 s3 fun s4=>UfJ n s4 (fun y5 y6=>k0 y5 y6)) else (UfJ n x1 (fun y7 y8=>k0 y7 y8))
def Uhp (n:Nat) (x1:Bool) (x2 x3:LP) (x4 x5:ByteArray) (k0:ByteArray→Int→O R):O R :=
 bif x1 then (Jj0 (⟨#[45]⟩:ByteArray) x4 fun s6=>UfI n s6 x5 (fun y7 y8=>k0 y7 y8)) else (UfI n x4 x5 (fun y9 y10=>k0 y9 y10))
def Ugu (n:Nat) (x1:Bool) (x2 x3:LP) (k0:ByteArray→Int→O R):O R :=
 UuE n x2 (fun y4=>UuE n x3 (fun y5=>bif (decide (((y4).size:Int)>400)) then (k0 ⟨#[]⟩ 5) else (bif (bif false then true else (decide (((y5).size:Int)>400))) then (k0 ⟨#[]⟩ 5) else (Uhp n x1 x2 x3 y4 y5 (fun y6 y7=>k0 y6 y7)))))
def p79 (n:Nat) (x1:Bool) (x2 x3:LP) (k0:ByteArray→Int→O R):O R :=
 bif (((x2).length:Int) == 0) then (k0 ⟨#[48]⟩ 0) else (UuC n x2 x3 (fun y4=>bif (decide (((y4).length:Int)>1)) then (Uej n x1 x2 x3 y4 true (fun y5 y6 y7=>Ugu n y5 y6 y7 (fun y8 y9=>k0 y8 y9))) else (bif (inR 0 ((y4).length)) then (Jj .u32 ((y4).getD ((0:Int).toNat) (.v (.bool false))) fun e10=>Uej n x1 x2 x3 y4 (bif false then true else (decide (e10>1))) (fun y11 y12 y13=>Ugu n y11 y12 y13 (fun y14 y15=>k0 y14 y15))) else none)))
abbrev E79 (n:Nat):Code→Fr→Kc R→O R:=evC Tryz.prog (Ura n) Ub6 n (66,[])
noncomputable def UoU:Code:=Jj4 (Jll Tryz.f79) [1,1,0,1,1]
abbrev Um1:Sl (List SV):=(.c (sBx 99 (cB (cH (cH .n)))) (cH (cB .n)))
abbrev Upg (n:Nat) (K:Kc R):Um1.T (O R):=fun x1 x2 x3 x4 x5=>Uej n x1 x2 x3 x4 x5 (fun y1 y2 y3=>xC Ub6 5 K .normal [.bx 99 [vB y1,vH y2,vH y3],dD,dD])
noncomputable def UoV:Code:=Jj4 (Jll Tryz.f79) [1,1,1]
abbrev Um2:Sl (List SV):=(.c (sBx 99 (cB (cH (cH .n)))) .n)
abbrev Uph (n:Nat) (K:Kc R):Um2.T (O R):=fun x1 x2 x3=>Ugu n x1 x2 x3 (fun y1 y2=>xC Ub6 7 K .ret [vS y1,vI y2])
noncomputable def Ukl:Code:=Jj4 (Jll Tryz.f79) [1,1,1,1,1]
abbrev UhL:Sl (List SV):=(.c (sBx 99 (cB (cH (cH .n)))) (cS (cS .n)))
abbrev Ul7 (n:Nat) (K:Kc R):UhL.T (O R):=fun x1 x2 x3 x4 x5=>Uhp n x1 x2 x3 x4 x5 (fun y1 y2=>xC Ub6 10 K .ret [vS y1,vI y2])
noncomputable def Ukm:Code:=Jj4 (Jll Tryz.f79) [1,1,1,1,1,1]
abbrev UhM:Sl (List SV):=(cS (cS .n))
abbrev Ul8 (n:Nat) (K:Kc R):UhM.T (O R):=fun x1 x2=>UfI n x1 x2 (fun y1 y2=>xC Ub6 12 K .ret [vS y1,vI y2])
noncomputable def Ukn:Code:=Jj4 (Jll Tryz.f79) [1,1,1,1,1,1,1]
abbrev UhN:Sl (List SV):=(cS .n)
abbrev Ul9 (n:Nat) (K:Kc R):UhN.T (O R):=fun x1=>UfJ n x1 (fun y1 y2=>xC Ub6 14 K .ret [vS y1,vI y2])
abbrev Usu (n:Nat):Orc R:=oN
abbrev Usp (n:Nat):Orc R:=oC Ub6 (E79 n) 14 Ukn UhN (Ul9 n) (oC Ub6 (E79 n) 12 Ukm UhM (Ul8 n) (oC Ub6 (E79 n) 10 Ukl UhL (Ul7 n) (oC Ub6 (E79 n) 7 UoV Um2 (Uph n) (oC Ub6 (E79 n) 5 UoU Um1 (Upg n) oN))))
abbrev K79 (R:Type) (n:Nat):=JcH (R:=R) Tryz.prog (Ura n) Ub6 n (66,[]) (Usu n) (Usp n)
theorem Uvb (n:Nat):K79 R n (true,5,UoU):=JkW (lo:=Usu n) (cu:=Usp n) (pO pN (by kernel_rfl)) Um1 (Upg n) (fun K _ _ _ _ _=>by show _=_; kernel_rfl) fun _ _=>rfl
theorem Ur8 (n:Nat):K79 R n (true,14,Ukn):=JkW (lo:=Usu n) (cu:=Usp n) (pO pN (by kernel_rfl)) UhN (Ul9 n) (fun K _=>by show _=_; kernel_rfl) fun _ _=>rfl
theorem Ur7 (n:Nat):K79 R n (true,12,Ukm):=JkW (lo:=Usu n) (cu:=Usp n) (pO (pC (Ur8 n) pN) (by kernel_rfl)) UhM (Ul8 n) (fun K _ _=>by show _=_; kernel_rfl) fun _ _=>rfl
theorem Ur6 (n:Nat):K79 R n (true,10,Ukl):=JkW (lo:=Usu n) (cu:=Usp n) (pO (pC (Ur7 n) pN) (by kernel_rfl)) UhL (Ul7 n) (fun K _ _ _ _ _=>by show _=_; kernel_rfl) fun _ _=>rfl
theorem Uvc (n:Nat):K79 R n (true,7,UoV):=JkW (lo:=Usu n) (cu:=Usp n) (pO (pC (Ur6 n) pN) (by kernel_rfl)) Um2 (Uph n) (fun K _ _ _=>by show _=_; kernel_rfl) fun _ _=>rfl
theorem UBX (n:Nat):Je6 (K79 R n) (JaJ Ub6 (Jll Tryz.f79)):=pO (pC (Uvb n) (pC (Uvc n) pN)) (by kernel_rfl)
abbrev t79:Sl (List SV):=(.c (sP (JlI (.c Jlf (.c sSh (.c sSh .n))))) .n)
abbrev f79 (n:Nat) (K:List SV→O R):t79.T (O R):=fun x1 x2 x3=>p79 n x1 x2 x3 (fun y1 y2=>K [vS y1,vI y2])
abbrev Uwt (n:Nat):FS:=fT [false] t79 (f79 n)
theorem Uzt (n:Nat):FSound Tryz.prog GI 79 (Uwt n):=gd Ub6 n (Ulp n) Tryz.func79 (.cons (Ulp n) t79 (f79 n) (fun K _ _ _=>(Jkq (c:=Jll Tryz.f79) (by kernel_rfl) (UBX n) K).trans (by kernel_rfl)) .nil) (by kernel_rfl)
end
end Go.Proofs.YtmgfmlhdnadglaaGreatDoor
set_option linter.unusedVariables false
set_option linter.unusedSimpArgs false
namespace Go.Proofs.YtmgfmlhdnadglaaGreatDoor
open Go Th Go.Proofs
variable {R:Type}
theorem Ukw (n:Nat) (xs q:List PV) (lv:List Nat) (hv:∀ d∈lv,d<1000000000) (g i:Nat) (hg:g<1000000000) (hi:i<2 ^ 40) (hlv:lv.length<2 ^ 40) :
 ∀ (d m j:Nat) (o:List Nat) (c s:Nat),d + j=lv.length→d<m→i + lv.length≤o.length→o.length<2 ^ 41→(∀ x∈o,x<1000000000)→c<1000000000→s≤1 →
  ∃ (o':List Nat) (c' s':Nat),(∀ k0:List PV→List PV→List PV→Int→List PV→Int→Int→Int→Int→Option R,UaE n m xs (nl .u32 o) (nl .u32 lv) lv.length q i g c s lv.length j k0=k0 xs (nl .u32 o') (nl .u32 lv) lv.length q i g c' s') ∧
   o'.length=o.length∧(∀ x∈o',x<1000000000)∧c'<1000000000∧s'≤1∧o'.drop (i + lv.length)=o.drop (i + lv.length) ∧
   val 1000000000 o' + 1000000000 ^ (i + j) * (c + s) + g * (1000000000 ^ (i + j) * val 1000000000 (lv.drop j))=val 1000000000 o + 1000000000 ^ (i + lv.length) * (c' + s')
 | 0,m + 1,j,o,c,s,hd,hm,ho,ho2,hlt,hc,hs=>by
  have hk:j=lv.length:=by omega
  subst hk
  refine ⟨o,c,s,fun k0=>?_,rfl,hlt,hc,hs,rfl,?_⟩
  · simp only [UaE,Uco]
    simp (disch:=(first | omega | (simp only [JlE]; omega))) only [↓JlH,JlF,JlG]
  · rw [List.drop_length]; simp [val]
 | d + 1,m + 1,j,o,c,s,hd,hm,ho,ho2,hlt,hc,hs=>by
  have hx:=Uaf hB2 hv j
  have hz:=Uaf hB2 hlt (i + j)
  have hxy:g * lv.getD j 0≤999999999 * 999999999:=Nat.mul_le_mul (by omega) (by omega)
  obtain ⟨t,ht⟩:∃ t,t=c + g * lv.getD j 0:=⟨_,rfl⟩
  have ht2:t / 1000000000<1000000000:=by omega
  have htm:t % 1000000000<1000000000:=Nat.mod_lt _ (by omega)
  obtain ⟨b,hb⟩:∃ b:Nat,b=if o.getD (i + j) 0<t % 1000000000 + s then 1 else 0:=⟨_,rfl⟩
  obtain ⟨r,hr⟩:∃ r:Nat,r + (t % 1000000000 + s)=o.getD (i + j) 0 + 1000000000 * b:=⟨o.getD (i + j) 0 + 1000000000 * b - (t % 1000000000 + s),by split at hb <;> omega⟩
  have hr2:r<1000000000:=by split at hb <;> omega
  have hb1:b≤1:=by split at hb <;> omega
  obtain ⟨o',c',s',h1,h2,h3,h4,h5,h6,h7⟩:=Ukw n xs q lv hv g i hg hi hlv d m (j + 1) (o.set (i + j) r) (t / 1000000000) b (by omega) (by omega) (by rw [List.length_set]; exact ho) (by rw [List.length_set]; exact ho2) (Ubo hlt hr2 _) ht2 hb1
  refine ⟨o',c',s',fun k0=>?_,by rw [h2,List.length_set],h3,h4,h5,by rw [h6,List.drop_set_of_lt (by omega)],?_⟩
  · rw [←h1 k0]
    have e1:(i:Int) + (j:Int)=((i + j:Nat):Int):=by omega
    have e2:(j:Int) + 1=((j + 1:Nat):Int):=by omega
    have e4:(g:Int) * ((lv.getD j 0:Nat):Int)=((g * lv.getD j 0:Nat):Int):=by rw [Int.natCast_mul]
    generalize g * lv.getD j 0=xy at *
    have e3:(c:Int) + (xy:Int)=(t:Int):=by omega
    have e5:((o.getD (i + j) 0:Nat):Int) - ((t % 1000000000:Nat):Int) - (s:Int)=(r:Int) - 1000000000 * (b:Int):=by omega
    generalize hzz:o.getD (i + j) 0=z at *
    have hm1:t<2 ^ 62:=by omega
    generalize hq:t / 1000000000=tq at *
    generalize hq2:t % 1000000000=tr at *
    simp only [UaE,Uco,Udv]
    by_cases hbb:z<tr + s
    · rw [if_pos hbb] at hb
      subst hb
      have e6:(r:Int) - 1000000000 * ((1:Nat):Int) + 1000000000=(r:Int):=by omega
      simp (disch:=(first | omega | (simp only [JlE]; omega))) only [↓JlH,JlF,JlG,e1,e2,e4,e3,JlB,JlC,hq,hq2,hzz,e5,e6]
      rfl
    · rw [if_neg hbb] at hb
      subst hb
      have e6:(r:Int) - 1000000000 * ((0:Nat):Int)=(r:Int):=by omega
      simp (disch:=(first | omega | (simp only [JlE]; omega))) only [↓JlH,JlF,JlG,e1,e2,e4,e3,JlB,JlC,hq,hq2,hzz,e5,e6]
      rfl
  · rw [UaZ (by omega:j<lv.length)]
    have hvs:=Udf 1000000000 r (l:=o) (i:=i + j) (by omega)
    have hmd:=Nat.mod_add_div t 1000000000
    rw [show i + (j + 1)=(i + j) + 1 from by omega,Nat.pow_succ] at h7
    generalize 1000000000 ^ (i + j)=P at *
    generalize val 1000000000 (List.drop (j + 1) lv)=V at *
    generalize val 1000000000 (o.set (i + j) r)=W at *
    generalize val 1000000000 o=U at *
    generalize 1000000000 ^ (i + lv.length)=Q at *
    generalize t % 1000000000=tr at *
    generalize t / 1000000000=tq at *
    generalize lv.getD j 0=y at *
    generalize o.getD (i + j) 0=z at *
    clear h1 h3 h4 h5 hlt hv hb
    have h8:P * r + P * (tr + s)=P * z + P * (1000000000 * b):=by rw [←Nat.mul_add,←Nat.mul_add,hr]
    have h9:P * tr + P * (1000000000 * tq)=P * c + P * (g * y):=by rw [←Nat.mul_add,←Nat.mul_add,hmd,ht]
    grind
theorem Uig (n:Nat) (xs q:List PV) (lv:List Nat) (hv:∀ d∈lv,d<1000000000) (g i:Nat) (y:Int) (hi:i<2 ^ 40) (hlv:lv.length<2 ^ 40) :
 ∀ (d m j:Nat) (o:List Nat) (c:Nat),d + j=lv.length→d<m→i + lv.length≤o.length→o.length<2 ^ 41→(∀ x∈o,x<1000000000)→c≤1 →
  ∃ (o':List Nat) (c':Nat),(∀ k0:List PV→List PV→List PV→Int→List PV→Int→Int→Int→Int→Option R,UaO n m xs (nl .u32 o) (nl .u32 lv) lv.length q i g y c lv.length j k0=k0 xs (nl .u32 o') (nl .u32 lv) lv.length q i g y c') ∧
   o'.length=o.length∧(∀ x∈o',x<1000000000)∧c'≤1∧o'.drop (i + lv.length)=o.drop (i + lv.length) ∧
   val 1000000000 o' + 1000000000 ^ (i + lv.length) * c'=val 1000000000 o + 1000000000 ^ (i + j) * c + 1000000000 ^ (i + j) * val 1000000000 (lv.drop j)
 | 0,m + 1,j,o,c,hd,hm,ho,ho2,hlt,hc=>by
  have hk:j=lv.length:=by omega
  subst hk
  refine ⟨o,c,fun k0=>?_,rfl,hlt,hc,rfl,?_⟩
  · simp only [UaO,Ucp]
    simp (disch:=(first | omega | (simp only [JlE]; omega))) only [↓JlH,JlF,JlG]
  · rw [List.drop_length]; simp [val]
 | d + 1,m + 1,j,o,c,hd,hm,ho,ho2,hlt,hc=>by
  have hx:=Uaf hB2 hv j
  have hz:=Uaf hB2 hlt (i + j)
  obtain ⟨t,ht⟩:∃ t,t=c + (o.getD (i + j) 0 + lv.getD j 0):=⟨_,rfl⟩
  have ht2:t / 1000000000≤1:=by omega
  have htm:t % 1000000000<1000000000:=Nat.mod_lt _ (by omega)
  obtain ⟨o',c',h1,h2,h3,h4,h5,h6⟩:=Uig n xs q lv hv g i y hi hlv d m (j + 1) (o.set (i + j) (t % 1000000000)) (t / 1000000000) (by omega) (by omega) (by rw [List.length_set]; exact ho) (by rw [List.length_set]; exact ho2) (Ubo hlt htm _) ht2
  refine ⟨o',c',fun k0=>?_,by rw [h2,List.length_set],h3,h4,by rw [h5,List.drop_set_of_lt (by omega)],?_⟩
  · rw [←h1 k0]
    have e1:(i:Int) + (j:Int)=((i + j:Nat):Int):=by omega
    have e2:(j:Int) + 1=((j + 1:Nat):Int):=by omega
    have e3:(c:Int) + (((o.getD (i + j) 0:Nat):Int) + ((lv.getD j 0:Nat):Int))=(t:Int):=by omega
    simp only [UaO,Ucp]
    simp (disch:=(first | omega | (simp only [JlE]; omega))) only [↓JlH,JlF,JlG,e1,e2,e3,JlB,JlC]
  · rw [h6,UaZ (by omega:j<lv.length)]
    have hvs:=Udf 1000000000 (t % 1000000000) (l:=o) (i:=i + j) (by omega)
    have hmd:=Nat.mod_add_div t 1000000000
    rw [show i + (j + 1)=(i + j) + 1 from by omega,Nat.pow_succ]
    generalize 1000000000 ^ (i + j)=P at *
    generalize val 1000000000 (List.drop (j + 1) lv)=V at *
    generalize val 1000000000 (o.set (i + j) (t % 1000000000))=W at *
    generalize val 1000000000 o=U at *
    generalize 1000000000 ^ (i + lv.length)=Q at *
    generalize t % 1000000000=tr at *
    generalize t / 1000000000=tq at *
    generalize lv.getD j 0=y at *
    generalize o.getD (i + j) 0=z at *
    clear h1 h3 h4 h5 hlt hv
    have h9:P * tr + P * (1000000000 * tq)=P * c + (P * z + P * y):=by rw [←Nat.mul_add,←Nat.mul_add,←Nat.mul_add,hmd,ht]
    grind
theorem Ugg (n:Nat) (xs q:List PV) (lu lv:List Nat) (hu:∀ d∈lu,d<1000000000) (hv:∀ d∈lv,d<1000000000) (i:Nat) (hi:i<2 ^ 40) (hlv:lv.length<2 ^ 40) (h2:2≤lv.length) (hul:i + lv.length<lu.length) (hul2:lu.length<2 ^ 41)
 (v1 v2 u3 U2:Nat) (hv1:lv.getD (lv.length - 1) 0=v1) (hv2:lv.getD (lv.length - 2) 0=v2) (hu3:lu.getD (i + lv.length - 2) 0=u3) (hU2:U2<v1 * 1000000000 + 1000000000) :
 ∀ (m g r:Nat),g<2 ^ 31→r<1000000000→1000000000≤r + m * v1→g * v1 + r=U2→(∀ x,x<1000000000→x * (v1 * 1000000000 + v2)≤U2 * 1000000000 + u3→x≤g) →
  ∃ g':Nat,(∀ k0:List PV→List PV→List PV→Int→List PV→Int→Int→Option R,UaN n m xs (nl .u32 lu) (nl .u32 lv) lv.length q i g r k0=k0 xs (nl .u32 lu) (nl .u32 lv) lv.length q i g') ∧
   g'<1000000000∧g' * (v1 * 1000000000 + v2)≤U2 * 1000000000 + u3∧(∀ x,x<1000000000→x * (v1 * 1000000000 + v2)≤U2 * 1000000000 + u3→x≤g')
 | 0,g,r,hg,hr,hm,hinv,hmax=>by omega
 | m + 1,g,r,hg,hr,hm,hinv,hmax=>by
  have hb1:v1<1000000000:=by rw [←hv1]; exact Uaf hB2 hv _
  have hb2:v2<1000000000:=by rw [←hv2]; exact Uaf hB2 hv _
  have hb3:u3<1000000000:=by rw [←hu3]; exact Uaf hB2 hu _
  have e1:(lv.length:Int) - 1=((lv.length - 1:Nat):Int):=by omega
  have e2:(lv.length:Int) - 2=((lv.length - 2:Nat):Int):=by omega
  have e3:(i:Int) + (lv.length:Int)=((i + lv.length:Nat):Int):=by omega
  have e4:((i + lv.length:Nat):Int) - 2=((i + lv.length - 2:Nat):Int):=by omega
  have e5:(g:Int) * (v2:Int)=((g * v2:Nat):Int):=by rw [Int.natCast_mul]
  have e6:(r:Int) * 1000000000=((r * 1000000000:Nat):Int):=by omega
  have e7:((r * 1000000000:Nat):Int) + (u3:Int)=((r * 1000000000 + u3:Nat):Int):=by omega
  have e8:(r:Int) + (v1:Int)=((r + v1:Nat):Int):=by omega
  have hgv:g * v2≤2 ^ 31 * 1000000000:=Nat.mul_le_mul (by omega) (by omega)
  have hkey:g * (v1 * 1000000000 + v2) + r * 1000000000=U2 * 1000000000 + g * v2:=by rw [←hinv]; grind
  by_cases hc:1000000000≤g∨r * 1000000000 + u3<g * v2
  · have hg1:1≤g:=by
     rcases Nat.eq_zero_or_pos g with h0 | h0
     · subst h0; simp at hc
     · exact h0
    obtain ⟨p,rfl⟩:∃ p,g=p + 1:=⟨g - 1,by omega⟩
    have e9:((p + 1:Nat):Int) - 1=(p:Int):=by omega
    have hinv':p * v1 + (r + v1)=U2:=by rw [←hinv,Nat.succ_mul]; omega
    have hkey':p * (v1 * 1000000000 + v2) + (r + v1) * 1000000000=U2 * 1000000000 + p * v2:=by rw [←hinv']; grind
    have hmax':∀ x,x<1000000000→x * (v1 * 1000000000 + v2)≤U2 * 1000000000 + u3→x≤p:=by
     intro x hx hxu
     have:=hmax x hx hxu
     by_cases hxp:x=p + 1
     · subst hxp; exfalso; omega
     · omega
    by_cases hr2:1000000000≤r + v1
    · have hpb:p<1000000000:=by
       apply Nat.lt_of_not_le
       intro hp
       have:1000000000 * v1≤p * v1:=Nat.mul_le_mul_right _ hp
       omega
      have hpv:p * v2≤1000000000 * 1000000000:=Nat.mul_le_mul (by omega) (by omega)
      refine ⟨p,fun k0=>?_,hpb,by omega,hmax'⟩
      simp only [UaN,Ubm,Ucm]
      by_cases h1:1000000000≤p + 1
      · simp (disch:=(first | omega | (simp only [JlE]; omega))) only [↓JlH,JlF,JlG,e1,e2,e3,e4,hv1,hv2,hu3,e5,e6,e7,e8,e9]
      · simp (disch:=(first | omega | (simp only [JlE]; omega))) only [↓JlH,JlF,JlG,e1,e2,e3,e4,hv1,hv2,hu3,e5,e6,e7,e8,e9]
    · obtain ⟨g',h1,h3,h4,h5⟩:=Ugg n xs q lu lv hu hv i hi hlv h2 hul hul2 v1 v2 u3 U2 hv1 hv2 hu3 hU2 m p (r + v1) (by omega) (by omega) (by rw [Nat.succ_mul] at hm; omega) hinv' hmax'
      refine ⟨g',fun k0=>?_,h3,h4,h5⟩
      rw [←h1 k0]
      simp only [UaN,Ubm,Ucm]
      by_cases h1:1000000000≤p + 1
      · simp (disch:=(first | omega | (simp only [JlE]; omega))) only [↓JlH,JlF,JlG,e1,e2,e3,e4,hv1,hv2,hu3,e5,e6,e7,e8,e9]
      · simp (disch:=(first | omega | (simp only [JlE]; omega))) only [↓JlH,JlF,JlG,e1,e2,e3,e4,hv1,hv2,hu3,e5,e6,e7,e8,e9]
  · have hc1:g<1000000000:=by omega
    have hc2:g * v2≤r * 1000000000 + u3:=by omega
    refine ⟨g,fun k0=>?_,hc1,by omega,hmax⟩
    simp only [UaN,Ubm]
    simp (disch:=(first | omega | (simp only [JlE]; omega))) only [↓JlH,JlF,JlG,e1,e2,e3,e4,hv1,hv2,hu3,e5,e6,e7,e8]
end Go.Proofs.YtmgfmlhdnadglaaGreatDoor
set_option linter.unusedVariables false
namespace Go.Proofs.YtmgfmlhdnadglaaGreatDoor
theorem Uwx {B D U P Vl Wl V W g:Nat} (hV:V=D * P + Vl) (hW:W=U * P + Wl) (hVl:Vl<P) (hWl:Wl<P) (hD:B≤D) (hg:g<B) (hgU:g * D≤U)
 (hmax:∀ x,x<B→x * D≤U→x≤g) (hWV:W<B * V):W / V≤g∧g * V<W + V:=by
 have hP:0<P:=by omega
 have hD0:0<D:=by omega
 have hDP:0<D * P:=Nat.mul_pos hD0 hP
 have hV0:0<V:=by omega
 constructor
 · apply hmax
   · exact Nat.div_lt_of_lt_mul (by rw [Nat.mul_comm]; exact hWV)
   · have h1:W / V * V≤W:=Nat.div_mul_le_self W V
     generalize W / V=Q at *
     apply Nat.le_of_not_lt
     intro h
     have h2:(U + 1) * P≤Q * D * P:=Nat.mul_le_mul_right _ h
     rw [hV,Nat.mul_add,←Nat.mul_assoc] at h1
     rw [Nat.succ_mul] at h2
     have h3:0≤Q * Vl:=Nat.zero_le _
     omega
 · have h1:g * D * P≤U * P:=Nat.mul_le_mul_right _ hgU
   have h2:g * Vl≤B * P:=Nat.mul_le_mul (by omega) (by omega)
   have h3:B * P≤D * P:=Nat.mul_le_mul_right _ hD
   have h4:g * Vl<B * P∨g * Vl=0:=by
    rcases Nat.eq_zero_or_pos Vl with h0 | h0
    · right; rw [h0,Nat.mul_zero]
    · left; exact Nat.mul_lt_mul_of_lt_of_lt hg hVl
   rw [hV,Nat.mul_add,←Nat.mul_assoc,hW]
   rcases h4 with h4 | h4 <;> omega
theorem Uad (b:Nat) (l:List Nat) (i:Nat):val b (l.drop i)=l.getD i 0 + b * val b (l.drop (i + 1)):=by
 by_cases h:i<l.length
 · rw [List.drop_eq_getElem_cons h,val,List.getD_eq_getElem?_getD,List.getElem?_eq_getElem h]; rfl
 · rw [List.drop_eq_nil_of_le (by omega),List.drop_eq_nil_of_le (by omega),Udp (by omega)]; simp [val]
theorem Ucy {b:Nat} (hb:2≤b) (l:List Nat) (k:Nat) (h:val b l<b ^ k):val b (l.drop k)=0:=by
 by_cases hk:k≤l.length
 · have h1:=Uap b l k hk
   rcases Nat.eq_zero_or_pos (val b (l.drop k)) with h0 | h0
   · exact h0
   · have:b ^ k * 1≤b ^ k * val b (l.drop k):=Nat.mul_le_mul_left _ h0
     omega
 · rw [List.drop_eq_nil_of_le (by omega)]; rfl
theorem Uru {B:Nat} (hB:2≤B) (o lv:List Nat) (ho:∀ d∈o,d<B) (hv:∀ d∈lv,d<B) (i:Nat) (h2:2≤lv.length) (hi:i + lv.length<o.length) (hW:val B (o.drop i)<B * val B lv) :
 ∃ Vl Wl,val B lv=(lv.getD (lv.length - 1) 0 * B + lv.getD (lv.length - 2) 0) * B ^ (lv.length - 2) + Vl∧Vl<B ^ (lv.length - 2) ∧
  val B (o.drop i)=((o.getD (i + lv.length) 0 * B + o.getD (i + lv.length - 1) 0) * B + o.getD (i + lv.length - 2) 0) * B ^ (lv.length - 2) + Wl∧Wl<B ^ (lv.length - 2) ∧
  o.getD (i + lv.length) 0 * B + o.getD (i + lv.length - 1) 0<lv.getD (lv.length - 1) 0 * B + B:=by
 have hVlt:=Ud3 hB lv hv
 have hWlt:val B (o.drop i)<B ^ (lv.length + 1):=by
  rw [Nat.pow_succ,Nat.mul_comm _ B]
  exact Nat.lt_of_lt_of_le hW (Nat.mul_le_mul_left _ (Nat.le_of_lt hVlt))
 have hz:=Ucy hB _ _ hWlt
 rw [List.drop_drop] at hz
 have hoi:∀ d∈o.drop i,d<B:=fun d hd=>ho d (List.mem_of_mem_drop hd)
 have a1:=Uap B lv (lv.length - 2) (by omega)
 have a2:=Uad B lv (lv.length - 2)
 have a3:=Uad B lv (lv.length - 1)
 rw [show lv.length - 2 + 1=lv.length - 1 from by omega] at a2
 rw [show lv.length - 1 + 1=lv.length from by omega,List.drop_length,show val B []=0 from rfl,Nat.mul_zero,Nat.add_zero] at a3
 rw [a3] at a2; rw [a2] at a1
 have b1:=Uap B (o.drop i) (lv.length - 2) (by rw [List.length_drop]; omega)
 rw [List.drop_drop] at b1
 have b2:=Uad B o (i + (lv.length - 2))
 have b3:=Uad B o (i + lv.length - 1)
 have b4:=Uad B o (i + lv.length)
 rw [show i + (lv.length - 2) + 1=i + lv.length - 1 from by omega] at b2
 rw [show i + lv.length - 1 + 1=i + lv.length from by omega] at b3
 rw [show i + lv.length + 1=i + (lv.length + 1) from by omega,hz,Nat.mul_zero,Nat.add_zero] at b4
 rw [show i + (lv.length - 2)=i + lv.length - 2 from by omega] at b2 b1
 rw [b4] at b3; rw [b3] at b2; rw [b2] at b1
 have c1:=Uak hB hv (i:=lv.length - 2) (by omega)
 have c2:=Uak hB hoi (i:=lv.length - 2) (by rw [List.length_drop]; omega)
 have hP:0<B ^ (lv.length - 2):=Nat.pow_pos (by omega)
 have hv2:lv.getD (lv.length - 2) 0<B:=Uaf hB hv _
 generalize B ^ (lv.length - 2)=P at *
 generalize val B (List.take (lv.length - 2) lv)=Vl at *
 generalize val B (List.take (lv.length - 2) (o.drop i))=Wl at *
 generalize val B lv=V at *
 generalize val B (o.drop i)=W at *
 generalize lv.getD (lv.length - 1) 0=v1 at *
 generalize lv.getD (lv.length - 2) 0=v2 at *
 generalize o.getD (i + lv.length) 0=z at *
 generalize o.getD (i + lv.length - 1) 0=z1 at *
 generalize o.getD (i + lv.length - 2) 0=z2 at *
 clear a2 a3 b2 b3 b4 hz hVlt hWlt
 refine ⟨Vl,Wl,by rw [a1]; grind,c1,by rw [b1]; grind,c2,?_⟩
 apply Nat.lt_of_not_le
 intro h
 have d1:(v1 * B + B) * (B * P)≤(z * B + z1) * (B * P):=Nat.mul_le_mul_right _ h
 have d2:V<(v1 + 1) * (B * P):=by
  have:v2 * P + P≤B * P:=by rw [←Nat.succ_mul]; exact Nat.mul_le_mul_right _ hv2
  rw [a1]; grind
 have d3:B * V<B * ((v1 + 1) * (B * P)):=Nat.mul_lt_mul_of_pos_left d2 (by omega)
 grind
theorem Us4 {Bi P V W g t1 z cs vo vo1 lo:Nat} (r2:vo1=t1 + P * z) (r3:vo=lo + Bi * W) (r4:lo<Bi) (r5:t1<P) (q7:vo1 + g * (Bi * V)=vo + P * cs) :
 (cs≤z→g * V≤W)∧(z<cs→W<g * V):=by
 have e:g * (Bi * V)=Bi * (g * V):=by grind
 rw [e] at q7
 constructor
 · intro h
   have h1:P * cs≤P * z:=Nat.mul_le_mul_left _ h
   have h2:Bi * (g * V)<Bi * (W + 1):=by rw [Nat.mul_succ]; omega
   exact Nat.le_of_lt_succ (Nat.lt_of_mul_lt_mul_left h2)
 · intro h
   have h1:P * (z + 1)≤P * cs:=Nat.mul_le_mul_left _ h
   rw [Nat.mul_succ] at h1
   have h2:Bi * W<Bi * (g * V):=by omega
   exact Nat.lt_of_mul_lt_mul_left h2
end Go.Proofs.YtmgfmlhdnadglaaGreatDoor
set_option linter.unusedVariables false
set_option linter.unusedSimpArgs false
namespace Go.Proofs.YtmgfmlhdnadglaaGreatDoor
open Go Th Go.Proofs
variable {R:Type}
theorem UzR {B Bi BL P V W p r t2 z cs c2 vo vo1 vo2 lo:Nat} (hBi:0<Bi) (hP:P=Bi * BL) (r7:vo2=t2 + P * z) (r8:t2<P) (r3:vo=lo + Bi * W) (r4:lo<Bi) (hm1:W=p * V + r) (hm2:r<BL)
 (q7:vo1 + (p + 1) * (Bi * V)=vo + P * cs) (d6:vo2 + P * c2=vo1 + Bi * V):z + c2=cs∧t2 + Bi * (p * V)=vo:=by
 have e1:(p + 1) * (Bi * V)=Bi * (p * V) + Bi * V:=by grind
 rw [e1] at q7
 have e2:Bi * W=Bi * (p * V) + Bi * r:=by rw [hm1,Nat.mul_add]
 have e3:Bi * r + Bi≤P:=by rw [hP,←Nat.mul_succ]; exact Nat.mul_le_mul_left _ hm2
 have e4:t2 + P * z + P * c2=lo + Bi * r + P * cs:=by omega
 rw [Nat.add_assoc,←Nat.mul_add] at e4
 have h0:0<P:=by omega
 have h1:z + c2=cs:=by
  have a1:(t2 + P * (z + c2)) / P=z + c2:=by rw [Nat.add_mul_div_left _ _ h0,Nat.div_eq_of_lt r8,Nat.zero_add]
  have a2:(lo + Bi * r + P * cs) / P=cs:=by rw [Nat.add_mul_div_left _ _ h0,Nat.div_eq_of_lt (by omega),Nat.zero_add]
  rw [←a1,e4,a2]
 refine ⟨h1,?_⟩
 rw [h1] at e4
 omega
set_option maxHeartbeats 4000000 in
set_option maxHeartbeats 4000000 in
theorem UnH (n m:Nat) (xs:List PV) (o lv lq:List Nat) (ho:∀ d∈o,d<1000000000) (hv:∀ d∈lv,d<1000000000) (hq:∀ d∈lq,d<1000000000) (i:Nat) (h2:2≤lv.length) (hil:i + lv.length<o.length) (hiq:i<lq.length) (hol:o.length<2 ^ 40)
 (hn:lv.length + 2<n) (hv1:500000000≤lv.getD (lv.length - 1) 0) (hW:val 1000000000 (o.drop i)<1000000000 * val 1000000000 lv) :
 ∃ o':List Nat,(∀ k0:List PV→List PV→List PV→Option R,Uaz n (m + 1) xs (nl .u32 o) (nl .u32 lv) lv.length (nl .u32 lq) i k0=Uaz n m xs (nl .u32 o') (nl .u32 lv) lv.length (nl .u32 (lq.set i (val 1000000000 (o.drop i) / val 1000000000 lv))) ((i:Int) - 1) k0) ∧
  o'.length=o.length∧(∀ d∈o',d<1000000000)∧val 1000000000 o' + 1000000000 ^ i * (val 1000000000 (o.drop i) / val 1000000000 lv * val 1000000000 lv)=val 1000000000 o:=by
 obtain ⟨Vl,Wl,f1,f2,f3,f4,f5⟩:=Uru hB2 o lv ho hv i h2 hil hW
 have hb1:=Uaf hB2 hv (lv.length - 1)
 have hb2:=Uaf hB2 hv (lv.length - 2)
 have hbz:=Uaf hB2 ho (i + lv.length)
 have hbz1:=Uaf hB2 ho (i + lv.length - 1)
 have hbz2:=Uaf hB2 ho (i + lv.length - 2)
 obtain ⟨U2,hU2⟩:∃ U2,U2=o.getD (i + lv.length) 0 * 1000000000 + o.getD (i + lv.length - 1) 0:=⟨_,rfl⟩
 rw [←hU2] at f3 f5
 obtain ⟨v1,hv1e⟩:∃ v1,lv.getD (lv.length - 1) 0=v1:=⟨_,rfl⟩
 obtain ⟨v2,hv2e⟩:∃ v2,lv.getD (lv.length - 2) 0=v2:=⟨_,rfl⟩
 obtain ⟨u3,hu3e⟩:∃ u3,o.getD (i + lv.length - 2) 0=u3:=⟨_,rfl⟩
 obtain ⟨z,hze⟩:∃ z,o.getD (i + lv.length) 0=z:=⟨_,rfl⟩
 obtain ⟨z1,hz1e⟩:∃ z1,o.getD (i + lv.length - 1) 0=z1:=⟨_,rfl⟩
 rw [hv1e,hv2e] at f1
 rw [hu3e] at f3
 rw [hv1e] at f5 hb1 hv1
 rw [hv2e] at hb2; rw [hze] at hbz hU2; rw [hz1e] at hbz1 hU2; rw [hu3e] at hbz2
 have hdm:=Nat.div_add_mod' U2 v1
 have hmod:U2 % v1<v1:=Nat.mod_lt _ (by omega)
 have hdv0:U2<v1 * 2147483648:=Nat.lt_of_lt_of_le f5 (by rw [show v1 * 2147483648=v1 * 1000000000 + v1 * 1147483648 from by rw [←Nat.mul_add]]; exact Nat.add_le_add_left (by clear f1 f2 f3 f4 f5 hdm hmod hU2; omega) _)
 have hdv:U2 / v1<2147483648:=Nat.div_lt_of_lt_mul hdv0
 obtain ⟨g,hg1,hg2,hg3,hg4⟩:=Ugg (R:=R) n xs (nl .u32 lq) o lv ho hv i (by omega) (by omega) h2 hil (by omega) v1 v2 u3 U2 hv1e hv2e hu3e f5 n (U2 / v1) (U2 % v1) hdv (by omega)
  (by have:3 * v1≤n * v1:=Nat.mul_le_mul_right _ (by omega)
      omega) hdm
  (by intro x hx hxu
      rw [Nat.le_div_iff_mul_le (by omega)]
      apply Nat.le_of_not_lt
      intro h
      have h3:(U2 + 1) * 1000000000≤x * v1 * 1000000000:=Nat.mul_le_mul_right _ h
      rw [Nat.mul_add,←Nat.mul_assoc] at hxu
      have:0≤x * v2:=Nat.zero_le _
      omega)
 obtain ⟨k1,k2⟩:=Uwx (B:=1000000000) f1 f3 f2 f4 (by omega) hg2 hg3 hg4 hW
 obtain ⟨o1,c1,s1,q1,q2,q3,q4,q5,q6,q7⟩:=Ukw (R:=R) n xs (nl .u32 lq) lv hv g i hg2 (by omega) (by omega) lv.length n 0 o 0 0 (by omega) (by omega) (by omega) (by omega) ho (by omega) (by omega)
 have hz':o1.getD (i + lv.length) 0=z:=by
  rw [←hze]
  have h:=congrArg (fun l=>l.getD 0 0) q6
  simpa [List.getD_eq_getElem?_getD] using h
 have r1:=Uap 1000000000 o (i + lv.length) (by omega)
 have r2:=Uap 1000000000 o1 (i + lv.length) (by omega)
 have r3:=Uap 1000000000 o i (by omega)
 have r4:=Uak hB2 ho (i:=i) (by omega)
 have r5:=Uak hB2 q3 (i:=i + lv.length) (by omega)
 rw [q6] at r2
 have r6:val 1000000000 (o.drop (i + lv.length))=z:=by
  have hWlt:val 1000000000 (o.drop i)<1000000000 ^ (lv.length + 1):=by
   rw [Nat.pow_succ,Nat.mul_comm _ 1000000000]
   exact Nat.lt_of_lt_of_le hW (Nat.mul_le_mul_left _ (Nat.le_of_lt (Ud3 hB2 lv hv)))
  have hz:=Ucy hB2 _ _ hWlt
  rw [List.drop_drop] at hz
  rw [Uad,show i + lv.length + 1=i + (lv.length + 1) from by omega,hz,hze,Nat.mul_zero,Nat.add_zero]
 rw [r6] at r1 r2
 simp only [Nat.add_zero,Nat.mul_zero,List.drop_zero] at q7
 obtain ⟨b1,b2⟩:=Us4 r2 r3 r4 r5 q7
 have hV0:0<val 1000000000 lv:=by
  rcases Nat.eq_zero_or_pos (val 1000000000 lv) with h0 | h0
  · rw [h0] at hW; omega
  · exact h0
 by_cases hcs:c1 + s1≤z
 · have hQ:val 1000000000 (o.drop i) / val 1000000000 lv=g:=Nat.le_antisymm k1 ((Nat.le_div_iff_mul_le hV0).2 (b1 hcs))
   rw [hQ]
   have hgu:g<4294967296:=by omega
   have w1:(i:Int) + (lv.length:Int)=((i + lv.length:Nat):Int):=by omega
   have w2:((i + lv.length:Nat):Int) - 1=((i + lv.length - 1:Nat):Int):=by omega
   have w3:(lv.length:Int) - 1=((lv.length - 1:Nat):Int):=by omega
   have w4:(z:Int) * 1000000000 + (z1:Int)=(U2:Int):=by omega
   have w5:(z:Int) - (c1:Int) - (s1:Int)=((z - (c1 + s1):Nat):Int):=by omega
   refine ⟨o1.set (i + lv.length) (z - (c1 + s1)),fun k0=>?_,by rw [List.length_set,q2],Ubo q3 (by omega) _,?_⟩
   · clear f1 f2 f3 f4 f5 hg3 hg4 q7 r1 r2 r3 r4 r5 r6 b1 b2 hQ hW k1 k2 hdm q6 q3 hq ho hv
     have q1':∀ k0:List PV→List PV→List PV→Int→List PV→Int→Int→Int→Int→Option R,UaE n n xs (nl .u32 o) (nl .u32 lv) lv.length (nl .u32 lq) i g 0 0 lv.length 0 k0=k0 xs (nl .u32 o1) (nl .u32 lv) lv.length (nl .u32 lq) i g c1 s1:=q1
     have t1:Int.tdiv (U2:Int) (v1:Int)=((U2 / v1:Nat):Int):=Jlj _ _
     have t2:Int.tmod (U2:Int) (v1:Int)=((U2 % v1:Nat):Int):=Jlk _ _
     generalize U2 / v1=g0 at *
     generalize U2 % v1=r0 at *
     clear q1
     simp only [Uaz,Ubl,Ufn,Ufo,Ucn,Ucl]
     simp (disch:=(first | omega | (simp only [JlE]; omega))) only [↓JlH,JlF,JlG,w1,w2,w3,hze,hz1e,hv1e,w4,t1,t2,hg1,q1',hz',w5,q2]
   · have hs:=Udf 1000000000 (z - (c1 + s1)) (l:=o1) (i:=i + lv.length) (by omega)
     rw [hz'] at hs
     have e2:1000000000 ^ (i + lv.length) * z=1000000000 ^ (i + lv.length) * (z - (c1 + s1)) + 1000000000 ^ (i + lv.length) * (c1 + s1):=by rw [←Nat.mul_add]; congr 1; omega
     have e3:g * (1000000000 ^ i * val 1000000000 lv)=1000000000 ^ i * (g * val 1000000000 lv):=by grind
     rw [e3] at q7
     generalize 1000000000 ^ (i + lv.length) * z=A1 at *
     omega
 · have hQ:val 1000000000 (o.drop i) / val 1000000000 lv + 1=g:=by
    have h1:=b2 (Nat.lt_of_not_le hcs)
    have h3:val 1000000000 (o.drop i) / val 1000000000 lv<g:=(Nat.div_lt_iff_lt_mul hV0).2 h1
    obtain ⟨p,rfl⟩:∃ p,g=p + 1:=⟨g - 1,(Nat.succ_pred_eq_of_pos (Nat.lt_of_le_of_lt (Nat.zero_le _) h3)).symm⟩
    have h4:p≤val 1000000000 (o.drop i) / val 1000000000 lv:=(Nat.le_div_iff_mul_le hV0).2 (by rw [Nat.succ_mul] at k2; omega)
    omega
   obtain ⟨p,rfl⟩:∃ p,g=p + 1:=⟨val 1000000000 (o.drop i) / val 1000000000 lv,hQ.symm⟩
   have hQ':val 1000000000 (o.drop i) / val 1000000000 lv=p:=by omega
   rw [hQ']
   obtain ⟨o2,c2,d1,d2,d3,d4,d5,d6⟩:=Uig (R:=R) n xs (nl .u32 lq) lv hv p i ((z:Int) - (c1:Int) - (s1:Int)) (by omega) (by omega) lv.length n 0 o1 0 (by omega) (by omega) (by omega) (by omega) q3 (by omega)
   simp only [Nat.add_zero,Nat.mul_zero,List.drop_zero] at d6
   have hz2:o2.getD (i + lv.length) 0=z:=by
    rw [←hz']
    have h:=congrArg (fun l=>l.getD 0 0) d5
    simpa [List.getD_eq_getElem?_getD] using h
   have r7:=Uap 1000000000 o2 (i + lv.length) (by omega)
   have r8:=Uak hB2 d3 (i:=i + lv.length) (by omega)
   rw [d5,q6,r6] at r7
   have hm1:val 1000000000 (o.drop i)=p * val 1000000000 lv + val 1000000000 (o.drop i) % val 1000000000 lv:=by
    rw [←hQ',Nat.div_add_mod']
   have hm2:val 1000000000 (o.drop i) % val 1000000000 lv<1000000000 ^ lv.length:=Nat.lt_trans (Nat.mod_lt _ hV0) (Ud3 hB2 lv hv)
   obtain ⟨top,low⟩:=UzR (B:=1000000000) (Nat.pow_pos (by omega):0<1000000000 ^ i) (by rw [Nat.pow_add]) r7 r8 r3 r4 hm1 hm2 q7 d6
   have hs:=Udf 1000000000 0 (l:=o2) (i:=i + lv.length) (by omega)
   rw [hz2,Nat.mul_zero,Nat.add_zero] at hs
   refine ⟨o2.set (i + lv.length) 0,fun k0=>?_,by rw [List.length_set,d2,q2],Ubo d3 (by omega) _,?_⟩
   · have w1:(i:Int) + (lv.length:Int)=((i + lv.length:Nat):Int):=by omega
     have w2:((i + lv.length:Nat):Int) - 1=((i + lv.length - 1:Nat):Int):=by omega
     have w3:(lv.length:Int) - 1=((lv.length - 1:Nat):Int):=by omega
     have w4:(z:Int) * 1000000000 + (z1:Int)=(U2:Int):=by omega
     have w5:((p + 1:Nat):Int) - 1=(p:Int):=by omega
     have w6:(z:Int) - (c1:Int) - (s1:Int) + (c2:Int)=((0:Nat):Int):=by omega
     have hgu:p + 1<4294967296:=by omega
     clear f1 f2 f3 f4 f5 hg3 hg4 q7 r1 r2 r3 r4 r5 r6 b1 b2 hQ hQ' hW k1 k2 hdm q6 q3 hq ho hv r7 r8 hm1 hm2 low hs d3 d5 d6
     have q1':∀ k0:List PV→List PV→List PV→Int→List PV→Int→Int→Int→Int→Option R,UaE n n xs (nl .u32 o) (nl .u32 lv) lv.length (nl .u32 lq) i ((p + 1:Nat):Int) 0 0 lv.length 0 k0=k0 xs (nl .u32 o1) (nl .u32 lv) lv.length (nl .u32 lq) i ((p + 1:Nat):Int) c1 s1:=q1
     have d1':∀ k0:List PV→List PV→List PV→Int→List PV→Int→Int→Int→Int→Option R,UaO n n xs (nl .u32 o1) (nl .u32 lv) lv.length (nl .u32 lq) i p ((z:Int) - (c1:Int) - (s1:Int)) 0 lv.length 0 k0=k0 xs (nl .u32 o2) (nl .u32 lv) lv.length (nl .u32 lq) i p ((z:Int) - (c1:Int) - (s1:Int)) c2:=d1
     have t1:Int.tdiv (U2:Int) (v1:Int)=((U2 / v1:Nat):Int):=Jlj _ _
     have t2:Int.tmod (U2:Int) (v1:Int)=((U2 % v1:Nat):Int):=Jlk _ _
     generalize U2 / v1=g0 at *
     generalize U2 % v1=r0 at *
     clear q1 d1
     simp only [Uaz,Ubl,Ufn,Ufo,Ujb,Ucn,Ucl]
     simp (disch:=(first | omega | (simp only [JlE]; omega))) only [↓JlH,JlF,JlG,w1,w2,w3,hze,hz1e,hv1e,w4,t1,t2,hg1,q1',hz',w5,d1',w6,q2,d2]
   · generalize 1000000000 ^ (i + lv.length) * z=A1 at *
     generalize 1000000000 ^ i * (p * val 1000000000 lv)=A2 at *
     omega
theorem Uih (n:Nat) (xs:List PV) (lv:List Nat) (hv:∀ d∈lv,d<1000000000) (h2:2≤lv.length) (hn:lv.length + 2<n) (hv1:500000000≤lv.getD (lv.length - 1) 0) (U:Nat) :
 ∀ (d m:Nat) (o lq:List Nat),(∀ x∈o,x<1000000000)→(∀ x∈lq,x<1000000000)→lq.length + lv.length=o.length→d≤lq.length→d<m→o.length<2 ^ 40→val 1000000000 (o.drop d)<val 1000000000 lv →
  val 1000000000 o + 1000000000 ^ d * (val 1000000000 lv * val 1000000000 (lq.drop d))=U →
  ∃ o' lq':List Nat,(∀ k0:List PV→List PV→List PV→Option R,Uaz n m xs (nl .u32 o) (nl .u32 lv) lv.length (nl .u32 lq) ((d:Int) - 1) k0=k0 xs (nl .u32 o') (nl .u32 lq'))∧o'.length=o.length∧lq'.length=lq.length ∧
   (∀ x∈o',x<1000000000)∧(∀ x∈lq',x<1000000000)∧val 1000000000 o'<val 1000000000 lv∧val 1000000000 o' + val 1000000000 lv * val 1000000000 lq'=U
 | 0,m + 1,o,lq,ho,hq,hl,hd,hm,h40,hlt,hU=>by
  rw [List.drop_zero] at hlt hU
  rw [Nat.pow_zero,Nat.one_mul] at hU
  refine ⟨o,lq,fun k0=>?_,rfl,rfl,ho,hq,hlt,hU⟩
  simp only [Uaz,Ubl]
  simp (disch:=(first | omega | (simp only [JlE]; omega))) only [↓JlH,JlF,JlG]
 | d + 1,m + 1,o,lq,ho,hq,hl,hd,hm,h40,hlt,hU=>by
  have hod:=Uaf hB2 ho d
  have hW:val 1000000000 (o.drop d)<1000000000 * val 1000000000 lv:=by
   rw [Uad]
   have:1000000000 * val 1000000000 (o.drop (d + 1)) + 1000000000≤1000000000 * val 1000000000 lv:=by rw [←Nat.mul_succ]; exact Nat.mul_le_mul_left _ hlt
   omega
  obtain ⟨o',s1,s2,s3,s4⟩:=UnH (R:=R) n m xs o lv lq ho hv hq d h2 (by omega) (by omega) h40 hn hv1 hW
  have hV0:0<val 1000000000 lv:=by omega
  have hpB:val 1000000000 (o.drop d) / val 1000000000 lv<1000000000:=Nat.div_lt_of_lt_mul (by rw [Nat.mul_comm]; exact hW)
  obtain ⟨p,hp⟩:∃ p,val 1000000000 (o.drop d) / val 1000000000 lv=p:=⟨_,rfl⟩
  have r1:=Uap 1000000000 o d (by omega)
  have r2:=Uap 1000000000 o' d (by omega)
  have r3:=Uak hB2 ho (i:=d) (by omega)
  have r4:=Uak hB2 s3 (i:=d) (by omega)
  have hdm:=Nat.div_add_mod' (val 1000000000 (o.drop d)) (val 1000000000 lv)
  have hmod:val 1000000000 (o.drop d) % val 1000000000 lv<val 1000000000 lv:=Nat.mod_lt _ hV0
  rw [hp] at s1 s4 hpB hdm
  have hrest:val 1000000000 (o'.drop d)=val 1000000000 (o.drop d) % val 1000000000 lv:=by
   have h0:0<1000000000 ^ d:=Nat.pow_pos (by omega)
   generalize 1000000000 ^ d=P at *
   rw [r1,r2,←hdm,Nat.mul_add] at s4
   have e:val 1000000000 (List.take d o') + P * val 1000000000 (List.drop d o')=val 1000000000 (List.take d o) + P * (val 1000000000 (o.drop d) % val 1000000000 lv):=by
    omega
   have a1:(val 1000000000 (List.take d o') + P * val 1000000000 (List.drop d o')) / P=val 1000000000 (List.drop d o'):=by rw [Nat.add_mul_div_left _ _ h0,Nat.div_eq_of_lt r4,Nat.zero_add]
   have a2:(val 1000000000 (List.take d o) + P * (val 1000000000 (o.drop d) % val 1000000000 lv)) / P=val 1000000000 (o.drop d) % val 1000000000 lv:=by rw [Nat.add_mul_div_left _ _ h0,Nat.div_eq_of_lt r3,Nat.zero_add]
   rw [←a1,e,a2]
  have hqv:val 1000000000 ((lq.set d p).drop d)=p + 1000000000 * val 1000000000 (lq.drop (d + 1)):=by
   rw [Uad,List.drop_set_of_lt (by omega),List.getD_eq_getElem?_getD,List.getElem?_set_self (by omega)]; rfl
  obtain ⟨o2,lq2,t1,t2,t3,t4,t5,t6,t7⟩:=Uih n xs lv hv h2 hn hv1 U d m o' (lq.set d p) s3 (Ubo hq hpB _) (by rw [List.length_set,s2]; exact hl) (by rw [List.length_set]; omega) (by omega) (by omega) (by rw [hrest]; exact hmod)
   (by
     rw [hqv,←hU,←s4,Nat.pow_succ]
     generalize 1000000000 ^ d=P
     generalize val 1000000000 (lq.drop (d + 1))=Q
     generalize val 1000000000 lv=V
     grind)
  refine ⟨o2,lq2,fun k0=>?_,by rw [t2,s2],by rw [t3,List.length_set],t4,t5,t6,t7⟩
  rw [←t1 k0,←s1 k0,show ((d + 1:Nat):Int) - 1=(d:Int) from by omega]
theorem UnZ (B t:Nat) (hB:B=1000000000) (ht:1≤t) (htB:t<B):500000000≤B / (t + 1) * t∧B / (t + 1) * (t + 1)≤B∧1≤B / (t + 1):=by
 have h1:B / (t + 1) * (t + 1)≤B:=Nat.div_mul_le_self _ _
 have h2:1≤B / (t + 1):=(Nat.le_div_iff_mul_le (by omega)).2 (by omega)
 have h3:=Nat.div_add_mod' B (t + 1)
 have h4:B % (t + 1)<t + 1:=Nat.mod_lt _ (by omega)
 refine ⟨?_,h1,h2⟩
 generalize B / (t + 1)=q at *
 generalize B % (t + 1)=r at *
 rw [Nat.mul_succ] at h3
 by_cases c1:q=1
 · subst c1; omega
 by_cases c2:t=1
 · subst c2; omega
 obtain ⟨s,rfl⟩:∃ s,t=s + 2:=⟨t - 2,by omega⟩
 have h5:2 * (s + 1)≤q * (s + 1):=Nat.mul_le_mul_right _ (by omega)
 have h6:q * (s + 2)=q * (s + 1) + q:=by grind
 omega
theorem Ude {b:Nat} (hb:2≤b) {x:Nat} (h0:x≠0) (hx:x<b):toL b x=[x]:=by
 rw [Ua9 hb h0,Nat.mod_eq_of_lt hx,Nat.div_eq_of_lt hx,Uah]
theorem Ud2 {b:Nat} (hb:2≤b) {x:Nat} (h0:x≠0):1≤(toL b x).length∧(toL b x).getD ((toL b x).length - 1) 0 * b ^ ((toL b x).length - 1)≤x∧x<((toL b x).getD ((toL b x).length - 1) 0 + 1) * b ^ ((toL b x).length - 1)∧1≤(toL b x).getD ((toL b x).length - 1) 0:=by
 have hl:1≤(toL b x).length:=by
  rcases Nat.eq_zero_or_pos (toL b x).length with h | h
  · exact absurd ((UbK hb).1 (List.eq_nil_of_length_eq_zero h)) h0
  · exact h
 have h1:=Uap b (toL b x) ((toL b x).length - 1) (by omega)
 rw [Uad,show (toL b x).length - 1 + 1=(toL b x).length from by omega,List.drop_length,show val b []=0 from rfl,Nat.mul_zero,Nat.add_zero,Uas hb] at h1
 have h2:=Uak hb (UaP hb x) (i:=(toL b x).length - 1) (by omega)
 have h3:=Ujn hb x
 rw [List.getLast?_eq_getElem?] at h3
 have h4:1≤(toL b x).getD ((toL b x).length - 1) 0:=by
  apply Nat.one_le_iff_ne_zero.2
  intro h
  rw [List.getD_eq_getElem?_getD,List.getElem?_eq_getElem (by omega)] at h
  rw [List.getElem?_eq_getElem (by omega)] at h3
  exact h3 (congrArg some h)
 refine ⟨hl,?_,?_,h4⟩
 · rw [Nat.mul_comm]; omega
 · rw [Nat.succ_mul,Nat.mul_comm]; omega
theorem UjE {b:Nat} (hb:2≤b) {x k:Nat} (h:k<(toL b x).length):b ^ k≤x:=by
 apply Nat.le_of_not_lt
 intro q
 have:=(Uai hb x k).2 q
 omega
set_option maxHeartbeats 2000000 in
theorem Ukv (n a b:Nat) (hb:0<b) (hla:(toL 1000000000 a).length<2 ^ 20) (hlb:(toL 1000000000 b).length<2 ^ 20) (hn:(toL 1000000000 a).length + (toL 1000000000 b).length + 10<n) (k0:List PV→List PV→Option R) :
 Usy n (NN a) (NN b) k0=k0 (NN (a / b)) (NN (a % b)):=by
 have hc:=fun k0=>Ukq (R:=R) n a b (by omega) (by omega) (by omega) k0
 unfold Usy
 simp only [hc]
 by_cases hab:a<b
 · have e:Ued a b=-1:=by unfold Ued; rw [if_pos hab]
   have e0:NN 0=[]:=by unfold NN; rw [Uah]; rfl
   rw [Nat.div_eq_of_lt hab,Nat.mod_eq_of_lt hab,e0]
   simp (disch:=(first | omega | (simp only [JlE]; omega))) only [↓JlH,JlF,JlG,e]
 have e:0≤Ued a b:=by unfold Ued; rw [if_neg hab]; split <;> omega
 obtain ⟨tl,t0,t1,t2⟩:=Ud2 hB2 (x:=b) (by omega)
 have hbt:=Uaf hB2 (UaP hB2 b) ((toL 1000000000 b).length - 1)
 have hN:NN b=nl .u32 (toL 1000000000 b):=rfl
 by_cases h1:(toL 1000000000 b).length=1
 · have hb1:b<1000000000:=by
    have:=(Uai hB2 b 1).1 (by omega)
    rwa [Nat.pow_one] at this
   have hone:=Ude hB2 (x:=b) (by omega) hb1
   have hs:=fun k0=>Ujl (R:=R) n a b hb (by omega) (by omega) (by omega) k0
   have hmod:a % b<b:=Nat.mod_lt _ hb
   have ht:=fun k0=>Ubp (R:=R) n [a % b] (by simp; omega) (by simp; omega) (by simp) k0
   rw [show val 1000000000 [a % b]=a % b from by simp [val]] at ht
   have hN1:NN b=nl .u32 [b]:=by rw [hN,hone]
   have e1:([b].getD 0 0)=b:=rfl
   simp only [Ufm]
   rw [hN1]
   have hcond:((([b]:List Nat).length:Int) == 1)=true:=rfl
   have hg:∀ (K:Int→Option R),Jj .u32 ((nl .u32 [b]).getD (0:Int).toNat (PV.v (Value.bool false))) K=K (b:Int):=fun K=>Jhl (l:=[b]) (i:=0) (by simp)
   simp (disch:=(first | omega | (simp only [JlE]; omega))) only [↓JlH,JlF,JlG,hcond,hg,hs,Jln,ht]
   rfl
 obtain ⟨L,hL⟩:∃ L,(toL 1000000000 b).length=L:=⟨_,rfl⟩
 obtain ⟨t,htop⟩:∃ t,(toL 1000000000 b).getD ((toL 1000000000 b).length - 1) 0=t:=⟨_,rfl⟩
 rw [htop] at t0 t1 t2 hbt
 rw [hL] at htop t0 t1 hlb hn tl h1
 obtain ⟨n1,n2,n3⟩:=UnZ 1000000000 t rfl t2 hbt
 obtain ⟨f,hf⟩:∃ f,f=1000000000 / (t + 1):=⟨_,rfl⟩
 rw [←hf] at n1 n2 n3
 have hfB:f<1000000000:=by
  have:f * 2≤f * (t + 1):=Nat.mul_le_mul_left _ (by omega)
  omega
 have hNf:[PV.v (.int .u32 (f:Int))]=NN f:=by unfold NN; rw [Ude hB2 (by omega) hfB,Jln]
 have hfl:(toL 1000000000 f).length=1:=by rw [Ude hB2 (by omega) hfB]; rfl
 have hPL:1000000000 ^ L=1000000000 ^ (L - 1) * 1000000000:=by rw [←Nat.pow_succ]; congr 1; omega
 have hvlt:b * f<1000000000 ^ L:=by
  have a1:b * f<(t + 1) * 1000000000 ^ (L - 1) * f:=Nat.mul_lt_mul_of_pos_right t1 (by omega)
  have a2:(t + 1) * 1000000000 ^ (L - 1) * f≤1000000000 ^ (L - 1) * 1000000000:=by
   have:(t + 1) * 1000000000 ^ (L - 1) * f=1000000000 ^ (L - 1) * (f * (t + 1)):=by grind
   rw [this]; exact Nat.mul_le_mul_left _ n2
  omega
 have hvge:500000000 * 1000000000 ^ (L - 1)≤b * f:=by
  have a1:t * 1000000000 ^ (L - 1) * f≤b * f:=Nat.mul_le_mul_right _ t0
  have a2:t * 1000000000 ^ (L - 1) * f=f * t * 1000000000 ^ (L - 1):=by grind
  have a3:500000000 * 1000000000 ^ (L - 1)≤f * t * 1000000000 ^ (L - 1):=Nat.mul_le_mul_right _ n1
  omega
 have hP0:0<1000000000 ^ (L - 1):=Nat.pow_pos (by omega)
 have hvl:(toL 1000000000 (b * f)).length=L:=by
  have a1:=(Uai hB2 (b * f) L).2 hvlt
  have a2:¬ (toL 1000000000 (b * f)).length≤L - 1:=fun h=>by
   have:=(Uai hB2 (b * f) (L - 1)).1 h
   omega
  omega
 obtain ⟨_,_,v2,_⟩:=Ud2 hB2 (x:=b * f) (by omega)
 rw [hvl] at v2
 have hvtop:500000000≤(toL 1000000000 (b * f)).getD (L - 1) 0:=by
  apply Nat.le_of_not_lt
  intro h
  have:((toL 1000000000 (b * f)).getD (L - 1) 0 + 1) * 1000000000 ^ (L - 1)≤500000000 * 1000000000 ^ (L - 1):=Nat.mul_le_mul_right _ h
  omega
 have hle:b * f≤a * f:=Nat.mul_le_mul_right _ (by omega)
 obtain ⟨A,hA⟩:∃ A,(toL 1000000000 (a * f)).length=A:=⟨_,rfl⟩
 have hA1:L≤A:=by
  rw [←hvl,←hA]
  exact (Uai hB2 (b * f) _).2 (Nat.lt_of_le_of_lt hle ((Uai hB2 (a * f) _).1 (Nat.le_refl _)))
 have hA2:A≤(toL 1000000000 a).length + 1:=by
  rw [←hA]
  apply (Uai hB2 (a * f) _).2
  rw [Nat.pow_succ]
  exact Nat.mul_lt_mul_of_lt_of_lt ((Uai hB2 a _).1 (Nat.le_refl _)) hfB
 obtain ⟨o,ho⟩:∃ o,o=toL 1000000000 (a * f)++[0]:=⟨_,rfl⟩
 have hol:o.length=A + 1:=by rw [ho,List.length_append,hA]; rfl
 have hod:∀ x∈o,x<1000000000:=by
  intro x hx
  rw [ho] at hx
  rcases List.mem_append.1 hx with h | h
  · exact UaP hB2 _ x h
  · simp at h; omega
 have hov:val 1000000000 o=a * f:=by rw [ho,Ucz,Uas hB2]
 have hdrop:val 1000000000 (o.drop (A + 1 - L))<val 1000000000 (toL 1000000000 (b * f)):=by
  rw [Uas hB2]
  have a1:=Uap 1000000000 o (A + 1 - L) (by omega)
  have a2:a * f<1000000000 ^ A:=by rw [←hA]; exact (Uai hB2 _ _).1 (Nat.le_refl _)
  have a3:1000000000 ^ A=1000000000 ^ (A + 1 - L) * 1000000000 ^ (L - 1):=by rw [←Nat.pow_add]; congr 1; omega
  rw [hov] at a1
  have a4:1000000000 ^ (A + 1 - L) * val 1000000000 (o.drop (A + 1 - L))<1000000000 ^ (A + 1 - L) * 1000000000 ^ (L - 1):=by omega
  have a5:=Nat.lt_of_mul_lt_mul_left a4
  omega
 obtain ⟨o',lq',q1,q2,q3,q4,q5,q6,q7⟩:=Uih (R:=R) n (NN f) (toL 1000000000 (b * f)) (UaP hB2 _) (by omega) (by omega) (by rw [hvl]; exact hvtop) (a * f) (A + 1 - L) n o (List.replicate (A + 1 - L) 0) hod (Ugz hB2 _) (by rw [List.length_replicate]; omega) (by rw [List.length_replicate]; omega) (by omega) (by omega) hdrop
  (by rw [List.drop_replicate,Nat.sub_self,hov]; simp [val])
 rw [Uas hB2] at q6 q7
 have hbf:0<b * f:=Nat.mul_pos hb (by omega)
 have hq:val 1000000000 lq'=a / b:=by
  have:a * f / (b * f)=val 1000000000 lq':=by rw [←q7,Nat.add_mul_div_left _ _ hbf,Nat.div_eq_of_lt q6,Nat.zero_add]
  rw [←this,Nat.mul_div_mul_right _ _ (by omega)]
 have hr:val 1000000000 o'=a % b * f:=by
  have:a * f % (b * f)=val 1000000000 o':=by rw [←q7,Nat.add_mul_mod_self_left,Nat.mod_eq_of_lt q6]
  rw [←this,Nat.mul_mod_mul_right]
 have m1:=fun k0=>UaH (R:=R) n a f (by omega) (by omega) (by omega) k0
 have m2:=fun k0=>UaH (R:=R) n b f (by omega) (by omega) (by omega) k0
 have m3:=fun k0=>Ubp (R:=R) n o' q4 (by omega) (by omega) k0
 have m4:=fun k0=>Ubp (R:=R) n lq' q5 (by rw [q3,List.length_replicate]; omega) (by rw [q3,List.length_replicate]; omega) k0
 have hrl:(toL 1000000000 (a % b * f)).length≤L:=by
  apply (Uai hB2 _ _).2
  rw [←hr]
  exact Nat.lt_trans q6 hvlt
 have m5:=fun k0=>Ujl (R:=R) n (a % b * f) f (by omega) (by omega) (by omega) (by omega) k0
 rw [hr] at m3
 rw [hq] at m4
 rw [Nat.mul_div_cancel _ (by omega)] at m5
 have w1:((L:Int) == 1)=false:=by simp; omega
 have w2:(L:Int) - 1=((L - 1:Nat):Int):=by omega
 have w3:(t:Int) + 1=((t + 1:Nat):Int):=by omega
 have w4:Int.tdiv 1000000000 ((t + 1:Nat):Int)=(f:Int):=by rw [hf]; exact Jlj 1000000000 (t + 1)
 have w5:((0 + A + (0 + 1):Nat):Int) - (L:Int)=((A + 1 - L:Nat):Int):=by omega
 have w6:nl .u32 (toL 1000000000 (a * f))++([.v (.int .u32 0)]:List PV)=nl .u32 o:=by
  rw [ho,←Jjc]; rfl
 have hNa:NN (a * f)=nl .u32 (toL 1000000000 (a * f)):=rfl
 have hNb:NN (b * f)=nl .u32 (toL 1000000000 (b * f)):=rfl
 have w7:((A + 1:Nat):Int) - (L:Int)=((A + 1 - L:Nat):Int):=by omega
 rw [hvl] at q1
 have hg:∀ (K:Int→Option R),Jj .u32 ((NN f).getD (0:Int).toNat (PV.v (Value.bool false))) K=K (f:Int):=fun K=>by rw [←hNf]; rfl
 have hNl:(NN f).length=1:=by rw [←hNf]; rfl
 simp only [Ufm,Uhe,Uhf,Uhg,Uhh,Ufk,Ufl,Uja]
 rw [hN]
 clear hdrop hvge hvlt n1 n2 hPL q6 q7 t0 t1 v2 hle hr hq hbf hP0 hov
 simp (disch:=(first | omega | (simp only [JlE]; omega))) only [↓JlH,JlF,JlG,w1,hL,htop,w2,w3,w4,hNf,m1]
 rw [←hN]
 simp (disch:=(first | omega | (simp only [JlE]; omega))) only [↓JlH,JlF,JlG,m2,hNa,hNb,hA,hvl,w5,List.nil_append,w6,hol,w7,q1,m3,hNl,hg,m5,m4]
theorem UiW (n:Nat) (k0:List PV→Option R):∀ (m a b:Nat),b<m→(toL 1000000000 a).length<2 ^ 19→(toL 1000000000 b).length<2 ^ 19→(toL 1000000000 a).length + (toL 1000000000 b).length + 10<n→(toL 1000000000 b).length + (toL 1000000000 b).length + 10<n →
 Ucg n m (NN a) (NN b) k0=k0 (NN (Nat.gcd b a))
 | m + 1,a,b,hm,ha,hb,hn,hn2=>by
  simp only [Ucg,Ufg]
  have hN:(NN b).length=(toL 1000000000 b).length:=by unfold NN; rw [Jjd]
  by_cases h0:b=0
  · subst h0
    rw [Uah] at hN
    have hN':(NN 0).length=0:=hN
    simp (disch:=(first | omega | (simp only [JlE]; omega))) only [↓JlH,JlF,JlG,hN',Nat.gcd_zero_left]
  · have hl:1≤(toL 1000000000 b).length:=(Ud2 hB2 h0).1
    have hd:=fun k0=>Ukv (R:=R) n a b (by omega) (by omega) (by omega) (by omega) k0
    have hlt:a % b<b:=Nat.mod_lt _ (by omega)
    have hlr:(toL 1000000000 (a % b)).length≤(toL 1000000000 b).length:=(Uai hB2 _ _).2 (Nat.lt_trans hlt ((Uai hB2 _ _).1 (Nat.le_refl _)))
    have ih:=UiW n k0 m b (a % b) (by omega) hb (by omega) (by omega) (by omega)
    simp (disch:=(first | omega | (simp only [JlE]; omega))) only [↓JlH,JlF,JlG,hN,hd]
    rw [ih,←Nat.gcd_rec]
theorem Upm (n a b:Nat) (hbn:b<n) (ha:(toL 1000000000 a).length<2 ^ 19) (hb:(toL 1000000000 b).length<2 ^ 19) (hn:(toL 1000000000 a).length + (toL 1000000000 b).length + 10<n) (hn2:(toL 1000000000 b).length + (toL 1000000000 b).length + 10<n) (k0:List PV→Option R) :
 UuC n (NN a) (NN b) k0=k0 (NN (Nat.gcd b a)):=by
 unfold UuC Umq
 exact UiW n _ n a b hbn ha hb hn hn2
theorem UnW (l k:Nat):JkU 0 ((l:Int) - (k:Int))=((l - k:Nat):Int):=by
 unfold JkU; split <;> omega
theorem UjU {s:List UInt8} (h:∀ c∈s,isD c=true) (h0:s≠[]) (hl:s.length≤18) (K:Int→Option R):Jib (bs s) K=K (ofD s:Int):=by
 unfold Jib
 rw [Jg7,Unn s h h0 hl,Jd4,decide_eq_true (by omega)]; rfl
theorem Uel (n:Nat):∀ (m:Nat) (s:List UInt8) (o:List Nat),(∀ c∈s,isD c=true)→(∀ d∈o,d<1000000000)→s.length<m→s.length + o.length<2 ^ 30 →
 ∃ o':List Nat,(∀ k0:List PV→Option R,UcZ n m (bs s) (nl .u32 o) k0=k0 (nl .u32 o'))∧(∀ d∈o',d<1000000000)∧o'.length≤o.length + s.length∧val 1000000000 o'=val 1000000000 o + 1000000000 ^ o.length * ofD s
 | m + 1,s,o,hs,ho,hm,hl=>by
  by_cases h0:s=[]
  · subst h0
    refine ⟨o,fun k0=>?_,ho,by omega,by rw [show ofD []=0 from rfl]; simp⟩
    simp only [UcZ,UfL]
    simp (disch:=(first | omega | (simp only [JlE]; omega))) only [↓JlH,JlF,JlG]
  · have hpos:0<s.length:=List.length_pos_iff.2 h0
    obtain ⟨k,hk⟩:∃ k,k=s.length - 9:=⟨_,rfl⟩
    have h1:∀ c∈s.take k,isD c=true:=fun c h=>hs c (List.mem_of_mem_take h)
    have h2:∀ c∈s.drop k,isD c=true:=fun c h=>hs c (List.mem_of_mem_drop h)
    have h3:(s.drop k).length≤9:=by rw [List.length_drop]; omega
    have h4:s.drop k≠[]:=by intro e; have:=congrArg List.length e; rw [List.length_drop,List.length_nil] at this; omega
    have h5:ofD (s.drop k)<1000000000:=Nat.lt_of_lt_of_le (Umm h2) (Nat.pow_le_pow_right (n:=10) (by omega) h3)
    have h6:ofD s=ofD (s.take k) * 1000000000 + ofD (s.drop k):=by
     conv=>lhs; rw [←List.take_append_drop k s]
     rw [UjA]
     by_cases hk0:k=0
     · subst hk0
       rw [List.take_zero,show ofD []=0 from rfl,Nat.zero_mul,Nat.zero_mul]
     · rw [List.length_drop,show s.length - k=9 from by omega]
    obtain ⟨o',q1,q2,q3,q4⟩:=Uel n m (s.take k) (o++[ofD (s.drop k)]) h1 (by
     intro d hd
     rcases List.mem_append.1 hd with h | h
     · exact ho d h
     · rw [List.mem_singleton.1 h]; exact h5) (by rw [List.length_take]; omega) (by rw [List.length_take,List.length_append,List.length_singleton]; omega)
    refine ⟨o',fun k0=>?_,q2,by rw [List.length_append,List.length_singleton,List.length_take] at q3; omega,?_⟩
    · rw [←q1 k0]
      have w1:JkU 0 ((s.length:Int) - 9)=(k:Int):=by rw [hk]; exact UnW s.length 9
      have w2:List.drop k (List.take s.length s)=s.drop k:=by rw [List.take_length]
      have w3:=fun K=>UjU (R:=R) h2 h4 (by omega) K
      have w4:List.drop 0 (List.take k s)=s.take k:=rfl
      simp only [UcZ,UfL]
      simp (disch:=(first | omega | (simp only [JlE]; omega))) only [↓JlH,JlF,JlG,w1,w2,w3,Jln]
    · rw [q4,Ub,h6,List.length_append,List.length_singleton,Nat.pow_succ]
      grind
theorem UfP (n:Nat) (s:List UInt8) (hs:∀ c∈s,isD c=true) (hl:s.length<2 ^ 20) (hn:s.length<n) (k0:List PV→Option R):p98 n (bs s) k0=k0 (NN (ofD s)):=by
 obtain ⟨o',q1,q2,q3,q4⟩:=Uel (R:=R) n n s [] hs (by intro d h; cases h) hn (by simp; omega)
 rw [List.length_nil] at q3
 have ht:=Ubp (R:=R) n o' q2 (by omega) (by omega) k0
 rw [q4,show val 1000000000 []=0 from rfl,List.length_nil,Nat.pow_zero,Nat.one_mul,Nat.zero_add] at ht
 unfold p98 UpL
 rw [show ([]:List PV)=nl .u32 [] from rfl,q1,ht]
theorem Ui3 (d:Nat) (h:d<1000000000):JiB (d:Int)=bs (dec d):=by
 unfold JiB Lib.itoa
 rw [if_neg (by omega),Int.toNat_natCast]; rfl
theorem UiY (d:Nat) (h:d<1000000000):JkT (d:Int)=true:=by
 unfold JkT; simp; omega
theorem Uok (k:Nat):Lib.repeatL [48] k=List.replicate k 48:=by
 induction k with
 | zero=>rfl
 | succ k ih=>rw [Lib.repeatL,ih]; rfl
theorem Uyr {d:Nat} (h:d<1000000000):(dec d).length≤9:=(Ubj d 9 (by omega)).2 h
theorem UgD (n:Nat) (l:List Nat) (hl:∀ d∈l,d<1000000000) (h30:l.length<2 ^ 30) (k0:ByteArray→Option R):∀ (i m:Nat),i<l.length→i<m→val 1000000000 (l.drop i)≠0→(dec (val 1000000000 (l.drop i))).length≤9 * (l.length - i) →
 UaJ n m (nl .u32 l) (bs (dec (val 1000000000 (l.drop i)))) ((i:Int) - 1) k0=k0 (bs (dec (val 1000000000 l)))
 | 0,m + 1,hi,hm,h0,hb=>by
  rw [List.drop_zero] at *
  simp only [UaJ,Ubz]
  simp (disch:=(first | omega | (simp only [JlE]; omega))) only [↓JlH,JlF,JlG]
 | i + 1,m + 1,hi,hm,h0,hb=>by
  have hd:=Uaf hB2 hl i
  have hv:=Uad 1000000000 l i
  have hstep:=Uid 9 (val 1000000000 (l.drop (i + 1))) (l.getD i 0) h0 hd
  have e:val 1000000000 (l.drop (i + 1)) * 10 ^ 9 + l.getD i 0=val 1000000000 (l.drop i):=by rw [hv]; omega
  rw [e] at hstep
  have h9:=Uyr hd
  have hp:=UpM 8 (l.getD i 0) hd
  have hlp:(pad 9 (l.getD i 0)).length=9:=by rw [←hp,List.length_append,List.length_replicate]; omega
  have hlen:(dec (val 1000000000 (l.drop i))).length≤9 * (l.length - i):=by rw [hstep,List.length_append,hlp]; omega
  have ih:=UgD n l hl h30 k0 i m (by omega) (by omega) (by rw [hv]; omega) hlen
  rw [hstep,←hp] at ih
  have w1:((i + 1:Nat):Int) - 1=(i:Int):=by omega
  have w2:=Ui3 _ hd
  have w3:=UiY _ hd
  have w4:((9:Int) - ((dec (l.getD i 0)).length:Int))=((8 + 1 - (dec (l.getD i 0)).length:Nat):Int):=by omega
  have w5:Jld (bs [48]) ((8 + 1 - (dec (l.getD i 0)).length:Nat):Int)=bs (List.replicate (8 + 1 - (dec (l.getD i 0)).length) 48):=by
   rw [Jle,Int.toNat_natCast,Uok]
  have w6:(⟨#[48]⟩:ByteArray).size=1:=rfl
  simp only [UaJ,Ubz,UbT]
  simp (disch:=(first | omega | (simp only [JlE]; omega))) only [↓JlH,JlF,JlG,w1,w2,w3,w4,w5,w6,ih]
theorem Um9 (n a:Nat) (hl:(toL 1000000000 a).length<2 ^ 30) (hn:(toL 1000000000 a).length<n) (k0:ByteArray→Option R):UuE n (NN a) k0=k0 (bs (dec a)):=by
 unfold UuE NN
 by_cases h0:a=0
 · subst h0
   rw [Uah,Uan]
   rfl
 obtain ⟨t1,t2,t3,t4⟩:=Ud2 hB2 h0
 have hlt:=UaP hB2 a
 have hval:=Uas hB2 a
 generalize toL 1000000000 a=l at *
 obtain ⟨m,rfl⟩:∃ m,n=m + 1:=⟨n - 1,by omega⟩
 have hd:=Uaf hB2 hlt (l.length - 1)
 have hv:=Uad 1000000000 l (l.length - 1)
 rw [show l.length - 1 + 1=l.length from by omega,List.drop_length,show val 1000000000 []=0 from rfl,Nat.mul_zero,Nat.add_zero] at hv
 have h9:=Uyr hd
 have ih:=UgD (m + 1) l hlt hl k0 (l.length - 1) m (by omega) (by omega) (by omega) (by rw [hv]; omega)
 rw [hv,hval] at ih
 have w0:((l.length:Int) == 0)=false:=by simp; intro e; rw [e] at t1; simp at t1
 have w1:((l.length:Int) - 1)=((l.length - 1:Nat):Int):=by omega
 have w2:=Ui3 _ hd
 have w3:=UiY _ hd
 simp only [Umy,Udw,Ufp,UbT]
 simp (disch:=(first | omega | (simp only [JlE]; omega))) only [↓JlH,JlF,JlG,w0,w1,w2,w3,List.nil_append,ih]
def UzB (a b:Nat):Prop:=a≠0∧(10 ^ 400≤a / Nat.gcd a b∨10 ^ 400≤b / Nat.gcd a b)
instance (a b:Nat):Decidable (UzB a b):=by unfold UzB; infer_instance
def zs (neg:Bool) (a:Nat):Int:=if neg then -(a:Int) else a
theorem Ubr (neg:Bool) (a:Nat):(zs neg a).natAbs=a:=by cases neg <;> simp [zs]
theorem Ubs (z:Int):zs (decide (z<0)) z.natAbs=z:=by
 unfold zs; split <;> rename_i h <;> simp at h <;> omega
theorem UhR (neg:Bool):zs neg 0=0:=by cases neg <;> rfl
theorem Uhc (neg:Bool) {a:Nat} (h:a≠0):Lib.itoa (zs neg a)=(if neg then [45] else [])++dec a:=by
 unfold Lib.itoa
 cases neg
 · rw [if_neg (by simp [zs])]; simp [zs]
 · rw [if_pos (by simp [zs]; omega)]; simp [zs]
theorem Ufe (a:Nat):Lib.itoa (a:Int)=dec a:=by unfold Lib.itoa; rw [if_neg (by omega),Int.toNat_natCast]
theorem Upr (neg:Bool) (a b:Nat) (hb:b≠0):(mkRat (zs neg a) b).num=zs neg (a / Nat.gcd b a):=by
 rw [Rat.num_mkRat,if_neg hb,Ubr]
 cases neg
 · simp [zs]
 · simp only [zs,if_true]
   rw [Int.neg_ediv_of_dvd (Int.natCast_dvd_natCast.2 (Nat.gcd_dvd_right b a))]
   rfl
theorem Upq (neg:Bool) (a b:Nat) (hb:b≠0):(mkRat (zs neg a) b).den=b / Nat.gcd b a:=by
 rw [Rat.den_mkRat,if_neg hb,Ubr]
def Uaa (q:Rat):List UInt8:=Lib.itoa q.num++if q.den=1 then [] else 47::dec q.den
def fits (q:Rat):Prop:=q.num.natAbs<10 ^ 400∧q.den<10 ^ 400
instance (q:Rat):Decidable (fits q):=by unfold fits; infer_instance
theorem UmT:Uaa 0=[48]:=by
 unfold Uaa
 rw [show (0:Rat).num=((0:Nat):Int) from rfl,Ufe,Uan]; rfl
theorem UpT:NN 0=[]:=by unfold NN; rw [Uah]; rfl
theorem UjH (a:Nat):(NN a).length=(toL 1000000000 a).length:=by unfold NN; rw [Jjd]
theorem UeJ {a:Nat} (h0:a≠0) (h:a<1000000000):NN a=[PV.v (.int .u32 (a:Int))]:=by unfold NN; rw [Ude hB2 h0 h,Jln]
theorem UsF:NN 1=[PV.v (.int .u32 1)]:=UeJ (by omega) (by omega)
theorem UAl {a k:Nat} (h:a<1000000000 ^ k):(toL 1000000000 a).length≤k:=(Uai hB2 a k).2 h
theorem Ubk {a b k:Nat} (h:(toL 1000000000 b).length≤k) (hab:a≤b):(toL 1000000000 a).length≤k:=(Uai hB2 a k).2 (Nat.lt_of_le_of_lt hab ((Uai hB2 b k).1 h))
theorem UmQ (n:Nat) (neg t:Bool) (a b g:Nat) (hg:g≠0) (ht:t=false→g=1) (ha:(toL 1000000000 a).length<2 ^ 18) (hb:(toL 1000000000 b).length<2 ^ 18) (hgl:(toL 1000000000 g).length<2 ^ 18) (hn:2 ^ 20<n) (k0:Bool→List PV→List PV→Option R) :
 Uej n neg (NN a) (NN b) (NN g) t k0=k0 neg (NN (a / g)) (NN (b / g)):=by
 unfold Uej
 cases t
 · rw [ht rfl,Nat.div_one,Nat.div_one]; rfl
 · have d1:=fun k0=>Ukv (R:=R) n a g (by omega) (by omega) (by omega) (by omega) k0
   have d2:=fun k0=>Ukv (R:=R) n b g (by omega) (by omega) (by omega) (by omega) k0
   simp only [cond_true,d1,d2]
theorem UjD (n:Nat) (neg:Bool) (a b:Nat) (hb0:b≠0) (ha:(toL 1000000000 a).length<2 ^ 18) (hb:(toL 1000000000 b).length<2 ^ 18) (hn:2 ^ 20<n) (hbn:b<n) (k0:ByteArray→Int→Option R) :
 p79 n neg (NN a) (NN b) k0=if fits (mkRat (zs neg a) b) then k0 (bs (Uaa (mkRat (zs neg a) b))) 0 else k0 (bs []) 5:=by
 unfold p79
 by_cases h0:a=0
 · subst h0
   rw [UhR,Rat.zero_mkRat]
   rw [if_pos (by decide +kernel),UpT,UmT]
   rfl
 have hg:=fun k0=>Upm (R:=R) n a b hbn (by omega) (by omega) (by omega) (by omega) k0
 have hg0:Nat.gcd b a≠0:=fun e=>h0 (Nat.gcd_eq_zero_iff.1 e).2
 have hgl:(toL 1000000000 (Nat.gcd b a)).length≤(toL 1000000000 a).length:=Ubk (Nat.le_refl _) (Nat.le_of_dvd (by omega) (Nat.gcd_dvd_right b a))
 obtain ⟨g,hge⟩:∃ g,Nat.gcd b a=g:=⟨_,rfl⟩
 have hal:¬ (toL 1000000000 a).length=0:=fun e=>h0 ((UbK hB2).1 (List.eq_nil_of_length_eq_zero e))
 have hda:g ∣ a:=by rw [←hge]; exact Nat.gcd_dvd_right b a
 have hdb:g ∣ b:=by rw [←hge]; exact Nat.gcd_dvd_left b a
 have hag:a / g≠0:=by
  have:=Nat.div_mul_cancel hda
  intro e; rw [e] at this; omega
 have hbg:b / g≠0:=by
  have:=Nat.div_mul_cancel hdb
  intro e; rw [e] at this; omega
 have hla:(toL 1000000000 (a / g)).length<2 ^ 18:=Nat.lt_of_le_of_lt (Ubk (Nat.le_refl _) (Nat.div_le_self a g)) ha
 have hlb:(toL 1000000000 (b / g)).length<2 ^ 18:=Nat.lt_of_le_of_lt (Ubk (Nat.le_refl _) (Nat.div_le_self b g)) hb
 have e0:(((toL 1000000000 a).length:Int) == 0)=false:=by rw [Jk0]; simpa using hal
 have key:∀ t:Bool,(t=false→g=1)→Uej n neg (NN a) (NN b) (NN g) t (fun (y5:Bool) (y6:List PV) (y7:List PV)=>Ugu n y5 y6 y7 (fun (y8:ByteArray) (y9:Int)=>k0 y8 y9))=if fits (mkRat (zs neg a) b) then k0 (bs (Uaa (mkRat (zs neg a) b))) 0 else k0 (bs []) 5:=by
  intro t ht
  rw [UmQ n neg t a b g (by omega) ht ha hb (by rw [←hge]; omega) hn]
  unfold Ugu
  have t1:=fun k0=>Um9 (R:=R) n (a / g) (by omega) (by omega) k0
  have t2:=fun k0=>Um9 (R:=R) n (b / g) (by omega) (by omega) k0
  simp only [t1,t2]
  have hf:fits (mkRat (zs neg a) b)↔((dec (a / g)).length≤400∧(dec (b / g)).length≤400):=by
   unfold fits
   rw [Upr neg a b hb0,Upq neg a b hb0,Ubr,hge,Ubj _ _ (by omega),Ubj _ _ (by omega)]
  have hr:Uaa (mkRat (zs neg a) b)=(if neg then [45] else [])++dec (a / g)++if b / g=1 then [] else 47::dec (b / g):=by
   unfold Uaa
   rw [Upr neg a b hb0,Upq neg a b hb0,hge,Uhc neg hag]
  by_cases c1:400<(dec (a / g)).length
  · rw [if_neg (by rw [hf]; omega)]
    simp (disch:=(first | omega | (simp only [JlE]; omega))) only [↓JlH,JlF,JlG]
  by_cases c2:400<(dec (b / g)).length
  · rw [if_neg (by rw [hf]; omega)]
    simp (disch:=(first | omega | (simp only [JlE]; omega))) only [↓JlH,JlF,JlG]
  rw [if_pos (by rw [hf]; omega),hr]
  have e1:(dec (b / g) == [49])=decide (b / g=1):=by
   rw [Bool.eq_iff_iff,beq_iff_eq,decide_eq_true_iff]
   constructor
   · intro e; exact UbS (e.trans (UaK (by omega:1<10)).symm)
   · intro e; rw [e,UaK (by omega)]; rfl
  simp only [Uhp,UfI,UfJ]
  cases neg
  · by_cases c3:b / g=1
    · have e2:(dec (b / g) == [49])=true:=by rw [e1]; simpa using c3
      rw [if_pos c3]
      simp (disch:=(first | omega | (simp only [JlE]; omega))) only [↓JlH,JlF,JlG,e2]
      simp
    · have e2:(dec (b / g) == [49])=false:=by rw [e1]; simpa using c3
      rw [if_neg c3]
      simp (disch:=(first | omega | (simp only [JlE]; omega))) only [↓JlH,JlF,JlG,e2]
      simp
  · by_cases c3:b / g=1
    · have e2:(dec (b / g) == [49])=true:=by rw [e1]; simpa using c3
      rw [if_pos c3]
      simp (disch:=(first | omega | (simp only [JlE]; omega))) only [↓JlH,JlF,JlG,e2]
      simp
    · have e2:(dec (b / g) == [49])=false:=by rw [e1]; simpa using c3
      rw [if_neg c3]
      simp (disch:=(first | omega | (simp only [JlE]; omega))) only [↓JlH,JlF,JlG,e2]
      simp
 simp only [hg,hge,UjH]
 by_cases c:1<(toL 1000000000 g).length
 · have:1000000000 ^ 1≤g:=UjE hB2 c
   simp (disch:=(first | omega | (simp only [JlE]; omega))) only [↓JlH,JlF,JlG,e0,key true (fun h=>by cases h)]
 · have hg1:g<1000000000:=by
    have:=(Uai hB2 g 1).1 (by omega)
    rwa [Nat.pow_one] at this
   have hgl1:(toL 1000000000 g).length=1:=by rw [Ude hB2 (by omega) hg1]; rfl
   have hgi:∀ (K:Int→Option R),Jj .u32 ((NN g).getD (0:Int).toNat (PV.v (Value.bool false))) K=K (g:Int):=fun K=>by rw [UeJ (by omega) hg1]; rfl
   have e3:decide ((g:Int)>1)=false→g=1:=by intro h; simp at h; omega
   simp (disch:=(first | omega | (simp only [JlE]; omega))) only [↓JlH,JlF,JlG,e0,hgi,hgl1]
   exact key _ e3
def UgI (s:List UInt8):Bool:=!s.isEmpty&&decide (s.length≤400)&&!(s.head? == some 48&&decide (1<s.length))&&s.all isD
theorem Uge (c:UInt8):([48,49,50,51,52,53,54,55,56,57]:List UInt8).contains c=isD c:=by
 rw [Bool.eq_iff_iff,UaM]
 simp only [List.contains_eq_mem,List.mem_cons,List.not_mem_nil,or_false,decide_eq_true_eq,←UInt8.toNat_inj]
 have e:∀ k:Nat,k<256→(UInt8.ofNat k).toNat=k:=fun k h=>by rw [UInt8.toNat_ofNat']; omega
 show (c.toNat=48∨c.toNat=49∨c.toNat=50∨c.toNat=51∨c.toNat=52∨c.toNat=53∨c.toNat=54∨c.toNat=55∨c.toNat=56∨c.toNat=57)↔_
 omega
theorem Ucf {α:Type} (p:α→Bool) (l:List α) {x:α} (h:x∈l):p x=true∨x∈l.dropWhile p:=by
 induction l with
 | nil=>cases h
 | cons a r ih =>
  rw [List.dropWhile_cons]
  by_cases ha:p a=true
  · rw [if_pos ha]
    rcases List.mem_cons.1 h with rfl | h
    · exact Or.inl ha
    · exact ih h
  · rw [if_neg ha]; exact Or.inr h
theorem Ue1 {α:Type} (p:α→Bool) (l:List α):l.dropWhile p=[]↔∀ x∈l,p x=true:=by
 constructor
 · intro h x hx
   rcases Ucf p l hx with h1 | h1
   · exact h1
   · rw [h] at h1; cases h1
 · intro h
   induction l with
   | nil=>rfl
   | cons a r ih=>rw [List.dropWhile_cons,if_pos (h a (List.mem_cons_self ..)),ih fun x hx=>h x (List.mem_cons_of_mem _ hx)]
theorem Uos (s:List UInt8):((Lib.trimS s [48,49,50,51,52,53,54,55,56,57]) == [])=s.all isD:=by
 have hp:(([48,49,50,51,52,53,54,55,56,57]:List UInt8).contains ·)=isD:=funext Uge
 unfold Lib.trimS Lib.trimLeftS Lib.trimRightS
 rw [hp,Bool.eq_iff_iff,beq_iff_eq,Ue1,List.all_eq_true]
 constructor
 · intro h c hc
   rcases Ucf isD s.reverse (List.mem_reverse.2 hc) with h1 | h1
   · exact h1
   · exact h c (List.mem_reverse.2 h1)
 · intro h c hc
   have:c∈s.reverse:=(List.dropWhile_sublist _).subset (List.mem_reverse.1 hc)
   exact h c (List.mem_reverse.1 this)
theorem Uor (s:List UInt8):eqS (JkL (bs s) (bs [48,49,50,51,52,53,54,55,56,57])) (bs [])=s.all isD:=by
 rw [←Uos]; rfl
theorem Una (s:List UInt8) (h:s.length≤400):Jjj (bs s) (bs [48,49,50,51,52,53,54,55,56,57])=true:=by
 unfold Jjj
 rw [Jd4,decide_eq_true (by omega)]; rfl
theorem UqH (c:UInt8) (r:List UInt8):Jc6 (bs (c::r)) 0=(c.toNat:Int):=rfl
theorem UvB (c d:UInt8):(((c.toNat:Nat):Int) == ((d.toNat:Nat):Int))=(c == d):=JlD
theorem UdP (n:Nat) (s:List UInt8) (hs:s.length<2 ^ 40) (k0:Bool→Option R):p99 n (bs s) k0=k0 (UgI s):=by
 unfold p99
 cases s with
 | nil=>rfl
 | cons c r =>
  have e0:eqS (bs (c::r)) (⟨#[]⟩:ByteArray)=false:=rfl
  rw [List.length_cons] at hs
  by_cases h4:400<r.length + 1
  · have e1:UgI (c::r)=false:=by
     unfold UgI
     rw [List.length_cons,decide_eq_false (by omega)]; simp
    have e0':((c::r) == ([]:List UInt8))=false:=rfl
    simp (disch:=(first | omega | (simp only [JlE]; omega))) only [↓JlH,JlF,JlG,e0,e1,List.length_cons,e0']
  have e0':((c::r) == ([]:List UInt8))=false:=rfl
  have t1:=Una (c::r) (by rw [List.length_cons]; omega)
  have t2:=Uor (c::r)
  by_cases hc:c=48
  · subst hc
    have e2:(Jc6 (bs (48::r)) 0 == 48)=true:=rfl
    by_cases h5:1<r.length + 1
    · have e1:UgI (48::r)=false:=by
       unfold UgI
       rw [List.length_cons,decide_eq_true h5]; simp
      simp (disch:=(first | omega | (simp only [JlE]; omega))) only [↓JlH,JlF,JlG,e0,e1,e2,List.length_cons,e0']
    · have e1:UgI (48::r)=(48::r).all isD:=by
       unfold UgI
       rw [List.length_cons,decide_eq_false h5,decide_eq_true (by omega)]; simp
      simp (disch:=(first | omega | (simp only [JlE]; omega))) only [↓JlH,JlF,JlG,e0,e1,e2,List.length_cons,e0',t1,t2]
  · have e2:(Jc6 (bs (c::r)) 0 == 48)=false:=by
     rw [UqH]
     have:=UvB c 48
     rw [show ((48:UInt8).toNat:Int)=48 from rfl] at this
     rw [this]; simpa using hc
    have e1:UgI (c::r)=(c::r).all isD:=by
     unfold UgI
     rw [List.length_cons,decide_eq_true (by omega:r.length + 1≤400)]
     simp [hc]
    simp (disch:=(first | omega | (simp only [JlE]; omega))) only [↓JlH,JlF,JlG,e0,e1,e2,List.length_cons,e0',t1,t2]
def Ubt (s:List UInt8):Bool × List UInt8:=match s with
 | 45::r=>(true,r)
 | s=>(false,s)
theorem Uib (s:List UInt8):(Ubt s).2.length≤s.length:=by
 unfold Ubt; split <;> simp
theorem Ub9 (c:UInt8) (r:List UInt8):Ubt (c::r)=if c=45 then (true,r) else (false,c::r):=by
 unfold Ubt
 by_cases h:c=45
 · subst h; rfl
 · rw [if_neg h]
   split
   · rename_i e; injection e with e1 _; exact absurd e1 h
   · rfl
theorem Ugf (n:Nat) (s:List UInt8) (hs:s.length<2 ^ 40) (k0:ByteArray→Bool→Option R):UvV n (bs s) ⟨#[45]⟩ k0=k0 (bs (Ubt s).2) (Ubt s).1:=by
 unfold UvV Uxh Uxi
 cases s with
 | nil=>rfl
 | cons c r =>
  rw [List.length_cons] at hs
  have hz:((⟨#[45]⟩:ByteArray)).size=1:=rfl
  have e1:List.take (0 + 1) (c::r)=[c]:=rfl
  have e3:List.drop (0 + 1) (c::List.take r.length r)=r:=by rw [List.take_length]; rfl
  have e2:([c] == [45])=decide (c=45):=by
   rw [Bool.eq_iff_iff]; simp
  rw [Ub9]
  by_cases hc:c=45
  · rw [if_pos hc]
    simp (disch:=(first | omega | (simp only [JlE]; omega))) only [↓JlH,JlF,JlG,hz,List.length_cons,e1,e2,List.length_nil,List.take_succ_cons,e3]
  · rw [if_neg hc]
    simp (disch:=(first | omega | (simp only [JlE]; omega))) only [↓JlH,JlF,JlG,hz,List.length_cons,e1,e2,List.length_nil,List.take_succ_cons,e3]
def Upp (s:List UInt8):Bool:=UgI (Ubt s).2&&!((Ubt s).1&&(Ubt s).2 == [48])
theorem UcE (n:Nat) (s:List UInt8) (hs:s.length<2 ^ 40) (k0:Bool→ByteArray→Bool→Option R):p97 n (bs s) k0=k0 (Ubt s).1 (bs (Ubt s).2) (Upp s):=by
 have hl:=Uib s
 have h1:=fun k0=>Ugf (R:=R) n s hs k0
 have h2:=fun k0=>UdP (R:=R) n (Ubt s).2 (by omega) k0
 unfold p97
 simp only [h1,h2,Upp]
 generalize (Ubt s).1=neg
 generalize (Ubt s).2=r
 cases UgI r
 · rfl
 · cases neg
   · rfl
   · rfl
theorem Uie {a:Nat} (h:a<10 ^ 400):UgI (dec a)=true:=by
 have h1:=(Ubj a 400 (by omega)).2 h
 have h2:=Uks a
 have h3:=Uic a
 unfold UgI
 rw [decide_eq_true h1]
 have e1:(dec a).isEmpty=false:=by simpa using h2
 have e2:(dec a).all isD=true:=List.all_eq_true.2 (Ubi a)
 have e3:((dec a).head? == some 48&&decide (1<(dec a).length))=false:=by
  rcases h3 with h3 | h3
  · have:((dec a).head? == some 48)=false:=by simpa using h3
    rw [this]; rfl
  · rw [h3]; simp
 rw [e1,e2,e3]; rfl
theorem Uif {s:List UInt8} (h:UgI s=true):ofD s<10 ^ 400∧s=dec (ofD s):=by
 unfold UgI at h
 simp only [Bool.and_eq_true,Bool.not_eq_true',List.isEmpty_eq_false_iff,decide_eq_true_eq] at h
 obtain ⟨⟨⟨h1,h2⟩,h3⟩,h4⟩:=h
 have h4':∀ c∈s,isD c=true:=List.all_eq_true.1 h4
 have e:dec (ofD s)=s:=Ukt h4' h1 (by
  by_cases h5:s.head? = some 48
  · right
    rw [h5] at h3
    simp at h3
    have:=List.length_pos_iff.2 h1
    omega
  · exact Or.inl h5)
 refine ⟨(Ubj (ofD s) 400 (by omega)).1 ?_,e.symm⟩
 rw [e]; exact h2
theorem UnG (a:Nat):Ubt (dec a)=(false,dec a):=by
 have h:=Ubi a
 cases hd:dec a with
 | nil=>rfl
 | cons c r =>
  rw [Ub9,if_neg]
  intro e
  rw [hd] at h
  have:=h c (List.mem_cons_self ..)
  rw [e] at this
  exact absurd this (by decide)
theorem Uax (z:Int):Ubt (Lib.itoa z)=(decide (z<0),dec z.natAbs):=by
 unfold Lib.itoa
 by_cases h:z<0
 · rw [if_pos h,decide_eq_true h]; rfl
 · rw [if_neg h,decide_eq_false h]
   have:z.toNat=z.natAbs:=by omega
   rw [this]; exact UnG _
theorem Umg {z:Int} (h:z.natAbs<10 ^ 400):Upp (Lib.itoa z)=true:=by
 unfold Upp
 rw [Uax]
 simp only [Uie h,Bool.true_and]
 by_cases hz:z<0
 · have:(dec z.natAbs == [48])=false:=by
    simp only [beq_eq_false_iff_ne,ne_eq]
    intro e
    have:=UbS (e.trans Uan.symm)
    omega
   rw [this]; simp
 · simp [hz]
theorem UdO (s:List UInt8):s=(if (Ubt s).1 then [45] else [])++(Ubt s).2:=by
 cases s with
 | nil=>rfl
 | cons c r =>
  rw [Ub9]
  by_cases h:c=45
  · rw [if_pos h,h]; rfl
  · rw [if_neg h]; rfl
theorem Ui0 {s:List UInt8} (h:Upp s=true):∃ z:Int,z.natAbs<10 ^ 400∧s=Lib.itoa z:=by
 unfold Upp at h
 simp only [Bool.and_eq_true,Bool.not_eq_true'] at h
 obtain ⟨h1,h2⟩:=h
 obtain ⟨h3,h4⟩:=Uif h1
 have h5:=UdO s
 refine ⟨zs (Ubt s).1 (ofD (Ubt s).2),by rw [Ubr]; exact h3,?_⟩
 by_cases h0:ofD (Ubt s).2=0
 · rw [h0] at h4
   have e:(Ubt s).1=false:=by
    rw [h4,Uan] at h2
    simpa using h2
   rw [h0,e]
   rw [e,h4] at h5
   rw [h5]
   exact (Ufe 0).symm
 · rw [Uhc _ h0,←h4]; exact h5
theorem Uar {a:Nat} (h:a<10 ^ 400):(toL 1000000000 a).length≤45 :=
 UAl (Nat.lt_of_lt_of_le h (by decide +kernel))
theorem UcB {a:Nat} (h:a<10 ^ 400):(dec a).length≤400:=(Ubj a 400 (by omega)).2 h
end Go.Proofs.YtmgfmlhdnadglaaGreatDoor
set_option linter.unusedVariables false
set_option maxRecDepth 100000
namespace Go.Proofs.YtmgfmlhdnadglaaGreatDoor
open Go Th Go.Proofs
noncomputable section
variable {R:Type}
end
end Go.Proofs.YtmgfmlhdnadglaaGreatDoor
set_option linter.unusedVariables false
set_option linter.unusedSimpArgs false
namespace Go.Proofs.YtmgfmlhdnadglaaGreatDoor
open Go Th Go.Proofs
variable {R:Type}
theorem Uaq {α:Type} (a b:α):(bif true then a else b)=a:=(Eq.refl _).trans (Eq.refl _)
theorem Uag {α:Type} (a b:α):(bif false then a else b)=b:=(Eq.refl _).trans (Eq.refl _)
theorem Usw:(!true)=false:=(Eq.refl _).trans (Eq.refl _)
theorem Uux:(!false)=true:=(Eq.refl _).trans (Eq.refl _)
def sl (l:List (List UInt8)):List PV:=l.map fun s=>PV.v (.string (bs s))
theorem Uaj (l:List (List UInt8)):(sl l).length=l.length:=by unfold sl; rw [List.length_map]
end Go.Proofs.YtmgfmlhdnadglaaGreatDoor
set_option linter.unusedVariables false
set_option maxRecDepth 100000
namespace Go.Proofs.YtmgfmlhdnadglaaGreatDoor
open Go Th Go.Proofs
noncomputable section
variable {R:Type}
def Up8:Ann:={ loops:=[],cuts:=[],frz:=[],rm:=[.id,.id,.id] }
abbrev Utv (n:Nat):Env:=eC 95 (Uwv n) eN
theorem Ula (n:Nat):EnvOK Tryz.prog GI (Utv n):=.cons (.nil) (Uzv n)
def p54 (n:Nat) (x1 x2:ByteArray) (k0:Int→Int→Bool→O R):O R :=
 p95 n x1 (fun y3 y4=>p95 n x2 (fun y5 y6=>bif y4 then (k0 y3 y5 (bif true then y6 else false)) else (k0 y3 y5 false)))
abbrev UAA (n:Nat):Orc R:=oN
abbrev Uz6 (n:Nat):Orc R:=oN
abbrev K54 (R:Type) (n:Nat):=JcH (R:=R) Tryz.prog (Utv n) Up8 n (27,[]) (UAA n) (Uz6 n)
theorem UBI (n:Nat):Je6 (K54 R n) (JaJ Up8 (Jll Tryz.f54)):=pO pN (by kernel_rfl)
abbrev t54:Sl (List SV):=(cS (cS .n))
abbrev f54 (n:Nat) (K:List SV→O R):t54.T (O R):=fun x1 x2=>p54 n x1 x2 (fun y1 y2 y3=>K [vI y1,vI y2,vB y3])
abbrev UvJ (n:Nat):FS:=fT [false,false] t54 (f54 n)
theorem Ux (n:Nat):FSound Tryz.prog GI 54 (UvJ n):=gd Up8 n (Ula n) Tryz.func54 (.cons (Ula n) t54 (f54 n) (fun K _ _=>(Jkq (c:=Jll Tryz.f54) (by kernel_rfl) (UBI n) K).trans (by kernel_rfl)) .nil) (by kernel_rfl)
end
end Go.Proofs.YtmgfmlhdnadglaaGreatDoor
set_option linter.unusedVariables false
set_option linter.unusedSimpArgs false
namespace Go.Proofs.YtmgfmlhdnadglaaGreatDoor
open Go Th Go.Proofs
variable {R:Type}
theorem Uem (n:Nat) (neg:Bool) (t:List UInt8) (ht:t.length≤9):∀ (d m i acc:Nat),d + i=t.length→d<m→acc<10 ^ i →
 (∀ c∈t.drop i,isD c=true)→∀ (k0:Int→Bool→Bool→Int→Option R) (k1:Bool→Int→Option R),Ua4 n m neg (bs t) acc t.length i k0 k1=k1 neg ((acc * 10 ^ (t.length - i) + ofD (t.drop i):Nat):Int)
 | 0,m + 1,i,acc,hd,hm,ha,hs,k0,k1=>by
  rw [List.drop_eq_nil_of_le (by omega),show t.length - i=0 from by omega,Nat.pow_zero,Nat.mul_one,show ofD []=0 from rfl,Nat.add_zero]
  simp only [Ua4,UcY]
  simp (disch:=(first | omega | (simp only [JlE]; omega))) only [↓JlH,JlF]
  rfl
 | d + 1,m + 1,i,acc,hd,hm,ha,hs,k0,k1=>by
  have hi:i<t.length:=by omega
  have hdr:t.drop i=t[i]::t.drop (i + 1):=List.drop_eq_getElem_cons hi
  rw [hdr] at hs ⊢
  have hc:=UaM.1 (hs _ (List.mem_cons_self ..))
  have hp:(10:Nat) ^ i≤10 ^ 9:=Nat.pow_le_pow_right (by omega) (by omega)
  have ih:=Uem n neg t ht d m (i + 1) (10 * acc + (t[i].toNat - 48)) (by omega) (by omega) (by rw [Nat.pow_succ]; omega) (fun c h=>hs c (List.mem_cons_of_mem _ h)) k0 k1
  have e1:(i:Int) + 1=((i + 1:Nat):Int):=by omega
  have e2:Jc6 (bs t) (i:Int)=(t[i].toNat:Int):=JjZ hi
  have e4:(t[i].toNat:Int) - 48=((t[i].toNat - 48:Nat):Int):=by omega
  have e5:(10:Int) * (acc:Int) + ((t[i].toNat - 48:Nat):Int)=((10 * acc + (t[i].toNat - 48):Nat):Int):=by omega
  have hdl:(t.drop (i + 1)).length=t.length - (i + 1):=List.length_drop
  have e6:acc * 10 ^ (t.length - i) + ofD (t[i]::t.drop (i + 1))=(10 * acc + (t[i].toNat - 48)) * 10 ^ (t.length - (i + 1)) + ofD (t.drop (i + 1)):=by
   have:ofD (t[i]::t.drop (i + 1))=(t[i].toNat - 48) * 10 ^ (t.length - (i + 1)) + ofD (t.drop (i + 1)):=by
    unfold ofD dg; rw [List.map_cons,Une,List.length_map,hdl]
   rw [this,show t.length - i=(t.length - (i + 1)) + 1 from by omega,Nat.pow_succ]
   grind
  rw [e6,←ih]
  simp only [Ua4,UcY]
  simp (disch:=(first | omega | (simp only [JlE]; omega))) only [↓JlH,JlF,e1,e2,e4,e5,wu8]
theorem UbQ (n:Nat) (neg:Bool) (t:List UInt8) (ht:t.length≤9):∀ (d m i acc:Nat),d + i=t.length→d<m→acc<10 ^ i →
 ¬ (∀ c∈t.drop i,isD c=true)→∃ y:Int,∀ (k0:Int→Bool→Bool→Int→Option R) (k1:Bool→Int→Option R),Ua4 n m neg (bs t) acc t.length i k0 k1=k0 0 false neg y
 | 0,m + 1,i,acc,hd,hm,ha,hs=>by
  rw [List.drop_eq_nil_of_le (by omega)] at hs
  exact absurd (fun c h=>by cases h) hs
 | d + 1,m + 1,i,acc,hd,hm,ha,hs=>by
  have hi:i<t.length:=by omega
  have hdr:t.drop i=t[i]::t.drop (i + 1):=List.drop_eq_getElem_cons hi
  rw [hdr] at hs
  have hp:(10:Nat) ^ i≤10 ^ 9:=Nat.pow_le_pow_right (by omega) (by omega)
  have e1:(i:Int) + 1=((i + 1:Nat):Int):=by omega
  have e2:Jc6 (bs t) (i:Int)=(t[i].toNat:Int):=JjZ hi
  by_cases h:isD t[i]=true
  · have hc:=UaM.1 h
    have hs':¬ ∀ c∈t.drop (i + 1),isD c=true:=fun q=>hs (by
     intro c hc
     rcases List.mem_cons.1 hc with rfl | hc
     · exact h
     · exact q c hc)
    obtain ⟨y,ih⟩:=UbQ n neg t ht d m (i + 1) (10 * acc + (t[i].toNat - 48)) (by omega) (by omega) (by rw [Nat.pow_succ]; omega) hs'
    refine ⟨y,fun k0 k1=>?_⟩
    have e4:(t[i].toNat:Int) - 48=((t[i].toNat - 48:Nat):Int):=by omega
    have e5:(10:Int) * (acc:Int) + ((t[i].toNat - 48:Nat):Int)=((10 * acc + (t[i].toNat - 48):Nat):Int):=by omega
    rw [←ih k0 k1]
    simp only [Ua4,UcY]
    simp (disch:=(first | omega | (simp only [JlE]; omega))) only [↓JlH,JlF,e1,e2,e4,e5,wu8]
  · have hc:¬ (48≤t[i].toNat∧t[i].toNat≤57):=fun q=>h (UaM.2 q)
    refine ⟨acc,fun k0 k1=>?_⟩
    simp only [Ua4,UcY]
    by_cases h1:t[i].toNat<48
    · simp (disch:=(first | omega | (simp only [JlE]; omega))) only [↓JlH,JlF,e1,e2]
    · simp (disch:=(first | omega | (simp only [JlE]; omega))) only [↓JlH,JlF,e1,e2]
theorem UmO (n:Nat) (hn:20≤n) (s t:List UInt8) (neg:Bool) (hsl:s.length<2 ^ 40) (h0:t≠[]) (ht:t.length≤9) (hd:∀ c∈t,isD c=true) (hz:t.head? = some 48→s.length≤1) (k0:Int→Bool→Option R) :
 Ucv n (bs s) neg (bs t) k0=k0 (zs neg (ofD t)) true:=by
 have hlt:=Umm hd
 have hp:(10:Nat) ^ t.length≤10 ^ 9:=Nat.pow_le_pow_right (by omega) ht
 have hlp:=fun (k0:Int→Bool→Bool→Int→Option R) (k1:Bool→Int→Option R)=>Uem (R:=R) n neg t ht t.length n 0 0 (by omega) (by omega) (by simp) (by rw [List.drop_zero]; exact hd) k0 k1
 rw [Nat.zero_mul,List.drop_zero,Nat.zero_add,show ((0:Nat):Int)=0 from rfl] at hlp
 cases t with
 | nil=>exact absurd rfl h0
 | cons c r =>
  have e0:((c::r) == ([]:List UInt8))=false:=rfl
  have e1:Jc6 (bs (c::r)) 0=(c.toNat:Int):=rfl
  have hb:=UvB c 48
  rw [show ((48:UInt8).toNat:Int)=48 from rfl] at hb
  rw [List.length_cons] at ht
  simp only [List.length_cons] at hlp
  generalize hv:ofD (c::r)=v at *
  by_cases hc:c=48
  · have e2:(c == 48)=true:=by simpa using hc
    have hs1:=hz (by rw [hc]; rfl)
    simp only [Ucv,Uek,UcX,Ujh]
    cases neg
    · simp (disch:=(first | omega | (simp only [JlE]; omega))) only [↓JlH,JlF,List.length_cons,e0,e1,hb,e2,hlp]
      rfl
    · simp (disch:=(first | omega | (simp only [JlE]; omega))) only [↓JlH,JlF,List.length_cons,e0,e1,hb,e2,hlp,Int.zero_sub]
      rfl
  · have e2:(c == 48)=false:=by simpa using hc
    simp only [Ucv,Uek,UcX,Ujh]
    cases neg
    · simp (disch:=(first | omega | (simp only [JlE]; omega))) only [↓JlH,JlF,List.length_cons,e0,e1,hb,e2,hlp]
      rfl
    · simp (disch:=(first | omega | (simp only [JlE]; omega))) only [↓JlH,JlF,List.length_cons,e0,e1,hb,e2,hlp,Int.zero_sub]
      rfl
theorem UjC (n:Nat) (hn:20≤n) (s t:List UInt8) (neg:Bool) (hsl:s.length<2 ^ 40) (htl:t.length<2 ^ 40) (h:¬ (t≠[]∧t.length≤9∧(∀ c∈t,isD c=true)∧(t.head? = some 48→s.length≤1))) :
 ∀ k0:Int→Bool→Option R,Ucv n (bs s) neg (bs t) k0=k0 0 false:=by
 intro k0
 cases t with
 | nil=>rfl
 | cons c r =>
  have e0:((c::r) == ([]:List UInt8))=false:=rfl
  have e1:Jc6 (bs (c::r)) 0=(c.toNat:Int):=rfl
  have hb:=UvB c 48
  rw [show ((48:UInt8).toNat:Int)=48 from rfl] at hb
  rw [List.length_cons] at htl
  simp only [Ucv,Uek,UcX,Ujh]
  by_cases h9:9<r.length + 1
  · simp (disch:=(first | omega | (simp only [JlE]; omega))) only [↓JlH,JlF,List.length_cons,e0]
  · by_cases hd:∀ x∈c::r,isD x=true
    · have hs:c=48∧1<s.length:=by
       by_cases hc:c=48
       · refine ⟨hc,?_⟩
         apply Nat.lt_of_not_le
         intro q
         exact h ⟨by simp,by rw [List.length_cons]; omega,hd,fun _=>q⟩
       · exact absurd ⟨by simp,by rw [List.length_cons]; omega,hd,fun q=>absurd (by simpa using q) hc⟩ h
      have e2:(c == 48)=true:=by simpa using hs.1
      have hs1:=hs.2
      simp (disch:=(first | omega | (simp only [JlE]; omega))) only [↓JlH,JlF,List.length_cons,e0,e1,hb,e2]
    · obtain ⟨y,hlp⟩:=UbQ (R:=R) n neg (c::r) (by rw [List.length_cons]; omega) (r.length + 1) n 0 0 (by rw [List.length_cons]) (by omega) (by simp) (by rw [List.drop_zero]; exact hd)
      rw [show ((0:Nat):Int)=0 from rfl] at hlp
      simp only [List.length_cons] at hlp
      by_cases hc:c=48
      · have e2:(c == 48)=true:=by simpa using hc
        by_cases hs1:1<s.length
        · simp (disch:=(first | omega | (simp only [JlE]; omega))) only [↓JlH,JlF,List.length_cons,e0,e1,hb,e2]
        · simp (disch:=(first | omega | (simp only [JlE]; omega))) only [↓JlH,JlF,List.length_cons,e0,e1,hb,e2,hlp]
      · have e2:(c == 48)=false:=by simpa using hc
        simp (disch:=(first | omega | (simp only [JlE]; omega))) only [↓JlH,JlF,List.length_cons,e0,e1,hb,e2,hlp]
theorem UdZ (n:Nat) (s:List UInt8) (hs:s.length<2 ^ 40) (k0:Int→Bool→Option R):p95 n (bs s) k0=Ucv n (bs s) (Ubt s).1 (bs (Ubt s).2) k0:=by
 unfold p95
 cases s with
 | nil=>rfl
 | cons c r =>
  rw [List.length_cons] at hs
  have e0:((c::r) == ([]:List UInt8))=false:=rfl
  have e1:Jc6 (bs (c::r)) 0=(c.toNat:Int):=rfl
  have hb:=UvB c 45
  rw [show ((45:UInt8).toNat:Int)=45 from rfl] at hb
  have e3:List.drop (1:Int).toNat (List.take (r.length + 1) (c::r))=r:=by
   show List.drop 1 (c::List.take r.length r)=r
   rw [List.take_length]; rfl
  rw [Ub9]
  by_cases hc:c=45
  · have e2:(c == 45)=true:=by simpa using hc
    rw [if_pos hc]
    simp (disch:=(first | omega | (simp only [JlE]; omega))) only [↓JlH,JlF,List.length_cons,e0,e1,hb,e2,Ugv,Jji,e3]
  · have e2:(c == 45)=false:=by simpa using hc
    rw [if_neg hc]
    simp (disch:=(first | omega | (simp only [JlE]; omega))) only [↓JlH,JlF,List.length_cons,e0,e1,hb,e2,Ugv]
theorem UdC (n:Nat) (hn:20≤n) (v:Int) (hv:v.natAbs<10 ^ 9) (k0:Int→Bool→Option R):p95 n (bs (Lib.itoa v)) k0=k0 v true:=by
 have hl:=(Ubj v.natAbs 9 (by omega)).2 hv
 have hin:=UdO (Lib.itoa v)
 rw [Uax] at hin
 have hls:(Lib.itoa v).length≤10:=by
  rw [hin,List.length_append]
  split <;> simp <;> omega
 rw [UdZ n _ (by omega),Uax,UmO n hn _ _ _ (by omega) (Uks _) hl (Ubi _) ?_,UcF,Ubs]
 intro h48
 rcases Uic v.natAbs with h | h
 · exact absurd h48 h
 · by_cases hv0:v<0
   · exfalso
     have h1:=Ubi v.natAbs
     cases hd:dec v.natAbs with
     | nil=>exact Uks _ hd
     | cons c r =>
      rw [hd] at h48 h
      simp at h48 h
      have:dec v.natAbs=dec 0:=by rw [hd,h48,h,Uan]
      have:=UbS this
      omega
   · rw [hin,decide_eq_false hv0]
     simp only [Bool.false_eq_true,if_false,List.nil_append]
     omega
theorem Ugy (n:Nat) (hn:20≤n) (s:List UInt8) (hs:s.length<2 ^ 40) (h:¬ ∃ v:Int,v.natAbs<10 ^ 9∧s=Lib.itoa v) (k0:Int→Bool→Option R):p95 n (bs s) k0=k0 0 false:=by
 have hl:=Uib s
 rw [UdZ n s hs]
 refine UjC n hn s _ _ hs (by omega) ?_ k0
 rintro ⟨h1,h2,h3,h4⟩
 apply h
 have hin:=UdO s
 have hd:dec (ofD (Ubt s).2)=(Ubt s).2:=Ukt h3 h1 (by
  by_cases hz:(Ubt s).2.head? = some 48
  · right
    have:=h4 hz
    have:=List.length_pos_iff.2 h1
    omega
  · exact Or.inl hz)
 have hlt:ofD (Ubt s).2<10 ^ 9:=(Ubj _ 9 (by omega)).1 (by rw [hd]; exact h2)
 refine ⟨zs (Ubt s).1 (ofD (Ubt s).2),by rw [Ubr]; exact hlt,?_⟩
 by_cases h0:ofD (Ubt s).2=0
 · have e:(Ubt s).1=false:=by
    cases hb:(Ubt s).1 with
    | false=>rfl
    | true =>
     exfalso
     rw [h0,Uan] at hd
     have h5:=h4 (by rw [←hd]; rfl)
     rw [hb,←hd] at hin
     rw [hin] at h5
     simp at h5
   rw [h0,e]
   rw [e,←hd,h0] at hin
   rw [hin]
   exact (Ufe 0).symm
 · rw [Uhc _ h0,hd]; exact hin
end Go.Proofs.YtmgfmlhdnadglaaGreatDoor
set_option linter.unusedVariables false
set_option maxRecDepth 100000
namespace Go.Proofs.YtmgfmlhdnadglaaGreatDoor
open Go Th Go.Proofs
noncomputable section
variable {R:Type}
end
end Go.Proofs.YtmgfmlhdnadglaaGreatDoor
