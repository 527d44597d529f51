/- Proved: part 4 of the proof that the law CertifyFarkas returns true at all its arguments (no further conditions). -/
import Derived.Test.YtmgfmlhdnadglaaGreatDoorT1
import Derived.Test.YtmgfmlhdnadglaaGreatDoorProg
import Derived.Test.YtmgfmlhdnadglaaGreatDoorT2
import Derived.Lib.ItoaNum
import Derived.Lib.AtoiAll
set_option linter.unusedVariables false
set_option maxRecDepth 100000
namespace Go.Proofs.YtmgfmlhdnadglaaGreatDoor
open Go Th Go.Proofs
abbrev GI : GInv := GInv.tab Tryz.prog "internal/strconv.uint64pow10" .u64 Lib.pow10Tab 0 (by kernel_rfl)
def layr166 : Go.Shelf.Ren := ⟨fun | 166 => 140 | 240 => 169 | 276 => 192 | n => n, fun | 0 => 0 | 3 => 3 | 4 => 4 | 5 => 5 | 9 => 9 | 20 => 20 | 37 => 173 | 70 => 179 | 72 => 181 | 75 => 166 | 80 => 154 | 164 => 227 | n => n, fun | n => n⟩
theorem Uy1 : Go.Proofs.Lays.n166 Tryz.prog layr166 := {
  mixed := by kernel_rfl
  f166 := Tryz.func140.trans (congrArg some (by kernel_rfl))
  f240 := Tryz.func169.trans (congrArg some (by kernel_rfl))
  f276 := Tryz.func192.trans (congrArg some (by kernel_rfl))
  t0 := Tryz.underlying0
  a0 := Tryz.isAgg0
  z0 := Tryz.sizeOf0
  v0 := Tryz.zeroValue0
  t3 := Tryz.underlying3
  a3 := Tryz.isAgg3
  z3 := Tryz.sizeOf3
  v3 := Tryz.zeroValue3
  t4 := Tryz.underlying4
  a4 := Tryz.isAgg4
  z4 := Tryz.sizeOf4
  v4 := Tryz.zeroValue4
  t9 := Tryz.underlying9
  a9 := Tryz.isAgg9
  z9 := Tryz.sizeOf9
  v9 := Tryz.zeroValue9
  t20 := Tryz.underlying20
  a20 := Tryz.isAgg20
  z20 := Tryz.sizeOf20
  v20 := Tryz.zeroValue20
  t37 := Tryz.underlying173
  a37 := Tryz.isAgg173
  z37 := Tryz.sizeOf173
  v37 := Tryz.zeroValue173
  t70 := Tryz.underlying179
  a70 := Tryz.isAgg179
  z70 := Tryz.sizeOf179
  v70 := Tryz.zeroValue179
  t72 := Tryz.underlying181
  a72 := Tryz.isAgg181
  z72 := Tryz.sizeOf181
  v72 := Tryz.zeroValue181
  t75 := Tryz.underlying166
  a75 := Tryz.isAgg166
  z75 := Tryz.sizeOf166
  v75 := Tryz.zeroValue166
  t164 := Tryz.underlying227
  a164 := Tryz.isAgg227
  z164 := Tryz.sizeOf227
  v164 := Tryz.zeroValue227 }
theorem Uy2 : Builder.Extra Tryz.prog layr166 := {
  sizeBuilder := by kernel_rfl
  liesBuilder := by kernel_rfl
  t5 := Tryz.underlying5
  a5 := Tryz.isAgg5
  z5 := Tryz.sizeOf5
  v5 := Tryz.zeroValue5
  infoByte := by kernel_rfl
  cellsByte := by kernel_rfl
  sizeByte := by kernel_rfl
  neB5 := by decide }
noncomputable def UF8 (n : Nat) : FS := fsFormatInt
theorem UKD (n : Nat) : FSound Tryz.prog GI 60 (UF8 n) := Jjh (Jlu Tryz.func60 (by kernel_rfl) (by kernel_rfl)) (fun F W h => h.2) Tryz.strconv_FormatInt_10
noncomputable def UCD (n : Nat) : FS := fsAtoi
theorem UGY (n : Nat) : FSound Tryz.prog GI 129 (UCD n) := Jk6 (Jlu Tryz.func129 (by kernel_rfl) (by kernel_rfl)) (fun s h1 v h2 w => Tryz.strconv_Atoi_ok s h1 v h2 w)
noncomputable def UCE (n : Nat) : FS := fsTrim
theorem UGZ (n : Nat) : FSound Tryz.prog GI 130 (UCE n) := Jk8 (Jlu Tryz.func130 (by kernel_rfl) (by kernel_rfl)) (fun s t w h1 h2 h3 => Any.strings_Trim_laid Tryz.lays160 (by kernel_rfl) s t w h1 h2 h3)
noncomputable def UCI (n : Nat) : FS := fsItoa
theorem UG3 (n : Nat) : FSound Tryz.prog GI 138 (UCI n) := Jk7 (Jlu Tryz.func138 (by kernel_rfl) (by kernel_rfl)) (fun F W h => h.2) Tryz.strconv_Itoa
noncomputable def UCJ (n : Nat) : FS := fsRepeat
theorem UG4 (n : Nat) : FSound Tryz.prog GI 139 (UCJ n) := JkA (Jlu Tryz.func139 (by kernel_rfl) (by kernel_rfl)) (fun s c w h1 h2 => Tryz.strings_Repeat s c w h1 h2)
noncomputable def UCK (n : Nat) : FS := JaV 181 5
theorem UG5 (n : Nat) : FSound Tryz.prog GI 140 (UCK n) := Jh6 Uy1 Uy2 (Jlu Tryz.func140 (by kernel_rfl) (by kernel_rfl))
noncomputable def UCL (n : Nat) : FS := Jcn 181 5
theorem UG6 (n : Nat) : FSound Tryz.prog GI 141 (UCL n) := JkB Tryz.lays169 Tryz.Builder_Extra_169 (Jlu Tryz.func141 (by kernel_rfl) (by kernel_rfl))
noncomputable def UCO (n : Nat) : FS := fsIndex1
theorem UG9 (n : Nat) : FSound Tryz.prog GI 148 (UCO n) := Jkz (Jlu Tryz.func148 (by kernel_rfl) (by kernel_rfl)) Tryz.stringslite_Index_one
end Go.Proofs.YtmgfmlhdnadglaaGreatDoor
set_option linter.unusedVariables false
set_option maxRecDepth 100000
namespace Go.Proofs.YtmgfmlhdnadglaaGreatDoor
open Go Th Go.Proofs
noncomputable section
variable {R : Type}
def UnQ : Ann := { loops := [], cuts := [], frz := [], rm := [.id, .id, .id] }
abbrev Uvt (n : Nat) : Env := eC 148 (UCO n) eN
theorem UlZ (n : Nat) : EnvOK Tryz.prog GI (Uvt n) := .cons (.nil) (UG9 n)
def UHp (n : Nat) (x1 : ByteArray) (k0 : ByteArray → ByteArray → Bool → O R) : O R :=
  let v2 := Lib.indexByte (x1).data.toList (((⟨#[47]⟩ : ByteArray)).data.toList.headD 0); bif (decide (v2 ≥ 0)) then (bif (Je5 0 v2 (x1).size) then (let v3 := IntKind.i64.wrap (v2 + ((⟨#[47]⟩ : ByteArray).size : Int)); bif (Je5 v3 ((x1).size : Int) (x1).size) then (k0 (ByteArray.extract x1 (0 : Int).toNat (v2 : Int).toNat) (ByteArray.extract x1 (v3 : Int).toNat (((x1).size : Int) : Int).toNat) true) else none) else none) else (k0 x1 ⟨#[]⟩ false)
abbrev UGu (n : Nat) : Orc R := oN
abbrev UFK (n : Nat) : Orc R := oN
abbrev ULc (R : Type) (n : Nat) := JcH (R := R) Tryz.prog (Uvt n) UnQ n (23, []) (UGu n) (UFK n)
theorem UHS (n : Nat) : Je6 (ULc R n) (JaJ UnQ (Jll Tryz.f127)) := pO pN (by kernel_rfl)
abbrev t127 : Sl (List SV) := (cS (.c (sP (Jlz (⟨#[47]⟩ : ByteArray))) .n))
abbrev f127 (n : Nat) (K : List SV → O R) : t127.T (O R) := fun x1 => UHp n x1 (fun y1 y2 y3 => K [vS y1, vS y2, vB y3])
abbrev UCB (n : Nat) : FS := fT [false, false] t127 (f127 n)
theorem UGW (n : Nat) : FSound Tryz.prog GI 127 (UCB n) := gd UnQ n (UlZ n) Tryz.func127 (.cons (UlZ n) t127 (f127 n) (fun K _ => (Jkq (c := Jll Tryz.f127) (by kernel_rfl) (UHS n) K).trans (by kernel_rfl)) .nil) (by kernel_rfl)
def Uxm : Ann := { loops := [], cuts := [], frz := [], rm := [.id, .id, .id] }
abbrev UCc (n : Nat) : Env := eC 127 (UCB n) eN
theorem Uqx (n : Nat) : EnvOK Tryz.prog GI (UCc n) := .cons (.nil) (UGW n)
def p96 (n : Nat) (x1 : ByteArray) (k0 : ByteArray → ByteArray → Bool → O R) : O R :=
  UHp n x1 (fun y2 y3 y4 => k0 y2 y3 y4)
abbrev UMB (n : Nat) : Orc R := oN
abbrev ULV (n : Nat) : Orc R := oN
abbrev K96 (R : Type) (n : Nat) := JcH (R := R) Tryz.prog (UCc n) Uxm n (13, []) (UMB n) (ULV n)
theorem UOq (n : Nat) : Je6 (K96 R n) (JaJ Uxm (Jll Tryz.f96)) := pO pN (by kernel_rfl)
abbrev t96 : Sl (List SV) := (cS (.c (sP (Jlz (⟨#[47]⟩ : ByteArray))) .n))
abbrev f96 (n : Nat) (K : List SV → O R) : t96.T (O R) := fun x1 => p96 n x1 (fun y1 y2 y3 => K [vS y1, vS y2, vB y3])
abbrev UK (n : Nat) : FS := fT [false, false] t96 (f96 n)
theorem UNh (n : Nat) : FSound Tryz.prog GI 96 (UK n) := gd Uxm n (Uqx n) Tryz.func96 (.cons (Uqx n) t96 (f96 n) (fun K _ => (Jkq (c := Jll Tryz.f96) (by kernel_rfl) (UOq n) K).trans (by kernel_rfl)) .nil) (by kernel_rfl)
def Uxo : Ann := { loops := [], cuts := [], frz := [], rm := [.id] }
abbrev UCe (n : Nat) : Env := eC 130 (UCE n) eN
theorem UqA (n : Nat) : EnvOK Tryz.prog GI (UCe n) := .cons (.nil) (UGZ n)
def p99 (n : Nat) (x1 : ByteArray) (k0 : Bool → O R) : O R :=
  bif (eqS x1 (⟨#[]⟩ : ByteArray)) then (k0 false) else (bif (bif false then true else (decide (((x1).size : Int) > 400))) then (k0 false) else (bif (inR 0 (x1).size) then (bif (Jc6 x1 0 == 48) then (bif (bif false then true else (bif true then (decide (((x1).size : Int) > 1)) else false)) then (k0 false) else (bif (Jjj x1 (⟨#[48, 49, 50, 51, 52, 53, 54, 55, 56, 57]⟩ : ByteArray)) then (k0 (eqS (JkL x1 (⟨#[48, 49, 50, 51, 52, 53, 54, 55, 56, 57]⟩ : ByteArray)) (⟨#[]⟩ : ByteArray))) else none)) else (bif (Jjj x1 (⟨#[48, 49, 50, 51, 52, 53, 54, 55, 56, 57]⟩ : ByteArray)) then (k0 (eqS (JkL x1 (⟨#[48, 49, 50, 51, 52, 53, 54, 55, 56, 57]⟩ : ByteArray)) (⟨#[]⟩ : ByteArray))) else none)) else none))
abbrev UMD (n : Nat) : Orc R := oN
abbrev ULX (n : Nat) : Orc R := oN
abbrev K99 (R : Type) (n : Nat) := JcH (R := R) Tryz.prog (UCe n) Uxo n (23, []) (UMD n) (ULX n)
theorem UOt (n : Nat) : Je6 (K99 R n) (JaJ Uxo (Jll Tryz.f99)) := pO pN (by kernel_rfl)
abbrev t99 : Sl (List SV) := (cS .n)
abbrev f99 (n : Nat) (K : List SV → O R) : t99.T (O R) := fun x1 => p99 n x1 (fun y1 => K [vB y1])
abbrev UGi (n : Nat) : FS := fT [false] t99 (f99 n)
theorem UKO (n : Nat) : FSound Tryz.prog GI 99 (UGi n) := gd Uxo n (UqA n) Tryz.func99 (.cons (UqA n) t99 (f99 n) (fun K _ => (Jkq (c := Jll Tryz.f99) (by kernel_rfl) (UOt n) K).trans (by kernel_rfl)) .nil) (by kernel_rfl)
def UnV : Ann := { loops := [], cuts := [], frz := [], rm := [.id] }
abbrev Uvy (n : Nat) : Env := eN
theorem Umb (n : Nat) : EnvOK Tryz.prog GI (Uvy n) := .nil
def UHt (n : Nat) (x1 x2 : ByteArray) (k0 : Bool → O R) : O R :=
  bif (decide (((x1).size : Int) ≥ ((x2).size : Int))) then (bif (Je5 0 ((x2).size : Int) (x1).size) then (k0 (bif true then eqS (ByteArray.extract x1 (0 : Int).toNat (((x2).size : Int) : Int).toNat) x2 else false)) else none) else (k0 false)
abbrev UGA (n : Nat) : Orc R := oN
abbrev UFQ (n : Nat) : Orc R := oN
abbrev ULh (R : Type) (n : Nat) := JcH (R := R) Tryz.prog (Uvy n) UnV n (18, []) (UGA n) (UFQ n)
theorem UH5 (n : Nat) : Je6 (ULh R n) (JaJ UnV (Jll Tryz.f177)) := pO pN (by kernel_rfl)
abbrev UIB : Sl (List SV) := (cS (cS .n))
abbrev f177 (n : Nat) (K : List SV → O R) : UIB.T (O R) := fun x1 x2 => UHt n x1 x2 (fun y1 => K [vB y1])
abbrev UCS (n : Nat) : FS := fT [false, false] UIB (f177 n)
theorem UHc (n : Nat) : FSound Tryz.prog GI 177 (UCS n) := gd UnV n (Umb n) Tryz.func177 (.cons (Umb n) UIB (f177 n) (fun K _ _ => (Jkq (c := Jll Tryz.f177) (by kernel_rfl) (UH5 n) K).trans (by kernel_rfl)) .nil) (by kernel_rfl)
def UnT : Ann := { loops := [], cuts := [], frz := [], rm := [.id, .id] }
abbrev Uvw (n : Nat) : Env := eC 177 (UCS n) eN
theorem Ul9 (n : Nat) : EnvOK Tryz.prog GI (Uvw n) := .cons (.nil) (UHc n)
def UHr (n : Nat) (x1 x2 : ByteArray) (k0 : ByteArray → Bool → O R) : O R :=
  UHt n x1 x2 (fun y3 => bif (!y3) then (k0 x1 false) else (bif (Je5 ((x2).size : Int) ((x1).size : Int) (x1).size) then (k0 (ByteArray.extract x1 (((x2).size : Int) : Int).toNat (((x1).size : Int) : Int).toNat) true) else none))
abbrev UGy (n : Nat) : Orc R := oN
abbrev UFO (n : Nat) : Orc R := oN
abbrev ULf (R : Type) (n : Nat) := JcH (R := R) Tryz.prog (Uvw n) UnT n (15, []) (UGy n) (UFO n)
theorem UH2 (n : Nat) : Je6 (ULf R n) (JaJ UnT (Jll Tryz.f149)) := pO pN (by kernel_rfl)
abbrev UIz : Sl (List SV) := (cS (cS .n))
abbrev f149 (n : Nat) (K : List SV → O R) : UIz.T (O R) := fun x1 x2 => UHr n x1 x2 (fun y1 y2 => K [vS y1, vB y2])
abbrev UCP (n : Nat) : FS := fT [false, false] UIz (f149 n)
theorem UH (n : Nat) : FSound Tryz.prog GI 149 (UCP n) := gd UnT n (Ul9 n) Tryz.func149 (.cons (Ul9 n) UIz (f149 n) (fun K _ _ => (Jkq (c := Jll Tryz.f149) (by kernel_rfl) (UH2 n) K).trans (by kernel_rfl)) .nil) (by kernel_rfl)
def UnR : Ann := { loops := [], cuts := [], frz := [], rm := [.id, .id] }
abbrev Uvu (n : Nat) : Env := eC 149 (UCP n) eN
theorem Ul0 (n : Nat) : EnvOK Tryz.prog GI (Uvu n) := .cons (.nil) (UH n)
def UFm (n : Nat) (x1 x2 : ByteArray) (k0 : ByteArray → Bool → O R) : O R :=
  UHr n x1 x2 (fun y3 y4 => k0 y3 y4)
abbrev UGv (n : Nat) : Orc R := oN
abbrev UFL (n : Nat) : Orc R := oN
abbrev ULd (R : Type) (n : Nat) := JcH (R := R) Tryz.prog (Uvu n) UnR n (11, []) (UGv n) (UFL n)
theorem UHT (n : Nat) : Je6 (ULd R n) (JaJ UnR (Jll Tryz.f128)) := pO pN (by kernel_rfl)
abbrev UIt : Sl (List SV) := (cS (cS .n))
abbrev f128 (n : Nat) (K : List SV → O R) : UIt.T (O R) := fun x1 x2 => UFm n x1 x2 (fun y1 y2 => K [vS y1, vB y2])
abbrev UCC (n : Nat) : FS := fT [false, false] UIt (f128 n)
theorem UGX (n : Nat) : FSound Tryz.prog GI 128 (UCC n) := gd UnR n (Ul0 n) Tryz.func128 (.cons (Ul0 n) UIt (f128 n) (fun K _ _ => (Jkq (c := Jll Tryz.f128) (by kernel_rfl) (UHT n) K).trans (by kernel_rfl)) .nil) (by kernel_rfl)
def Uxn : Ann := { loops := [], cuts := [], frz := [], rm := [.id, .id, .id] }
abbrev UCd (n : Nat) : Env := eC 128 (UCC n) (eC 99 (UGi n) eN)
theorem Uqy (n : Nat) : EnvOK Tryz.prog GI (UCd n) := .cons (.cons (.nil) (UKO n)) (UGX n)
def p97 (n : Nat) (x1 : ByteArray) (k0 : Bool → ByteArray → Bool → O R) : O R :=
  UFm n x1 ⟨#[45]⟩ (fun y2 y3 => p99 n y2 (fun y4 => bif y4 then (bif y3 then (k0 y3 y2 (bif true then (!(bif true then eqS y2 (⟨#[48]⟩ : ByteArray) else false)) else false)) else (k0 y3 y2 true)) else (k0 y3 y2 false)))
abbrev UMC (n : Nat) : Orc R := oN
abbrev ULW (n : Nat) : Orc R := oN
abbrev K97 (R : Type) (n : Nat) := JcH (R := R) Tryz.prog (UCd n) Uxn n (24, []) (UMC n) (ULW n)
theorem UOr (n : Nat) : Je6 (K97 R n) (JaJ Uxn (Jll Tryz.f97)) := pO pN (by kernel_rfl)
abbrev t97 : Sl (List SV) := (cS .n)
abbrev f97 (n : Nat) (K : List SV → O R) : t97.T (O R) := fun x1 => p97 n x1 (fun y1 y2 y3 => K [vB y1, vS y2, vB y3])
abbrev UKa (n : Nat) : FS := fT [false] t97 (f97 n)
theorem UNi (n : Nat) : FSound Tryz.prog GI 97 (UKa n) := gd Uxn n (Uqy n) Tryz.func97 (.cons (Uqy n) t97 (f97 n) (fun K _ => (Jkq (c := Jll Tryz.f97) (by kernel_rfl) (UOr n) K).trans (by kernel_rfl)) .nil) (by kernel_rfl)
def Ufd : Ann := { loops := [(1, ids [0], ids [0, 2])], cuts := [], frz := [], rm := [.id] }
abbrev Uo4 (n : Nat) : Env := eN
theorem UlC (n : Nat) : EnvOK Tryz.prog GI (Uo4 n) := .nil
def Uhk (n : Nat) (l0 : LP → O R) (x1 : LP) (k0 : LP → O R) : O R :=
  bif (decide (((x1).length : Int) > 0)) then (let v2 := IntKind.i64.wrap (((x1).length : Int) - 1); bif (inR v2 ((x1).length)) then (Jj .u32 ((x1).getD ((v2 : Int).toNat) (.v (.bool false))) fun e3 => bif (bif true then (e3 == 0) else false) then (let v4 := IntKind.i64.wrap (((x1).length : Int) - 1); bif (Jgx 1 x1 && Je5 0 v4 ((x1).length)) then (l0 (((x1).take (v4 : Int).toNat).drop (0 : Int).toNat)) else none) else (k0 x1)) else none) else (k0 x1)
def Uc1 (n : Nat) : Nat → LP → (LP → O R) → O R
  | 0, _, _ => none
  | m + 1, x1, k0 => Uhk n (fun x1 => Uc1 n m x1 k0) x1 k0
def UrX (n : Nat) (x1 : LP) (k0 : LP → O R) : O R := Uc1 n n x1 k0
def UrW (n : Nat) (x1 : LP) (k0 : LP → O R) : O R :=
  UrX n x1 (fun y2 => k0 y2)
abbrev UKV (n : Nat) : Code → Fr → Kc R → O R := evC Tryz.prog (Uo4 n) Ufd n (21, [])
noncomputable def Un0 : Code := Jj4 (Jll Tryz.f101) [1, 0, 0, 0]
abbrev Ud2 : Sl (List SV) := (cH .n)
abbrev UjF (n m : Nat) (K : Kc R) : Ud2.T (O R) := fun x1 => Uc1 n m x1 (fun y1 => xL Ufd 1 K (.exit 0) [vH y1, dD])
abbrev Uxr (n : Nat) (K : Kc R) (l0 : Ud2.T (O R)) : Ud2.T (O R) := fun x1 => Uhk n l0 x1 (fun y1 => xL Ufd 1 K (.exit 0) [vH y1, dD])
abbrev UCZ (n : Nat) : Orc R := oL Ufd (UKV n) n 1 Un0 Ud2 (UjF n n) oN
abbrev UBr (n : Nat) : Orc R := oN
abbrev UIS (R : Type) (n : Nat) := JcH (R := R) Tryz.prog (Uo4 n) Ufd n (21, []) (UCZ n) (UBr n)
theorem Uzm (n : Nat) : UIS R n (false, 1, Un0) := JkF (lo := UCZ n) (cu := UBr n) (pO pN (by kernel_rfl)) Ud2 (UjF n n) (JiE (F := UjF n) Ud2 (Uxr n) (fun K _ => rfl) (fun _ _ => rfl) (fun L K _ => by show _ = _; kernel_rfl) n) fun _ _ => rfl
theorem UHv (n : Nat) : Je6 (UIS R n) (JaJ Ufd (Jll Tryz.f101)) := pO (pC (Uzm n) pN) (by kernel_rfl)
abbrev UIb : Sl (List SV) := (cH .n)
abbrev f101 (n : Nat) (K : List SV → O R) : UIb.T (O R) := fun x1 => UrW n x1 (fun y1 => K [vH y1])
abbrev Uj4 (n : Nat) : FS := fT [false] UIb (f101 n)
theorem Unu (n : Nat) : FSound Tryz.prog GI 101 (Uj4 n) := gd Ufd n (UlC n) Tryz.func101 (.cons (UlC n) UIb (f101 n) (fun K _ => (Jkq (c := Jll Tryz.f101) (by kernel_rfl) (UHv n) K).trans (by kernel_rfl)) .nil) (by kernel_rfl)
def Ujr : Ann := { loops := [(2, [(0, .id), (3, .own 143)], ids [2, 3])], cuts := [], frz := [], rm := [.id] }
abbrev UyJ (n : Nat) : Env := eC 129 (UCD n) (eC 101 (Uj4 n) eN)
theorem Uqz (n : Nat) : EnvOK Tryz.prog GI (UyJ n) := .cons (.cons (.nil) (Unu n)) (UGY n)
def Uh5 (n : Nat) (l0 : ByteArray → LP → O R) (x1 : ByteArray) (x2 : LP) (k0 : LP → O R) : O R :=
  bif (decide (((x1).size : Int) > 0)) then (let v3 := IntKind.i64.wrap (((x1).size : Int) - 9); bif (Je5 (JkU 0 v3) ((x1).size : Int) (x1).size) then (Jib (ByteArray.extract x1 (JkU 0 v3 : Int).toNat (((x1).size : Int) : Int).toNat) fun v4 => bif (Jbu ((x2).length + 1) 4) then (bif (Je5 0 (JkU 0 v3) (x1).size) then (l0 (ByteArray.extract x1 (0 : Int).toNat (JkU 0 v3 : Int).toNat) (x2 ++ ([.v (.int .u32 (IntKind.u32.wrap (v4)))] : LP))) else none) else none) else none) else (k0 x2)
def UdX (n : Nat) : Nat → ByteArray → LP → (LP → O R) → O R
  | 0, _, _, _ => none
  | m + 1, x1, x2, k0 => Uh5 n (fun x1 x2 => UdX n m x1 x2 k0) x1 x2 k0
def Uwz (n : Nat) (x1 : ByteArray) (x2 : LP) (k0 : LP → O R) : O R := UdX n n x1 x2 k0
def p98 (n : Nat) (x1 : ByteArray) (k0 : LP → O R) : O R :=
  Uwz n x1 [] (fun y2 => UrW n y2 (fun y3 => k0 y3))
abbrev E98 (n : Nat) : Code → Fr → Kc R → O R := evC Tryz.prog (UyJ n) Ujr n (31, [])
noncomputable def Uvg : Code := Jj4 (Jll Tryz.f98) [1, 1, 0, 0, 0]
abbrev UgJ : Sl (List SV) := (cS (cO 143 .n))
abbrev Urz (n m : Nat) (K : Kc R) : UgJ.T (O R) := fun x1 x2 => UdX n m x1 x2 (fun y1 => xL Ujr 2 K (.exit 0) [dD, .own 143 y1])
abbrev UBk (n : Nat) (K : Kc R) (l0 : UgJ.T (O R)) : UgJ.T (O R) := fun x1 x2 => Uh5 n l0 x1 x2 (fun y1 => xL Ujr 2 K (.exit 0) [dD, .own 143 y1])
abbrev UKt (n : Nat) : Orc R := oL Ujr (E98 n) n 2 Uvg UgJ (Urz n n) oN
abbrev UJi (n : Nat) : Orc R := oN
abbrev K98 (R : Type) (n : Nat) := JcH (R := R) Tryz.prog (UyJ n) Ujr n (31, []) (UKt n) (UJi n)
theorem UEq (n : Nat) : K98 R n (false, 2, Uvg) := JkF (lo := UKt n) (cu := UJi n) (pO pN (by kernel_rfl)) UgJ (Urz n n) (JiE (F := Urz n) UgJ (UBk n) (fun K _ _ => rfl) (fun _ _ => rfl) (fun L K _ _ => by show _ = _; kernel_rfl) n) fun _ _ => rfl
theorem UOs (n : Nat) : Je6 (K98 R n) (JaJ Ujr (Jll Tryz.f98)) := pO (pC (UEq n) pN) (by kernel_rfl)
abbrev t98 : Sl (List SV) := (cS .n)
abbrev f98 (n : Nat) (K : List SV → O R) : t98.T (O R) := fun x1 => p98 n x1 (fun y1 => K [vH y1])
abbrev UKb (n : Nat) : FS := fT [false] t98 (f98 n)
theorem UNj (n : Nat) : FSound Tryz.prog GI 98 (UKb n) := gd Ujr n (Uqz n) Tryz.func98 (.cons (Uqz n) t98 (f98 n) (fun K _ => (Jkq (c := Jll Tryz.f98) (by kernel_rfl) (UOs n) K).trans (by kernel_rfl)) .nil) (by kernel_rfl)
def UgW : Ann := { loops := [(6, ids [0, 1, 5], ids [4])], cuts := [], frz := [], rm := [.id] }
abbrev Uyw (n : Nat) : Env := eN
theorem Up1 (n : Nat) : EnvOK Tryz.prog GI (Uyw n) := .nil
def UhR (n : Nat) (l0 : LP → LP → Int → O R) (x1 x2 : LP) (x3 : Int) (k0 : Int → O R) (k1 : O R) : O R :=
  bif (decide (x3 ≥ 0)) then (bif (inR x3 ((x1).length)) then (Jj .u32 ((x1).getD ((x3 : Int).toNat) (.v (.bool false))) fun e4 => bif (inR x3 ((x2).length)) then (Jj .u32 ((x2).getD ((x3 : Int).toNat) (.v (.bool false))) fun e5 => bif (e4 != e5) then (bif (inR x3 ((x1).length)) then (Jj .u32 ((x1).getD ((x3 : Int).toNat) (.v (.bool false))) fun e6 => bif (inR x3 ((x2).length)) then (Jj .u32 ((x2).getD ((x3 : Int).toNat) (.v (.bool false))) fun e7 => bif (decide (e6 < e7)) then (k0 (-1)) else (k0 1)) else none) else none) else (l0 x1 x2 (IntKind.i64.wrap (x3 - 1)))) else none) else none) else (k1)
def UdK (n : Nat) : Nat → LP → LP → Int → (Int → O R) → (O R) → O R
  | 0, _, _, _, _, _ => none
  | m + 1, x1, x2, x3, k0, k1 => UhR n (fun x1 x2 x3 => UdK n m x1 x2 x3 k0 k1) x1 x2 x3 k0 k1
def Uwo (n : Nat) (x1 x2 : LP) (x3 : Int) (k0 : Int → O R) (k1 : O R) : O R := UdK n n x1 x2 x3 k0 k1
def p57 (n : Nat) (x1 x2 : LP) (k0 : Int → O R) : O R :=
  bif (((x1).length : Int) != ((x2).length : Int)) then (bif (decide (((x1).length : Int) < ((x2).length : Int))) then (k0 (-1)) else (k0 1)) else (let v3 := IntKind.i64.wrap (((x1).length : Int) - 1); Uwo n x1 x2 v3 (fun y4 => k0 y4) (k0 0))
abbrev E57 (n : Nat) : Code → Fr → Kc R → O R := evC Tryz.prog (Uyw n) UgW n (41, [])
noncomputable def UuY : Code := Jj4 (Jll Tryz.f57) [1, 1, 0, 1, 0, 0]
abbrev Ugv : Sl (List SV) := (cH (cH (cI .n)))
abbrev Urf (n m : Nat) (K : Kc R) : Ugv.T (O R) := fun x1 x2 x3 => UdK n m x1 x2 x3 (fun y1 => xL UgW 6 K .ret [vI y1]) (xL UgW 6 K (.exit 0) [dD])
abbrev UA7 (n : Nat) (K : Kc R) (l0 : Ugv.T (O R)) : Ugv.T (O R) := fun x1 x2 x3 => UhR n l0 x1 x2 x3 (fun y1 => xL UgW 6 K .ret [vI y1]) (xL UgW 6 K (.exit 0) [dD])
abbrev UKm (n : Nat) : Orc R := oL UgW (E57 n) n 6 UuY Ugv (Urf n n) oN
abbrev UJb (n : Nat) : Orc R := oN
abbrev K57 (R : Type) (n : Nat) := JcH (R := R) Tryz.prog (Uyw n) UgW n (41, []) (UKm n) (UJb n)
theorem UD6 (n : Nat) : K57 R n (false, 6, UuY) := JkF (lo := UKm n) (cu := UJb n) (pO pN (by kernel_rfl)) Ugv (Urf n n) (JiE (F := Urf n) Ugv (UA7 n) (fun K _ _ _ => rfl) (fun _ _ => rfl) (fun L K _ _ _ => by show _ = _; kernel_rfl) n) fun _ _ => rfl
theorem UNV (n : Nat) : Je6 (K57 R n) (JaJ UgW (Jll Tryz.f57)) := pO (pC (UD6 n) pN) (by kernel_rfl)
abbrev t57 : Sl (List SV) := (cH (cH .n))
abbrev f57 (n : Nat) (K : List SV → O R) : t57.T (O R) := fun x1 x2 => p57 n x1 x2 (fun y1 => K [vI y1])
abbrev UE1 (n : Nat) : FS := fT [false, false] t57 (f57 n)
theorem UHg (n : Nat) : FSound Tryz.prog GI 57 (UE1 n) := gd UgW n (Up1 n) Tryz.func57 (.cons (Up1 n) t57 (f57 n) (fun K _ _ => (Jkq (c := Jll Tryz.f57) (by kernel_rfl) (UNV n) K).trans (by kernel_rfl)) .nil) (by kernel_rfl)
def UfT : Ann := { loops := [(3, ids [0, 1, 5, 16, 17], ids [4, 5]), (7, ids [0, 1, 5, 6, 7, 16, 17, 21, 22], ids [0, 1, 4, 5, 6, 7, 16, 17])], cuts := [], frz := [], rm := [.id] }
abbrev Uyx (n : Nat) : Env := eC 101 (Uj4 n) eN
theorem Up2 (n : Nat) : EnvOK Tryz.prog GI (Uyx n) := .cons (.nil) (Unu n)
def UhT (n : Nat) (l0 : LP → LP → LP → Int → Int → Int → Int → Int → Int → O R) (x1 x2 x3 : LP) (x4 x5 x6 x7 x8 x9 : Int) (k0 : LP → LP → LP → Int → Int → Int → Int → O R) : O R :=
  bif (decide (x9 < x8)) then (bif (inR x4 ((x1).length)) then (Jj .u32 ((x1).getD ((x4 : Int).toNat) (.v (.bool false))) fun e10 => bif (inR x9 ((x2).length)) then (Jj .u32 ((x2).getD ((x9 : Int).toNat) (.v (.bool false))) fun e11 => let v12 := IntKind.u64.wrap ((IntKind.u64.wrap (e10)) * (IntKind.u64.wrap (e11))); bif (inR (IntKind.i64.wrap (x4 + x9)) ((x3).length)) then (Jj .u32 ((x3).getD ((IntKind.i64.wrap (x4 + x9) : Int).toNat) (.v (.bool false))) fun e13 => let v14 := IntKind.u64.wrap (v12 + (IntKind.u64.wrap (e13))); bif decide (1000000000 = 0) then none else (let v15 := Int.tmod (IntKind.u64.wrap (x5 + v14)) 1000000000; bif (inR (IntKind.i64.wrap (x4 + x9)) ((x3).length)) then (Jj .u32 ((x3).getD ((IntKind.i64.wrap (x4 + x9) : Int).toNat) (.v (.bool false))) fun e16 => bif decide (1000000000 = 0) then none else (let v17 := IntKind.u64.wrap (Int.tdiv (IntKind.u64.wrap (x5 + v14)) 1000000000); l0 x1 x2 ((x3).set ((IntKind.i64.wrap (x4 + x9) : Int).toNat) (.v (.int .u32 (IntKind.u32.wrap (v15))))) x4 v17 x6 x7 x8 (IntKind.i64.wrap (x9 + 1)))) else none)) else none) else none) else none) else (k0 x1 x2 x3 x4 x5 x6 x7)
def UdM (n : Nat) : Nat → LP → LP → LP → Int → Int → Int → Int → Int → Int → (LP → LP → LP → Int → Int → Int → Int → O R) → O R
  | 0, _, _, _, _, _, _, _, _, _, _ => none
  | m + 1, x1, x2, x3, x4, x5, x6, x7, x8, x9, k0 => UhT n (fun x1 x2 x3 x4 x5 x6 x7 x8 x9 => UdM n m x1 x2 x3 x4 x5 x6 x7 x8 x9 k0) x1 x2 x3 x4 x5 x6 x7 x8 x9 k0
def Uwq (n : Nat) (x1 x2 x3 : LP) (x4 x5 x6 x7 x8 x9 : Int) (k0 : LP → LP → LP → Int → Int → Int → Int → O R) : O R := UdM n n x1 x2 x3 x4 x5 x6 x7 x8 x9 k0
def UhS (n : Nat) (l0 : LP → LP → LP → Int → Int → O R) (x1 x2 x3 : LP) (x4 x5 : Int) (k0 : LP → O R) : O R :=
  bif (decide (x5 < x4)) then (Uwq n x1 x2 x3 x5 0 x4 x5 ((x2).length : Int) 0 (fun y6 y7 y8 y9 y10 y11 y12 => let v13 := IntKind.i64.wrap (y9 + ((y7).length : Int)); bif (inR v13 ((y8).length)) then (Jj .u32 ((y8).getD ((v13 : Int).toNat) (.v (.bool false))) fun e14 => l0 y6 y7 ((y8).set ((v13 : Int).toNat) (.v (.int .u32 (IntKind.u32.wrap (y10))))) y11 (IntKind.i64.wrap (y12 + 1))) else none)) else (k0 x3)
def UdL (n : Nat) : Nat → LP → LP → LP → Int → Int → (LP → O R) → O R
  | 0, _, _, _, _, _, _ => none
  | m + 1, x1, x2, x3, x4, x5, k0 => UhS n (fun x1 x2 x3 x4 x5 => UdL n m x1 x2 x3 x4 x5 k0) x1 x2 x3 x4 x5 k0
def Uwp (n : Nat) (x1 x2 x3 : LP) (x4 x5 : Int) (k0 : LP → O R) : O R := UdL n n x1 x2 x3 x4 x5 k0
def p58 (n : Nat) (x1 x2 : LP) (k0 : LP → O R) : O R :=
  let v3 := IntKind.i64.wrap (((x1).length : Int) + ((x2).length : Int)); bif (decide ((0 : Int) ≤ v3) && decide ((v3 : Int) ≤ v3) && Jbu (v3 : Int).toNat 4) then (Uwp n x1 x2 (List.replicate (v3 : Int).toNat (.v (.int .u32 0) : PV)) ((x1).length : Int) 0 (fun y4 => UrW n y4 (fun y5 => k0 y5))) else none
abbrev E58 (n : Nat) : Code → Fr → Kc R → O R := evC Tryz.prog (Uyx n) UfT n (68, [])
noncomputable def UuZ : Code := Jj4 (Jll Tryz.f58) [1, 1, 0, 1, 0, 0]
abbrev Ugw : Sl (List SV) := (cH (cH (cO 143 (cI (cI .n)))))
abbrev Urg (n m : Nat) (K : Kc R) : Ugw.T (O R) := fun x1 x2 x3 x4 x5 => UdL n m x1 x2 x3 x4 x5 (fun y1 => xL UfT 3 K (.exit 0) [dD, .own 143 y1])
abbrev UA8 (n : Nat) (K : Kc R) (l0 : Ugw.T (O R)) : Ugw.T (O R) := fun x1 x2 x3 x4 x5 => UhS n l0 x1 x2 x3 x4 x5 (fun y1 => xL UfT 3 K (.exit 0) [dD, .own 143 y1])
noncomputable def Uu0 : Code := Jj4 (Jll Tryz.f58) [1, 1, 0, 1, 0, 0, 1, 1, 0, 0, 1, 1, 0, 1, 0, 0]
abbrev Ugx : Sl (List SV) := (cH (cH (cO 143 (cI (.c (sP (Jlv .u64)) (cI (cI (cI (cI .n)))))))))
abbrev Urh (n m : Nat) (K : Kc R) : Ugx.T (O R) := fun x1 x2 x3 x4 x5 x6 x7 x8 x9 => UdM n m x1 x2 x3 x4 x5 x6 x7 x8 x9 (fun y1 y2 y3 y4 y5 y6 y7 => xL UfT 7 K (.exit 2) [vH y1, vH y2, dD, .own 143 y3, vI y4, .p (.v (.int .u64 y5)), vI y6, vI y7])
abbrev UA9 (n : Nat) (K : Kc R) (l0 : Ugx.T (O R)) : Ugx.T (O R) := fun x1 x2 x3 x4 x5 x6 x7 x8 x9 => UhT n l0 x1 x2 x3 x4 x5 x6 x7 x8 x9 (fun y1 y2 y3 y4 y5 y6 y7 => xL UfT 7 K (.exit 2) [vH y1, vH y2, dD, .own 143 y3, vI y4, .p (.v (.int .u64 y5)), vI y6, vI y7])
abbrev UGF (n : Nat) : Orc R := oL UfT (E58 n) n 7 Uu0 Ugx (Urh n n) (oL UfT (E58 n) n 3 UuZ Ugw (Urg n n) oN)
abbrev UFV (n : Nat) : Orc R := oN
abbrev K58 (R : Type) (n : Nat) := JcH (R := R) Tryz.prog (Uyx n) UfT n (68, []) (UGF n) (UFV n)
theorem UD8 (n : Nat) : K58 R n (false, 7, Uu0) := JkF (lo := UGF n) (cu := UFV n) (pO pN (by kernel_rfl)) Ugx (Urh n n) (JiE (F := Urh n) Ugx (UA9 n) (fun K _ _ _ _ _ _ _ _ _ => rfl) (fun _ _ => rfl) (fun L K _ _ _ _ _ _ _ _ _ => by show _ = _; kernel_rfl) n) fun _ _ => rfl
theorem UD7 (n : Nat) : K58 R n (false, 3, UuZ) := JkF (lo := UGF n) (cu := UFV n) (pO (pC (UD8 n) pN) (by kernel_rfl)) Ugw (Urg n n) (JiE (F := Urg n) Ugw (UA8 n) (fun K _ _ _ _ _ => rfl) (fun _ _ => rfl) (fun L K _ _ _ _ _ => by show _ = _; kernel_rfl) n) fun _ _ => rfl
theorem UNW (n : Nat) : Je6 (K58 R n) (JaJ UfT (Jll Tryz.f58)) := pO (pC (UD7 n) pN) (by kernel_rfl)
abbrev t58 : Sl (List SV) := (cH (cH .n))
abbrev f58 (n : Nat) (K : List SV → O R) : t58.T (O R) := fun x1 x2 => p58 n x1 x2 (fun y1 => K [vH y1])
abbrev UCU (n : Nat) : FS := fT [false, false] t58 (f58 n)
theorem UFe (n : Nat) : FSound Tryz.prog GI 58 (UCU n) := gd UfT n (Up2 n) Tryz.func58 (.cons (Up2 n) t58 (f58 n) (fun K _ _ => (Jkq (c := Jll Tryz.f58) (by kernel_rfl) (UNW n) K).trans (by kernel_rfl)) .nil) (by kernel_rfl)
def Ufh : Ann := { loops := [(4, ids [0, 1, 6, 7, 8], ids [4, 5, 6, 7])], cuts := [], frz := [], rm := [.id, .id] }
abbrev Upi (n : Nat) : Env := eC 101 (Uj4 n) eN
theorem Ul3 (n : Nat) : EnvOK Tryz.prog GI (Upi n) := .cons (.nil) (Unu n)
def UeY (n : Nat) (l0 : LP → Int → LP → Int → Int → O R) (x1 : LP) (x2 : Int) (x3 : LP) (x4 x5 : Int) (k0 : LP → Int → O R) : O R :=
  bif (decide (x5 ≥ 0)) then (bif (inR x5 ((x1).length)) then (Jj .u32 ((x1).getD ((x5 : Int).toNat) (.v (.bool false))) fun e6 => let v7 := IntKind.u64.wrap ((IntKind.u64.wrap (x4 * 1000000000)) + (IntKind.u64.wrap (e6))); bif decide (IntKind.u64.wrap (x2) = 0) then none else (let v8 := IntKind.u64.wrap (Int.tdiv v7 (IntKind.u64.wrap (x2))); bif (inR x5 ((x3).length)) then (Jj .u32 ((x3).getD ((x5 : Int).toNat) (.v (.bool false))) fun e9 => bif decide (IntKind.u64.wrap (x2) = 0) then none else (let v10 := Int.tmod v7 (IntKind.u64.wrap (x2)); l0 x1 x2 ((x3).set ((x5 : Int).toNat) (.v (.int .u32 (IntKind.u32.wrap (v8))))) v10 (IntKind.i64.wrap (x5 - 1)))) else none)) else none) else (k0 x3 x4)
def Ub8 (n : Nat) : Nat → LP → Int → LP → Int → Int → (LP → Int → O R) → O R
  | 0, _, _, _, _, _, _ => none
  | m + 1, x1, x2, x3, x4, x5, k0 => UeY n (fun x1 x2 x3 x4 x5 => Ub8 n m x1 x2 x3 x4 x5 k0) x1 x2 x3 x4 x5 k0
def Us (n : Nat) (x1 : LP) (x2 : Int) (x3 : LP) (x4 x5 : Int) (k0 : LP → Int → O R) : O R := Ub8 n n x1 x2 x3 x4 x5 k0
def UDp (n : Nat) (x1 : LP) (x2 : Int) (k0 : LP → Int → O R) : O R :=
  bif (decide ((0 : Int) ≤ ((x1).length : Int)) && decide ((((x1).length : Int) : Int) ≤ ((x1).length : Int)) && Jbu (((x1).length : Int) : Int).toNat 4) then (let v3 := IntKind.i64.wrap (((x1).length : Int) - 1); Us n x1 x2 (List.replicate (((x1).length : Int) : Int).toNat (.v (.int .u32 0) : PV)) 0 v3 (fun y4 y5 => UrW n y4 (fun y6 => k0 y6 (IntKind.u32.wrap (y5))))) else none
abbrev UK1 (n : Nat) : Code → Fr → Kc R → O R := evC Tryz.prog (Upi n) Ufh n (43, [])
noncomputable def Uoq : Code := Jj4 (Jll Tryz.f137) [1, 1, 1, 0, 1, 0, 0]
abbrev Uee : Sl (List SV) := (cH (.c (sP (Jlv .u32)) (cO 143 (.c (sP (Jlv .u64)) (cI .n)))))
abbrev UjS (n m : Nat) (K : Kc R) : Uee.T (O R) := fun x1 x2 x3 x4 x5 => Ub8 n m x1 x2 x3 x4 x5 (fun y1 y2 => xL Ufh 4 K (.exit 0) [dD, dD, .own 143 y1, .p (.v (.int .u64 y2))])
abbrev UxE (n : Nat) (K : Kc R) (l0 : Uee.T (O R)) : Uee.T (O R) := fun x1 x2 x3 x4 x5 => UeY n l0 x1 x2 x3 x4 x5 (fun y1 y2 => xL Ufh 4 K (.exit 0) [dD, dD, .own 143 y1, .p (.v (.int .u64 y2))])
abbrev UC5 (n : Nat) : Orc R := oL Ufh (UK1 n) n 4 Uoq Uee (UjS n n) oN
abbrev UBx (n : Nat) : Orc R := oN
abbrev UIY (R : Type) (n : Nat) := JcH (R := R) Tryz.prog (Upi n) Ufh n (43, []) (UC5 n) (UBx n)
theorem UzO (n : Nat) : UIY R n (false, 4, Uoq) := JkF (lo := UC5 n) (cu := UBx n) (pO pN (by kernel_rfl)) Uee (UjS n n) (JiE (F := UjS n) Uee (UxE n) (fun K _ _ _ _ _ => rfl) (fun _ _ => rfl) (fun L K _ _ _ _ _ => by show _ = _; kernel_rfl) n) fun _ _ => rfl
theorem UHW (n : Nat) : Je6 (UIY R n) (JaJ Ufh (Jll Tryz.f137)) := pO (pC (UzO n) pN) (by kernel_rfl)
abbrev UIw : Sl (List SV) := (cH (.c (sP (Jlv .u32)) .n))
abbrev f137 (n : Nat) (K : List SV → O R) : UIw.T (O R) := fun x1 x2 => UDp n x1 x2 (fun y1 y2 => K [vH y1, .p (.v (.int .u32 y2))])
abbrev UCH (n : Nat) : FS := fT [false, false] UIw (f137 n)
theorem UG2 (n : Nat) : FSound Tryz.prog GI 137 (UCH n) := gd Ufh n (Ul3 n) Tryz.func137 (.cons (Ul3 n) UIw (f137 n) (fun K _ _ => (Jkq (c := Jll Tryz.f137) (by kernel_rfl) (UHW n) K).trans (by kernel_rfl)) .nil) (by kernel_rfl)
def Uad : Ann := { loops := [(12, ids [8, 9, 10, 11, 12, 13], ids [4, 5, 8, 9, 12]), (16, ids [8, 9, 10, 11, 12, 13, 15, 16], ids [4, 5, 8, 9, 10, 11, 12, 13, 15]), (22, ids [8, 9, 10, 11, 12, 13, 15, 17, 18, 151, 152], ids [4, 5, 8, 9, 10, 11, 12, 13, 15, 17, 18]), (38, ids [8, 9, 10, 11, 12, 13, 15, 21, 22, 207, 208], ids [4, 5, 8, 9, 10, 11, 12, 13, 15, 21, 22])], cuts := [(3, ids [0, 1], ids [4, 5]), (6, ids [0, 1], ids [4, 5]), (7, ids [0, 1, 8], ids [4, 5]), (8, ids [8, 9, 10], ids [4, 5]), (9, ids [8, 9, 10], ids [4, 5]), (10, ids [8, 9, 10, 11], ids [4, 5]), (11, ids [8, 9, 10, 11, 12], ids [4, 5]), (13, ids [8, 9, 10, 11, 12, 13], ids [4, 5, 8, 9, 10, 11, 12, 13]), (17, ids [8, 9, 10, 11, 12, 13, 15, 16], ids [4, 5, 8, 9, 10, 11, 12, 13, 15, 16]), (31, ids [8, 9, 10, 11, 12, 13, 15, 17, 18, 19, 20, 151, 152], ids [4, 5, 8, 9, 10, 11, 12, 13, 15, 17, 18, 151, 152]), (45, ids [8, 9, 10, 11, 12, 13, 15, 21], ids [4, 5, 8, 9, 10, 11, 12, 13])], frz := [], rm := [.sh, .id] }
abbrev Upb (n : Nat) : Env := eC 137 (UCH n) (eC 101 (Uj4 n) (eC 58 (UCU n) (eC 57 (UE1 n) eN)))
theorem UlP (n : Nat) : EnvOK Tryz.prog GI (Upb n) := .cons (.cons (.cons (.cons (.nil) (UHg n)) (UFe n)) (Unu n)) (UG2 n)
def Uc6 (n : Nat) (x1 x2 x3 : LP) (x4 : Int) (x5 : LP) (x6 x7 x8 : Int) (k0 : LP → LP → LP → Int → LP → Int → Int → Int → O R) (k1 : LP → LP → LP → Int → LP → Int → Int → Int → O R) : O R :=
  bif (inR (IntKind.i64.wrap (x4 - 1)) ((x3).length)) then (Jj .u32 ((x3).getD ((IntKind.i64.wrap (x4 - 1) : Int).toNat) (.v (.bool false))) fun e9 => let v10 := IntKind.u64.wrap (x8 + (IntKind.u64.wrap (e9))); bif (decide (v10 ≥ 1000000000)) then (k0 x1 x2 x3 x4 x5 x6 (IntKind.u64.wrap (x7 - 1)) v10) else (k1 x1 x2 x3 x4 x5 x6 (IntKind.u64.wrap (x7 - 1)) v10)) else none
def UbP (n : Nat) (l0 : LP → LP → LP → Int → LP → Int → Int → Int → O R) (x1 x2 x3 : LP) (x4 : Int) (x5 : LP) (x6 x7 x8 : Int) (k0 : LP → LP → LP → Int → LP → Int → Int → O R) : O R :=
  bif (decide (x7 ≥ 1000000000)) then (Uc6 n x1 x2 x3 x4 x5 x6 x7 x8 (fun y9 y10 y11 y12 y13 y14 y15 y16 => k0 y9 y10 y11 y12 y13 y14 y15) (fun y17 y18 y19 y20 y21 y22 y23 y24 => l0 y17 y18 y19 y20 y21 y22 y23 y24)) else (bif (inR (IntKind.i64.wrap (x4 - 2)) ((x3).length)) then (Jj .u32 ((x3).getD ((IntKind.i64.wrap (x4 - 2) : Int).toNat) (.v (.bool false))) fun e25 => let v26 := IntKind.u64.wrap (x7 * (IntKind.u64.wrap (e25))); let v27 := IntKind.i64.wrap ((IntKind.i64.wrap (x6 + x4)) - 2); bif (inR v27 ((x2).length)) then (Jj .u32 ((x2).getD ((v27 : Int).toNat) (.v (.bool false))) fun e28 => let v29 := IntKind.u64.wrap ((IntKind.u64.wrap (x8 * 1000000000)) + (IntKind.u64.wrap (e28))); bif (bif false then true else (decide (v26 > v29))) then (Uc6 n x1 x2 x3 x4 x5 x6 x7 x8 (fun y30 y31 y32 y33 y34 y35 y36 y37 => k0 y30 y31 y32 y33 y34 y35 y36) (fun y38 y39 y40 y41 y42 y43 y44 y45 => l0 y38 y39 y40 y41 y42 y43 y44 y45)) else (k0 x1 x2 x3 x4 x5 x6 x7)) else none) else none)
def Ua6 (n : Nat) : Nat → LP → LP → LP → Int → LP → Int → Int → Int → (LP → LP → LP → Int → LP → Int → Int → O R) → O R
  | 0, _, _, _, _, _, _, _, _, _ => none
  | m + 1, x1, x2, x3, x4, x5, x6, x7, x8, k0 => UbP n (fun x1 x2 x3 x4 x5 x6 x7 x8 => Ua6 n m x1 x2 x3 x4 x5 x6 x7 x8 k0) x1 x2 x3 x4 x5 x6 x7 x8 k0
def Uhr (n : Nat) (x1 x2 x3 : LP) (x4 : Int) (x5 : LP) (x6 x7 x8 : Int) (k0 : LP → LP → LP → Int → LP → Int → Int → O R) : O R := Ua6 n n x1 x2 x3 x4 x5 x6 x7 x8 k0
def UeS (n : Nat) (x1 x2 x3 : LP) (x4 : Int) (x5 : LP) (x6 x7 x8 x9 x10 x11 x12 x13 : Int) (k0 : LP → LP → LP → Int → LP → Int → Int → Int → Int → Int → Int → O R) : O R :=
  bif (inR (IntKind.i64.wrap (x6 + x10)) ((x2).length)) then (Jj .u32 ((x2).getD ((IntKind.i64.wrap (x6 + x10) : Int).toNat) (.v (.bool false))) fun e14 => k0 x1 ((x2).set ((IntKind.i64.wrap (x6 + x10) : Int).toNat) (.v (.int .u32 (IntKind.u32.wrap (x11))))) x3 x4 x5 x6 x7 x8 x9 x12 x13) else none
def Uc8 (n : Nat) (l0 : LP → LP → LP → Int → LP → Int → Int → Int → Int → Int → Int → O R) (x1 x2 x3 : LP) (x4 : Int) (x5 : LP) (x6 x7 x8 x9 x10 x11 : Int) (k0 : LP → LP → LP → Int → LP → Int → Int → Int → Int → O R) : O R :=
  bif (decide (x11 < x10)) then (bif (inR x11 ((x3).length)) then (Jj .u32 ((x3).getD ((x11 : Int).toNat) (.v (.bool false))) fun e12 => let v13 := IntKind.u64.wrap (x7 * (IntKind.u64.wrap (e12))); bif (inR (IntKind.i64.wrap (x6 + x11)) ((x2).length)) then (Jj .u32 ((x2).getD ((IntKind.i64.wrap (x6 + x11) : Int).toNat) (.v (.bool false))) fun e14 => bif decide (1000000000 = 0) then none else (let v15 := Int.tmod (IntKind.u64.wrap (x8 + v13)) 1000000000; let v16 := IntKind.i64.wrap ((IntKind.i64.wrap (e14)) - (IntKind.i64.wrap (v15))); bif decide (1000000000 = 0) then none else (let v17 := IntKind.u64.wrap (Int.tdiv (IntKind.u64.wrap (x8 + v13)) 1000000000); bif (decide (IntKind.i64.wrap (v16 - x9) < 0)) then (let v18 := IntKind.i64.wrap ((IntKind.i64.wrap (v16 - x9)) + 1000000000); UeS n x1 x2 x3 x4 x5 x6 x7 v17 1 x11 v18 x10 x11 (fun y19 y20 y21 y22 y23 y24 y25 y26 y27 y28 y29 => l0 y19 y20 y21 y22 y23 y24 y25 y26 y27 y28 (IntKind.i64.wrap (y29 + 1)))) else (UeS n x1 x2 x3 x4 x5 x6 x7 v17 0 x11 (IntKind.i64.wrap (v16 - x9)) x10 x11 (fun y30 y31 y32 y33 y34 y35 y36 y37 y38 y39 y40 => l0 y30 y31 y32 y33 y34 y35 y36 y37 y38 y39 (IntKind.i64.wrap (y40 + 1))))))) else none) else none) else (k0 x1 x2 x3 x4 x5 x6 x7 x8 x9)
def UaN (n : Nat) : Nat → LP → LP → LP → Int → LP → Int → Int → Int → Int → Int → Int → (LP → LP → LP → Int → LP → Int → Int → Int → Int → O R) → O R
  | 0, _, _, _, _, _, _, _, _, _, _, _, _ => none
  | m + 1, x1, x2, x3, x4, x5, x6, x7, x8, x9, x10, x11, k0 => Uc8 n (fun x1 x2 x3 x4 x5 x6 x7 x8 x9 x10 x11 => UaN n m x1 x2 x3 x4 x5 x6 x7 x8 x9 x10 x11 k0) x1 x2 x3 x4 x5 x6 x7 x8 x9 x10 x11 k0
def Uhs (n : Nat) (x1 x2 x3 : LP) (x4 : Int) (x5 : LP) (x6 x7 x8 x9 x10 x11 : Int) (k0 : LP → LP → LP → Int → LP → Int → Int → Int → Int → O R) : O R := UaN n n x1 x2 x3 x4 x5 x6 x7 x8 x9 x10 x11 k0
def Uc9 (n : Nat) (l0 : LP → LP → LP → Int → LP → Int → Int → Int → Int → Int → Int → O R) (x1 x2 x3 : LP) (x4 : Int) (x5 : LP) (x6 x7 x8 x9 x10 x11 : Int) (k0 : LP → LP → LP → Int → LP → Int → Int → Int → Int → O R) : O R :=
  bif (decide (x11 < x10)) then (bif (inR (IntKind.i64.wrap (x6 + x11)) ((x2).length)) then (Jj .u32 ((x2).getD ((IntKind.i64.wrap (x6 + x11) : Int).toNat) (.v (.bool false))) fun e12 => bif (inR x11 ((x3).length)) then (Jj .u32 ((x3).getD ((x11 : Int).toNat) (.v (.bool false))) fun e13 => let v14 := IntKind.u32.wrap (x9 + (IntKind.u32.wrap (e12 + e13))); bif decide (1000000000 = 0) then none else (bif (inR (IntKind.i64.wrap (x6 + x11)) ((x2).length)) then (Jj .u32 ((x2).getD ((IntKind.i64.wrap (x6 + x11) : Int).toNat) (.v (.bool false))) fun e15 => bif decide (1000000000 = 0) then none else (let v16 := IntKind.u32.wrap (Int.tdiv v14 1000000000); l0 x1 ((x2).set ((IntKind.i64.wrap (x6 + x11) : Int).toNat) (.v (.int .u32 (Int.tmod v14 1000000000)))) x3 x4 x5 x6 x7 x8 v16 x10 (IntKind.i64.wrap (x11 + 1)))) else none)) else none) else none) else (k0 x1 x2 x3 x4 x5 x6 x7 x8 x9)
def Ua7 (n : Nat) : Nat → LP → LP → LP → Int → LP → Int → Int → Int → Int → Int → Int → (LP → LP → LP → Int → LP → Int → Int → Int → Int → O R) → O R
  | 0, _, _, _, _, _, _, _, _, _, _, _, _ => none
  | m + 1, x1, x2, x3, x4, x5, x6, x7, x8, x9, x10, x11, k0 => Uc9 n (fun x1 x2 x3 x4 x5 x6 x7 x8 x9 x10 x11 => Ua7 n m x1 x2 x3 x4 x5 x6 x7 x8 x9 x10 x11 k0) x1 x2 x3 x4 x5 x6 x7 x8 x9 x10 x11 k0
def UmO (n : Nat) (x1 x2 x3 : LP) (x4 : Int) (x5 : LP) (x6 x7 x8 x9 x10 x11 : Int) (k0 : LP → LP → LP → Int → LP → Int → Int → Int → Int → O R) : O R := Ua7 n n x1 x2 x3 x4 x5 x6 x7 x8 x9 x10 x11 k0
def Uc7 (n : Nat) (x1 x2 x3 : LP) (x4 : Int) (x5 : LP) (x6 x7 x8 : Int) (k0 : LP → LP → LP → Int → LP → Int → O R) : O R :=
  bif (inR (IntKind.i64.wrap (x6 + x4)) ((x2).length)) then (Jj .u32 ((x2).getD ((IntKind.i64.wrap (x6 + x4) : Int).toNat) (.v (.bool false))) fun e9 => bif (inR x6 ((x5).length)) then (Jj .u32 ((x5).getD ((x6 : Int).toNat) (.v (.bool false))) fun e10 => k0 x1 ((x2).set ((IntKind.i64.wrap (x6 + x4) : Int).toNat) (.v (.int .u32 (IntKind.u32.wrap (x8))))) x3 x4 ((x5).set ((x6 : Int).toNat) (.v (.int .u32 (IntKind.u32.wrap (x7))))) x6) else none) else none
def Uc5 (n : Nat) (x1 x2 x3 : LP) (x4 : Int) (x5 : LP) (x6 : Int) (k0 : LP → LP → LP → Int → LP → Int → O R) : O R :=
  k0 x1 x2 x3 x4 x5 (IntKind.i64.wrap (x6 - 1))
def UbO (n : Nat) (l0 : LP → LP → LP → Int → LP → Int → O R) (x1 x2 x3 : LP) (x4 : Int) (x5 : LP) (x6 : Int) (k0 : LP → LP → LP → O R) : O R :=
  bif (decide (x6 ≥ 0)) then (bif (inR (IntKind.i64.wrap (x6 + x4)) ((x2).length)) then (Jj .u32 ((x2).getD ((IntKind.i64.wrap (x6 + x4) : Int).toNat) (.v (.bool false))) fun e7 => let v8 := IntKind.u64.wrap ((IntKind.u64.wrap (e7)) * 1000000000); let v9 := IntKind.i64.wrap ((IntKind.i64.wrap (x6 + x4)) - 1); bif (inR v9 ((x2).length)) then (Jj .u32 ((x2).getD ((v9 : Int).toNat) (.v (.bool false))) fun e10 => let v11 := IntKind.u64.wrap (v8 + (IntKind.u64.wrap (e10))); bif (inR (IntKind.i64.wrap (x4 - 1)) ((x3).length)) then (Jj .u32 ((x3).getD ((IntKind.i64.wrap (x4 - 1) : Int).toNat) (.v (.bool false))) fun e12 => bif decide (IntKind.u64.wrap (e12) = 0) then none else (let v13 := IntKind.u64.wrap (Int.tdiv v11 (IntKind.u64.wrap (e12))); bif (inR (IntKind.i64.wrap (x4 - 1)) ((x3).length)) then (Jj .u32 ((x3).getD ((IntKind.i64.wrap (x4 - 1) : Int).toNat) (.v (.bool false))) fun e14 => bif decide (IntKind.u64.wrap (e14) = 0) then none else (let v15 := Int.tmod v11 (IntKind.u64.wrap (e14)); Uhr n x1 x2 x3 x4 x5 x6 v13 v15 (fun y16 y17 y18 y19 y20 y21 y22 => Uhs n y16 y17 y18 y19 y20 y21 y22 0 0 y19 0 (fun y23 y24 y25 y26 y27 y28 y29 y30 y31 => bif (inR (IntKind.i64.wrap (y28 + y26)) ((y24).length)) then (Jj .u32 ((y24).getD ((IntKind.i64.wrap (y28 + y26) : Int).toNat) (.v (.bool false))) fun e32 => let v33 := IntKind.i64.wrap ((IntKind.i64.wrap (e32)) - (IntKind.i64.wrap (y30))); bif (decide (IntKind.i64.wrap (v33 - y31) < 0)) then (UmO n y23 y24 y25 y26 y27 y28 (IntKind.u64.wrap (y29 - 1)) (IntKind.i64.wrap (v33 - y31)) 0 y26 0 (fun y34 y35 y36 y37 y38 y39 y40 y41 y42 => let v43 := IntKind.i64.wrap (y41 + (IntKind.i64.wrap (y42))); Uc7 n y34 y35 y36 y37 y38 y39 y40 v43 (fun y44 y45 y46 y47 y48 y49 => Uc5 n y44 y45 y46 y47 y48 y49 (fun y50 y51 y52 y53 y54 y55 => l0 y50 y51 y52 y53 y54 y55)))) else (Uc7 n y23 y24 y25 y26 y27 y28 y29 (IntKind.i64.wrap (v33 - y31)) (fun y56 y57 y58 y59 y60 y61 => Uc5 n y56 y57 y58 y59 y60 y61 (fun y62 y63 y64 y65 y66 y67 => l0 y62 y63 y64 y65 y66 y67)))) else none)))) else none)) else none) else none) else none) else (k0 x1 x2 x5)
def UaD (n : Nat) : Nat → LP → LP → LP → Int → LP → Int → (LP → LP → LP → O R) → O R
  | 0, _, _, _, _, _, _, _ => none
  | m + 1, x1, x2, x3, x4, x5, x6, k0 => UbO n (fun x1 x2 x3 x4 x5 x6 => UaD n m x1 x2 x3 x4 x5 x6 k0) x1 x2 x3 x4 x5 x6 k0
def UmN (n : Nat) (x1 x2 x3 : LP) (x4 : Int) (x5 : LP) (x6 : Int) (k0 : LP → LP → LP → O R) : O R := UaD n n x1 x2 x3 x4 x5 x6 k0
def Uhp (n : Nat) (x1 x2 x3 : LP) (x4 : Int) (x5 : LP) (k0 : LP → LP → O R) : O R :=
  let v6 := IntKind.i64.wrap (((x2).length : Int) - x4); UmN n x1 x2 x3 x4 x5 (IntKind.i64.wrap (v6 - 1)) (fun y7 y8 y9 => UrW n y8 (fun y10 => bif (inR 0 ((y7).length)) then (Jj .u32 ((y7).getD ((0 : Int).toNat) (.v (.bool false))) fun e11 => UDp n y10 e11 (fun y12 y13 => UrW n y9 (fun y14 => k0 y14 y12))) else none))
def Uho (n : Nat) (x1 x2 x3 : LP) (x4 : Int) (k0 : LP → LP → O R) : O R :=
  let v5 := IntKind.i64.wrap (((x2).length : Int) - x4); bif (decide ((0 : Int) ≤ v5) && decide ((v5 : Int) ≤ v5) && Jbu (v5 : Int).toNat 4) then (Uhp n x1 x2 x3 x4 (List.replicate (v5 : Int).toNat (.v (.int .u32 0) : PV)) (fun y6 y7 => k0 y6 y7)) else none
def Uka (n : Nat) (x1 x2 x3 : LP) (k0 : LP → LP → O R) : O R :=
  Uho n x1 x2 x3 ((x3).length : Int) (fun y4 y5 => k0 y4 y5)
def Uk (n : Nat) (x1 x2 x3 : LP) (k0 : LP → LP → O R) : O R :=
  bif (Jgx 1 x2 && Jbu (0 + (x2).length) 4) then (bif (Jbu (([] ++ x2).length + 1) 4) then (Uka n x1 (([] ++ x2) ++ ([.v (.int .u32 0)] : LP)) x3 (fun y4 y5 => k0 y4 y5)) else none) else none
def Uj9 (n : Nat) (x1 x2 x3 : LP) (k0 : LP → LP → O R) : O R :=
  p58 n x1 x3 (fun y4 => p58 n x2 x3 (fun y5 => Uk n x3 y4 y5 (fun y6 y7 => k0 y6 y7)))
def Uj8 (n : Nat) (x1 x2 : LP) (k0 : LP → LP → O R) : O R :=
  let v3 := IntKind.i64.wrap (((x2).length : Int) - 1); bif (inR v3 ((x2).length)) then (Jj .u32 ((x2).getD ((v3 : Int).toNat) (.v (.bool false))) fun e4 => bif decide (IntKind.u32.wrap (e4 + 1) = 0) then none else (let v5 := IntKind.u32.wrap (Int.tdiv 1000000000 (IntKind.u32.wrap (e4 + 1))); Uj9 n x1 x2 ([.v (.int .u32 v5)] : LP) (fun y6 y7 => k0 y6 y7))) else none
def Uhq (n : Nat) (x1 x2 : LP) (k0 : LP → LP → O R) : O R :=
  bif (((x2).length : Int) == 1) then (bif (inR 0 ((x2).length)) then (Jj .u32 ((x2).getD ((0 : Int).toNat) (.v (.bool false))) fun e3 => UDp n x1 e3 (fun y4 y5 => UrW n ([.v (.int .u32 y5)] : LP) (fun y6 => k0 y4 y6))) else none) else (Uj8 n x1 x2 (fun y7 y8 => k0 y7 y8))
def UAG (n : Nat) (x1 x2 : LP) (k0 : LP → LP → O R) : O R :=
  p57 n x1 x2 (fun y3 => bif (decide (y3 < 0)) then (k0 [] x1) else (Uhq n x1 x2 (fun y4 y5 => k0 y4 y5)))
abbrev Ujn (n : Nat) : Code → Fr → Kc R → O R := evC Tryz.prog (Upb n) Uad n (262, [])
noncomputable def Uob : Code := Jj4 (Jll Tryz.f115) [1, 1]
abbrev Ukx : Sl (List SV) := (cH (cH .n))
abbrev UqG (n : Nat) (K : Kc R) : Ukx.T (O R) := fun x1 x2 => Uhq n x1 x2 (fun y1 y2 => xC Uad 3 K .ret [vH y1, vH y2])
noncomputable def Uoc : Code := Jj4 (Jll Tryz.f115) [1, 1, 1]
abbrev Uky : Sl (List SV) := (cH (cH .n))
abbrev UqH (n : Nat) (K : Kc R) : Uky.T (O R) := fun x1 x2 => Uj8 n x1 x2 (fun y1 y2 => xC Uad 6 K .ret [vH y1, vH y2])
noncomputable def Uod : Code := Jj4 (Jll Tryz.f115) [1, 1, 1, 1]
abbrev Ukz : Sl (List SV) := (cH (cH (cO 143 .n)))
abbrev UqI (n : Nat) (K : Kc R) : Ukz.T (O R) := fun x1 x2 x3 => Uj9 n x1 x2 x3 (fun y1 y2 => xC Uad 7 K .ret [vH y1, vH y2])
noncomputable def Uoe : Code := Jj4 (Jll Tryz.f115) [1, 1, 1, 1, 1]
abbrev UkA : Sl (List SV) := (cH (cH (cH .n)))
abbrev UqJ (n : Nat) (K : Kc R) : UkA.T (O R) := fun x1 x2 x3 => Uk n x1 x2 x3 (fun y1 y2 => xC Uad 8 K .ret [vH y1, vH y2])
noncomputable def Uof : Code := Jj4 (Jll Tryz.f115) [1, 1, 1, 1, 1, 1]
abbrev UkB : Sl (List SV) := (cH (cO 143 (cH .n)))
abbrev UqK (n : Nat) (K : Kc R) : UkB.T (O R) := fun x1 x2 x3 => Uka n x1 x2 x3 (fun y1 y2 => xC Uad 9 K .ret [vH y1, vH y2])
noncomputable def Ul : Code := Jj4 (Jll Tryz.f115) [1, 1, 1, 1, 1, 1, 1]
abbrev Uio : Sl (List SV) := (cH (cO 143 (cH (cI .n))))
abbrev Uml (n : Nat) (K : Kc R) : Uio.T (O R) := fun x1 x2 x3 x4 => Uho n x1 x2 x3 x4 (fun y1 y2 => xC Uad 10 K .ret [vH y1, vH y2])
noncomputable def Ula : Code := Jj4 (Jll Tryz.f115) [1, 1, 1, 1, 1, 1, 1, 1]
abbrev Uip : Sl (List SV) := (cH (cO 143 (cH (cI (cO 143 .n)))))
abbrev Umm (n : Nat) (K : Kc R) : Uip.T (O R) := fun x1 x2 x3 x4 x5 => Uhp n x1 x2 x3 x4 x5 (fun y1 y2 => xC Uad 11 K .ret [vH y1, vH y2])
noncomputable def Ulb : Code := Jj4 (Jll Tryz.f115) [1, 1, 1, 1, 1, 1, 1, 1, 0, 1, 0, 0, 1, 1]
abbrev Uiq : Sl (List SV) := (cH (cO 143 (cH (cI (cO 143 (cI .n))))))
abbrev Umn (n : Nat) (K : Kc R) : Uiq.T (O R) := fun x1 x2 x3 x4 x5 x6 => Uc5 n x1 x2 x3 x4 x5 x6 (fun y1 y2 y3 y4 y5 y6 => xC Uad 13 K .normal [dD, dD, vH y1, .own 143 y2, vH y3, vI y4, .own 143 y5, vI y6])
noncomputable def Ulc : Code := Jj4 (Jll Tryz.f115) [1, 1, 1, 1, 1, 1, 1, 1, 0, 1, 0, 0, 1, 0, 0, 1, 1, 0, 0, 0, 1]
abbrev Uir : Sl (List SV) := (cH (cO 143 (cH (cI (cO 143 (cI (.c (sP (Jlv .u64)) (.c (sP (Jlv .u64)) .n))))))))
abbrev Umo (n : Nat) (K : Kc R) : Uir.T (O R) := fun x1 x2 x3 x4 x5 x6 x7 x8 => Uc6 n x1 x2 x3 x4 x5 x6 x7 x8 (fun y1 y2 y3 y4 y5 y6 y7 y8 => xC Uad 17 K (.exit 2) [dD, dD, vH y1, .own 143 y2, vH y3, vI y4, .own 143 y5, vI y6, .p (.v (.int .u64 y7)), .p (.v (.int .u64 y8))]) (fun y1 y2 y3 y4 y5 y6 y7 y8 => xC Uad 17 K .normal [dD, dD, vH y1, .own 143 y2, vH y3, vI y4, .own 143 y5, vI y6, .p (.v (.int .u64 y7)), .p (.v (.int .u64 y8))])
noncomputable def Uld : Code := Jj4 (Jll Tryz.f115) [1, 1, 1, 1, 1, 1, 1, 1, 0, 1, 0, 0, 1, 0, 0, 1, 1, 1, 1, 0, 1, 0, 0, 1, 1, 0, 0, 1, 1, 1, 1, 1, 1]
abbrev Uis : Sl (List SV) := (cH (cO 143 (cH (cI (cO 143 (cI (.c (sP (Jlv .u64)) (.c (sP (Jlv .u64)) (cI (cI (cI (cI (cI .n)))))))))))))
abbrev Ump (n : Nat) (K : Kc R) : Uis.T (O R) := fun x1 x2 x3 x4 x5 x6 x7 x8 x9 x10 x11 x12 x13 => UeS n x1 x2 x3 x4 x5 x6 x7 x8 x9 x10 x11 x12 x13 (fun y1 y2 y3 y4 y5 y6 y7 y8 y9 y10 y11 => xC Uad 31 K .normal [dD, dD, vH y1, .own 143 y2, vH y3, vI y4, .own 143 y5, vI y6, .p (.v (.int .u64 y7)), .p (.v (.int .u64 y8)), vI y9, vI y10, vI y11])
noncomputable def Ule : Code := Jj4 (Jll Tryz.f115) [1, 1, 1, 1, 1, 1, 1, 1, 0, 1, 0, 0, 1, 0, 0, 1, 1, 1, 1, 1, 1, 1]
abbrev Uit : Sl (List SV) := (cH (cO 143 (cH (cI (cO 143 (cI (.c (sP (Jlv .u64)) (cI .n))))))))
abbrev Umq (n : Nat) (K : Kc R) : Uit.T (O R) := fun x1 x2 x3 x4 x5 x6 x7 x8 => Uc7 n x1 x2 x3 x4 x5 x6 x7 x8 (fun y1 y2 y3 y4 y5 y6 => xC Uad 45 K .normal [dD, dD, vH y1, .own 143 y2, vH y3, vI y4, .own 143 y5, vI y6])
noncomputable def Ulf : Code := Jj4 (Jll Tryz.f115) [1, 1, 1, 1, 1, 1, 1, 1, 0, 1, 0, 0]
abbrev Uci : Sl (List SV) := (cH (cO 143 (cH (cI (cO 143 (cI .n))))))
abbrev Ug6 (n m : Nat) (K : Kc R) : Uci.T (O R) := fun x1 x2 x3 x4 x5 x6 => UaD n m x1 x2 x3 x4 x5 x6 (fun y1 y2 y3 => xL Uad 12 K (.exit 0) [dD, dD, vH y1, .own 143 y2, .own 143 y3])
abbrev Utd (n : Nat) (K : Kc R) (l0 : Uci.T (O R)) : Uci.T (O R) := fun x1 x2 x3 x4 x5 x6 => UbO n l0 x1 x2 x3 x4 x5 x6 (fun y1 y2 y3 => xL Uad 12 K (.exit 0) [dD, dD, vH y1, .own 143 y2, .own 143 y3])
noncomputable def Ulg : Code := Jj4 (Jll Tryz.f115) [1, 1, 1, 1, 1, 1, 1, 1, 0, 1, 0, 0, 1, 0, 0, 1, 1, 0, 0, 0]
abbrev Ucj : Sl (List SV) := (cH (cO 143 (cH (cI (cO 143 (cI (.c (sP (Jlv .u64)) (.c (sP (Jlv .u64)) .n))))))))
abbrev Ug7 (n m : Nat) (K : Kc R) : Ucj.T (O R) := fun x1 x2 x3 x4 x5 x6 x7 x8 => Ua6 n m x1 x2 x3 x4 x5 x6 x7 x8 (fun y1 y2 y3 y4 y5 y6 y7 => xL Uad 16 K (.exit 2) [dD, dD, vH y1, .own 143 y2, vH y3, vI y4, .own 143 y5, vI y6, .p (.v (.int .u64 y7))])
abbrev Ute (n : Nat) (K : Kc R) (l0 : Ucj.T (O R)) : Ucj.T (O R) := fun x1 x2 x3 x4 x5 x6 x7 x8 => UbP n l0 x1 x2 x3 x4 x5 x6 x7 x8 (fun y1 y2 y3 y4 y5 y6 y7 => xL Uad 16 K (.exit 2) [dD, dD, vH y1, .own 143 y2, vH y3, vI y4, .own 143 y5, vI y6, .p (.v (.int .u64 y7))])
noncomputable def Ulh : Code := Jj4 (Jll Tryz.f115) [1, 1, 1, 1, 1, 1, 1, 1, 0, 1, 0, 0, 1, 0, 0, 1, 1, 1, 1, 0, 1, 0, 0]
abbrev Uck : Sl (List SV) := (cH (cO 143 (cH (cI (cO 143 (cI (.c (sP (Jlv .u64)) (.c (sP (Jlv .u64)) (cI (cI (cI .n)))))))))))
abbrev Ug8 (n m : Nat) (K : Kc R) : Uck.T (O R) := fun x1 x2 x3 x4 x5 x6 x7 x8 x9 x10 x11 => UaN n m x1 x2 x3 x4 x5 x6 x7 x8 x9 x10 x11 (fun y1 y2 y3 y4 y5 y6 y7 y8 y9 => xL Uad 22 K (.exit 4) [dD, dD, vH y1, .own 143 y2, vH y3, vI y4, .own 143 y5, vI y6, .p (.v (.int .u64 y7)), .p (.v (.int .u64 y8)), vI y9])
abbrev Utf (n : Nat) (K : Kc R) (l0 : Uck.T (O R)) : Uck.T (O R) := fun x1 x2 x3 x4 x5 x6 x7 x8 x9 x10 x11 => Uc8 n l0 x1 x2 x3 x4 x5 x6 x7 x8 x9 x10 x11 (fun y1 y2 y3 y4 y5 y6 y7 y8 y9 => xL Uad 22 K (.exit 4) [dD, dD, vH y1, .own 143 y2, vH y3, vI y4, .own 143 y5, vI y6, .p (.v (.int .u64 y7)), .p (.v (.int .u64 y8)), vI y9])
noncomputable def Uli : Code := Jj4 (Jll Tryz.f115) [1, 1, 1, 1, 1, 1, 1, 1, 0, 1, 0, 0, 1, 0, 0, 1, 1, 1, 1, 1, 1, 0, 1, 0, 1, 1, 0, 1, 0, 0]
abbrev Ucl : Sl (List SV) := (cH (cO 143 (cH (cI (cO 143 (cI (.c (sP (Jlv .u64)) (cI (.c (sP (Jlv .u32)) (cI (cI .n)))))))))))
abbrev Ug9 (n m : Nat) (K : Kc R) : Ucl.T (O R) := fun x1 x2 x3 x4 x5 x6 x7 x8 x9 x10 x11 => Ua7 n m x1 x2 x3 x4 x5 x6 x7 x8 x9 x10 x11 (fun y1 y2 y3 y4 y5 y6 y7 y8 y9 => xL Uad 38 K (.exit 6) [dD, dD, vH y1, .own 143 y2, vH y3, vI y4, .own 143 y5, vI y6, .p (.v (.int .u64 y7)), vI y8, .p (.v (.int .u32 y9))])
abbrev Utg (n : Nat) (K : Kc R) (l0 : Ucl.T (O R)) : Ucl.T (O R) := fun x1 x2 x3 x4 x5 x6 x7 x8 x9 x10 x11 => Uc9 n l0 x1 x2 x3 x4 x5 x6 x7 x8 x9 x10 x11 (fun y1 y2 y3 y4 y5 y6 y7 y8 y9 => xL Uad 38 K (.exit 6) [dD, dD, vH y1, .own 143 y2, vH y3, vI y4, .own 143 y5, vI y6, .p (.v (.int .u64 y7)), vI y8, .p (.v (.int .u32 y9))])
abbrev Ucq (n : Nat) : Orc R := oL Uad (Ujn n) n 38 Uli Ucl (Ug9 n n) (oL Uad (Ujn n) n 22 Ulh Uck (Ug8 n n) (oL Uad (Ujn n) n 16 Ulg Ucj (Ug7 n n) (oL Uad (Ujn n) n 12 Ulf Uci (Ug6 n n) oN)))
abbrev Ucp (n : Nat) : Orc R := oC Uad (Ujn n) 45 Ule Uit (Umq n) (oC Uad (Ujn n) 31 Uld Uis (Ump n) (oC Uad (Ujn n) 17 Ulc Uir (Umo n) (oC Uad (Ujn n) 13 Ulb Uiq (Umn n) (oC Uad (Ujn n) 11 Ula Uip (Umm n) (oC Uad (Ujn n) 10 Ul Uio (Uml n) (oC Uad (Ujn n) 9 Uof UkB (UqK n) (oC Uad (Ujn n) 8 Uoe UkA (UqJ n) (oC Uad (Ujn n) 7 Uod Ukz (UqI n) (oC Uad (Ujn n) 6 Uoc Uky (UqH n) (oC Uad (Ujn n) 3 Uob Ukx (UqG n) oN))))))))))
abbrev Ujk (R : Type) (n : Nat) := JcH (R := R) Tryz.prog (Upb n) Uad n (262, []) (Ucq n) (Ucp n)
theorem Ut7 (n : Nat) : Ujk R n (true, 17, Ulc) := JkW (lo := Ucq n) (cu := Ucp n) (pO pN (by kernel_rfl)) Uir (Umo n) (fun K _ _ _ _ _ _ _ _ => by show _ = _; kernel_rfl) fun _ _ => rfl
theorem Uua (n : Nat) : Ujk R n (false, 16, Ulg) := JkF (lo := Ucq n) (cu := Ucp n) (pO (pC (Ut7 n) pN) (by kernel_rfl)) Ucj (Ug7 n n) (JiE (F := Ug7 n) Ucj (Ute n) (fun K _ _ _ _ _ _ _ _ => rfl) (fun _ _ => rfl) (fun L K _ _ _ _ _ _ _ _ => by show _ = _; kernel_rfl) n) fun _ _ => rfl
theorem Ut8 (n : Nat) : Ujk R n (true, 31, Uld) := JkW (lo := Ucq n) (cu := Ucp n) (pO pN (by kernel_rfl)) Uis (Ump n) (fun K _ _ _ _ _ _ _ _ _ _ _ _ _ => by show _ = _; kernel_rfl) fun _ _ => rfl
theorem Uub (n : Nat) : Ujk R n (false, 22, Ulh) := JkF (lo := Ucq n) (cu := Ucp n) (pO (pC (Ut8 n) pN) (by kernel_rfl)) Uck (Ug8 n n) (JiE (F := Ug8 n) Uck (Utf n) (fun K _ _ _ _ _ _ _ _ _ _ _ => rfl) (fun _ _ => rfl) (fun L K _ _ _ _ _ _ _ _ _ _ _ => by show _ = _; kernel_rfl) n) fun _ _ => rfl
theorem Uuc (n : Nat) : Ujk R n (false, 38, Uli) := JkF (lo := Ucq n) (cu := Ucp n) (pO pN (by kernel_rfl)) Ucl (Ug9 n n) (JiE (F := Ug9 n) Ucl (Utg n) (fun K _ _ _ _ _ _ _ _ _ _ _ => rfl) (fun _ _ => rfl) (fun L K _ _ _ _ _ _ _ _ _ _ _ => by show _ = _; kernel_rfl) n) fun _ _ => rfl
theorem Ut9 (n : Nat) : Ujk R n (true, 45, Ule) := JkW (lo := Ucq n) (cu := Ucp n) (pO pN (by kernel_rfl)) Uit (Umq n) (fun K _ _ _ _ _ _ _ _ => by show _ = _; kernel_rfl) fun _ _ => rfl
theorem Ut6 (n : Nat) : Ujk R n (true, 13, Ulb) := JkW (lo := Ucq n) (cu := Ucp n) (pO pN (by kernel_rfl)) Uiq (Umn n) (fun K _ _ _ _ _ _ => by show _ = _; kernel_rfl) fun _ _ => rfl
theorem Uu (n : Nat) : Ujk R n (false, 12, Ulf) := JkF (lo := Ucq n) (cu := Ucp n) (pO (pC (Uua n) (pC (Uub n) (pC (Uuc n) (pC (Ut9 n) (pC (Ut6 n) pN))))) (by kernel_rfl)) Uci (Ug6 n n) (JiE (F := Ug6 n) Uci (Utd n) (fun K _ _ _ _ _ _ => rfl) (fun _ _ => rfl) (fun L K _ _ _ _ _ _ => by show _ = _; kernel_rfl) n) fun _ _ => rfl
theorem Ut5 (n : Nat) : Ujk R n (true, 11, Ula) := JkW (lo := Ucq n) (cu := Ucp n) (pO (pC (Uu n) pN) (by kernel_rfl)) Uip (Umm n) (fun K _ _ _ _ _ => by show _ = _; kernel_rfl) fun _ _ => rfl
theorem Ut4 (n : Nat) : Ujk R n (true, 10, Ul) := JkW (lo := Ucq n) (cu := Ucp n) (pO (pC (Ut5 n) pN) (by kernel_rfl)) Uio (Uml n) (fun K _ _ _ _ => by show _ = _; kernel_rfl) fun _ _ => rfl
theorem UzC (n : Nat) : Ujk R n (true, 9, Uof) := JkW (lo := Ucq n) (cu := Ucp n) (pO (pC (Ut4 n) pN) (by kernel_rfl)) UkB (UqK n) (fun K _ _ _ => by show _ = _; kernel_rfl) fun _ _ => rfl
theorem UzB (n : Nat) : Ujk R n (true, 8, Uoe) := JkW (lo := Ucq n) (cu := Ucp n) (pO (pC (UzC n) pN) (by kernel_rfl)) UkA (UqJ n) (fun K _ _ _ => by show _ = _; kernel_rfl) fun _ _ => rfl
theorem UzA (n : Nat) : Ujk R n (true, 7, Uod) := JkW (lo := Ucq n) (cu := Ucp n) (pO (pC (UzB n) pN) (by kernel_rfl)) Ukz (UqI n) (fun K _ _ _ => by show _ = _; kernel_rfl) fun _ _ => rfl
theorem Uzz (n : Nat) : Ujk R n (true, 6, Uoc) := JkW (lo := Ucq n) (cu := Ucp n) (pO (pC (UzA n) pN) (by kernel_rfl)) Uky (UqH n) (fun K _ _ => by show _ = _; kernel_rfl) fun _ _ => rfl
theorem Uzy (n : Nat) : Ujk R n (true, 3, Uob) := JkW (lo := Ucq n) (cu := Ucp n) (pO (pC (Uzz n) pN) (by kernel_rfl)) Ukx (UqG n) (fun K _ _ => by show _ = _; kernel_rfl) fun _ _ => rfl
theorem UHI (n : Nat) : Je6 (Ujk R n) (JaJ Uad (Jll Tryz.f115)) := pO (pC (Uzy n) pN) (by kernel_rfl)
abbrev UIm : Sl (List SV) := (cH (cH .n))
abbrev f115 (n : Nat) (K : List SV → O R) : UIm.T (O R) := fun x1 x2 => UAG n x1 x2 (fun y1 y2 => K [vH y1, vH y2])
abbrev UyQ (n : Nat) : FS := fT [false, false] UIm (f115 n)
theorem UDa (n : Nat) : FSound Tryz.prog GI 115 (UyQ n) := gd Uad n (UlP n) Tryz.func115 (.cons (UlP n) UIm (f115 n) (fun K _ _ => (Jkq (c := Jll Tryz.f115) (by kernel_rfl) (UHI n) K).trans (by kernel_rfl)) .nil) (by kernel_rfl)
def Ufc : Ann := { loops := [(1, ids [0, 1], ids [0, 4])], cuts := [], frz := [], rm := [.id] }
abbrev Uo3 (n : Nat) : Env := eC 115 (UyQ n) eN
theorem UlB (n : Nat) : EnvOK Tryz.prog GI (Uo3 n) := .cons (.nil) (UDa n)
def Uhj (n : Nat) (l0 : LP → LP → O R) (x1 x2 : LP) (k0 : LP → O R) : O R :=
  bif (decide (((x2).length : Int) > 0)) then (UAG n x1 x2 (fun y3 y4 => l0 x2 y4)) else (k0 x1)
def Uc0 (n : Nat) : Nat → LP → LP → (LP → O R) → O R
  | 0, _, _, _ => none
  | m + 1, x1, x2, k0 => Uhj n (fun x1 x2 => Uc0 n m x1 x2 k0) x1 x2 k0
def UrV (n : Nat) (x1 x2 : LP) (k0 : LP → O R) : O R := Uc0 n n x1 x2 k0
def UDj (n : Nat) (x1 x2 : LP) (k0 : LP → O R) : O R :=
  UrV n x1 x2 (fun y3 => k0 y3)
abbrev UKU (n : Nat) : Code → Fr → Kc R → O R := evC Tryz.prog (Uo3 n) Ufc n (19, [])
noncomputable def UnZ : Code := Jj4 (Jll Tryz.f100) [1, 0, 0, 0]
abbrev Ud1 : Sl (List SV) := (cH (cH .n))
abbrev UjE (n m : Nat) (K : Kc R) : Ud1.T (O R) := fun x1 x2 => Uc0 n m x1 x2 (fun y1 => xL Ufc 1 K (.exit 0) [vH y1, dD])
abbrev Uxq (n : Nat) (K : Kc R) (l0 : Ud1.T (O R)) : Ud1.T (O R) := fun x1 x2 => Uhj n l0 x1 x2 (fun y1 => xL Ufc 1 K (.exit 0) [vH y1, dD])
abbrev UCY (n : Nat) : Orc R := oL Ufc (UKU n) n 1 UnZ Ud1 (UjE n n) oN
abbrev UBq (n : Nat) : Orc R := oN
abbrev UIR (R : Type) (n : Nat) := JcH (R := R) Tryz.prog (Uo3 n) Ufc n (19, []) (UCY n) (UBq n)
theorem Uzl (n : Nat) : UIR R n (false, 1, UnZ) := JkF (lo := UCY n) (cu := UBq n) (pO pN (by kernel_rfl)) Ud1 (UjE n n) (JiE (F := UjE n) Ud1 (Uxq n) (fun K _ _ => rfl) (fun _ _ => rfl) (fun L K _ _ => by show _ = _; kernel_rfl) n) fun _ _ => rfl
theorem UHu (n : Nat) : Je6 (UIR R n) (JaJ Ufc (Jll Tryz.f100)) := pO (pC (Uzl n) pN) (by kernel_rfl)
abbrev UIa : Sl (List SV) := (cH (cH .n))
abbrev f100 (n : Nat) (K : List SV → O R) : UIa.T (O R) := fun x1 x2 => UDj n x1 x2 (fun y1 => K [vH y1])
abbrev UyO (n : Nat) : FS := fT [false, false] UIa (f100 n)
theorem UC9 (n : Nat) : FSound Tryz.prog GI 100 (UyO n) := gd Ufc n (UlB n) Tryz.func100 (.cons (UlB n) UIa (f100 n) (fun K _ _ => (Jkq (c := Jll Tryz.f100) (by kernel_rfl) (UHu n) K).trans (by kernel_rfl)) .nil) (by kernel_rfl)
def Unf : Ann := { loops := [], cuts := [(10, ids [2, 5, 10], ids [2, 3])], frz := [], rm := [.id, .id] }
abbrev Uyv (n : Nat) : Env := eC 100 (UyO n) (eC 99 (UGi n) (eC 98 (UKb n) (eC 97 (UKa n) (eC 96 (UK n) eN))))
theorem Up0 (n : Nat) : EnvOK Tryz.prog GI (Uyv n) := .cons (.cons (.cons (.cons (.cons (.nil) (UNh n)) (UNi n)) (UNj n)) (UKO n)) (UC9 n)
def UhQ (n : Nat) (x1 : Bool) (x2 : ByteArray) (x3 : Bool) (x4 x5 : LP) (k0 : Bool → LP → LP → Bool → O R) : O R :=
  p98 n x2 (fun y6 => UDj n x4 y6 (fun y7 => bif (((y7).length : Int) == 1) then (bif (inR 0 ((y7).length)) then (Jj .u32 ((y7).getD ((0 : Int).toNat) (.v (.bool false))) fun e8 => k0 x3 x4 y6 (bif true then (e8 == 1) else false)) else none) else (k0 x3 x4 y6 false)))
def p56 (n : Nat) (x1 : ByteArray) (k0 : Bool → LP → LP → Bool → O R) : O R :=
  p96 n x1 (fun y2 y3 y4 => p97 n y2 (fun y5 y6 y7 => bif (!y7) then (k0 false [] [] false) else (p98 n y6 (fun y8 => bif (!y4) then (k0 y5 y8 ([.v (.int .u32 1)] : LP) true) else (p99 n y3 (fun y9 => bif (!y9) then (k0 false [] [] false) else (bif (bif false then true else eqS y3 (⟨#[48]⟩ : ByteArray)) then (k0 false [] [] false) else (bif (bif false then true else eqS y3 (⟨#[49]⟩ : ByteArray)) then (k0 false [] [] false) else (UhQ n false y3 y5 y8 ([.v (.int .u32 1)] : LP) (fun y10 y11 y12 y13 => k0 y10 y11 y12 y13))))))))))
abbrev E56 (n : Nat) : Code → Fr → Kc R → O R := evC Tryz.prog (Uyv n) Unf n (65, [])
noncomputable def UoI : Code := Jj4 (Jll Tryz.f56) [1, 1, 1, 1, 1, 1, 1]
abbrev UkR : Sl (List SV) := (.c (sBx 99 (cB (.c sNl (.c sNl .n)))) (cS (.c (sBx 99 (cB (cH (cH .n)))) .n)))
abbrev Ure (n : Nat) (K : Kc R) : UkR.T (O R) := fun x1 x2 x3 x4 x5 => UhQ n x1 x2 x3 x4 x5 (fun y1 y2 y3 y4 => xC Unf 10 K .ret [.bx 99 [vB y1, vH y2, vH y3], vB y4])
abbrev UKl (n : Nat) : Orc R := oN
abbrev UJa (n : Nat) : Orc R := oC Unf (E56 n) 10 UoI UkR (Ure n) oN
abbrev K56 (R : Type) (n : Nat) := JcH (R := R) Tryz.prog (Uyv n) Unf n (65, []) (UKl n) (UJa n)
theorem Uz7 (n : Nat) : K56 R n (true, 10, UoI) := JkW (lo := UKl n) (cu := UJa n) (pO pN (by kernel_rfl)) UkR (Ure n) (fun K _ _ _ _ _ => by show _ = _; kernel_rfl) fun _ _ => rfl
theorem UNU (n : Nat) : Je6 (K56 R n) (JaJ Unf (Jll Tryz.f56)) := pO (pC (Uz7 n) pN) (by kernel_rfl)
abbrev t56 : Sl (List SV) := (cS .n)
abbrev f56 (n : Nat) (K : List SV → O R) : t56.T (O R) := fun x1 => p56 n x1 (fun y1 y2 y3 y4 => K [.p (.agg [.v (.bool y1), .sh y2, .sh y3]), vB y4])
abbrev UCT (n : Nat) : FS := fT [false] t56 (f56 n)
theorem UFd (n : Nat) : FSound Tryz.prog GI 56 (UCT n) := gd Unf n (Up0 n) Tryz.func56 (.cons (Up0 n) t56 (f56 n) (fun K _ => (Jkq (c := Jll Tryz.f56) (by kernel_rfl) (UNU n) K).trans (by kernel_rfl)) .nil) (by kernel_rfl)
def UbI : Ann := { loops := [(9, ids [4, 5, 6, 37, 38], ids [2, 3, 4, 6])], cuts := [(2, ids [0, 4], ids [2, 3]), (5, ids [0, 4, 5], ids [2, 3]), (7, ids [4, 5], ids [2, 3]), (17, ids [6], ids [2, 3])], frz := [], rm := [.id, .id] }
abbrev UyI (n : Nat) : Env := eN
theorem Uqw (n : Nat) : EnvOK Tryz.prog GI (UyI n) := .nil
def UdW (n : Nat) (l0 : Bool → ByteArray → Int → Int → Int → O R) (x1 : Bool) (x2 : ByteArray) (x3 x4 x5 : Int) (k0 : Int → Bool → Bool → Int → O R) (k1 : Bool → Int → O R) : O R :=
  bif (decide (x5 < x4)) then (bif (inR x5 (x2).size) then (bif (decide (Jc6 x2 x5 < 48)) then (k0 0 false x1 x3) else (bif (inR x5 (x2).size) then (bif (bif false then true else (decide (Jc6 x2 x5 > 57))) then (k0 0 false x1 x3) else (bif (inR x5 (x2).size) then (let v6 := IntKind.u8.wrap ((Jc6 x2 x5) - 48); let v7 := IntKind.i64.wrap ((IntKind.i64.wrap (10 * x3)) + (IntKind.i64.wrap (v6))); l0 x1 x2 v7 x4 (IntKind.i64.wrap (x5 + 1))) else none)) else none)) else none) else (k1 x1 x3)
def Ubw (n : Nat) : Nat → Bool → ByteArray → Int → Int → Int → (Int → Bool → Bool → Int → O R) → (Bool → Int → O R) → O R
  | 0, _, _, _, _, _, _, _ => none
  | m + 1, x1, x2, x3, x4, x5, k0, k1 => UdW n (fun x1 x2 x3 x4 x5 => Ubw n m x1 x2 x3 x4 x5 k0 k1) x1 x2 x3 x4 x5 k0 k1
def UmX (n : Nat) (x1 : Bool) (x2 : ByteArray) (x3 x4 x5 : Int) (k0 : Int → Bool → Bool → Int → O R) (k1 : Bool → Int → O R) : O R := Ubw n n x1 x2 x3 x4 x5 k0 k1
def UdV (n : Nat) (x1 : Int) (k0 : Int → Bool → O R) : O R :=
  k0 x1 true
def Uf7 (n : Nat) (x1 : Bool) (x2 : ByteArray) (k0 : Int → Bool → O R) : O R :=
  UmX n x1 x2 0 ((x2).size : Int) 0 (fun y3 y4 y5 y6 => k0 y3 y4) (fun y7 y8 => bif y7 then (UdV n (IntKind.i64.wrap (0 - y8)) (fun y9 y10 => k0 y9 y10)) else (UdV n y8 (fun y11 y12 => k0 y11 y12)))
def Udc (n : Nat) (x1 : ByteArray) (x2 : Bool) (x3 : ByteArray) (k0 : Int → Bool → O R) : O R :=
  bif (eqS x3 (⟨#[]⟩ : ByteArray)) then (k0 0 false) else (bif (bif false then true else (decide (((x3).size : Int) > 9))) then (k0 0 false) else (bif (inR 0 (x3).size) then (bif (Jc6 x3 0 == 48) then (bif (bif false then true else (bif true then (decide (((x1).size : Int) > 1)) else false)) then (k0 0 false) else (Uf7 n x2 x3 (fun y4 y5 => k0 y4 y5))) else (Uf7 n x2 x3 (fun y6 y7 => k0 y6 y7))) else none))
def Ui2 (n : Nat) (x1 : ByteArray) (x2 : Bool) (k0 : Int → Bool → O R) : O R :=
  bif x2 then (bif (Je5 1 ((x1).size : Int) (x1).size) then (Udc n x1 x2 (ByteArray.extract x1 (1 : Int).toNat (((x1).size : Int) : Int).toNat) (fun y3 y4 => k0 y3 y4)) else none) else (Udc n x1 x2 x1 (fun y5 y6 => k0 y5 y6))
def p95 (n : Nat) (x1 : ByteArray) (k0 : Int → Bool → O R) : O R :=
  bif (!eqS x1 (⟨#[]⟩ : ByteArray)) then (bif (inR 0 (x1).size) then (Ui2 n x1 (bif true then (Jc6 x1 0 == 45) else false) (fun y2 y3 => k0 y2 y3)) else none) else (Ui2 n x1 false (fun y4 y5 => k0 y4 y5))
abbrev E95 (n : Nat) : Code → Fr → Kc R → O R := evC Tryz.prog (UyI n) UbI n (64, [])
noncomputable def Uvc : Code := Jj4 (Jll Tryz.f95) [1, 1]
abbrev UsY : Sl (List SV) := (cS (cB .n))
abbrev UvM (n : Nat) (K : Kc R) : UsY.T (O R) := fun x1 x2 => Ui2 n x1 x2 (fun y1 y2 => xC UbI 2 K .ret [vI y1, vB y2])
noncomputable def Uvd : Code := Jj4 (Jll Tryz.f95) [1, 1, 1, 1]
abbrev UsZ : Sl (List SV) := (cS (cB (cS .n)))
abbrev UvN (n : Nat) (K : Kc R) : UsZ.T (O R) := fun x1 x2 x3 => Udc n x1 x2 x3 (fun y1 y2 => xC UbI 5 K .ret [vI y1, vB y2])
noncomputable def Uve : Code := Jj4 (Jll Tryz.f95) [1, 1, 1, 1, 1]
abbrev Us0 : Sl (List SV) := (cB (cS .n))
abbrev UvO (n : Nat) (K : Kc R) : Us0.T (O R) := fun x1 x2 => Uf7 n x1 x2 (fun y1 y2 => xC UbI 7 K .ret [vI y1, vB y2])
noncomputable def UoO : Code := Jj4 (Jll Tryz.f95) [1, 1, 1, 1, 1, 1, 1, 1]
abbrev UkX : Sl (List SV) := (cI .n)
abbrev Urx (n : Nat) (K : Kc R) : UkX.T (O R) := fun x1 => UdV n x1 (fun y1 y2 => xC UbI 17 K .ret [vI y1, vB y2])
noncomputable def Uvf : Code := Jj4 (Jll Tryz.f95) [1, 1, 1, 1, 1, 1, 0, 1, 0, 0]
abbrev UgI : Sl (List SV) := (cB (cS (cI (cI (cI .n)))))
abbrev Ury (n m : Nat) (K : Kc R) : UgI.T (O R) := fun x1 x2 x3 x4 x5 => Ubw n m x1 x2 x3 x4 x5 (fun y1 y2 y3 y4 => xL UbI 9 K .ret [vI y1, vB y2, vB y3, vI y4]) (fun y1 y2 => xL UbI 9 K (.exit 0) [dD, dD, vB y1, vI y2])
abbrev UBj (n : Nat) (K : Kc R) (l0 : UgI.T (O R)) : UgI.T (O R) := fun x1 x2 x3 x4 x5 => UdW n l0 x1 x2 x3 x4 x5 (fun y1 y2 y3 y4 => xL UbI 9 K .ret [vI y1, vB y2, vB y3, vI y4]) (fun y1 y2 => xL UbI 9 K (.exit 0) [dD, dD, vB y1, vI y2])
abbrev UAB (n : Nat) : Orc R := oL UbI (E95 n) n 9 Uvf UgI (Ury n n) oN
abbrev UAx (n : Nat) : Orc R := oC UbI (E95 n) 17 UoO UkX (Urx n) (oC UbI (E95 n) 7 Uve Us0 (UvO n) (oC UbI (E95 n) 5 Uvd UsZ (UvN n) (oC UbI (E95 n) 2 Uvc UsY (UvM n) oN)))
abbrev K95 (R : Type) (n : Nat) := JcH (R := R) Tryz.prog (UyI n) UbI n (64, []) (UAB n) (UAx n)
theorem UEp (n : Nat) : K95 R n (false, 9, Uvf) := JkF (lo := UAB n) (cu := UAx n) (pO pN (by kernel_rfl)) UgI (Ury n n) (JiE (F := Ury n) UgI (UBj n) (fun K _ _ _ _ _ => rfl) (fun _ _ => rfl) (fun L K _ _ _ _ _ => by show _ = _; kernel_rfl) n) fun _ _ => rfl
theorem UAb (n : Nat) : K95 R n (true, 17, UoO) := JkW (lo := UAB n) (cu := UAx n) (pO pN (by kernel_rfl)) UkX (Urx n) (fun K _ => by show _ = _; kernel_rfl) fun _ _ => rfl
theorem UEo (n : Nat) : K95 R n (true, 7, Uve) := JkW (lo := UAB n) (cu := UAx n) (pO (pC (UEp n) (pC (UAb n) pN)) (by kernel_rfl)) Us0 (UvO n) (fun K _ _ => by show _ = _; kernel_rfl) fun _ _ => rfl
theorem UEn (n : Nat) : K95 R n (true, 5, Uvd) := JkW (lo := UAB n) (cu := UAx n) (pO (pC (UEo n) pN) (by kernel_rfl)) UsZ (UvN n) (fun K _ _ _ => by show _ = _; kernel_rfl) fun _ _ => rfl
theorem UEm (n : Nat) : K95 R n (true, 2, Uvc) := JkW (lo := UAB n) (cu := UAx n) (pO (pC (UEn n) pN) (by kernel_rfl)) UsY (UvM n) (fun K _ _ => by show _ = _; kernel_rfl) fun _ _ => rfl
theorem UOp (n : Nat) : Je6 (K95 R n) (JaJ UbI (Jll Tryz.f95)) := pO (pC (UEm n) pN) (by kernel_rfl)
abbrev t95 : Sl (List SV) := (cS .n)
abbrev f95 (n : Nat) (K : List SV → O R) : t95.T (O R) := fun x1 => p95 n x1 (fun y1 y2 => K [vI y1, vB y2])
abbrev UGh (n : Nat) : FS := fT [false] t95 (f95 n)
theorem UKN (n : Nat) : FSound Tryz.prog GI 95 (UGh n) := gd UbI n (Uqw n) Tryz.func95 (.cons (Uqw n) t95 (f95 n) (fun K _ => (Jkq (c := Jll Tryz.f95) (by kernel_rfl) (UOp n) K).trans (by kernel_rfl)) .nil) (by kernel_rfl)
def Uw0 : Ann := { loops := [], cuts := [], frz := [], rm := [.id] }
abbrev UBQ (n : Nat) : Env := eC 95 (UGh n) (eC 56 (UCT n) eN)
theorem UpX (n : Nat) : EnvOK Tryz.prog GI (UBQ n) := .cons (.cons (.nil) (UFd n)) (UKN n)
def p53 (n : Nat) (x1 : ByteArray) (k0 : Bool → O R) : O R :=
  p95 n x1 (fun y2 y3 => bif y3 then (k0 true) else (p56 n x1 (fun y4 y5 y6 y7 => k0 y7)))
abbrev UMe (n : Nat) : Orc R := oN
abbrev ULy (n : Nat) : Orc R := oN
abbrev K53 (R : Type) (n : Nat) := JcH (R := R) Tryz.prog (UBQ n) Uw0 n (19, []) (UMe n) (ULy n)
theorem UNR (n : Nat) : Je6 (K53 R n) (JaJ Uw0 (Jll Tryz.f53)) := pO pN (by kernel_rfl)
abbrev t53 : Sl (List SV) := (cS .n)
abbrev f53 (n : Nat) (K : List SV → O R) : t53.T (O R) := fun x1 => p53 n x1 (fun y1 => K [vB y1])
abbrev UyY (n : Nat) : FS := fT [false] t53 (f53 n)
theorem UAD (n : Nat) : FSound Tryz.prog GI 53 (UyY n) := gd Uw0 n (UpX n) Tryz.func53 (.cons (UpX n) t53 (f53 n) (fun K _ => (Jkq (c := Jll Tryz.f53) (by kernel_rfl) (UNR n) K).trans (by kernel_rfl)) .nil) (by kernel_rfl)
end
end Go.Proofs.YtmgfmlhdnadglaaGreatDoor
set_option linter.unusedVariables false
set_option linter.unusedSimpArgs false
namespace Go.Proofs.YtmgfmlhdnadglaaGreatDoor
open Go Th Go.Proofs
def val (b : Nat) : List Nat → Nat
  | [] => 0
  | d :: r => d + b * val b r
def toL (b : Nat) (n : Nat) : List Nat :=
  if h : n = 0 ∨ b < 2 then [] else n % b :: toL b (n / b)
termination_by n
decreasing_by
  have : 2 ≤ b := by omega
  exact Nat.div_lt_self (by omega) this
theorem Uai (b : Nat) : toL b 0 = [] := by unfold toL; simp
theorem UbC {b n : Nat} (hb : 2 ≤ b) (h : n ≠ 0) : toL b n = n % b :: toL b (n / b) := by
  conv => lhs; unfold toL
  rw [dif_neg (by omega)]
theorem Uap {b : Nat} (hb : 2 ≤ b) (n : Nat) : val b (toL b n) = n := by
  induction n using Nat.strongRecOn with
  | _ n ih =>
    by_cases h : n = 0
    · subst h; rw [Uai]; rfl
    · rw [UbC hb h, val, ih (n / b) (Nat.div_lt_self (by omega) hb)]
      exact Nat.mod_add_div n b
theorem UaO {b : Nat} (hb : 2 ≤ b) (n : Nat) : ∀ d ∈ toL b n, d < b := by
  induction n using Nat.strongRecOn with
  | _ n ih =>
    by_cases h : n = 0
    · subst h; rw [Uai]; intro d hd; cases hd
    · rw [UbC hb h]
      intro d hd
      rcases List.mem_cons.1 hd with rfl | hd
      · exact Nat.mod_lt _ (by omega)
      · exact ih (n / b) (Nat.div_lt_self (by omega) hb) d hd
theorem Ubj {b n : Nat} (hb : 2 ≤ b) : toL b n = [] ↔ n = 0 := by
  constructor
  · intro h
    have := Uap hb n
    rw [h] at this
    exact this.symm
  · rintro rfl; exact Uai b
theorem Ucn (b : Nat) : ∀ (x y : List Nat), val b (x ++ y) = val b x + b ^ x.length * val b y
  | [], y => by simp [val]
  | d :: x, y => by
    simp only [List.cons_append, val, List.length_cons, Ucn b x y, Nat.pow_succ]
    rw [Nat.mul_add, ← Nat.mul_assoc, Nat.mul_comm (b ^ x.length) b]; omega
theorem Uba (b : Nat) (x : List Nat) (d : Nat) : val b (x ++ [d]) = val b x + b ^ x.length * d := by
  rw [Ucn]; simp [val]
theorem Ujh (b k : Nat) : val b (List.replicate k 0) = 0 := by
  induction k with
  | zero => rfl
  | succ k ih => simp [List.replicate_succ, val, ih]
theorem Uev {b : Nat} (hb : 2 ≤ b) : ∀ (l : List Nat), (∀ d ∈ l, d < b) → val b l < b ^ l.length
  | [], _ => by simp [val]
  | d :: r, h => by
    have h1 := Uev hb r fun x hx => h x (List.mem_cons_of_mem _ hx)
    have h2 := h d (List.mem_cons_self ..)
    simp only [val, List.length_cons, Nat.pow_succ]
    have : b * val b r + b ≤ b ^ r.length * b := by
      rw [Nat.mul_comm (b ^ r.length) b, ← Nat.mul_succ]
      exact Nat.mul_le_mul_left b h1
    omega
theorem UkY {b : Nat} (hb : 2 ≤ b) : ∀ (l : List Nat), (∀ d ∈ l, d < b) → l.getLast? ≠ some 0 → toL b (val b l) = l
  | [], _, _ => Uai b
  | d :: r, h, hl => by
    have hd := h d (List.mem_cons_self ..)
    have hr : r.getLast? ≠ some 0 := by
      intro e
      cases r with
      | nil => cases e
      | cons x r => rw [List.getLast?_cons_cons] at hl; exact hl e
    have ih := UkY hb r (fun x hx => h x (List.mem_cons_of_mem _ hx)) hr
    have hne : val b (d :: r) ≠ 0 := by
      intro e
      simp only [val, Nat.add_eq_zero_iff, Nat.mul_eq_zero] at e
      have hv : val b r = 0 := by omega
      rw [hv, Uai] at ih
      rw [← ih] at hl
      exact hl (by rw [e.1]; rfl)
    rw [UbC hb hne]
    simp only [val]
    rw [Nat.add_mul_mod_self_left, Nat.mod_eq_of_lt hd, Nat.add_mul_div_left _ _ (by omega), Nat.div_eq_of_lt hd, Nat.zero_add, ih]
theorem Udj (b : Nat) (l : List Nat) : val b (l ++ [0]) = val b l := by rw [Uba]; simp
theorem Uah {b : Nat} (hb : 2 ≤ b) (n k : Nat) : (toL b n).length ≤ k ↔ n < b ^ k := by
  induction k generalizing n with
  | zero =>
    rw [Nat.pow_zero]
    constructor
    · intro h
      have : toL b n = [] := List.eq_nil_of_length_eq_zero (by omega)
      rw [Ubj hb] at this; omega
    · intro h
      have : n = 0 := by omega
      subst this
      rw [Uai]; exact Nat.le_refl _
  | succ k ih =>
    by_cases h : n = 0
    · subst h; rw [Uai]; simp; exact Nat.pow_pos (by omega)
    · rw [UbC hb h, List.length_cons, Nat.succ_le_succ_iff, ih, Nat.pow_succ, Nat.mul_comm, Nat.div_lt_iff_lt_mul (by omega), Nat.mul_comm]
theorem Ubk {b : Nat} (hb : 2 ≤ b) {x y : Nat} (h : (toL b x).length < (toL b y).length) : x < y := by
  have h1 := (Uah hb x (toL b x).length).1 (Nat.le_refl _)
  have h2 : ¬ y < b ^ (toL b x).length := fun q => by have := (Uah hb y _).2 q; omega
  omega
theorem Um9 {b : Nat} (hb : 2 ≤ b) (n : Nat) : (toL b n).getLast? ≠ some 0 := by
  induction n using Nat.strongRecOn with
  | _ n ih =>
    by_cases h : n = 0
    · subst h; rw [Uai]; simp
    · rw [UbC hb h]
      by_cases h2 : n / b = 0
      · rw [h2, Uai]
        have : n < b := by
          rcases (Nat.div_eq_zero_iff).1 h2 with q | q <;> omega
        rw [Nat.mod_eq_of_lt this]
        simpa using h
      · have := ih (n / b) (Nat.div_lt_self (by omega) hb)
        rw [UbC hb h2] at this ⊢
        rw [List.getLast?_cons_cons]
        exact this
theorem Ubc {l : List Nat} {i : Nat} (h : i < l.length) : l.take (i + 1) = l.take i ++ [l.getD i 0] := by
  rw [List.take_succ_eq_append_getElem h, List.getD_eq_getElem?_getD, List.getElem?_eq_getElem h]; rfl
theorem UaZ (b : Nat) {l : List Nat} {i : Nat} (h : i < l.length) : val b (l.take (i + 1)) = val b (l.take i) + b ^ i * l.getD i 0 := by
  rw [Ubc h, Uba, List.length_take, Nat.min_eq_left (by omega)]
theorem Ual {b : Nat} (hb : 2 ≤ b) {l : List Nat} (hl : ∀ d ∈ l, d < b) {i : Nat} (h : i ≤ l.length) : val b (l.take i) < b ^ i := by
  have := Uev hb (l.take i) fun x hx => hl x (List.mem_of_mem_take hx)
  rwa [List.length_take, Nat.min_eq_left h] at this
theorem Uac {b : Nat} (hb : 2 ≤ b) {l : List Nat} (hl : ∀ d ∈ l, d < b) (i : Nat) : l.getD i 0 < b := by
  rw [List.getD_eq_getElem?_getD]
  cases h : l[i]? with
  | none => simp; omega
  | some x => exact hl x (List.mem_of_getElem? h)
theorem Uar (b : Nat) (l : List Nat) (i : Nat) (h : i ≤ l.length) : val b l = val b (l.take i) + b ^ i * val b (l.drop i) := by
  conv => lhs; rw [← List.take_append_drop i l]
  rw [Ucn, List.length_take, Nat.min_eq_left h]
theorem Ufa {l : List Nat} {i : Nat} (d : Nat) (h : i < l.length) : (l.set i d).take (i + 1) = l.take i ++ [d] := by
  rw [Ubc (by rw [List.length_set]; exact h), List.take_set_of_le (Nat.le_refl _), List.getD_eq_getElem?_getD, List.getElem?_set_self h]; rfl
theorem Ubg {b : Nat} {l : List Nat} (hl : ∀ d ∈ l, d < b) {x : Nat} (hx : x < b) (i : Nat) : ∀ d ∈ l.set i x, d < b := by
  intro d hd
  rcases List.mem_or_eq_of_mem_set hd with h | h
  · exact hl d h
  · rw [h]; exact hx
theorem Uer (b : Nat) {l : List Nat} {i : Nat} (d : Nat) (h : i < l.length) : val b (l.set i d) + b ^ i * l.getD i 0 = val b l + b ^ i * d := by
  have h1 := Uar b (l.set i d) (i + 1) (by rw [List.length_set]; omega)
  have h2 := Uar b l (i + 1) (by omega)
  rw [Ufa d h, List.drop_set_of_lt (by omega), Uba, List.length_take, Nat.min_eq_left (by omega)] at h1
  rw [UaZ b h] at h2
  omega
theorem Ug {b : Nat} (hb : 2 ≤ b) (n : Nat) : ∀ d ∈ List.replicate n 0, d < b := by
  intro d hd
  rw [List.mem_replicate] at hd
  omega
theorem Uam (b : Nat) (l : List Nat) (i : Nat) : val b (l.take (i + 1)) = val b (l.take i) + b ^ i * l.getD i 0 := by
  by_cases h : i < l.length
  · exact UaZ b h
  · rw [List.take_of_length_le (by omega), List.take_of_length_le (by omega), List.getD_eq_getElem?_getD, List.getElem?_eq_none (by omega)]; simp
theorem Ubp {l : List Nat} {i : Nat} (h : l.length ≤ i) : l.getD i 0 = 0 := by rw [List.getD_eq_getElem?_getD, List.getElem?_eq_none h]; rfl
theorem Unk (b i v c s : Nat) (hb : 0 < b) : v + b ^ i * (s % b) + b ^ (i + 1) * (s / b) = v + b ^ i * s := by
  rw [Nat.pow_succ, Nat.mul_assoc, Nat.add_assoc, ← Nat.mul_add, Nat.mod_add_div]
theorem Ujd {l : List Nat} {i : Nat} (h : l.length = i + 1) (d : Nat) : l.set i d = l.take i ++ [d] := by
  have := Ufa d (l := l) (i := i) (by omega)
  rw [List.take_of_length_le (by rw [List.length_set]; omega)] at this
  exact this
theorem hT2 : 2 ≤ 10 := by decide
def ch (d : Nat) : UInt8 := UInt8.ofNat (48 + d)
theorem UeB {d : Nat} (h : d < 10) : (ch d).toNat = 48 + d := by
  unfold ch; rw [UInt8.toNat_ofNat']; omega
def DL (a : Nat) : List Nat := (toL 10 a).reverse
abbrev dec (a : Nat) : List UInt8 := Lib.decDigits a
theorem Ua3 {a : Nat} (h : a < 10) : dec a = [ch a] := by unfold dec; rw [Lib.decDigits, dif_pos h]; rfl
theorem Ujz {a : Nat} (h : 10 ≤ a) : dec a = dec (a / 10) ++ [ch (a % 10)] := by
  unfold dec; rw [Lib.decDigits, dif_neg (by omega)]; rfl
theorem Uao : dec 0 = [48] := Ua3 (by omega)
theorem UfP {x : Nat} (h0 : x ≠ 0) (hx : x < 10) : toL 10 x = [x] := by
  rw [UbC hT2 h0, Nat.mod_eq_of_lt hx, Nat.div_eq_of_lt hx, Uai]
theorem Ucw (a : Nat) (h : a ≠ 0) : dec a = (DL a).map ch := by
  induction a using Nat.strongRecOn with
  | _ a ih =>
    unfold DL
    by_cases h1 : a < 10
    · rw [Ua3 h1, UfP h h1]; rfl
    · rw [Ujz (by omega), ih (a / 10) (by omega) (by omega), UbC hT2 h, List.reverse_cons, List.map_append]; rfl
theorem Uew (a : Nat) : ∀ d ∈ DL a, d < 10 := fun d h => UaO hT2 a d (List.mem_reverse.1 h)
theorem Ujm : DL 0 = [] := by unfold DL; rw [Uai]; rfl
theorem UAJ {a : Nat} : DL a = [] ↔ a = 0 := by unfold DL; rw [List.reverse_eq_nil_iff, Ubj hT2]
theorem UAI (a k : Nat) : (DL a).length ≤ k ↔ a < 10 ^ k := by unfold DL; rw [List.length_reverse, Uah hT2]
def vb (l : List Nat) : Nat := val 10 l.reverse
theorem Un : vb [] = 0 := rfl
theorem UkZ (l : List Nat) (d : Nat) : vb (l ++ [d]) = 10 * vb l + d := by unfold vb; rw [List.reverse_append]; simp [val]; omega
theorem Udk (x y : List Nat) : vb (x ++ y) = vb x * 10 ^ y.length + vb y := by
  unfold vb; rw [List.reverse_append, Ucn, List.length_reverse, Nat.mul_comm]; omega
theorem UcK (d : Nat) (l : List Nat) : vb (d :: l) = d * 10 ^ l.length + vb l := by
  have := Udk [d] l
  rw [show vb [d] = d from by simp [vb, val]] at this
  exact this
theorem UfQ (a : Nat) : vb (DL a) = a := by unfold vb DL; rw [List.reverse_reverse, Uap hT2]
theorem UAr (l : List Nat) (h : ∀ d ∈ l, d < 10) : vb l < 10 ^ l.length := by
  have := Uev hT2 l.reverse fun d hd => h d (List.mem_reverse.1 hd)
  rwa [List.length_reverse] at this
theorem UAK {l : List Nat} (h : ∀ d ∈ l, d < 10) (hl : l.head? ≠ some 0) : DL (vb l) = l := by
  unfold DL vb
  rw [UkY hT2 l.reverse (fun d hd => h d (List.mem_reverse.1 hd)) (by rw [List.getLast?_reverse]; exact hl), List.reverse_reverse]
theorem UwH (a : Nat) : (DL a).head? ≠ some 0 := by
  unfold DL; rw [List.head?_reverse]; exact Um9 hT2 a
def isD (c : UInt8) : Bool := decide (48 ≤ c.toNat) && decide (c.toNat ≤ 57)
theorem Uaz {c : UInt8} : isD c = true ↔ 48 ≤ c.toNat ∧ c.toNat ≤ 57 := by simp [isD]
def dg (s : List UInt8) : List Nat := s.map fun c => c.toNat - 48
theorem Ux7 {s : List UInt8} (h : ∀ c ∈ s, isD c = true) : ∀ d ∈ dg s, d < 10 := by
  intro d hd
  simp only [dg, List.mem_map] at hd
  obtain ⟨c, hc, rfl⟩ := hd
  have := Uaz.1 (h c hc)
  omega
theorem UFz {s : List UInt8} (h : ∀ c ∈ s, isD c = true) : (dg s).map ch = s := by
  unfold dg
  rw [List.map_map]
  conv => rhs; rw [← List.map_id s]
  apply List.map_congr_left
  intro c hc
  have := Uaz.1 (h c hc)
  simp only [Function.comp, id]
  apply UInt8.toNat_inj.1
  rw [UeB (by omega)]; omega
theorem UFY {l : List Nat} (h : ∀ d ∈ l, d < 10) : dg (l.map ch) = l := by
  unfold dg
  rw [List.map_map]
  conv => rhs; rw [← List.map_id l]
  apply List.map_congr_left
  intro d hd
  simp only [Function.comp, id]
  rw [UeB (h d hd)]; omega
theorem UCX {l : List Nat} (h : ∀ d ∈ l, d < 10) : ∀ c ∈ l.map ch, isD c = true := by
  intro c hc
  rw [List.mem_map] at hc
  obtain ⟨d, hd, rfl⟩ := hc
  have := h d hd
  rw [Uaz, UeB this]; omega
def ofD (s : List UInt8) : Nat := vb (dg s)
theorem Unt (s t : List UInt8) : ofD (s ++ t) = ofD s * 10 ^ t.length + ofD t := by
  unfold ofD dg; rw [List.map_append, Udk, List.length_map]
theorem UrR {s : List UInt8} (h : ∀ c ∈ s, isD c = true) : ofD s < 10 ^ s.length := by
  have := UAr (dg s) (Ux7 h)
  rwa [dg, List.length_map] at this
theorem Ua2 (a : Nat) : ∀ c ∈ dec a, isD c = true := by
  by_cases h : a = 0
  · subst h; rw [Uao]; intro c hc; simp at hc; subst hc; rfl
  · rw [Ucw a h]; exact UCX (Uew a)
theorem Ucy (a : Nat) : ofD (dec a) = a := by
  by_cases h : a = 0
  · subst h; rw [Uao]; rfl
  · rw [Ucw a h, ofD, UFY (Uew a), UfQ]
theorem Ucv {a b : Nat} (h : dec a = dec b) : a = b := by rw [← Ucy a, h, Ucy]
theorem UoY (a : Nat) : dec a ≠ [] := by
  by_cases h : a = 0
  · subst h; rw [Uao]; simp
  · rw [Ucw a h]; simp [UAJ, h]
theorem Ubn (a k : Nat) (hk : 1 ≤ k) : (dec a).length ≤ k ↔ a < 10 ^ k := by
  by_cases h : a = 0
  · subst h; rw [Uao]
    have : 0 < 10 ^ k := Nat.pow_pos (by omega)
    simp [hk, this]
  · rw [Ucw a h, List.length_map, UAI]
theorem UoZ {s : List UInt8} (h : ∀ c ∈ s, isD c = true) (h0 : s ≠ []) (h1 : s.head? ≠ some 48 ∨ s.length = 1) : dec (ofD s) = s := by
  by_cases hz : s = [48]
  · subst hz; rw [show ofD [48] = 0 from rfl, Uao]
  · have hh : s.head? ≠ some 48 := by
      rcases h1 with h1 | h1
      · exact h1
      · intro e
        match s, h1, e with
        | [c], _, e => simp at e; subst e; exact hz rfl
    have hd : (dg s).head? ≠ some 0 := by
      match s, h0 with
      | c :: r, _ =>
        simp only [dg, List.map_cons, List.head?_cons, ne_eq, Option.some.injEq] at hh ⊢
        have := Uaz.1 (h c (List.mem_cons_self ..))
        intro e
        exact hh (by apply UInt8.toNat_inj.1; show c.toNat = 48; omega)
    have hD := UAK (Ux7 h) hd
    have hne : ofD s ≠ 0 := by
      intro e
      unfold ofD at e
      rw [e, Ujm] at hD
      simp [dg] at hD
      exact h0 (by first | exact hD | exact hD.symm)
    rw [Ucw _ hne]
    unfold ofD
    rw [hD, UFz h]
theorem Uls (a : Nat) : (dec a).head? ≠ some 48 ∨ (dec a).length = 1 := by
  by_cases h : a = 0
  · subst h; rw [Uao]; right; rfl
  · left
    rw [Ucw a h]
    have := UwH a
    have hl := Uew a
    cases hD : DL a with
    | nil => simp
    | cons d r =>
      rw [hD] at this hl
      simp only [List.map_cons, List.head?_cons, ne_eq, Option.some.injEq] at this ⊢
      intro e
      have h2 := congrArg UInt8.toNat e
      rw [UeB (hl d (List.mem_cons_self ..))] at h2
      have : (48 : UInt8).toNat = 48 := rfl
      omega
def pad : Nat → Nat → List UInt8
  | 0, _ => []
  | k + 1, d => pad k (d / 10) ++ [ch (d % 10)]
theorem UtU (k : Nat) : pad k 0 = List.replicate k 48 := by
  induction k with
  | zero => rfl
  | succ k ih => rw [pad, Nat.zero_div, ih, List.replicate_succ']; rfl
theorem UwA : ∀ (k d : Nat), d < 10 ^ (k + 1) → List.replicate (k + 1 - (dec d).length) 48 ++ dec d = pad (k + 1) d
  | 0, d, h => by
    have h' : d < 10 := by simpa using h
    rw [Ua3 h', pad, pad, Nat.mod_eq_of_lt h']; rfl
  | k + 1, d, h => by
    by_cases h1 : d < 10
    · rw [Ua3 h1, pad, Nat.mod_eq_of_lt h1, Nat.div_eq_of_lt h1, UtU]; rfl
    · have ih := UwA k (d / 10) (by rw [Nat.pow_succ] at h; omega)
      rw [Ujz (by omega), pad, ← ih, List.length_append, List.length_singleton, ← List.append_assoc]
      congr 3
      omega
theorem Ult : ∀ (k h d : Nat), h ≠ 0 → d < 10 ^ k → dec (h * 10 ^ k + d) = dec h ++ pad k d
  | 0, h, d, h0, hd => by
    have : d = 0 := by simpa using hd
    subst this
    simp [pad]
  | k + 1, h, d, h0, hd => by
    have hp : 0 < 10 ^ k := Nat.pow_pos (by omega)
    have e : h * 10 ^ (k + 1) = 10 * (h * 10 ^ k) := by rw [Nat.pow_succ]; grind
    have hge : 1 * 1 ≤ h * 10 ^ k := Nat.mul_le_mul (by omega) hp
    rw [Nat.pow_succ] at hd
    rw [Ujz (by omega), pad, ← List.append_assoc, ← Ult k h (d / 10) h0 (by omega)]
    congr 3
    · omega
    · omega
theorem Udd : ∀ (s : List UInt8) (acc : Nat), (∀ c ∈ s, isD c = true) → (acc + 1) * 10 ^ s.length ≤ 1000000000000000000 → Lib.parseUint10 acc s = .ok (acc * 10 ^ s.length + ofD s)
  | [], acc, _, _ => by simp [Lib.parseUint10, ofD, dg, Un]
  | c :: r, acc, h, hb => by
    have hc := Uaz.1 (h c (List.mem_cons_self ..))
    rw [List.length_cons, Nat.pow_succ] at hb
    have hp : 0 < 10 ^ r.length := Nat.pow_pos (by omega)
    have h1 : (acc + 1) * 10 ≤ (acc + 1) * (10 ^ r.length * 10) := Nat.mul_le_mul_left _ (by omega)
    have ih := Udd r (acc * 10 + (c.toNat - 48)) (fun x hx => h x (List.mem_cons_of_mem _ hx)) (by
      have : (acc * 10 + (c.toNat - 48) + 1) * 10 ^ r.length ≤ ((acc + 1) * 10) * 10 ^ r.length := Nat.mul_le_mul_right _ (by omega)
      have e : (acc + 1) * (10 ^ r.length * 10) = ((acc + 1) * 10) * 10 ^ r.length := by grind
      omega)
    rw [Lib.parseUint10, if_pos hc, if_neg (by omega), if_neg (by omega), ih]
    congr 1
    have : ofD (c :: r) = (c.toNat - 48) * 10 ^ r.length + ofD r := by
      unfold ofD dg; rw [List.map_cons, UcK, List.length_map]
    rw [this, List.length_cons, Nat.pow_succ]
    grind
theorem Utc (s : List UInt8) (h : ∀ c ∈ s, isD c = true) (h0 : s ≠ []) (hl : s.length ≤ 18) : Lib.atoiAll s = .ok (ofD s : Int) := by
  match s, h0 with
  | c :: r, _ =>
    have hc := Uaz.1 (h c (List.mem_cons_self ..))
    have hlt := UrR h
    have hp : 10 ^ (c :: r).length ≤ 10 ^ 18 := Nat.pow_le_pow_right (by omega) hl
    have hu := Udd (c :: r) 0 h (by rw [Nat.zero_add, Nat.one_mul]; exact hp)
    rw [Nat.zero_mul, Nat.zero_add] at hu
    have e1 : ¬ (c.toNat = 43 ∨ c.toNat = 45) := by omega
    have e2 : ¬ c.toNat = 45 := by omega
    unfold Lib.atoiAll
    simp only [if_neg e1, Lib.parseMag, List.cons_ne_nil, if_false, hu]
    rw [if_neg (by omega), if_neg (by omega), if_neg e2]
end Go.Proofs.YtmgfmlhdnadglaaGreatDoor
set_option linter.unusedVariables false
set_option maxRecDepth 100000
namespace Go.Proofs.YtmgfmlhdnadglaaGreatDoor
open Go Th Go.Proofs
noncomputable section
variable {R : Type}
def UbF : Ann := { loops := [(6, ids [0, 1, 5, 6, 20, 21], ids [0, 4, 5, 6])], cuts := [(3, ids [0, 1], ids [4]), (11, ids [0, 1, 5, 6, 7, 20, 21], ids [0, 1, 4, 5, 6, 20, 21])], frz := [], rm := [.id] }
abbrev Uo5 (n : Nat) : Env := eC 101 (Uj4 n) eN
theorem UlD (n : Nat) : EnvOK Tryz.prog GI (Uo5 n) := .cons (.nil) (Unu n)
def UeL (n : Nat) (x1 x2 x3 : LP) (x4 x5 x6 x7 : Int) (k0 : LP → LP → LP → Int → Int → Int → O R) : O R :=
  bif decide (1000000000 = 0) then none else (bif (inR x5 ((x3).length)) then (Jj .u32 ((x3).getD ((x5 : Int).toNat) (.v (.bool false))) fun e8 => bif decide (1000000000 = 0) then none else (let v9 := IntKind.u32.wrap (Int.tdiv x4 1000000000); k0 x1 x2 ((x3).set ((x5 : Int).toNat) (.v (.int .u32 (Int.tmod x4 1000000000)))) v9 x6 x7)) else none)
def UeM (n : Nat) (l0 : LP → LP → LP → Int → Int → Int → O R) (x1 x2 x3 : LP) (x4 x5 x6 : Int) (k0 : LP → LP → Int → O R) : O R :=
  bif (decide (x6 < x5)) then (bif (inR x6 ((x1).length)) then (Jj .u32 ((x1).getD ((x6 : Int).toNat) (.v (.bool false))) fun e7 => bif (decide (x6 < ((x2).length : Int))) then (bif (inR x6 ((x2).length)) then (Jj .u32 ((x2).getD ((x6 : Int).toNat) (.v (.bool false))) fun e8 => let v9 := IntKind.u32.wrap ((IntKind.u32.wrap (x4 + e7)) + e8); UeL n x1 x2 x3 v9 x6 x5 x6 (fun y10 y11 y12 y13 y14 y15 => l0 y10 y11 y12 y13 y14 (IntKind.i64.wrap (y15 + 1)))) else none) else (UeL n x1 x2 x3 (IntKind.u32.wrap (x4 + e7)) x6 x5 x6 (fun y16 y17 y18 y19 y20 y21 => l0 y16 y17 y18 y19 y20 (IntKind.i64.wrap (y21 + 1))))) else none) else (k0 x1 x3 x4)
def UbZ (n : Nat) : Nat → LP → LP → LP → Int → Int → Int → (LP → LP → Int → O R) → O R
  | 0, _, _, _, _, _, _, _ => none
  | m + 1, x1, x2, x3, x4, x5, x6, k0 => UeM n (fun x1 x2 x3 x4 x5 x6 => UbZ n m x1 x2 x3 x4 x5 x6 k0) x1 x2 x3 x4 x5 x6 k0
def UrY (n : Nat) (x1 x2 x3 : LP) (x4 x5 x6 : Int) (k0 : LP → LP → Int → O R) : O R := UbZ n n x1 x2 x3 x4 x5 x6 k0
def Ufv (n : Nat) (x1 x2 : LP) (k0 : LP → O R) : O R :=
  let v3 := IntKind.i64.wrap (((x1).length : Int) + 1); bif (decide ((0 : Int) ≤ v3) && decide ((v3 : Int) ≤ v3) && Jbu (v3 : Int).toNat 4) then (UrY n x1 x2 (List.replicate (v3 : Int).toNat (.v (.int .u32 0) : PV)) 0 ((x1).length : Int) 0 (fun y4 y5 y6 => bif (inR ((y4).length : Int) ((y5).length)) then (Jj .u32 ((y5).getD ((((y4).length : Int) : Int).toNat) (.v (.bool false))) fun e7 => UrW n ((y5).set ((((y4).length : Int) : Int).toNat) (.v (.int .u32 y6))) (fun y8 => k0 y8)) else none)) else none
def UFh (n : Nat) (x1 x2 : LP) (k0 : LP → O R) : O R :=
  bif (decide (((x1).length : Int) < ((x2).length : Int))) then (Ufv n x2 x1 (fun y3 => k0 y3)) else (Ufv n x1 x2 (fun y4 => k0 y4))
abbrev UFp (n : Nat) : Code → Fr → Kc R → O R := evC Tryz.prog (Uo5 n) UbF n (55, [])
noncomputable def Un1 : Code := Jj4 (Jll Tryz.f103) [1, 1]
abbrev Ukt : Sl (List SV) := (cH (cH .n))
abbrev UqB (n : Nat) (K : Kc R) : Ukt.T (O R) := fun x1 x2 => Ufv n x1 x2 (fun y1 => xC UbF 3 K .ret [vH y1])
noncomputable def Uk2 : Code := Jj4 (Jll Tryz.f103) [1, 1, 1, 1, 0, 1, 0, 0, 1, 1, 0, 0, 1, 1, 1]
abbrev Uig : Sl (List SV) := (cH (cH (cO 143 (.c (sP (Jlv .u32)) (cI (cI (cI .n)))))))
abbrev Umd (n : Nat) (K : Kc R) : Uig.T (O R) := fun x1 x2 x3 x4 x5 x6 x7 => UeL n x1 x2 x3 x4 x5 x6 x7 (fun y1 y2 y3 y4 y5 y6 => xC UbF 11 K .normal [vH y1, vH y2, dD, .own 143 y3, .p (.v (.int .u32 y4)), vI y5, vI y6])
noncomputable def Un2 : Code := Jj4 (Jll Tryz.f103) [1, 1, 1, 1, 0, 1, 0, 0]
abbrev Ud3 : Sl (List SV) := (cH (cH (cO 143 (.c (sP (Jlv .u32)) (cI (cI .n))))))
abbrev UjG (n m : Nat) (K : Kc R) : Ud3.T (O R) := fun x1 x2 x3 x4 x5 x6 => UbZ n m x1 x2 x3 x4 x5 x6 (fun y1 y2 y3 => xL UbF 6 K (.exit 0) [vH y1, dD, .own 143 y2, .p (.v (.int .u32 y3))])
abbrev Uxs (n : Nat) (K : Kc R) (l0 : Ud3.T (O R)) : Ud3.T (O R) := fun x1 x2 x3 x4 x5 x6 => UeM n l0 x1 x2 x3 x4 x5 x6 (fun y1 y2 y3 => xL UbF 6 K (.exit 0) [vH y1, dD, .own 143 y2, .p (.v (.int .u32 y3))])
abbrev UtE (n : Nat) : Orc R := oL UbF (UFp n) n 6 Un2 Ud3 (UjG n n) oN
abbrev Utq (n : Nat) : Orc R := oC UbF (UFp n) 11 Uk2 Uig (Umd n) (oC UbF (UFp n) 3 Un1 Ukt (UqB n) oN)
abbrev UEO (R : Type) (n : Nat) := JcH (R := R) Tryz.prog (Uo5 n) UbF n (55, []) (UtE n) (Utq n)
theorem UtW (n : Nat) : UEO R n (true, 11, Uk2) := JkW (lo := UtE n) (cu := Utq n) (pO pN (by kernel_rfl)) Uig (Umd n) (fun K _ _ _ _ _ _ _ => by show _ = _; kernel_rfl) fun _ _ => rfl
theorem Uzo (n : Nat) : UEO R n (false, 6, Un2) := JkF (lo := UtE n) (cu := Utq n) (pO (pC (UtW n) pN) (by kernel_rfl)) Ud3 (UjG n n) (JiE (F := UjG n) Ud3 (Uxs n) (fun K _ _ _ _ _ _ => rfl) (fun _ _ => rfl) (fun L K _ _ _ _ _ _ => by show _ = _; kernel_rfl) n) fun _ _ => rfl
theorem Uzn (n : Nat) : UEO R n (true, 3, Un1) := JkW (lo := UtE n) (cu := Utq n) (pO (pC (Uzo n) pN) (by kernel_rfl)) Ukt (UqB n) (fun K _ _ => by show _ = _; kernel_rfl) fun _ _ => rfl
theorem UHw (n : Nat) : Je6 (UEO R n) (JaJ UbF (Jll Tryz.f103)) := pO (pC (Uzn n) pN) (by kernel_rfl)
abbrev UIc : Sl (List SV) := (cH (cH .n))
abbrev f103 (n : Nat) (K : List SV → O R) : UIc.T (O R) := fun x1 x2 => UFh n x1 x2 (fun y1 => K [vH y1])
abbrev UCn (n : Nat) : FS := fT [false, false] UIc (f103 n)
theorem UGI (n : Nat) : FSound Tryz.prog GI 103 (UCn n) := gd UbF n (UlD n) Tryz.func103 (.cons (UlD n) UIc (f103 n) (fun K _ _ => (Jkq (c := Jll Tryz.f103) (by kernel_rfl) (UHw n) K).trans (by kernel_rfl)) .nil) (by kernel_rfl)
def UbG : Ann := { loops := [(4, ids [0, 1, 5, 6, 13, 14], ids [4, 5])], cuts := [(9, ids [0, 1, 5, 7, 8, 13, 14], ids [0, 1, 4, 5, 6, 13, 14]), (13, ids [0, 1, 5, 6, 7, 8, 13, 14], ids [0, 1, 4, 5, 6, 13, 14])], frz := [], rm := [.id] }
abbrev Uo6 (n : Nat) : Env := eC 101 (Uj4 n) eN
theorem UlE (n : Nat) : EnvOK Tryz.prog GI (Uo6 n) := .cons (.nil) (Unu n)
def Uc2 (n : Nat) (x1 x2 x3 : LP) (x4 x5 x6 x7 x8 : Int) (k0 : LP → LP → LP → Int → Int → Int → O R) : O R :=
  bif (inR x5 ((x3).length)) then (Jj .u32 ((x3).getD ((x5 : Int).toNat) (.v (.bool false))) fun e9 => k0 x1 x2 ((x3).set ((x5 : Int).toNat) (.v (.int .u32 (IntKind.u32.wrap (x6))))) x4 x7 x8) else none
def Ufw (n : Nat) (x1 x2 x3 : LP) (x4 x5 x6 x7 : Int) (k0 : LP → LP → LP → Int → Int → Int → O R) : O R :=
  bif (decide (x5 < 0)) then (Uc2 n x1 x2 x3 1 x4 (IntKind.i64.wrap (x5 + 1000000000)) x6 x7 (fun y8 y9 y10 y11 y12 y13 => k0 y8 y9 y10 y11 y12 y13)) else (Uc2 n x1 x2 x3 0 x4 x5 x6 x7 (fun y14 y15 y16 y17 y18 y19 => k0 y14 y15 y16 y17 y18 y19))
def Uc3 (n : Nat) (l0 : LP → LP → LP → Int → Int → Int → O R) (x1 x2 x3 : LP) (x4 x5 x6 : Int) (k0 : LP → O R) : O R :=
  bif (decide (x6 < x5)) then (bif (inR x6 ((x1).length)) then (Jj .u32 ((x1).getD ((x6 : Int).toNat) (.v (.bool false))) fun e7 => let v8 := IntKind.i64.wrap ((IntKind.i64.wrap (e7)) - x4); bif (decide (x6 < ((x2).length : Int))) then (bif (inR x6 ((x2).length)) then (Jj .u32 ((x2).getD ((x6 : Int).toNat) (.v (.bool false))) fun e9 => let v10 := IntKind.i64.wrap (v8 - (IntKind.i64.wrap (e9))); Ufw n x1 x2 x3 x6 v10 x5 x6 (fun y11 y12 y13 y14 y15 y16 => l0 y11 y12 y13 y14 y15 (IntKind.i64.wrap (y16 + 1)))) else none) else (Ufw n x1 x2 x3 x6 v8 x5 x6 (fun y17 y18 y19 y20 y21 y22 => l0 y17 y18 y19 y20 y21 (IntKind.i64.wrap (y22 + 1))))) else none) else (k0 x3)
def Ubr (n : Nat) : Nat → LP → LP → LP → Int → Int → Int → (LP → O R) → O R
  | 0, _, _, _, _, _, _, _ => none
  | m + 1, x1, x2, x3, x4, x5, x6, k0 => Uc3 n (fun x1 x2 x3 x4 x5 x6 => Ubr n m x1 x2 x3 x4 x5 x6 k0) x1 x2 x3 x4 x5 x6 k0
def UrZ (n : Nat) (x1 x2 x3 : LP) (x4 x5 x6 : Int) (k0 : LP → O R) : O R := Ubr n n x1 x2 x3 x4 x5 x6 k0
def UDk (n : Nat) (x1 x2 : LP) (k0 : LP → O R) : O R :=
  bif (decide ((0 : Int) ≤ ((x1).length : Int)) && decide ((((x1).length : Int) : Int) ≤ ((x1).length : Int)) && Jbu (((x1).length : Int) : Int).toNat 4) then (UrZ n x1 x2 (List.replicate (((x1).length : Int) : Int).toNat (.v (.int .u32 0) : PV)) 0 ((x1).length : Int) 0 (fun y3 => UrW n y3 (fun y4 => k0 y4))) else none
abbrev UFq (n : Nat) : Code → Fr → Kc R → O R := evC Tryz.prog (Uo6 n) UbG n (47, [])
noncomputable def Un3 : Code := Jj4 (Jll Tryz.f104) [1, 1, 1, 0, 1, 0, 0, 1, 1, 0, 0, 1, 1, 1]
abbrev Uku : Sl (List SV) := (cH (cH (cO 143 (cI (cI (cI (cI .n)))))))
abbrev UqC (n : Nat) (K : Kc R) : Uku.T (O R) := fun x1 x2 x3 x4 x5 x6 x7 => Ufw n x1 x2 x3 x4 x5 x6 x7 (fun y1 y2 y3 y4 y5 y6 => xC UbG 9 K .normal [vH y1, vH y2, dD, .own 143 y3, vI y4, vI y5, vI y6])
noncomputable def Uk3 : Code := Jj4 (Jll Tryz.f104) [1, 1, 1, 0, 1, 0, 0, 1, 1, 0, 0, 1, 1, 1, 1, 1]
abbrev Uih : Sl (List SV) := (cH (cH (cO 143 (cI (cI (cI (cI (cI .n))))))))
abbrev Ume (n : Nat) (K : Kc R) : Uih.T (O R) := fun x1 x2 x3 x4 x5 x6 x7 x8 => Uc2 n x1 x2 x3 x4 x5 x6 x7 x8 (fun y1 y2 y3 y4 y5 y6 => xC UbG 13 K .normal [vH y1, vH y2, dD, .own 143 y3, vI y4, vI y5, vI y6])
noncomputable def Un4 : Code := Jj4 (Jll Tryz.f104) [1, 1, 1, 0, 1, 0, 0]
abbrev Ud4 : Sl (List SV) := (cH (cH (cO 143 (cI (cI (cI .n))))))
abbrev UjH (n m : Nat) (K : Kc R) : Ud4.T (O R) := fun x1 x2 x3 x4 x5 x6 => Ubr n m x1 x2 x3 x4 x5 x6 (fun y1 => xL UbG 4 K (.exit 0) [dD, .own 143 y1])
abbrev Uxt (n : Nat) (K : Kc R) (l0 : Ud4.T (O R)) : Ud4.T (O R) := fun x1 x2 x3 x4 x5 x6 => Uc3 n l0 x1 x2 x3 x4 x5 x6 (fun y1 => xL UbG 4 K (.exit 0) [dD, .own 143 y1])
abbrev UtF (n : Nat) : Orc R := oL UbG (UFq n) n 4 Un4 Ud4 (UjH n n) oN
abbrev Utr (n : Nat) : Orc R := oC UbG (UFq n) 13 Uk3 Uih (Ume n) (oC UbG (UFq n) 9 Un3 Uku (UqC n) oN)
abbrev UEP (R : Type) (n : Nat) := JcH (R := R) Tryz.prog (Uo6 n) UbG n (47, []) (UtF n) (Utr n)
theorem UtX (n : Nat) : UEP R n (true, 13, Uk3) := JkW (lo := UtF n) (cu := Utr n) (pO pN (by kernel_rfl)) Uih (Ume n) (fun K _ _ _ _ _ _ _ _ => by show _ = _; kernel_rfl) fun _ _ => rfl
theorem Uzp (n : Nat) : UEP R n (true, 9, Un3) := JkW (lo := UtF n) (cu := Utr n) (pO (pC (UtX n) pN) (by kernel_rfl)) Uku (UqC n) (fun K _ _ _ _ _ _ _ => by show _ = _; kernel_rfl) fun _ _ => rfl
theorem Uzq (n : Nat) : UEP R n (false, 4, Un4) := JkF (lo := UtF n) (cu := Utr n) (pO (pC (Uzp n) pN) (by kernel_rfl)) Ud4 (UjH n n) (JiE (F := UjH n) Ud4 (Uxt n) (fun K _ _ _ _ _ _ => rfl) (fun _ _ => rfl) (fun L K _ _ _ _ _ _ => by show _ = _; kernel_rfl) n) fun _ _ => rfl
theorem UHx (n : Nat) : Je6 (UEP R n) (JaJ UbG (Jll Tryz.f104)) := pO (pC (Uzq n) pN) (by kernel_rfl)
abbrev UId : Sl (List SV) := (cH (cH .n))
abbrev f104 (n : Nat) (K : List SV → O R) : UId.T (O R) := fun x1 x2 => UDk n x1 x2 (fun y1 => K [vH y1])
abbrev UCo (n : Nat) : FS := fT [false, false] UId (f104 n)
theorem UGJ (n : Nat) : FSound Tryz.prog GI 104 (UCo n) := gd UbG n (UlE n) Tryz.func104 (.cons (UlE n) UId (f104 n) (fun K _ _ => (Jkq (c := Jll Tryz.f104) (by kernel_rfl) (UHx n) K).trans (by kernel_rfl)) .nil) (by kernel_rfl)
end
end Go.Proofs.YtmgfmlhdnadglaaGreatDoor
set_option linter.unusedVariables false
set_option linter.unusedSimpArgs false
namespace Go.Proofs.YtmgfmlhdnadglaaGreatDoor
open Go Th Go.Proofs
variable {R : Type}
theorem hB2 : 2 ≤ 1000000000 := by decide
def NN (a : Nat) : List PV := nl .u32 (toL 1000000000 a)
theorem Ujg (n : Nat) (k0 : List PV → Option R) : ∀ (m : Nat) (l : List Nat), (∀ d ∈ l, d < 1000000000) → l.length < m → l.length < 2 ^ 40 → Uc1 n m (nl .u32 l) k0 = k0 (NN (val 1000000000 l))
  | m + 1, l, hl, hm, hb => by
    simp only [Uc1, Uhk]
    rcases List.eq_nil_or_concat l with rfl | ⟨r, d, rfl⟩
    · simp (disch := (first | omega | (simp only [JlE]; omega))) only [↓JlH, JlF, JlG]
      unfold NN
      rw [show val 1000000000 [] = 0 from rfl, Uai]
    · rw [List.concat_eq_append] at *
      have hlen : (r ++ [d]).length = r.length + 1 := by simp
      have hg : (r ++ [d]).getD r.length 0 = d := by rw [List.getD_eq_getElem?_getD, List.getElem?_append_right (Nat.le_refl _)]; simp
      have ht : (r ++ [d]).take r.length = r := List.take_left
      have e1 : ((r.length + (0 + 1) : Nat) : Int) - 1 = (r.length : Int) := by omega
      rw [hlen] at hm hb
      by_cases hd : d = 0
      · subst hd
        have ih := Ujg n k0 m r (fun x hx => hl x (by simp [hx])) (by omega) (by omega)
        simp (disch := (first | omega | (simp only [JlE]; omega))) only [↓JlH, JlF, JlG, e1, hg, Jk0, ht, ih]
        rw [Udj]
        rfl
      · have hne : (d == 0) = false := by simpa using hd
        simp (disch := (first | omega | (simp only [JlE]; omega))) only [↓JlH, JlF, JlG, e1, hg, Jk0, hne]
        congr 1
        unfold NN
        rw [UkY hB2 _ hl (by rw [List.getLast?_append]; simpa using hd)]
theorem UbU (n : Nat) (l : List Nat) (hl : ∀ d ∈ l, d < 1000000000) (hn : l.length < n) (hb : l.length < 2 ^ 40) (k0 : List PV → Option R) : UrW n (nl .u32 l) k0 = k0 (NN (val 1000000000 l)) := by
  unfold UrW UrX
  exact Ujg n _ n l hl hn hb
def Uct (a b : Nat) : Int := if a < b then -1 else if b < a then 1 else 0
theorem Ulq (n : Nat) (la lb : List Nat) (ha : ∀ d ∈ la, d < 1000000000) (hb : ∀ d ∈ lb, d < 1000000000) (hlen : la.length = lb.length) (hl : la.length < 2 ^ 40) (k0 : Int → Option R) (k1 : Option R) :
    ∀ (i m : Nat), i ≤ la.length → i < m → UdK n m (nl .u32 la) (nl .u32 lb) ((i : Int) - 1) k0 k1 =
      if val 1000000000 (la.take i) < val 1000000000 (lb.take i) then k0 (-1) else if val 1000000000 (lb.take i) < val 1000000000 (la.take i) then k0 1 else k1
  | 0, m + 1, _, _ => by
    simp only [UdK, UhR]
    simp (disch := (first | omega | (simp only [JlE]; omega))) only [↓JlH, JlF, JlG]
    rfl
  | i + 1, m + 1, h, hm => by
    have ih := Ulq n la lb ha hb hlen hl k0 k1 i m (by omega) (by omega)
    have e1 : ((i + 1 : Nat) : Int) - 1 = (i : Int) := by omega
    have va := Ual hB2 ha (i := i) (by omega)
    have vb := Ual hB2 hb (i := i) (by omega)
    rw [UaZ 1000000000 (by omega : i < la.length), UaZ 1000000000 (by omega : i < lb.length)]
    simp only [UdK, UhR]
    simp (disch := (first | omega | (simp only [JlE]; omega))) only [↓JlH, JlF, JlG, e1, JjY]
    have hd := Uac hB2 ha i
    have hd2 := Uac hB2 hb i
    generalize la.getD i 0 = x at *
    generalize lb.getD i 0 = y at *
    by_cases he : x = y
    · subst he
      rw [bne_self_eq_false, cond_false, ih]
      simp only [Nat.add_lt_add_iff_right]
    · rw [bne_iff_ne.2 he, cond_true]
      by_cases hlt : x < y
      · have : 1000000000 ^ i * x + 1000000000 ^ i ≤ 1000000000 ^ i * y := by rw [← Nat.mul_succ]; exact Nat.mul_le_mul_left _ hlt
        rw [Jkf (by omega), if_pos (by omega)]
      · have hgt : y < x := by omega
        have : 1000000000 ^ i * y + 1000000000 ^ i ≤ 1000000000 ^ i * x := by rw [← Nat.mul_succ]; exact Nat.mul_le_mul_left _ hgt
        rw [c_neg (by omega), if_neg (by omega), if_pos (by omega)]
theorem UoU (n a b : Nat) (hla : (toL 1000000000 a).length < 2 ^ 40) (hlb : (toL 1000000000 b).length < 2 ^ 40) (hn : (toL 1000000000 a).length < n) (k0 : Int → Option R) : p57 n (NN a) (NN b) k0 = k0 (Uct a b) := by
  unfold p57 NN Uct
  by_cases he : (toL 1000000000 a).length = (toL 1000000000 b).length
  · have : ((toL 1000000000 a).length != (toL 1000000000 b).length) = false := by simp [he]
    have hlp := Ulq n _ _ (UaO hB2 a) (UaO hB2 b) he hla (fun y4 => k0 y4) (k0 0) (toL 1000000000 a).length n (Nat.le_refl _) hn
    rw [List.take_length, show (toL 1000000000 b).take (toL 1000000000 a).length = toL 1000000000 b from by rw [he, List.take_length], Uap hB2, Uap hB2] at hlp
    simp only [Jjd]
    rw [JjY, this, cond_false, w64 (by omega) (by omega)]
    unfold Uwo
    rw [hlp]
    split
    · rfl
    · split <;> rfl
  · have : ((toL 1000000000 a).length != (toL 1000000000 b).length) = true := by simpa using he
    by_cases hlt : (toL 1000000000 a).length < (toL 1000000000 b).length
    · have h2 := Ubk hB2 hlt
      simp (disch := (first | omega | (simp only [JlE]; omega))) only [↓JlH, JlF, JlG, JjY, this]
    · have h2 := Ubk hB2 (x := b) (y := a) (by omega)
      simp (disch := (first | omega | (simp only [JlE]; omega))) only [↓JlH, JlF, JlG, JjY, this]
theorem Ui3 (n : Nat) (la lb : List Nat) (ha : ∀ d ∈ la, d < 1000000000) (hb : ∀ d ∈ lb, d < 1000000000) (hab : lb.length ≤ la.length) (hl : la.length < 2 ^ 40) :
    ∀ (d m i : Nat) (o : List Nat) (c : Nat), d + i = la.length → d < m → o.length = la.length + 1 → (∀ x ∈ o, x < 1000000000) → c ≤ 1 → val 1000000000 (o.take i) + 1000000000 ^ i * c = val 1000000000 (la.take i) + val 1000000000 (lb.take i) →
      ∃ (o' : List Nat) (c' : Nat), (∀ k0 : List PV → List PV → Int → Option R, UbZ n m (nl .u32 la) (nl .u32 lb) (nl .u32 o) c la.length i k0 = k0 (nl .u32 la) (nl .u32 o') c') ∧ o'.length = la.length + 1 ∧ (∀ x ∈ o', x < 1000000000) ∧ c' ≤ 1 ∧
        val 1000000000 (o'.take la.length) + 1000000000 ^ la.length * c' = val 1000000000 la + val 1000000000 lb
  | 0, m + 1, i, o, c, hd, hm, ho, hlt, hc, hv => by
    have hi : i = la.length := by omega
    subst hi
    refine ⟨o, c, fun k0 => ?_, ho, hlt, hc, ?_⟩
    · simp only [UbZ, UeM]
      simp (disch := (first | omega | (simp only [JlE]; omega))) only [↓JlH, JlF, JlG]
    · rw [hv, List.take_length, List.take_of_length_le hab]
  | d + 1, m + 1, i, o, c, hd, hm, ho, hlt, hc, hv => by
    have hx := Uac hB2 ha i
    have hy := Uac hB2 hb i
    have hs2 : c + la.getD i 0 + lb.getD i 0 < 2 * 1000000000 := by omega
    have step := Ui3 n la lb ha hb hab hl d m (i + 1) (o.set i ((c + la.getD i 0 + lb.getD i 0) % 1000000000)) ((c + la.getD i 0 + lb.getD i 0) / 1000000000) (by omega) (by omega) (by rw [List.length_set]; exact ho)
      (Ubg hlt (Nat.mod_lt _ (by decide)) i) (by have := Nat.div_lt_of_lt_mul (show c + la.getD i 0 + lb.getD i 0 < 1000000000 * 2 by omega); omega)
      (by rw [Ufa _ (by omega), Uba, List.length_take, Nat.min_eq_left (by omega), Unk 1000000000 i _ c _ (by decide), Uam 1000000000 la, Uam 1000000000 lb, Nat.mul_add, Nat.mul_add]; omega)
    obtain ⟨o', c', h1, h2⟩ := step
    refine ⟨o', c', fun k0 => ?_, h2⟩
    rw [← h1 k0]
    have e2 : ((i : Int) + 1) = ((i + 1 : Nat) : Int) := by omega
    simp only [UbZ, UeM, UeL]
    by_cases hi : i < lb.length
    · have e3 : ((c : Int) + ((la.getD i 0 : Nat) : Int) + ((lb.getD i 0 : Nat) : Int)) = ((c + la.getD i 0 + lb.getD i 0 : Nat) : Int) := by omega
      simp (disch := (first | omega | (simp only [JlE]; omega))) only [↓JlH, JlF, JlG, e3, e2, JlB, JlC]
    · have h0 := Ubp (l := lb) (i := i) (by omega)
      rw [h0] at *
      have e3 : ((c : Int) + ((la.getD i 0 : Nat) : Int)) = ((c + la.getD i 0 + 0 : Nat) : Int) := by omega
      simp (disch := (first | omega | (simp only [JlE]; omega))) only [↓JlH, JlF, JlG, e3, e2, JlB, JlC]
theorem Uzk (n a b : Nat) (hla : (toL 1000000000 a).length < 2 ^ 30) (hlb : (toL 1000000000 b).length < 2 ^ 30) (hna : (toL 1000000000 a).length + 1 < n) (hnb : (toL 1000000000 b).length + 1 < n) (k0 : List PV → Option R) : UFh n (NN a) (NN b) k0 = k0 (NN (a + b)) := by
  have key : ∀ x y : Nat, (toL 1000000000 x).length < 2 ^ 30 → (toL 1000000000 y).length ≤ (toL 1000000000 x).length → (toL 1000000000 x).length + 1 < n → Ufv n (NN x) (NN y) k0 = k0 (NN (x + y)) := by
    intro x y hx hyx hn
    obtain ⟨o', c', h1, h2, h3, h4, h5⟩ := Ui3 (R := R) n (toL 1000000000 x) (toL 1000000000 y) (UaO hB2 x) (UaO hB2 y) hyx (by omega)
      (toL 1000000000 x).length n 0 (List.replicate ((toL 1000000000 x).length + 1) 0) 0 (by omega) (by omega) (by rw [List.length_replicate]) (Ug hB2 _) (by omega) (by simp [val])
    rw [Uap hB2, Uap hB2] at h5
    have ht := UbU n (o'.set (toL 1000000000 x).length c') (Ubg h3 (by omega) _) (by rw [List.length_set]; omega) (by rw [List.length_set]; omega) k0
    rw [Ujd h2, Uba, List.length_take, Nat.min_eq_left (by omega), h5] at ht
    have e1 : ((toL 1000000000 x).length : Int) + 1 = (((toL 1000000000 x).length + 1 : Nat) : Int) := by omega
    unfold Ufv NN UrY
    rw [show ((0 : Nat) : Int) = 0 from rfl] at h1
    simp (disch := (first | omega | (simp only [JlE]; omega))) only [↓JlH, JlF, JlG, e1, h1, Ujd h2]
    exact ht
  unfold UFh
  have l1 : (NN a).length = (toL 1000000000 a).length := Jjd _ _
  have l2 : (NN b).length = (toL 1000000000 b).length := Jjd _ _
  rw [l1, l2]
  by_cases h : (toL 1000000000 a).length < (toL 1000000000 b).length
  · rw [Jkf (by omega), Nat.add_comm]
    exact key b a hlb (by omega) hnb
  · rw [c_neg (by omega)]
    exact key a b hla (by omega) hna
theorem Uf1 (n : Nat) (la lb : List Nat) (ha : ∀ d ∈ la, d < 1000000000) (hb : ∀ d ∈ lb, d < 1000000000) (hab : lb.length ≤ la.length) (hl : la.length < 2 ^ 40) :
    ∀ (d m i : Nat) (o : List Nat) (c : Nat), d + i = la.length → d < m → o.length = la.length → (∀ x ∈ o, x < 1000000000) → c ≤ 1 → val 1000000000 (la.take i) + 1000000000 ^ i * c = val 1000000000 (o.take i) + val 1000000000 (lb.take i) →
      ∃ (o' : List Nat) (c' : Nat), (∀ k0 : List PV → Option R, Ubr n m (nl .u32 la) (nl .u32 lb) (nl .u32 o) c la.length i k0 = k0 (nl .u32 o')) ∧ o'.length = la.length ∧ (∀ x ∈ o', x < 1000000000) ∧ c' ≤ 1 ∧
        val 1000000000 la + 1000000000 ^ la.length * c' = val 1000000000 o' + val 1000000000 lb
  | 0, m + 1, i, o, c, hd, hm, ho, hlt, hc, hv => by
    have hi : i = la.length := by omega
    subst hi
    refine ⟨o, c, fun k0 => ?_, ho, hlt, hc, ?_⟩
    · simp only [Ubr, Uc3]
      simp (disch := (first | omega | (simp only [JlE]; omega))) only [↓JlH, JlF, JlG]
    · rw [List.take_length, List.take_of_length_le (by omega), List.take_of_length_le hab] at hv
      exact hv
  | d + 1, m + 1, i, o, c, hd, hm, ho, hlt, hc, hv => by
    have hx := Uac hB2 ha i
    have hy := Uac hB2 hb i
    have step : ∀ (dg c' : Nat), dg < 1000000000 → c' ≤ 1 → la.getD i 0 + 1000000000 * c' = dg + c + lb.getD i 0 → _ := fun dg c' h1 h2 h3 =>
      Uf1 n la lb ha hb hab hl d m (i + 1) (o.set i dg) c' (by omega) (by omega) (by rw [List.length_set]; exact ho) (Ubg hlt h1 i) h2
      (by
        rw [Ufa _ (by omega), Uba, List.length_take, Nat.min_eq_left (by omega), Uam 1000000000 la, Uam 1000000000 lb, Nat.pow_succ, Nat.mul_assoc]
        have : 1000000000 ^ i * (la.getD i 0 + 1000000000 * c') = 1000000000 ^ i * (dg + c + lb.getD i 0) := by rw [h3]
        rw [Nat.mul_add, Nat.mul_add, Nat.mul_add] at this
        omega)
    have e2 : ((i : Int) + 1) = ((i + 1 : Nat) : Int) := by omega
    by_cases hneg : la.getD i 0 < c + lb.getD i 0
    · obtain ⟨o', c', h1, h2⟩ := step (la.getD i 0 + 1000000000 - c - lb.getD i 0) 1 (by omega) (by omega) (by omega)
      refine ⟨o', c', fun k0 => ?_, h2⟩
      rw [← h1 k0]
      simp only [Ubr, Uc3, Ufw, Uc2]
      by_cases hi : i < lb.length
      · have e3 : ((la.getD i 0 : Nat) : Int) - (c : Int) - ((lb.getD i 0 : Nat) : Int) + 1000000000 = ((la.getD i 0 + 1000000000 - c - lb.getD i 0 : Nat) : Int) := by omega
        simp (disch := (first | omega | (simp only [JlE]; omega))) only [↓JlH, JlF, JlG, e3, e2]
        rfl
      · have h0 := Ubp (l := lb) (i := i) (by omega)
        have e3 : ((la.getD i 0 : Nat) : Int) - (c : Int) + 1000000000 = ((la.getD i 0 + 1000000000 - c - lb.getD i 0 : Nat) : Int) := by omega
        simp (disch := (first | omega | (simp only [JlE]; omega))) only [↓JlH, JlF, JlG, e3, e2]
        rfl
    · obtain ⟨o', c', h1, h2⟩ := step (la.getD i 0 - c - lb.getD i 0) 0 (by omega) (by omega) (by omega)
      refine ⟨o', c', fun k0 => ?_, h2⟩
      rw [← h1 k0]
      simp only [Ubr, Uc3, Ufw, Uc2]
      by_cases hi : i < lb.length
      · have e3 : ((la.getD i 0 : Nat) : Int) - (c : Int) - ((lb.getD i 0 : Nat) : Int) = ((la.getD i 0 - c - lb.getD i 0 : Nat) : Int) := by omega
        simp (disch := (first | omega | (simp only [JlE]; omega))) only [↓JlH, JlF, JlG, e3, e2]
        rfl
      · have h0 := Ubp (l := lb) (i := i) (by omega)
        have e3 : ((la.getD i 0 : Nat) : Int) - (c : Int) = ((la.getD i 0 - c - lb.getD i 0 : Nat) : Int) := by omega
        simp (disch := (first | omega | (simp only [JlE]; omega))) only [↓JlH, JlF, JlG, e3, e2]
        rfl
theorem Uut {x y : Nat} (h : x ≤ y) : (toL 1000000000 x).length ≤ (toL 1000000000 y).length := by
  by_cases hq : (toL 1000000000 x).length ≤ (toL 1000000000 y).length
  · exact hq
  · have := Ubk hB2 (x := y) (y := x) (by omega); omega
theorem UmI (n a b : Nat) (hba : b ≤ a) (hla : (toL 1000000000 a).length < 2 ^ 30) (hna : (toL 1000000000 a).length + 1 < n) (k0 : List PV → Option R) : UDk n (NN a) (NN b) k0 = k0 (NN (a - b)) := by
  obtain ⟨o', c', h1, h2, h3, h4, h5⟩ := Uf1 (R := R) n (toL 1000000000 a) (toL 1000000000 b) (UaO hB2 a) (UaO hB2 b) (Uut hba) (by omega)
    (toL 1000000000 a).length n 0 (List.replicate (toL 1000000000 a).length 0) 0 (by omega) (by omega) (by rw [List.length_replicate]) (Ug hB2 _) (by omega) (by simp [val])
  rw [Uap hB2, Uap hB2] at h5
  have hlt := Uev hB2 o' h3
  rw [h2] at hlt
  have hc : c' = 0 := by
    rcases Nat.lt_or_ge 0 c' with q | q
    · have : c' = 1 := by omega
      subst this; omega
    · omega
  subst hc
  have ht := UbU n o' h3 (by omega) (by omega) k0
  rw [show val 1000000000 o' = a - b from by omega] at ht
  unfold UDk NN UrZ
  rw [show ((0 : Nat) : Int) = 0 from rfl] at h1
  simp (disch := (first | omega | (simp only [JlE]; omega))) only [↓JlH, JlF, JlG, h1]
  exact ht
theorem Ugd (n : Nat) (la : List Nat) (by_ : Nat) (hby : 0 < by_) (hby2 : by_ < 4294967296) (ha : ∀ d ∈ la, d < 1000000000) (hl : la.length < 2 ^ 40) :
    ∀ (i m : Nat) (o : List Nat) (r : Nat), i ≤ la.length → i < m → o.length = la.length → (∀ x ∈ o, x < 1000000000) → r < by_ →
      val 1000000000 (la.drop i) = by_ * val 1000000000 (o.drop i) + r →
      ∃ (o' : List Nat) (r' : Nat), (∀ k0 : List PV → Int → Option R, Ub8 n m (nl .u32 la) by_ (nl .u32 o) r ((i : Int) - 1) k0 = k0 (nl .u32 o') r') ∧ o'.length = la.length ∧ (∀ x ∈ o', x < 1000000000) ∧ r' < by_ ∧ val 1000000000 la = by_ * val 1000000000 o' + r'
  | 0, m + 1, o, r, hi, hm, ho, hlt, hr, hv => by
    refine ⟨o, r, fun k0 => ?_, ho, hlt, hr, by simpa using hv⟩
    simp only [Ub8, UeY]
    simp (disch := (first | omega | (simp only [JlE]; omega))) only [↓JlH, JlF, JlG]
  | i + 1, m + 1, o, r, hi, hm, ho, hlt, hr, hv => by
    have hx := Uac hB2 ha i
    have hs : r * 1000000000 + la.getD i 0 < by_ * 1000000000 := by
      have : (r + 1) * 1000000000 ≤ by_ * 1000000000 := Nat.mul_le_mul_right _ hr
      omega
    have hq : (r * 1000000000 + la.getD i 0) / by_ < 1000000000 := Nat.div_lt_of_lt_mul hs
    have hmod : (r * 1000000000 + la.getD i 0) % by_ < by_ := Nat.mod_lt _ hby
    have hdm := Nat.div_add_mod (r * 1000000000 + la.getD i 0) by_
    have dropSucc : ∀ l : List Nat, i < l.length → val 1000000000 (l.drop i) = l.getD i 0 + 1000000000 * val 1000000000 (l.drop (i + 1)) := fun l h => by
      rw [List.drop_eq_getElem_cons h, val, List.getD_eq_getElem?_getD, List.getElem?_eq_getElem h]; rfl
    obtain ⟨o', r', h1, h2⟩ := Ugd n la by_ hby hby2 ha hl i m (o.set i ((r * 1000000000 + la.getD i 0) / by_)) ((r * 1000000000 + la.getD i 0) % by_) (by omega) (by omega) (by rw [List.length_set]; exact ho) (Ubg hlt hq i) hmod
      (by
        rw [dropSucc la (by omega), dropSucc _ (by rw [List.length_set]; omega), List.drop_set_of_lt (by omega), hv, List.getD_eq_getElem?_getD, List.getD_eq_getElem?_getD, List.getElem?_set_self (by omega)]
        simp only [Option.getD_some]
        rw [List.getD_eq_getElem?_getD] at hdm
        rw [Nat.mul_add, Nat.mul_add, Nat.mul_left_comm by_ 1000000000]
        omega)
    refine ⟨o', r', fun k0 => ?_, h2⟩
    rw [← h1 k0]
    have e1 : ((i + 1 : Nat) : Int) - 1 = (i : Int) := by omega
    have e3 : (r : Int) * 1000000000 + ((la.getD i 0 : Nat) : Int) = ((r * 1000000000 + la.getD i 0 : Nat) : Int) := by omega
    have hd0 : ¬ ((by_ : Int) = 0) := by omega
    have t1 : Int.tdiv ((r * 1000000000 + la.getD i 0 : Nat) : Int) (by_ : Int) = (((r * 1000000000 + la.getD i 0) / by_ : Nat) : Int) := Jlj _ _
    have t2 : Int.tmod ((r * 1000000000 + la.getD i 0 : Nat) : Int) (by_ : Int) = (((r * 1000000000 + la.getD i 0) % by_ : Nat) : Int) := Jlk _ _
    generalize (r * 1000000000 + la.getD i 0) / by_ = q at *
    generalize (r * 1000000000 + la.getD i 0) % by_ = md at *
    simp only [Ub8, UeY]
    simp (disch := (first | omega | (simp only [JlE]; omega))) only [↓JlH, JlF, JlG, e1, e3, t1, t2]
theorem Um5 (n a by_ : Nat) (hby : 0 < by_) (hby2 : by_ < 4294967296) (hla : (toL 1000000000 a).length < 2 ^ 30) (hna : (toL 1000000000 a).length + 1 < n) (k0 : List PV → Int → Option R) : UDp n (NN a) by_ k0 = k0 (NN (a / by_)) ((a % by_ : Nat) : Int) := by
  obtain ⟨o', r', h1, h2, h3, h4, h5⟩ := Ugd (R := R) n (toL 1000000000 a) by_ hby hby2 (UaO hB2 a) (by omega)
    (toL 1000000000 a).length n (List.replicate (toL 1000000000 a).length 0) 0 (Nat.le_refl _) (by omega) (by rw [List.length_replicate]) (Ug hB2 _) hby (by simp [val])
  rw [Uap hB2] at h5
  have hq : val 1000000000 o' = a / by_ := by rw [h5, Nat.mul_add_div hby, Nat.div_eq_of_lt h4]; omega
  have hr : r' = a % by_ := by rw [h5, Nat.mul_add_mod, Nat.mod_eq_of_lt h4]
  have ht := fun k0 => UbU (R := R) n o' h3 (by omega) (by omega) k0
  rw [hq] at ht
  rw [← hr]
  unfold UDp Us
  have hN : NN a = nl .u32 (toL 1000000000 a) := rfl
  rw [hN]
  rw [show ((0 : Nat) : Int) = 0 from rfl] at h1
  simp (disch := (first | omega | (simp only [JlE]; omega))) only [↓JlH, JlF, JlG, h1, ht]
theorem Ubo {l : List Nat} {i : Nat} (h : i < l.length) : val 1000000000 (l.drop i) = l.getD i 0 + 1000000000 * val 1000000000 (l.drop (i + 1)) := by
  rw [List.drop_eq_getElem_cons h, val, List.getD_eq_getElem?_getD, List.getElem?_eq_getElem h]; rfl
theorem Um8 (n : Nat) (la lb : List Nat) (ha : ∀ d ∈ la, d < 1000000000) (hb : ∀ d ∈ lb, d < 1000000000) (hl : la.length + lb.length < 2 ^ 40) (i : Nat) (hi : i < la.length) :
    ∀ (d m k : Nat) (o : List Nat) (c : Nat), d + k = lb.length → d < m → o.length = la.length + lb.length → (∀ x ∈ o, x < 1000000000) → c < 1000000000 →
      ∃ (o' : List Nat) (c' : Nat), (∀ k0 : List PV → List PV → List PV → Int → Int → Int → Int → Option R, UdM n m (nl .u32 la) (nl .u32 lb) (nl .u32 o) i c la.length i lb.length k k0 = k0 (nl .u32 la) (nl .u32 lb) (nl .u32 o') i c' la.length i) ∧
        o'.length = la.length + lb.length ∧ (∀ x ∈ o', x < 1000000000) ∧ c' < 1000000000 ∧ o'.drop (i + lb.length) = o.drop (i + lb.length) ∧
        val 1000000000 o' + 1000000000 ^ (i + lb.length) * c' = val 1000000000 o + 1000000000 ^ (i + k) * c + la.getD i 0 * (1000000000 ^ (i + k) * val 1000000000 (lb.drop k))
  | 0, m + 1, k, o, c, hd, hm, ho, hlt, hc => by
    have hk : k = lb.length := by omega
    subst hk
    refine ⟨o, c, fun k0 => ?_, ho, hlt, hc, rfl, ?_⟩
    · simp only [UdM, UhT]
      simp (disch := (first | omega | (simp only [JlE]; omega))) only [↓JlH, JlF, JlG]
    · rw [List.drop_length]; simp [val]
  | d + 1, m + 1, k, o, c, hd, hm, ho, hlt, hc => by
    have hx := Uac hB2 ha i
    have hy := Uac hB2 hb k
    have hz := Uac hB2 hlt (i + k)
    have hxy : la.getD i 0 * lb.getD k 0 ≤ 999999999 * 999999999 := Nat.mul_le_mul (by omega) (by omega)
    obtain ⟨s, hs⟩ : ∃ s, s = c + (la.getD i 0 * lb.getD k 0 + o.getD (i + k) 0) := ⟨_, rfl⟩
    have hs2 : s / 1000000000 < 1000000000 := by omega
    obtain ⟨o', c', h1, h2, h3, h4, h5, h6⟩ := Um8 n la lb ha hb hl i hi d m (k + 1) (o.set (i + k) (s % 1000000000)) (s / 1000000000) (by omega) (by omega) (by rw [List.length_set]; exact ho) (Ubg hlt (Nat.mod_lt _ (by omega)) _) hs2
    refine ⟨o', c', fun k0 => ?_, h2, h3, h4, by rw [h5, List.drop_set_of_lt (by omega)], ?_⟩
    · rw [← h1 k0]
      have e1 : (i : Int) + (k : Int) = ((i + k : Nat) : Int) := by omega
      have e2 : (k : Int) + 1 = ((k + 1 : Nat) : Int) := by omega
      have e4 : ((la.getD i 0 : Nat) : Int) * ((lb.getD k 0 : Nat) : Int) = ((la.getD i 0 * lb.getD k 0 : Nat) : Int) := by rw [Int.natCast_mul]
      generalize la.getD i 0 * lb.getD k 0 = xy at *
      have e3 : (c : Int) + ((xy : Int) + ((o.getD (i + k) 0 : Nat) : Int)) = (s : Int) := by omega
      simp only [UdM, UhT]
      simp (disch := (first | omega | (simp only [JlE]; omega))) only [↓JlH, JlF, JlG, e1, e2, e4, e3, JlB, JlC]
    · rw [h6, Ubo (by omega : k < lb.length)]
      have hv := Uer 1000000000 (s % 1000000000) (l := o) (i := i + k) (by omega)
      have hm := Nat.mod_add_div s 1000000000
      rw [show i + (k + 1) = (i + k) + 1 from by omega, Nat.pow_succ]
      generalize 1000000000 ^ (i + k) = P at *
      generalize val 1000000000 (List.drop (k + 1) lb) = V at *
      generalize val 1000000000 (o.set (i + k) (s % 1000000000)) = W at *
      generalize val 1000000000 o = U at *
      generalize s % 1000000000 = q at *
      generalize s / 1000000000 = t at *
      generalize la.getD i 0 = x at *
      generalize lb.getD k 0 = y at *
      generalize o.getD (i + k) 0 = z at *
      clear h1 h3 h4 h5 hlt ha hb
      have h7 : P * q + P * (1000000000 * t) = P * c + P * (x * y) + P * z := by rw [← Nat.mul_add, hm, hs]; grind
      grind
theorem Ujf (n : Nat) (la lb : List Nat) (ha : ∀ d ∈ la, d < 1000000000) (hb : ∀ d ∈ lb, d < 1000000000) (hl : la.length + lb.length < 2 ^ 40) (hn : lb.length < n) :
    ∀ (d m i : Nat) (o : List Nat), d + i = la.length → d < m → o.length = la.length + lb.length → (∀ x ∈ o, x < 1000000000) → o.drop (i + lb.length) = List.replicate (la.length - i) 0 → val 1000000000 o = val 1000000000 (la.take i) * val 1000000000 lb →
      ∃ (o' : List Nat), (∀ k0 : List PV → Option R, UdL n m (nl .u32 la) (nl .u32 lb) (nl .u32 o) la.length i k0 = k0 (nl .u32 o')) ∧ o'.length = la.length + lb.length ∧ (∀ x ∈ o', x < 1000000000) ∧ val 1000000000 o' = val 1000000000 la * val 1000000000 lb
  | 0, m + 1, i, o, hd, hm, ho, hlt, hz, hv => by
    have hi : i = la.length := by omega
    subst hi
    refine ⟨o, fun k0 => ?_, ho, hlt, by rw [hv, List.take_length]⟩
    simp only [UdL, UhS]
    simp (disch := (first | omega | (simp only [JlE]; omega))) only [↓JlH, JlF, JlG]
  | d + 1, m + 1, i, o, hd, hm, ho, hlt, hz, hv => by
    obtain ⟨o1, c1, h1, h2, h3, h4, h5, h6⟩ := Um8 (R := R) n la lb ha hb hl i (by omega) lb.length n 0 o 0 (by omega) hn ho hlt (by omega)
    have hg : o1.getD (i + lb.length) 0 = 0 := by
      have := congrArg (fun l : List Nat => l.getD 0 0) h5
      simp only [List.getD_eq_getElem?_getD, List.getElem?_drop, Nat.add_zero] at this
      rw [List.getD_eq_getElem?_getD, this]
      have h0 := congrArg (fun l : List Nat => l.getD 0 0) hz
      simp only [List.getD_eq_getElem?_getD, List.getElem?_drop, Nat.add_zero] at h0
      rw [h0, List.getElem?_replicate]
      split <;> rfl
    have hvs := Uer 1000000000 c1 (l := o1) (i := i + lb.length) (by omega)
    rw [hg] at hvs
    obtain ⟨o', q1, q2⟩ := Ujf n la lb ha hb hl hn d m (i + 1) (o1.set (i + lb.length) c1) (by omega) (by omega) (by rw [List.length_set]; exact h2) (Ubg h3 h4 _)
      (by
        rw [show i + 1 + lb.length = (i + lb.length) + 1 from by omega, List.drop_set_of_lt (by omega), ← List.drop_drop, h5, hz, List.drop_replicate]
        congr 1)
      (by
        rw [Uam 1000000000 la]
        rw [List.drop_zero, Nat.add_zero, Nat.mul_zero, Nat.add_zero, hv] at h6
        rw [Nat.mul_zero, Nat.add_zero] at hvs
        rw [hvs, h6]
        grind)
    refine ⟨o', fun k0 => ?_, q2⟩
    rw [← q1 k0]
    have e1 : (i : Int) + (lb.length : Int) = ((i + lb.length : Nat) : Int) := by omega
    have e2 : (i : Int) + 1 = ((i + 1 : Nat) : Int) := by omega
    rw [show ((0 : Nat) : Int) = 0 from rfl] at h1
    simp only [UdL, UhS, Uwq]
    simp (disch := (first | omega | (simp only [JlE]; omega))) only [↓JlH, JlF, JlG, h1, e1, e2]
theorem UaY (n a b : Nat) (hla : (toL 1000000000 a).length < 2 ^ 30) (hlb : (toL 1000000000 b).length < 2 ^ 30) (hn : (toL 1000000000 a).length + (toL 1000000000 b).length < n) (k0 : List PV → Option R) : p58 n (NN a) (NN b) k0 = k0 (NN (a * b)) := by
  obtain ⟨o', h1, h2, h3, h4⟩ := Ujf (R := R) n (toL 1000000000 a) (toL 1000000000 b) (UaO hB2 a) (UaO hB2 b) (by omega) (by omega)
    (toL 1000000000 a).length n 0 (List.replicate ((toL 1000000000 a).length + (toL 1000000000 b).length) 0) (by omega) (by omega) (by rw [List.length_replicate]) (Ug hB2 _)
    (by rw [List.drop_replicate]; congr 1; omega) (by rw [Ujh]; simp [val])
  rw [Uap hB2, Uap hB2] at h4
  have ht := fun k0 => UbU (R := R) n o' h3 (by omega) (by omega) k0
  rw [h4] at ht
  have e1 : ((toL 1000000000 a).length : Int) + ((toL 1000000000 b).length : Int) = (((toL 1000000000 a).length + (toL 1000000000 b).length : Nat) : Int) := by omega
  have hN : NN a = nl .u32 (toL 1000000000 a) := rfl
  have hM : NN b = nl .u32 (toL 1000000000 b) := rfl
  unfold p58 Uwp
  rw [hN, hM]
  rw [show ((0 : Nat) : Int) = 0 from rfl] at h1
  simp (disch := (first | omega | (simp only [JlE]; omega))) only [↓JlH, JlF, JlG, e1, h1, ht]
end Go.Proofs.YtmgfmlhdnadglaaGreatDoor
set_option linter.unusedVariables false
set_option maxRecDepth 100000
namespace Go.Proofs.YtmgfmlhdnadglaaGreatDoor
open Go Th Go.Proofs
noncomputable section
variable {R : Type}
def Uff : Ann := { loops := [(1, ids [0, 1, 4], ids [0, 1, 4])], cuts := [], frz := [], rm := [.id] }
abbrev Upd (n : Nat) : Env := eN
theorem UlU (n : Nat) : EnvOK Tryz.prog GI (Upd n) := .nil
def UeU (n : Nat) (l0 : Bool → LP → Bool → O R) (x1 : Bool) (x2 : LP) (x3 : Bool) (k0 : Bool → LP → Bool → O R) : O R :=
  bif (decide (((x2).length : Int) > 0)) then (bif (inR 0 ((x2).length)) then (Jj .i64 ((x2).getD ((0 : Int).toNat) (.v (.bool false))) fun e4 => bif (bif true then (e4 == 0) else false) then (bif (Jgx 1 x2 && Je5 1 ((x2).length : Int) ((x2).length)) then (l0 x1 (((x2).take (((x2).length : Int) : Int).toNat).drop (1 : Int).toNat) x3) else none) else (k0 x1 x2 x3)) else none) else (k0 x1 x2 x3)
def Ub6 (n : Nat) : Nat → Bool → LP → Bool → (Bool → LP → Bool → O R) → O R
  | 0, _, _, _, _ => none
  | m + 1, x1, x2, x3, k0 => UeU n (fun x1 x2 x3 => Ub6 n m x1 x2 x3 k0) x1 x2 x3 k0
def Ur6 (n : Nat) (x1 : Bool) (x2 : LP) (x3 : Bool) (k0 : Bool → LP → Bool → O R) : O R := Ub6 n n x1 x2 x3 k0
def UmQ (n : Nat) (x1 : Bool) (x2 : LP) (k0 : Bool → LP → O R) : O R :=
  Ur6 n x1 x2 false (fun y3 y4 y5 => bif (((y4).length : Int) == 0) then (k0 false []) else (k0 y3 y4))
abbrev UKZ (n : Nat) : Code → Fr → Kc R → O R := evC Tryz.prog (Upd n) Uff n (23, [])
noncomputable def Uoi : Code := Jj4 (Jll Tryz.f122) [1, 0, 0, 0]
abbrev Uea : Sl (List SV) := (cB (cH (.c (sBx 55 (cB (.c sNl .n))) .n)))
abbrev UjO (n m : Nat) (K : Kc R) : Uea.T (O R) := fun x1 x2 x3 => Ub6 n m x1 x2 x3 (fun y1 y2 y3 => xL Uff 1 K (.exit 0) [vB y1, vH y2, .bx 55 [vB y3, .nl]])
abbrev UxA (n : Nat) (K : Kc R) (l0 : Uea.T (O R)) : Uea.T (O R) := fun x1 x2 x3 => UeU n l0 x1 x2 x3 (fun y1 y2 y3 => xL Uff 1 K (.exit 0) [vB y1, vH y2, .bx 55 [vB y3, .nl]])
abbrev UC3 (n : Nat) : Orc R := oL Uff (UKZ n) n 1 Uoi Uea (UjO n n) oN
abbrev UBv (n : Nat) : Orc R := oN
abbrev UIW (R : Type) (n : Nat) := JcH (R := R) Tryz.prog (Upd n) Uff n (23, []) (UC3 n) (UBv n)
theorem UzG (n : Nat) : UIW R n (false, 1, Uoi) := JkF (lo := UC3 n) (cu := UBv n) (pO pN (by kernel_rfl)) Uea (UjO n n) (JiE (F := UjO n) Uea (UxA n) (fun K _ _ _ => rfl) (fun _ _ => rfl) (fun L K _ _ _ => by show _ = _; kernel_rfl) n) fun _ _ => rfl
theorem UHN (n : Nat) : Je6 (UIW R n) (JaJ Uff (Jll Tryz.f122)) := pO (pC (UzG n) pN) (by kernel_rfl)
abbrev UIp : Sl (List SV) := (cB (cH .n))
abbrev f122 (n : Nat) (K : List SV → O R) : UIp.T (O R) := fun x1 x2 => UmQ n x1 x2 (fun y1 y2 => K [.p (.agg [.v (.bool y1), .sh y2])])
abbrev UiU (n : Nat) : FS := fT [false, false] UIp (f122 n)
theorem Uj7 (n : Nat) : FSound Tryz.prog GI 122 (UiU n) := gd Uff n (UlU n) Tryz.func122 (.cons (UlU n) UIp (f122 n) (fun K _ _ => (Jkq (c := Jll Tryz.f122) (by kernel_rfl) (UHN n) K).trans (by kernel_rfl)) .nil) (by kernel_rfl)
def UcQ : Ann := { loops := [(6, ids [0, 1, 5], ids [4])], cuts := [], frz := [], rm := [.id] }
abbrev Upm (n : Nat) : Env := eN
theorem Ul8 (n : Nat) : EnvOK Tryz.prog GI (Upm n) := .nil
def Ue0 (n : Nat) (l0 : LP → LP → Int → O R) (x1 x2 : LP) (x3 : Int) (k0 : Int → O R) (k1 : O R) : O R :=
  bif (decide (x3 < ((x1).length : Int))) then (bif (inR x3 ((x1).length)) then (Jj .i64 ((x1).getD ((x3 : Int).toNat) (.v (.bool false))) fun e4 => bif (inR x3 ((x2).length)) then (Jj .i64 ((x2).getD ((x3 : Int).toNat) (.v (.bool false))) fun e5 => bif (decide (e4 < e5)) then (k0 (-1)) else (bif (inR x3 ((x1).length)) then (Jj .i64 ((x1).getD ((x3 : Int).toNat) (.v (.bool false))) fun e6 => bif (inR x3 ((x2).length)) then (Jj .i64 ((x2).getD ((x3 : Int).toNat) (.v (.bool false))) fun e7 => bif (decide (e6 > e7)) then (k0 1) else (l0 x1 x2 (IntKind.i64.wrap (x3 + 1)))) else none) else none)) else none) else none) else (k1)
def Uca (n : Nat) : Nat → LP → LP → Int → (Int → O R) → (O R) → O R
  | 0, _, _, _, _, _ => none
  | m + 1, x1, x2, x3, k0, k1 => Ue0 n (fun x1 x2 x3 => Uca n m x1 x2 x3 k0 k1) x1 x2 x3 k0 k1
def Use (n : Nat) (x1 x2 : LP) (x3 : Int) (k0 : Int → O R) (k1 : O R) : O R := Uca n n x1 x2 x3 k0 k1
def UDq (n : Nat) (x1 x2 : LP) (k0 : Int → O R) : O R :=
  bif (((x1).length : Int) != ((x2).length : Int)) then (bif (decide (((x1).length : Int) < ((x2).length : Int))) then (k0 (-1)) else (k0 1)) else (Use n x1 x2 0 (fun y3 => k0 y3) (k0 0))
abbrev UK3 (n : Nat) : Code → Fr → Kc R → O R := evC Tryz.prog (Upm n) UcQ n (40, [])
noncomputable def Uow : Code := Jj4 (Jll Tryz.f147) [1, 1, 0, 1, 0, 0]
abbrev Uei : Sl (List SV) := (cH (cH (cI .n)))
abbrev UjW (n m : Nat) (K : Kc R) : Uei.T (O R) := fun x1 x2 x3 => Uca n m x1 x2 x3 (fun y1 => xL UcQ 6 K .ret [vI y1]) (xL UcQ 6 K (.exit 0) [dD])
abbrev UxI (n : Nat) (K : Kc R) (l0 : Uei.T (O R)) : Uei.T (O R) := fun x1 x2 x3 => Ue0 n l0 x1 x2 x3 (fun y1 => xL UcQ 6 K .ret [vI y1]) (xL UcQ 6 K (.exit 0) [dD])
abbrev UC7 (n : Nat) : Orc R := oL UcQ (UK3 n) n 6 Uow Uei (UjW n n) oN
abbrev UBz (n : Nat) : Orc R := oN
abbrev UI0 (R : Type) (n : Nat) := JcH (R := R) Tryz.prog (Upm n) UcQ n (40, []) (UC7 n) (UBz n)
theorem UzU (n : Nat) : UI0 R n (false, 6, Uow) := JkF (lo := UC7 n) (cu := UBz n) (pO pN (by kernel_rfl)) Uei (UjW n n) (JiE (F := UjW n) Uei (UxI n) (fun K _ _ _ => rfl) (fun _ _ => rfl) (fun L K _ _ _ => by show _ = _; kernel_rfl) n) fun _ _ => rfl
theorem UH1 (n : Nat) : Je6 (UI0 R n) (JaJ UcQ (Jll Tryz.f147)) := pO (pC (UzU n) pN) (by kernel_rfl)
abbrev UIy : Sl (List SV) := (cH (cH .n))
abbrev f147 (n : Nat) (K : List SV → O R) : UIy.T (O R) := fun x1 x2 => UDq n x1 x2 (fun y1 => K [vI y1])
abbrev UyW (n : Nat) : FS := fT [false, false] UIy (f147 n)
theorem UDg (n : Nat) : FSound Tryz.prog GI 147 (UyW n) := gd UcQ n (Ul8 n) Tryz.func147 (.cons (Ul8 n) UIy (f147 n) (fun K _ _ => (Jkq (c := Jll Tryz.f147) (by kernel_rfl) (UH1 n) K).trans (by kernel_rfl)) .nil) (by kernel_rfl)
def UnU : Ann := { loops := [], cuts := [], frz := [], rm := [.id] }
abbrev Uvx (n : Nat) : Env := eN
theorem Uma (n : Nat) : EnvOK Tryz.prog GI (Uvx n) := .nil
def UDr (n : Nat) (x1 : LP) (x2 : Int) (k0 : Int → O R) : O R :=
  bif (decide (x2 ≥ ((x1).length : Int))) then (k0 0) else (let v3 := IntKind.i64.wrap (((x1).length : Int) - 1); bif (inR (IntKind.i64.wrap (v3 - x2)) ((x1).length)) then (Jj .i64 ((x1).getD ((IntKind.i64.wrap (v3 - x2) : Int).toNat) (.v (.bool false))) fun e4 => k0 e4) else none)
abbrev UGz (n : Nat) : Orc R := oN
abbrev UFP (n : Nat) : Orc R := oN
abbrev ULg (R : Type) (n : Nat) := JcH (R := R) Tryz.prog (Uvx n) UnU n (17, []) (UGz n) (UFP n)
theorem UH4 (n : Nat) : Je6 (ULg R n) (JaJ UnU (Jll Tryz.f172)) := pO pN (by kernel_rfl)
abbrev UIA : Sl (List SV) := (cH (cI .n))
abbrev f172 (n : Nat) (K : List SV → O R) : UIA.T (O R) := fun x1 x2 => UDr n x1 x2 (fun y1 => K [vI y1])
abbrev UCR (n : Nat) : FS := fT [false, false] UIA (f172 n)
theorem UHb (n : Nat) : FSound Tryz.prog GI 172 (UCR n) := gd UnU n (Uma n) Tryz.func172 (.cons (Uma n) UIA (f172 n) (fun K _ _ => (Jkq (c := Jll Tryz.f172) (by kernel_rfl) (UH4 n) K).trans (by kernel_rfl)) .nil) (by kernel_rfl)
def Ua1 : Ann := { loops := [(4, [(0, .id), (1, .id), (2, .id), (7, .own 3), (8, .id), (9, .id)], ids [6, 7])], cuts := [(5, ids [0, 1, 2, 7, 8, 9], ids [0, 1, 2, 6, 7, 8, 9]), (6, ids [0, 1, 2, 7, 8, 9], ids [0, 1, 2, 6, 7, 8, 9]), (11, ids [0, 1, 2, 7, 8, 9, 10], ids [0, 1, 2, 6, 7, 8, 9]), (14, ids [0, 1, 2, 7, 8, 9, 10], ids [0, 1, 2, 6, 7, 8, 9])], frz := [], rm := [.id] }
abbrev Upl (n : Nat) : Env := eC 172 (UCR n) eN
theorem Ul7 (n : Nat) : EnvOK Tryz.prog GI (Upl n) := .cons (.nil) (UHb n)
def UaV (n : Nat) (x1 x2 : LP) (x3 : Int) (x4 : LP) (x5 x6 x7 : Int) (k0 : LP → LP → Int → LP → Int → Int → O R) : O R :=
  bif (Jbu (1 + (x4).length) 8) then (k0 x1 x2 x3 (([.v (.int .i64 x7)] : LP) ++ x4) x5 x6) else none
def UaU (n : Nat) (x1 x2 : LP) (x3 : Int) (x4 : LP) (x5 x6 x7 : Int) (k0 : LP → LP → Int → LP → Int → Int → O R) : O R :=
  bif (decide (x7 > 9)) then (UaV n x1 x2 x3 x4 1 x6 (IntKind.i64.wrap (x7 - 10)) (fun y8 y9 y10 y11 y12 y13 => k0 y8 y9 y10 y11 y12 y13)) else (UaV n x1 x2 x3 x4 x5 x6 x7 (fun y14 y15 y16 y17 y18 y19 => k0 y14 y15 y16 y17 y18 y19))
def Ubv (n : Nat) (x1 x2 : LP) (x3 : Int) (x4 : LP) (x5 x6 : Int) (k0 : LP → LP → Int → LP → Int → Int → O R) : O R :=
  k0 x1 x2 x3 x4 x5 (IntKind.i64.wrap (x6 + 1))
def UaQ (n : Nat) (x1 x2 : LP) (x3 : Int) (x4 : LP) (x5 x6 : Int) (k0 : LP → LP → Int → LP → Int → Int → O R) : O R :=
  UDr n x1 x6 (fun y7 => UDr n x2 x6 (fun y8 => let v9 := IntKind.i64.wrap (y7 + (IntKind.i64.wrap (x3 * y8))); bif (decide (IntKind.i64.wrap (v9 + x5) < 0)) then (let v10 := IntKind.i64.wrap ((IntKind.i64.wrap (v9 + x5)) + 10); UaU n x1 x2 x3 x4 (-1) x6 v10 (fun y11 y12 y13 y14 y15 y16 => Ubv n y11 y12 y13 y14 y15 y16 (fun y17 y18 y19 y20 y21 y22 => k0 y17 y18 y19 y20 y21 y22))) else (UaU n x1 x2 x3 x4 0 x6 (IntKind.i64.wrap (v9 + x5)) (fun y23 y24 y25 y26 y27 y28 => Ubv n y23 y24 y25 y26 y27 y28 (fun y29 y30 y31 y32 y33 y34 => k0 y29 y30 y31 y32 y33 y34)))))
def Uhx (n : Nat) (l0 : LP → LP → Int → LP → Int → Int → O R) (x1 x2 : LP) (x3 : Int) (x4 : LP) (x5 x6 : Int) (k0 : LP → O R) : O R :=
  bif (decide (x6 < ((x1).length : Int))) then (UaQ n x1 x2 x3 x4 x5 x6 (fun y7 y8 y9 y10 y11 y12 => l0 y7 y8 y9 y10 y11 y12)) else (bif (bif false then true else (decide (x6 < ((x2).length : Int)))) then (UaQ n x1 x2 x3 x4 x5 x6 (fun y13 y14 y15 y16 y17 y18 => l0 y13 y14 y15 y16 y17 y18)) else (bif (bif false then true else (x5 != 0)) then (UaQ n x1 x2 x3 x4 x5 x6 (fun y19 y20 y21 y22 y23 y24 => l0 y19 y20 y21 y22 y23 y24)) else (k0 x4)))
def Uc (n : Nat) : Nat → LP → LP → Int → LP → Int → Int → (LP → O R) → O R
  | 0, _, _, _, _, _, _, _ => none
  | m + 1, x1, x2, x3, x4, x5, x6, k0 => Uhx n (fun x1 x2 x3 x4 x5 x6 => Uc n m x1 x2 x3 x4 x5 x6 k0) x1 x2 x3 x4 x5 x6 k0
def Usd (n : Nat) (x1 x2 : LP) (x3 : Int) (x4 : LP) (x5 x6 : Int) (k0 : LP → O R) : O R := Uc n n x1 x2 x3 x4 x5 x6 k0
def Uzg (n : Nat) (x1 x2 : LP) (x3 : Int) (k0 : LP → O R) : O R :=
  Usd n x1 x2 x3 [] 0 0 (fun y4 => k0 y4)
abbrev UAM (n : Nat) : Code → Fr → Kc R → O R := evC Tryz.prog (Upl n) Ua1 n (51, [])
noncomputable def Uot : Code := Jj4 (Jll Tryz.f146) [1, 1, 1, 0, 1, 0, 0, 1, 1]
abbrev UkH : Sl (List SV) := (cH (cH (cI (cO 3 (cI (cI .n))))))
abbrev UqR (n : Nat) (K : Kc R) : UkH.T (O R) := fun x1 x2 x3 x4 x5 x6 => Ubv n x1 x2 x3 x4 x5 x6 (fun y1 y2 y3 y4 y5 y6 => xC Ua1 5 K .normal [vH y1, vH y2, vI y3, dD, .own 3 y4, vI y5, vI y6])
noncomputable def Uou : Code := Jj4 (Jll Tryz.f146) [1, 1, 1, 0, 1, 0, 0, 1]
abbrev UkI : Sl (List SV) := (cH (cH (cI (cO 3 (cI (cI .n))))))
abbrev UqS (n : Nat) (K : Kc R) : UkI.T (O R) := fun x1 x2 x3 x4 x5 x6 => UaQ n x1 x2 x3 x4 x5 x6 (fun y1 y2 y3 y4 y5 y6 => xC Ua1 6 K .normal [vH y1, vH y2, vI y3, dD, .own 3 y4, vI y5, vI y6])
noncomputable def Ulm : Code := Jj4 (Jll Tryz.f146) [1, 1, 1, 0, 1, 0, 0, 1, 0, 0, 1, 1, 1]
abbrev Uiw : Sl (List SV) := (cH (cH (cI (cO 3 (cI (cI (cI .n)))))))
abbrev Umt (n : Nat) (K : Kc R) : Uiw.T (O R) := fun x1 x2 x3 x4 x5 x6 x7 => UaU n x1 x2 x3 x4 x5 x6 x7 (fun y1 y2 y3 y4 y5 y6 => xC Ua1 11 K .normal [vH y1, vH y2, vI y3, dD, .own 3 y4, vI y5, vI y6])
noncomputable def Uln : Code := Jj4 (Jll Tryz.f146) [1, 1, 1, 0, 1, 0, 0, 1, 0, 0, 1, 1, 1, 1]
abbrev Uix : Sl (List SV) := (cH (cH (cI (cO 3 (cI (cI (cI .n)))))))
abbrev Umu (n : Nat) (K : Kc R) : Uix.T (O R) := fun x1 x2 x3 x4 x5 x6 x7 => UaV n x1 x2 x3 x4 x5 x6 x7 (fun y1 y2 y3 y4 y5 y6 => xC Ua1 14 K .normal [vH y1, vH y2, vI y3, dD, .own 3 y4, vI y5, vI y6])
noncomputable def Uov : Code := Jj4 (Jll Tryz.f146) [1, 1, 1, 0, 1, 0, 0]
abbrev Ueh : Sl (List SV) := (cH (cH (cI (cO 3 (cI (cI .n))))))
abbrev UjV (n m : Nat) (K : Kc R) : Ueh.T (O R) := fun x1 x2 x3 x4 x5 x6 => Uc n m x1 x2 x3 x4 x5 x6 (fun y1 => xL Ua1 4 K (.exit 0) [dD, .own 3 y1])
abbrev UxH (n : Nat) (K : Kc R) (l0 : Ueh.T (O R)) : Ueh.T (O R) := fun x1 x2 x3 x4 x5 x6 => Uhx n l0 x1 x2 x3 x4 x5 x6 (fun y1 => xL Ua1 4 K (.exit 0) [dD, .own 3 y1])
abbrev Unq (n : Nat) : Orc R := oL Ua1 (UAM n) n 4 Uov Ueh (UjV n n) oN
abbrev Unj (n : Nat) : Orc R := oC Ua1 (UAM n) 14 Uln Uix (Umu n) (oC Ua1 (UAM n) 11 Ulm Uiw (Umt n) (oC Ua1 (UAM n) 6 Uou UkI (UqS n) (oC Ua1 (UAM n) 5 Uot UkH (UqR n) oN)))
abbrev UAu (R : Type) (n : Nat) := JcH (R := R) Tryz.prog (Upl n) Ua1 n (51, []) (Unq n) (Unj n)
theorem Uuh (n : Nat) : UAu R n (true, 14, Uln) := JkW (lo := Unq n) (cu := Unj n) (pO pN (by kernel_rfl)) Uix (Umu n) (fun K _ _ _ _ _ _ _ => by show _ = _; kernel_rfl) fun _ _ => rfl
theorem Uug (n : Nat) : UAu R n (true, 11, Ulm) := JkW (lo := Unq n) (cu := Unj n) (pO (pC (Uuh n) pN) (by kernel_rfl)) Uiw (Umt n) (fun K _ _ _ _ _ _ _ => by show _ = _; kernel_rfl) fun _ _ => rfl
theorem UzR (n : Nat) : UAu R n (true, 5, Uot) := JkW (lo := Unq n) (cu := Unj n) (pO pN (by kernel_rfl)) UkH (UqR n) (fun K _ _ _ _ _ _ => by show _ = _; kernel_rfl) fun _ _ => rfl
theorem UzS (n : Nat) : UAu R n (true, 6, Uou) := JkW (lo := Unq n) (cu := Unj n) (pO (pC (Uug n) (pC (UzR n) pN)) (by kernel_rfl)) UkI (UqS n) (fun K _ _ _ _ _ _ => by show _ = _; kernel_rfl) fun _ _ => rfl
theorem UzT (n : Nat) : UAu R n (false, 4, Uov) := JkF (lo := Unq n) (cu := Unj n) (pO (pC (UzS n) pN) (by kernel_rfl)) Ueh (UjV n n) (JiE (F := UjV n) Ueh (UxH n) (fun K _ _ _ _ _ _ => rfl) (fun _ _ => rfl) (fun L K _ _ _ _ _ _ => by show _ = _; kernel_rfl) n) fun _ _ => rfl
theorem UH0 (n : Nat) : Je6 (UAu R n) (JaJ Ua1 (Jll Tryz.f146)) := pO (pC (UzT n) pN) (by kernel_rfl)
abbrev t146 : Sl (List SV) := (cH (cH (cI .n)))
abbrev f146 (n : Nat) (K : List SV → O R) : t146.T (O R) := fun x1 x2 x3 => Uzg n x1 x2 x3 (fun y1 => K [vH y1])
abbrev UyV (n : Nat) : FS := fT [false, false, false] t146 (f146 n)
theorem UDf (n : Nat) : FSound Tryz.prog GI 146 (UyV n) := gd Ua1 n (Ul7 n) Tryz.func146 (.cons (Ul7 n) t146 (f146 n) (fun K _ _ _ => (Jkq (c := Jll Tryz.f146) (by kernel_rfl) (UH0 n) K).trans (by kernel_rfl)) .nil) (by kernel_rfl)
def UnO : Ann := { loops := [], cuts := [], frz := [], rm := [.id] }
abbrev Uvr (n : Nat) : Env := eC 147 (UyW n) (eC 146 (UyV n) (eC 122 (UiU n) eN))
theorem UlW (n : Nat) : EnvOK Tryz.prog GI (Uvr n) := .cons (.cons (.cons (.nil) (Uj7 n)) (UDf n)) (UDg n)
def UDn (n : Nat) (x1 : Bool) (x2 : LP) (x3 : Bool) (x4 : LP) (k0 : Bool → LP → O R) : O R :=
  bif (x1 == x3) then (Uzg n x2 x4 1 (fun y5 => UmQ n x1 y5 (fun y6 y7 => k0 y6 y7))) else (UDq n x2 x4 (fun y8 => bif (decide (y8 < 0)) then (Uzg n x4 x2 (-1) (fun y9 => UmQ n x3 y9 (fun y10 y11 => k0 y10 y11))) else (Uzg n x2 x4 (-1) (fun y12 => UmQ n x1 y12 (fun y13 y14 => k0 y13 y14)))))
abbrev UGs (n : Nat) : Orc R := oN
abbrev UFI (n : Nat) : Orc R := oN
abbrev ULa (R : Type) (n : Nat) := JcH (R := R) Tryz.prog (Uvr n) UnO n (40, []) (UGs n) (UFI n)
theorem UHP (n : Nat) : Je6 (ULa R n) (JaJ UnO (Jll Tryz.f124)) := pO pN (by kernel_rfl)
abbrev t124 : Sl (List SV) := (.c (sP (JlI (.c Jlf (.c sSh .n)))) (.c (sP (JlI (.c Jlf (.c sSh .n)))) .n))
abbrev f124 (n : Nat) (K : List SV → O R) : t124.T (O R) := fun x1 x2 x3 x4 => UDn n x1 x2 x3 x4 (fun y1 y2 => K [.p (.agg [.v (.bool y1), .sh y2])])
abbrev UyS (n : Nat) : FS := fT [false, false] t124 (f124 n)
theorem UDc (n : Nat) : FSound Tryz.prog GI 124 (UyS n) := gd UnO n (UlW n) Tryz.func124 (.cons (UlW n) t124 (f124 n) (fun K _ _ _ _ => (Jkq (c := Jll Tryz.f124) (by kernel_rfl) (UHP n) K).trans (by kernel_rfl)) .nil) (by kernel_rfl)
def Uxi : Ann := { loops := [], cuts := [], frz := [], rm := [.id] }
abbrev UB9 (n : Nat) : Env := eC 122 (UiU n) eN
theorem Uqs (n : Nat) : EnvOK Tryz.prog GI (UB9 n) := .cons (.nil) (Uj7 n)
def p90 (n : Nat) (x1 : Bool) (x2 : LP) (k0 : Bool → LP → O R) : O R :=
  UmQ n (!x1) x2 (fun y3 y4 => k0 y3 y4)
abbrev UMx (n : Nat) : Orc R := oN
abbrev ULR (n : Nat) : Orc R := oN
abbrev K90 (R : Type) (n : Nat) := JcH (R := R) Tryz.prog (UB9 n) Uxi n (9, []) (UMx n) (ULR n)
theorem UOl (n : Nat) : Je6 (K90 R n) (JaJ Uxi (Jll Tryz.f90)) := pO pN (by kernel_rfl)
abbrev t90 : Sl (List SV) := (.c (sP (JlI (.c Jlf (.c sSh .n)))) .n)
abbrev f90 (n : Nat) (K : List SV → O R) : t90.T (O R) := fun x1 x2 => p90 n x1 x2 (fun y1 y2 => K [.p (.agg [.v (.bool y1), .sh y2])])
abbrev UGe (n : Nat) : FS := fT [false] t90 (f90 n)
theorem UKK (n : Nat) : FSound Tryz.prog GI 90 (UGe n) := gd Uxi n (Uqs n) Tryz.func90 (.cons (Uqs n) t90 (f90 n) (fun K _ _ => (Jkq (c := Jll Tryz.f90) (by kernel_rfl) (UOl n) K).trans (by kernel_rfl)) .nil) (by kernel_rfl)
def UnN : Ann := { loops := [], cuts := [], frz := [], rm := [.id] }
abbrev Uvq (n : Nat) : Env := eC 124 (UyS n) (eC 90 (UGe n) eN)
theorem UlT (n : Nat) : EnvOK Tryz.prog GI (Uvq n) := .cons (.cons (.nil) (UKK n)) (UDc n)
def Uze (n : Nat) (x1 : Bool) (x2 : LP) (x3 : Bool) (x4 : LP) (k0 : Bool → LP → O R) : O R :=
  p90 n x3 x4 (fun y5 y6 => UDn n x1 x2 y5 y6 (fun y7 y8 => k0 y7 y8))
abbrev UGr (n : Nat) : Orc R := oN
abbrev UFH (n : Nat) : Orc R := oN
abbrev UL (R : Type) (n : Nat) := JcH (R := R) Tryz.prog (Uvq n) UnN n (9, []) (UGr n) (UFH n)
theorem UHM (n : Nat) : Je6 (UL R n) (JaJ UnN (Jll Tryz.f121)) := pO pN (by kernel_rfl)
abbrev UIo : Sl (List SV) := (.c (sP (JlI (.c Jlf (.c sSh .n)))) (.c (sP (JlI (.c Jlf (.c sSh .n)))) .n))
abbrev f121 (n : Nat) (K : List SV → O R) : UIo.T (O R) := fun x1 x2 x3 x4 => Uze n x1 x2 x3 x4 (fun y1 y2 => K [.p (.agg [.v (.bool y1), .sh y2])])
abbrev UyR (n : Nat) : FS := fT [false, false] UIo (f121 n)
theorem UDb (n : Nat) : FSound Tryz.prog GI 121 (UyR n) := gd UnN n (UlT n) Tryz.func121 (.cons (UlT n) UIo (f121 n) (fun K _ _ _ _ => (Jkq (c := Jll Tryz.f121) (by kernel_rfl) (UHM n) K).trans (by kernel_rfl)) .nil) (by kernel_rfl)
def Uxh : Ann := { loops := [], cuts := [], frz := [], rm := [.id] }
abbrev UB8 (n : Nat) : Env := eC 121 (UyR n) eN
theorem Uqq (n : Nat) : EnvOK Tryz.prog GI (UB8 n) := .cons (.nil) (UDb n)
def p88 (n : Nat) (x1 : Bool) (x2 : LP) (x3 : Bool) (x4 : LP) (k0 : Int → O R) : O R :=
  Uze n x1 x2 x3 x4 (fun y5 y6 => bif (((y6).length : Int) == 0) then (k0 0) else (bif y5 then (k0 (-1)) else (k0 1)))
abbrev UMw (n : Nat) : Orc R := oN
abbrev ULQ (n : Nat) : Orc R := oN
abbrev K88 (R : Type) (n : Nat) := JcH (R := R) Tryz.prog (UB8 n) Uxh n (15, []) (UMw n) (ULQ n)
theorem UOj (n : Nat) : Je6 (K88 R n) (JaJ Uxh (Jll Tryz.f88)) := pO pN (by kernel_rfl)
abbrev t88 : Sl (List SV) := (.c (sP (JlI (.c Jlf (.c sSh .n)))) (.c (sP (JlI (.c Jlf (.c sSh .n)))) .n))
abbrev f88 (n : Nat) (K : List SV → O R) : t88.T (O R) := fun x1 x2 x3 x4 => p88 n x1 x2 x3 x4 (fun y1 => K [vI y1])
abbrev UJ7 (n : Nat) : FS := fT [false, false] t88 (f88 n)
theorem UNe (n : Nat) : FSound Tryz.prog GI 88 (UJ7 n) := gd Uxh n (Uqq n) Tryz.func88 (.cons (Uqq n) t88 (f88 n) (fun K _ _ _ _ => (Jkq (c := Jll Tryz.f88) (by kernel_rfl) (UOj n) K).trans (by kernel_rfl)) .nil) (by kernel_rfl)
end
end Go.Proofs.YtmgfmlhdnadglaaGreatDoor
set_option linter.unusedVariables false
set_option linter.unusedSimpArgs false
namespace Go.Proofs.YtmgfmlhdnadglaaGreatDoor
open Go Th Go.Proofs
variable {R : Type}
def II (a : Nat) : List PV := nl .i64 (DL a)
def ll (a : Nat) : Nat := (toL 10 a).length
theorem Uaa (a : Nat) : (DL a).length = ll a := by unfold DL ll; rw [List.length_reverse]
theorem Uas (a : Nat) : (II a).length = ll a := by unfold II; rw [Jjd, Uaa]
theorem Udt {a k : Nat} : ll a ≤ k ↔ a < 10 ^ k := Uah hT2 a k
theorem Ua5 {a b : Nat} (h : a ≤ b) : ll a ≤ ll b := Udt.2 (Nat.lt_of_le_of_lt h (Udt.1 (Nat.le_refl _)))
theorem UmH (a b : Nat) : ll (a * b) ≤ ll a + ll b := by
  rw [Udt, Nat.pow_add]
  exact Nat.mul_lt_mul_of_lt_of_lt (Udt.1 (Nat.le_refl _)) (Udt.1 (Nat.le_refl _))
theorem UvY {a b k : Nat} (ha : ll a ≤ k) (hb : ll b ≤ k) : ll (a + b) ≤ k + 1 := by
  rw [Udt] at *
  rw [Nat.pow_succ]; omega
theorem Ubq : ll 0 = 0 := by unfold ll; rw [Uai]; rfl
theorem Ucr {a : Nat} : ll a = 0 ↔ a = 0 := by
  constructor
  · intro h; exact (Ubj hT2).1 (List.eq_nil_of_length_eq_zero h)
  · intro h; rw [h, Ubq]
theorem UnE : II 0 = [] := by unfold II; rw [Ujm]; rfl
theorem UfU (l : List Nat) : (l.dropWhile (· == 0)).head? ≠ some 0 := by
  induction l with
  | nil => simp
  | cons d r ih =>
    rw [List.dropWhile_cons]
    by_cases h : d = 0
    · rw [if_pos (by simpa using h)]; exact ih
    · rw [if_neg (by simpa using h)]; simpa using h
theorem Ujj (l : List Nat) : vb (l.dropWhile (· == 0)) = vb l := by
  induction l with
  | nil => rfl
  | cons d r ih =>
    rw [List.dropWhile_cons]
    by_cases h : d = 0
    · rw [if_pos (by simpa using h), ih, h, UcK]; omega
    · rw [if_neg (by simpa using h)]
theorem UiI {l : List Nat} (h : ∀ d ∈ l, d < 10) : DL (vb l) = l.dropWhile (· == 0) := by
  rw [← Ujj]
  exact UAK (fun d hd => h d ((List.dropWhile_sublist _).subset hd)) (UfU l)
theorem Uf0 (n : Nat) (neg x3 : Bool) (k0 : Bool → List PV → Bool → Option R) : ∀ (m : Nat) (l : List Nat), l.length < m → l.length < 2 ^ 40 → Ub6 n m neg (nl .i64 l) x3 k0 = k0 neg (nl .i64 (l.dropWhile (· == 0))) x3
  | m + 1, [], hm, hl => by
    simp only [Ub6, UeU]
    simp (disch := (first | omega | (simp only [JlE]; omega))) only [↓JlH, JlF, JlG]
    rfl
  | m + 1, d :: r, hm, hl => by
    rw [List.length_cons] at hm hl
    simp only [Ub6, UeU]
    have hg : ∀ (K : Int → Option R), Jj .i64 ((nl .i64 (d :: r)).getD (0 : Int).toNat (PV.v (Value.bool false))) K = K (d : Int) := fun K => Jhl (l := d :: r) (i := 0) (by simp)
    have e1 : List.drop (1 : Int).toNat (List.take (r.length + 1) (d :: r)) = r := by
      show List.drop 1 (d :: List.take r.length r) = r
      rw [List.take_length]; rfl
    have e2 : List.drop (0 + 1) (List.take (r.length + 1) (d :: r)) = r := e1
    rw [List.dropWhile_cons]
    by_cases h : d = 0
    · have ih := Uf0 n neg x3 k0 m r (by omega) (by omega)
      rw [if_pos (by simpa using h)]
      subst h
      have e3 : ((0 : Nat) == 0) = true := rfl
      simp (disch := (first | omega | (simp only [JlE]; omega))) only [↓JlH, JlF, JlG, hg, Jk0, e1, e2, e3, ih, List.length_cons]
    · have e3 : (d == 0) = false := by simpa using h
      rw [if_neg (by simpa using h)]
      simp (disch := (first | omega | (simp only [JlE]; omega))) only [↓JlH, JlF, JlG, hg, Jk0, e1, e2, e3, List.length_cons]
theorem UaB (n : Nat) (neg : Bool) (l : List Nat) (h : ∀ d ∈ l, d < 10) (hn : l.length < n) (hl : l.length < 2 ^ 40) (k0 : Bool → List PV → Option R) : UmQ n neg (nl .i64 l) k0 = k0 (neg && !(vb l == 0)) (II (vb l)) := by
  unfold UmQ Ur6
  rw [Uf0 n neg false _ n l hn hl, ← UiI h]
  by_cases h0 : vb l = 0
  · rw [h0, UnE, Ujm]
    simp [nl]
  · have e1 : ((ll (vb l) : Int) == 0) = false := by
      rw [Jk0]; simp only [beq_eq_false_iff_ne, ne_eq]
      intro e; exact h0 (Ucr.1 e)
    have e2 : (vb l == 0) = false := by simpa using h0
    rw [Jjd, Uaa, e1, e2]
    simp [II]
theorem UcU {l : List Nat} {i : Nat} (h : i < l.length) : l.drop i = l.getD i 0 :: l.drop (i + 1) := by
  rw [List.drop_eq_getElem_cons h, List.getD_eq_getElem?_getD, List.getElem?_eq_getElem h]; rfl
theorem Ui7 (n : Nat) (la lb : List Nat) (ha : ∀ d ∈ la, d < 10) (hb : ∀ d ∈ lb, d < 10) (hlen : la.length = lb.length) (hl : la.length < 2 ^ 40) (k0 : Int → Option R) (k1 : Option R) :
    ∀ (d m i : Nat), d + i = la.length → d < m → Uca n m (nl .i64 la) (nl .i64 lb) (i : Int) k0 k1 =
      if vb (la.drop i) < vb (lb.drop i) then k0 (-1) else if vb (lb.drop i) < vb (la.drop i) then k0 1 else k1
  | 0, m + 1, i, h, hm => by
    rw [List.drop_eq_nil_of_le (by omega), List.drop_eq_nil_of_le (by omega)]
    simp only [Uca, Ue0]
    simp (disch := (first | omega | (simp only [JlE]; omega))) only [↓JlH, JlF, JlG]
  | d + 1, m + 1, i, h, hm => by
    have ih := Ui7 n la lb ha hb hlen hl k0 k1 d m (i + 1) (by omega) (by omega)
    have e1 : (i : Int) + 1 = ((i + 1 : Nat) : Int) := by omega
    have va := UAr (la.drop (i + 1)) (fun x hx => ha x (List.mem_of_mem_drop hx))
    have vb' := UAr (lb.drop (i + 1)) (fun x hx => hb x (List.mem_of_mem_drop hx))
    rw [UcU (by omega : i < la.length), UcU (by omega : i < lb.length), UcK, UcK]
    have el : (lb.drop (i + 1)).length = (la.drop (i + 1)).length := by rw [List.length_drop, List.length_drop, hlen]
    rw [el] at vb' ⊢
    simp only [Uca, Ue0]
    by_cases h1 : la.getD i 0 < lb.getD i 0
    · simp (disch := (first | omega | (simp only [JlE]; omega))) only [↓JlH, JlF, JlG, e1]
      have : (la.getD i 0 + 1) * 10 ^ (la.drop (i + 1)).length ≤ lb.getD i 0 * 10 ^ (la.drop (i + 1)).length := Nat.mul_le_mul_right _ h1
      rw [Nat.succ_mul] at this
      rw [if_pos (by omega)]
    · by_cases h2 : lb.getD i 0 < la.getD i 0
      · simp (disch := (first | omega | (simp only [JlE]; omega))) only [↓JlH, JlF, JlG, e1]
        have : (lb.getD i 0 + 1) * 10 ^ (la.drop (i + 1)).length ≤ la.getD i 0 * 10 ^ (la.drop (i + 1)).length := Nat.mul_le_mul_right _ h2
        rw [Nat.succ_mul] at this
        rw [if_neg (by omega), if_pos (by omega)]
      · have h3 : la.getD i 0 = lb.getD i 0 := by omega
        simp (disch := (first | omega | (simp only [JlE]; omega))) only [↓JlH, JlF, JlG, e1, ih]
        rw [h3]
        simp only [Nat.add_lt_add_iff_left]
theorem UsC (n a b : Nat) (ha : ll a < 2 ^ 40) (hb : ll b < 2 ^ 40) (hn : ll a < n) (k0 : Int → Option R) : UDq n (II a) (II b) k0 = k0 (Uct a b) := by
  unfold UDq Use
  rw [Uas, Uas, JjY]
  by_cases he : ll a = ll b
  · have e1 : (ll a != ll b) = false := by simp [he]
    have hlp := Ui7 n (DL a) (DL b) (Uew a) (Uew b) (by rw [Uaa, Uaa, he]) (by rw [Uaa]; exact ha) (fun y => k0 y) (k0 0) (ll a) n 0 (by rw [Uaa]; omega) hn
    rw [List.drop_zero, List.drop_zero, UfQ, UfQ] at hlp
    rw [e1, cond_false]
    unfold II
    rw [show ((0 : Nat) : Int) = 0 from rfl] at hlp
    rw [hlp]
    unfold Uct
    split
    · rfl
    · split <;> rfl
  · have e1 : (ll a != ll b) = true := by simpa using he
    rw [e1, cond_true]
    unfold Uct
    by_cases hlt : ll a < ll b
    · have h2 := Ubk hT2 hlt
      rw [Jkf (by omega), if_pos h2]
    · have h2 := Ubk hT2 (x := b) (y := a) (by unfold ll at *; omega)
      rw [c_neg (by omega), if_neg (by omega), if_pos h2]
theorem Ulu (n a i : Nat) (ha : ll a < 2 ^ 40) (hi : i < 2 ^ 40) (k0 : Int → Option R) : UDr n (II a) i k0 = k0 (((toL 10 a).getD i 0 : Nat) : Int) := by
  unfold UDr II
  have hll : (toL 10 a).length = ll a := rfl
  by_cases h : ll a ≤ i
  · rw [Ubp h]
    simp (disch := (first | omega | (simp only [JlE]; omega))) only [↓JlH, JlF, JlG, Uaa]
    rfl
  · have hr : (DL a).getD (ll a - 1 - i) 0 = (toL 10 a).getD i 0 := by
      unfold DL
      rw [List.getD_eq_getElem?_getD, List.getD_eq_getElem?_getD, List.getElem?_reverse (by omega)]
      congr 2
      omega
    have e1 : ((ll a : Int) - 1) - (i : Int) = ((ll a - 1 - i : Nat) : Int) := by omega
    have hg : ∀ (K : Int → Option R), Jj .i64 ((nl .i64 (DL a)).getD (ll a - 1 - i) (PV.v (Value.bool false))) K = K (((toL 10 a).getD i 0 : Nat) : Int) := fun K => by
      rw [Jhl (by rw [Uaa]; omega), hr]
    simp (disch := (first | omega | (simp only [JlE]; omega))) only [↓JlH, JlF, JlG, Uaa, e1, hg]
theorem Unz (n a b : Nat) (f : Int) (hf : f = 1 ∨ f = -1) (ha : ll a < 2 ^ 30) (hb : ll b < 2 ^ 30) (o : List Nat) (c : Int) (hc : -1 ≤ c ∧ c ≤ 1) (i : Nat) (hi : i < 2 ^ 31) (ho : o.length = i) :
    ∃ (r : Nat) (c' : Int), (∀ k0 : List PV → List PV → Int → List PV → Int → Int → Option R, UaQ n (II a) (II b) f (nl .i64 o.reverse) c i k0 = k0 (II a) (II b) f (nl .i64 (o ++ [r]).reverse) c' ((i + 1 : Nat) : Int)) ∧ r < 10 ∧ -1 ≤ c' ∧ c' ≤ 1 ∧
      (((toL 10 a).getD i 0 : Nat) : Int) + f * (((toL 10 b).getD i 0 : Nat) : Int) + c = (r : Int) + 10 * c' := by
  have hx := Uac hT2 (UaO hT2 a) i
  have hy := Uac hT2 (UaO hT2 b) i
  have d1 := fun k0 => Ulu (R := R) n a i (by omega) (by omega) k0
  have d2 := fun k0 => Ulu (R := R) n b i (by omega) (by omega) k0
  generalize (toL 10 a).getD i 0 = x at *
  generalize (toL 10 b).getD i 0 = y at *
  obtain ⟨v, hv⟩ : ∃ v : Int, v = (x : Int) + f * (y : Int) + c := ⟨_, rfl⟩
  have hv2 : -11 < v ∧ v < 20 := by rcases hf with rfl | rfl <;> omega
  have e1 : (i : Int) + 1 = ((i + 1 : Nat) : Int) := by omega
  have e2 : ∀ r : Nat, nl .i64 (o ++ [r]).reverse = nl .i64 [r] ++ nl .i64 o.reverse := fun r => by rw [List.reverse_append, ← Jjc]; rfl
  have hol : o.reverse.length = i := by rw [List.length_reverse, ho]
  by_cases h1 : v < 0
  · obtain ⟨r, hr⟩ : ∃ r : Nat, (r : Int) = v + 10 := ⟨(v + 10).toNat, by omega⟩
    refine ⟨r, -1, fun k0 => ?_, by omega, by omega, by omega, by omega⟩
    rw [e2]
    rcases hf with rfl | rfl
    · have e3 : (x : Int) + 1 * (y : Int) + c + 10 = (r : Int) := by omega
      simp only [UaQ, UaU, UaV, Ubv, d1, d2]
      simp (disch := (first | omega | (simp only [JlE]; omega))) only [↓JlH, JlF, JlG, e1, e3, hol, Jln]
    · have e3 : (x : Int) + -1 * (y : Int) + c + 10 = (r : Int) := by omega
      simp only [UaQ, UaU, UaV, Ubv, d1, d2]
      simp (disch := (first | omega | (simp only [JlE]; omega))) only [↓JlH, JlF, JlG, e1, e3, hol, Jln]
  · by_cases h2 : v > 9
    · obtain ⟨r, hr⟩ : ∃ r : Nat, (r : Int) = v - 10 := ⟨(v - 10).toNat, by omega⟩
      refine ⟨r, 1, fun k0 => ?_, by omega, by omega, by omega, by omega⟩
      rw [e2]
      rcases hf with rfl | rfl
      · have e3 : (x : Int) + 1 * (y : Int) + c - 10 = (r : Int) := by omega
        simp only [UaQ, UaU, UaV, Ubv, d1, d2]
        simp (disch := (first | omega | (simp only [JlE]; omega))) only [↓JlH, JlF, JlG, e1, e3, hol, Jln]
      · have e3 : (x : Int) + -1 * (y : Int) + c - 10 = (r : Int) := by omega
        simp only [UaQ, UaU, UaV, Ubv, d1, d2]
        simp (disch := (first | omega | (simp only [JlE]; omega))) only [↓JlH, JlF, JlG, e1, e3, hol, Jln]
    · obtain ⟨r, hr⟩ : ∃ r : Nat, (r : Int) = v := ⟨v.toNat, by omega⟩
      refine ⟨r, 0, fun k0 => ?_, by omega, by omega, by omega, by omega⟩
      rw [e2]
      rcases hf with rfl | rfl
      · have e3 : (x : Int) + 1 * (y : Int) + c = (r : Int) := by omega
        simp only [UaQ, UaU, UaV, Ubv, d1, d2]
        simp (disch := (first | omega | (simp only [JlE]; omega))) only [↓JlH, JlF, JlG, e1, e3, hol, Jln]
      · have e3 : (x : Int) + -1 * (y : Int) + c = (r : Int) := by omega
        simp only [UaQ, UaU, UaV, Ubv, d1, d2]
        simp (disch := (first | omega | (simp only [JlE]; omega))) only [↓JlH, JlF, JlG, e1, e3, hol, Jln]
theorem Uga (n a b : Nat) (f : Int) (hf : f = 1 ∨ f = -1) (ha : ll a < 2 ^ 30) (hb : ll b < 2 ^ 30) (hab : 0 ≤ (a : Int) + f * (b : Int)) (K : Nat) (hK : K = max (ll a) (ll b)) :
    ∀ (m i : Nat) (o : List Nat) (c : Int), K + 2 ≤ m + i → i ≤ K + 1 → (i ≤ K ∨ c = 0) → o.length = i → (∀ d ∈ o, d < 10) → (-1 ≤ c ∧ c ≤ 1) → (val 10 o : Int) + (10 ^ i : Nat) * c = (val 10 ((toL 10 a).take i) : Int) + f * (val 10 ((toL 10 b).take i) : Int) →
      ∃ o' : List Nat, (∀ k0 : List PV → Option R, Uc n m (II a) (II b) f (nl .i64 o.reverse) c i k0 = k0 (nl .i64 o'.reverse)) ∧ (∀ d ∈ o', d < 10) ∧ (val 10 o' : Int) = (a : Int) + f * (b : Int) ∧ o'.length ≤ K + 1
  | 0, i, o, c, hm, hi, hic, ho, hd, hc, hv => by omega
  | m + 1, i, o, c, hm, hi, hic, ho, hd, hc, hv => by
    have go : (i < ll a ∨ i < ll b ∨ c ≠ 0) → i ≤ K → (i = K → c = 1) →
        ∃ o' : List Nat, (∀ k0 : List PV → Option R, UaQ n (II a) (II b) f (nl .i64 o.reverse) c i (fun x1 x2 x3 x4 x5 x6 => Uc n m x1 x2 x3 x4 x5 x6 k0) = k0 (nl .i64 o'.reverse)) ∧ (∀ d ∈ o', d < 10) ∧ (val 10 o' : Int) = (a : Int) + f * (b : Int) ∧ o'.length ≤ K + 1 := by
      intro _ hiK hc1
      obtain ⟨r, c', s1, s2, s3, s4, s5⟩ := Unz (R := R) n a b f hf ha hb o c hc i (by omega) ho
      have hcK : i + 1 ≤ K ∨ c' = 0 := by
        by_cases h : i = K
        · right
          have := hc1 h
          rw [Ubp (by unfold ll at *; omega), Ubp (by unfold ll at *; omega)] at s5
          simp at s5
          omega
        · left; omega
      obtain ⟨o', q1, q2, q3, q4⟩ := Uga n a b f hf ha hb hab K hK m (i + 1) (o ++ [r]) c' (by omega) (by omega) hcK (by rw [List.length_append, ho]; rfl) (by
        intro d h
        rcases List.mem_append.1 h with h | h
        · exact hd d h
        · rw [List.mem_singleton.1 h]; exact s2) ⟨s3, s4⟩ (by
          rw [Uba, ho, Uam, Uam, Nat.pow_succ]
          generalize (toL 10 a).getD i 0 = x at *
          generalize (toL 10 b).getD i 0 = y at *
          generalize val 10 ((toL 10 a).take i) = A at *
          generalize val 10 ((toL 10 b).take i) = B at *
          generalize val 10 o = O at *
          generalize 10 ^ i = P at *
          push_cast
          have : (P : Int) * ((x : Int) + f * (y : Int) + c) = (P : Int) * ((r : Int) + 10 * c') := by rw [s5]
          clear s1 hf hab
          grind)
      exact ⟨o', fun k0 => by rw [s1, q1], q2, q3, q4⟩
    simp only [Uc, Uhx]
    have hA : i < ll a ∨ ¬ i < ll a := Decidable.em _
    have hB : i < ll b ∨ ¬ i < ll b := Decidable.em _
    rcases hA with hA | hA
    · have g1 : i ≤ K := by clear go; omega
      have g2 : i = K → c = 1 := by clear go; omega
      obtain ⟨o', q1, q2⟩ := go (Or.inl hA) g1 g2
      refine ⟨o', fun k0 => ?_, q2⟩
      rw [← q1 k0]
      simp (disch := (first | omega | (simp only [JlE]; omega))) only [↓JlH, JlF, JlG, Uas]
    rcases hB with hB | hB
    · have g1 : i ≤ K := by clear go; omega
      have g2 : i = K → c = 1 := by clear go; omega
      obtain ⟨o', q1, q2⟩ := go (Or.inr (Or.inl hB)) g1 g2
      refine ⟨o', fun k0 => ?_, q2⟩
      rw [← q1 k0]
      simp (disch := (first | omega | (simp only [JlE]; omega))) only [↓JlH, JlF, JlG, Uas]
    rw [List.take_of_length_le (by unfold ll at *; omega), List.take_of_length_le (by unfold ll at *; omega), Uap hT2, Uap hT2] at hv
    have hol := Uev hT2 o hd
    rw [ho] at hol
    by_cases h0 : c = 0
    · subst h0
      rw [Int.mul_zero, Int.add_zero] at hv
      refine ⟨o, fun k0 => ?_, hd, hv, by omega⟩
      have e : ((0 : Int) != 0) = false := rfl
      simp (disch := (first | omega | (simp only [JlE]; omega))) only [↓JlH, JlF, JlG, Uas, e]
    · have h1 : c = 1 := by
        by_cases h : c = -1
        · exfalso
          subst h
          generalize 10 ^ i = P at *
          omega
        · omega
      have g1 : i ≤ K := by clear go; omega
      obtain ⟨o', q1, q2⟩ := go (Or.inr (Or.inr h0)) g1 (fun _ => h1)
      refine ⟨o', fun k0 => ?_, q2⟩
      rw [← q1 k0]
      have e : (c != 0) = true := by simpa using h0
      simp (disch := (first | omega | (simp only [JlE]; omega))) only [↓JlH, JlF, JlG, Uas, e]
theorem Ue9 (n a b : Nat) (f : Int) (hf : f = 1 ∨ f = -1) (ha : ll a < 2 ^ 30) (hb : ll b < 2 ^ 30) (hab : 0 ≤ (a : Int) + f * (b : Int)) (hn : max (ll a) (ll b) + 2 ≤ n) :
    ∃ l : List Nat, (∀ k0 : List PV → Option R, Uzg n (II a) (II b) f k0 = k0 (nl .i64 l)) ∧ (∀ d ∈ l, d < 10) ∧ (vb l : Int) = (a : Int) + f * (b : Int) ∧ l.length ≤ max (ll a) (ll b) + 1 := by
  obtain ⟨o', q1, q2, q3, q4⟩ := Uga (R := R) n a b f hf ha hb hab _ rfl n 0 [] 0 (by omega) (by omega) (by omega) rfl (by intro d h; cases h) (by omega) (by simp [val])
  refine ⟨o'.reverse, fun k0 => ?_, fun d h => q2 d (List.mem_reverse.1 h), by unfold vb; rw [List.reverse_reverse]; exact q3, by rw [List.length_reverse]; exact q4⟩
  unfold Uzg Usd
  exact q1 _
abbrev sg (z : Int) : Bool := decide (z < 0)
theorem UsB (n : Nat) (x y : Int) (hx : ll x.natAbs ≤ 50000) (hy : ll y.natAbs ≤ 50000) (hn : 200000 ≤ n) (k0 : Bool → List PV → Option R) :
    UDn n (sg x) (II x.natAbs) (sg y) (II y.natAbs) k0 = k0 (sg (x + y)) (II (x + y).natAbs) := by
  unfold UDn
  by_cases hs : sg x = sg y
  · obtain ⟨l, q1, q2, q3, q4⟩ := Ue9 (R := R) n x.natAbs y.natAbs 1 (Or.inl rfl) (by omega) (by omega) (by omega) (by omega)
    have e1 : (sg x == sg y) = true := by simpa using hs
    have e2 : vb l = (x + y).natAbs := by
      have : x < 0 ↔ y < 0 := by simpa [sg] using hs
      omega
    have e3 : (sg x && !((x + y).natAbs == 0)) = sg (x + y) := by
      have : x < 0 ↔ y < 0 := by simpa [sg] using hs
      rw [Bool.eq_iff_iff]
      simp only [sg, Bool.and_eq_true, decide_eq_true_eq, Bool.not_eq_true', beq_eq_false_iff_ne]
      omega
    rw [e1, cond_true, q1, UaB n _ l q2 (by omega) (by omega), e2, e3]
  · have e1 : (sg x == sg y) = false := by simpa using hs
    have hxy : ¬ (x < 0 ↔ y < 0) := by simpa [sg] using hs
    rw [e1, cond_false, UsC n _ _ (by omega) (by omega) (by omega)]
    by_cases hlt : x.natAbs < y.natAbs
    · obtain ⟨l, q1, q2, q3, q4⟩ := Ue9 (R := R) n y.natAbs x.natAbs (-1) (Or.inr rfl) (by omega) (by omega) (by omega) (by omega)
      have e2 : vb l = (x + y).natAbs := by omega
      have e3 : (sg y && !((x + y).natAbs == 0)) = sg (x + y) := by
        rw [Bool.eq_iff_iff]
        simp only [sg, Bool.and_eq_true, decide_eq_true_eq, Bool.not_eq_true', beq_eq_false_iff_ne]
        omega
      have e4 : Uct x.natAbs y.natAbs = -1 := by unfold Uct; rw [if_pos hlt]
      rw [e4, Jkf (by omega), q1, UaB n _ l q2 (by omega) (by omega), e2, e3]
    · obtain ⟨l, q1, q2, q3, q4⟩ := Ue9 (R := R) n x.natAbs y.natAbs (-1) (Or.inr rfl) (by omega) (by omega) (by omega) (by omega)
      have e2 : vb l = (x + y).natAbs := by omega
      have e3 : (sg x && !((x + y).natAbs == 0)) = sg (x + y) := by
        rw [Bool.eq_iff_iff]
        simp only [sg, Bool.and_eq_true, decide_eq_true_eq, Bool.not_eq_true', beq_eq_false_iff_ne]
        omega
      have e4 : ¬ Uct x.natAbs y.natAbs < 0 := by unfold Uct; rw [if_neg hlt]; split <;> omega
      rw [c_neg e4, q1, UaB n _ l q2 (by omega) (by omega), e2, e3]
theorem Uia (n : Nat) (x : Int) (hx : ll x.natAbs ≤ 50000) (hn : 200000 ≤ n) (k0 : Bool → List PV → Option R) : p90 n (sg x) (II x.natAbs) k0 = k0 (sg (-x)) (II (-x).natAbs) := by
  unfold p90 II
  rw [UaB n _ _ (Uew _) (by rw [Uaa]; omega) (by rw [Uaa]; omega), UfQ, Int.natAbs_neg]
  have e3 : (!(sg x) && !(x.natAbs == 0)) = sg (-x) := by
    rw [Bool.eq_iff_iff]
    simp only [sg, Bool.and_eq_true, decide_eq_true_eq, Bool.not_eq_true', beq_eq_false_iff_ne, decide_eq_false_iff_not]
    omega
  rw [e3]; rfl
theorem Uks (n : Nat) (x y : Int) (hx : ll x.natAbs ≤ 50000) (hy : ll y.natAbs ≤ 50000) (hn : 200000 ≤ n) (k0 : Bool → List PV → Option R) :
    Uze n (sg x) (II x.natAbs) (sg y) (II y.natAbs) k0 = k0 (sg (x - y)) (II (x - y).natAbs) := by
  unfold Uze
  rw [Uia n y hy hn, UsB n x (-y) hx (by rw [Int.natAbs_neg]; exact hy) hn, Int.sub_eq_add_neg]
def UiG (x y : Int) : Int := if x < y then -1 else if x = y then 0 else 1
theorem Uui (n : Nat) (x y : Int) (hx : ll x.natAbs ≤ 50000) (hy : ll y.natAbs ≤ 50000) (hn : 200000 ≤ n) (k0 : Int → Option R) :
    p88 n (sg x) (II x.natAbs) (sg y) (II y.natAbs) k0 = k0 (UiG x y) := by
  unfold p88 UiG
  rw [Uks n x y hx hy hn, Uas, Jk0]
  by_cases h : x = y
  · have e : (ll (x - y).natAbs == 0) = true := by simp only [beq_iff_eq, Ucr]; omega
    rw [e, if_neg (by omega), if_pos h]; rfl
  · have e : (ll (x - y).natAbs == 0) = false := by simp only [beq_eq_false_iff_ne, ne_eq, Ucr]; omega
    rw [e, cond_false]
    by_cases h2 : x < y
    · have e2 : sg (x - y) = true := by simp [sg]; omega
      rw [e2, if_pos h2]; rfl
    · have e2 : sg (x - y) = false := by simp [sg]; omega
      rw [e2, if_neg h2, if_neg h]; rfl
end Go.Proofs.YtmgfmlhdnadglaaGreatDoor
set_option linter.unusedVariables false
set_option maxRecDepth 100000
namespace Go.Proofs.YtmgfmlhdnadglaaGreatDoor
open Go Th Go.Proofs
noncomputable section
variable {R : Type}
def Udl : Ann := { loops := [(3, ids [2, 3, 4, 5, 6], ids [2, 3, 4, 5]), (6, ids [2, 3, 4, 5, 6, 7], ids [2, 3, 4, 5, 6]), (12, ids [2, 3, 4, 5, 6, 7, 8, 9], ids [2, 3, 4, 5, 6, 7])], cuts := [], frz := [], rm := [.id] }
abbrev UyH (n : Nat) : Env := eC 122 (UiU n) eN
theorem Uqr (n : Nat) : EnvOK Tryz.prog GI (UyH n) := .cons (.nil) (Uj7 n)
def Ue6 (n : Nat) (l0 : Bool → LP → Bool → LP → Bool → LP → Int → Int → Int → Int → O R) (x1 : Bool) (x2 : LP) (x3 : Bool) (x4 : LP) (x5 : Bool) (x6 : LP) (x7 x8 x9 x10 : Int) (k0 : Bool → LP → Bool → LP → Bool → LP → Int → Int → O R) : O R :=
  bif (decide (x10 > 0)) then (bif (inR (IntKind.i64.wrap (x9 - 1)) ((x6).length)) then (Jj .i64 ((x6).getD ((IntKind.i64.wrap (x9 - 1) : Int).toNat) (.v (.bool false))) fun e11 => bif decide (10 = 0) then none else (let v12 := Int.tmod (IntKind.i64.wrap (x10 + e11)) 10; bif (inR (IntKind.i64.wrap (x9 - 1)) ((x6).length)) then (Jj .i64 ((x6).getD ((IntKind.i64.wrap (x9 - 1) : Int).toNat) (.v (.bool false))) fun e13 => bif decide (10 = 0) then none else (let v14 := IntKind.i64.wrap (Int.tdiv (IntKind.i64.wrap (x10 + e11)) 10); l0 x1 x2 x3 x4 x5 ((x6).set ((IntKind.i64.wrap (x9 - 1) : Int).toNat) (.v (.int .i64 v12))) x7 x8 (IntKind.i64.wrap (x9 - 1)) v14)) else none)) else none) else (k0 x1 x2 x3 x4 x5 x6 x7 x8)
def Ucg (n : Nat) : Nat → Bool → LP → Bool → LP → Bool → LP → Int → Int → Int → Int → (Bool → LP → Bool → LP → Bool → LP → Int → Int → O R) → O R
  | 0, _, _, _, _, _, _, _, _, _, _, _ => none
  | m + 1, x1, x2, x3, x4, x5, x6, x7, x8, x9, x10, k0 => Ue6 n (fun x1 x2 x3 x4 x5 x6 x7 x8 x9 x10 => Ucg n m x1 x2 x3 x4 x5 x6 x7 x8 x9 x10 k0) x1 x2 x3 x4 x5 x6 x7 x8 x9 x10 k0
def Ust (n : Nat) (x1 : Bool) (x2 : LP) (x3 : Bool) (x4 : LP) (x5 : Bool) (x6 : LP) (x7 x8 x9 x10 : Int) (k0 : Bool → LP → Bool → LP → Bool → LP → Int → Int → O R) : O R := Ucg n n x1 x2 x3 x4 x5 x6 x7 x8 x9 x10 k0
def Uh4 (n : Nat) (l0 : Bool → LP → Bool → LP → Bool → LP → Int → Int → O R) (x1 : Bool) (x2 : LP) (x3 : Bool) (x4 : LP) (x5 : Bool) (x6 : LP) (x7 x8 : Int) (k0 : Bool → LP → Bool → LP → Bool → LP → Int → O R) : O R :=
  bif (decide (x8 ≥ 0)) then (let v9 := IntKind.i64.wrap ((IntKind.i64.wrap (x7 + x8)) + 1); bif (inR v9 ((x6).length)) then (Jj .i64 ((x6).getD ((v9 : Int).toNat) (.v (.bool false))) fun e10 => bif (inR x7 ((x2).length)) then (Jj .i64 ((x2).getD ((x7 : Int).toNat) (.v (.bool false))) fun e11 => bif (inR x8 ((x4).length)) then (Jj .i64 ((x4).getD ((x8 : Int).toNat) (.v (.bool false))) fun e12 => let v13 := IntKind.i64.wrap (e10 + (IntKind.i64.wrap (e11 * e12))); bif decide (10 = 0) then none else (bif (inR v9 ((x6).length)) then (Jj .i64 ((x6).getD ((v9 : Int).toNat) (.v (.bool false))) fun e14 => bif decide (10 = 0) then none else (Ust n x1 x2 x3 x4 x5 ((x6).set ((v9 : Int).toNat) (.v (.int .i64 (Int.tmod v13 10)))) x7 x8 v9 (IntKind.i64.wrap (Int.tdiv v13 10)) (fun y15 y16 y17 y18 y19 y20 y21 y22 => l0 y15 y16 y17 y18 y19 y20 y21 (IntKind.i64.wrap (y22 - 1))))) else none)) else none) else none) else none) else (k0 x1 x2 x3 x4 x5 x6 x7)
def UdU (n : Nat) : Nat → Bool → LP → Bool → LP → Bool → LP → Int → Int → (Bool → LP → Bool → LP → Bool → LP → Int → O R) → O R
  | 0, _, _, _, _, _, _, _, _, _ => none
  | m + 1, x1, x2, x3, x4, x5, x6, x7, x8, k0 => Uh4 n (fun x1 x2 x3 x4 x5 x6 x7 x8 => UdU n m x1 x2 x3 x4 x5 x6 x7 x8 k0) x1 x2 x3 x4 x5 x6 x7 x8 k0
def Uwy (n : Nat) (x1 : Bool) (x2 : LP) (x3 : Bool) (x4 : LP) (x5 : Bool) (x6 : LP) (x7 x8 : Int) (k0 : Bool → LP → Bool → LP → Bool → LP → Int → O R) : O R := UdU n n x1 x2 x3 x4 x5 x6 x7 x8 k0
def Uh3 (n : Nat) (l0 : Bool → LP → Bool → LP → Bool → LP → Int → O R) (x1 : Bool) (x2 : LP) (x3 : Bool) (x4 : LP) (x5 : Bool) (x6 : LP) (x7 : Int) (k0 : Bool → LP → Bool → LP → Bool → LP → O R) : O R :=
  bif (decide (x7 ≥ 0)) then (let v8 := IntKind.i64.wrap (((x4).length : Int) - 1); Uwy n x1 x2 x3 x4 x5 x6 x7 v8 (fun y9 y10 y11 y12 y13 y14 y15 => l0 y9 y10 y11 y12 y13 y14 (IntKind.i64.wrap (y15 - 1)))) else (k0 x1 x2 x3 x4 x5 x6)
def UdT (n : Nat) : Nat → Bool → LP → Bool → LP → Bool → LP → Int → (Bool → LP → Bool → LP → Bool → LP → O R) → O R
  | 0, _, _, _, _, _, _, _, _ => none
  | m + 1, x1, x2, x3, x4, x5, x6, x7, k0 => Uh3 n (fun x1 x2 x3 x4 x5 x6 x7 => UdT n m x1 x2 x3 x4 x5 x6 x7 k0) x1 x2 x3 x4 x5 x6 x7 k0
def Uwx (n : Nat) (x1 : Bool) (x2 : LP) (x3 : Bool) (x4 : LP) (x5 : Bool) (x6 : LP) (x7 : Int) (k0 : Bool → LP → Bool → LP → Bool → LP → O R) : O R := UdT n n x1 x2 x3 x4 x5 x6 x7 k0
def p89 (n : Nat) (x1 : Bool) (x2 : LP) (x3 : Bool) (x4 : LP) (k0 : Bool → LP → O R) : O R :=
  let v5 := IntKind.i64.wrap (((x2).length : Int) + ((x4).length : Int)); bif (decide ((0 : Int) ≤ v5) && decide ((v5 : Int) ≤ v5) && Jbu (v5 : Int).toNat 8) then (let v6 := IntKind.i64.wrap (((x2).length : Int) - 1); Uwx n x1 x2 x3 x4 false (List.replicate (v5 : Int).toNat (.v (.int .i64 0) : PV)) v6 (fun y7 y8 y9 y10 y11 y12 => UmQ n (!(y7 == y9)) y12 (fun y13 y14 => k0 y13 y14))) else none
abbrev E89 (n : Nat) : Code → Fr → Kc R → O R := evC Tryz.prog (UyH n) Udl n (85, [])
noncomputable def Uva : Code := Jj4 (Jll Tryz.f89) [1, 1, 0, 1, 0, 0]
abbrev UgG : Sl (List SV) := (.c (sBx 55 (cB (cH .n))) (.c (sBx 55 (cB (cH .n))) (.c (sBx 55 (cB (.c sNl .n))) (cO 3 (cI .n)))))
abbrev Urv (n m : Nat) (K : Kc R) : UgG.T (O R) := fun x1 x2 x3 x4 x5 x6 x7 => UdT n m x1 x2 x3 x4 x5 x6 x7 (fun y1 y2 y3 y4 y5 y6 => xL Udl 3 K (.exit 0) [.bx 55 [vB y1, vH y2], .bx 55 [vB y3, vH y4], .bx 55 [vB y5, .nl], .own 3 y6])
abbrev UBh (n : Nat) (K : Kc R) (l0 : UgG.T (O R)) : UgG.T (O R) := fun x1 x2 x3 x4 x5 x6 x7 => Uh3 n l0 x1 x2 x3 x4 x5 x6 x7 (fun y1 y2 y3 y4 y5 y6 => xL Udl 3 K (.exit 0) [.bx 55 [vB y1, vH y2], .bx 55 [vB y3, vH y4], .bx 55 [vB y5, .nl], .own 3 y6])
noncomputable def Uvb : Code := Jj4 (Jll Tryz.f89) [1, 1, 0, 1, 0, 0, 1, 0, 0, 1, 0, 0]
abbrev UgH : Sl (List SV) := (.c (sBx 55 (cB (cH .n))) (.c (sBx 55 (cB (cH .n))) (.c (sBx 55 (cB (.c sNl .n))) (cO 3 (cI (cI .n))))))
abbrev Urw (n m : Nat) (K : Kc R) : UgH.T (O R) := fun x1 x2 x3 x4 x5 x6 x7 x8 => UdU n m x1 x2 x3 x4 x5 x6 x7 x8 (fun y1 y2 y3 y4 y5 y6 y7 => xL Udl 6 K (.exit 2) [.bx 55 [vB y1, vH y2], .bx 55 [vB y3, vH y4], .bx 55 [vB y5, .nl], .own 3 y6, vI y7])
abbrev UBi (n : Nat) (K : Kc R) (l0 : UgH.T (O R)) : UgH.T (O R) := fun x1 x2 x3 x4 x5 x6 x7 x8 => Uh4 n l0 x1 x2 x3 x4 x5 x6 x7 x8 (fun y1 y2 y3 y4 y5 y6 y7 => xL Udl 6 K (.exit 2) [.bx 55 [vB y1, vH y2], .bx 55 [vB y3, vH y4], .bx 55 [vB y5, .nl], .own 3 y6, vI y7])
noncomputable def UoN : Code := Jj4 (Jll Tryz.f89) [1, 1, 0, 1, 0, 0, 1, 0, 0, 1, 0, 0, 1, 0, 0, 1, 1, 1, 1, 0, 0]
abbrev Uep : Sl (List SV) := (.c (sBx 55 (cB (cH .n))) (.c (sBx 55 (cB (cH .n))) (.c (sBx 55 (cB (.c sNl .n))) (cO 3 (cI (cI (cI (cI .n))))))))
abbrev Uj3 (n m : Nat) (K : Kc R) : Uep.T (O R) := fun x1 x2 x3 x4 x5 x6 x7 x8 x9 x10 => Ucg n m x1 x2 x3 x4 x5 x6 x7 x8 x9 x10 (fun y1 y2 y3 y4 y5 y6 y7 y8 => xL Udl 12 K (.exit 4) [.bx 55 [vB y1, vH y2], .bx 55 [vB y3, vH y4], .bx 55 [vB y5, .nl], .own 3 y6, vI y7, vI y8])
abbrev UxU (n : Nat) (K : Kc R) (l0 : Uep.T (O R)) : Uep.T (O R) := fun x1 x2 x3 x4 x5 x6 x7 x8 x9 x10 => Ue6 n l0 x1 x2 x3 x4 x5 x6 x7 x8 x9 x10 (fun y1 y2 y3 y4 y5 y6 y7 y8 => xL Udl 12 K (.exit 4) [.bx 55 [vB y1, vH y2], .bx 55 [vB y3, vH y4], .bx 55 [vB y5, .nl], .own 3 y6, vI y7, vI y8])
abbrev UF (n : Nat) : Orc R := oL Udl (E89 n) n 12 UoN Uep (Uj3 n n) (oL Udl (E89 n) n 6 Uvb UgH (Urw n n) (oL Udl (E89 n) n 3 Uva UgG (Urv n n) oN))
abbrev UEX (n : Nat) : Orc R := oN
abbrev K89 (R : Type) (n : Nat) := JcH (R := R) Tryz.prog (UyH n) Udl n (85, []) (UF n) (UEX n)
theorem UAa (n : Nat) : K89 R n (false, 12, UoN) := JkF (lo := UF n) (cu := UEX n) (pO pN (by kernel_rfl)) Uep (Uj3 n n) (JiE (F := Uj3 n) Uep (UxU n) (fun K _ _ _ _ _ _ _ _ _ _ => rfl) (fun _ _ => rfl) (fun L K _ _ _ _ _ _ _ _ _ _ => by show _ = _; kernel_rfl) n) fun _ _ => rfl
theorem UEk (n : Nat) : K89 R n (false, 6, Uvb) := JkF (lo := UF n) (cu := UEX n) (pO (pC (UAa n) pN) (by kernel_rfl)) UgH (Urw n n) (JiE (F := Urw n) UgH (UBi n) (fun K _ _ _ _ _ _ _ _ => rfl) (fun _ _ => rfl) (fun L K _ _ _ _ _ _ _ _ => by show _ = _; kernel_rfl) n) fun _ _ => rfl
theorem UEj (n : Nat) : K89 R n (false, 3, Uva) := JkF (lo := UF n) (cu := UEX n) (pO (pC (UEk n) pN) (by kernel_rfl)) UgG (Urv n n) (JiE (F := Urv n) UgG (UBh n) (fun K _ _ _ _ _ _ _ => rfl) (fun _ _ => rfl) (fun L K _ _ _ _ _ _ _ => by show _ = _; kernel_rfl) n) fun _ _ => rfl
theorem UOk (n : Nat) : Je6 (K89 R n) (JaJ Udl (Jll Tryz.f89)) := pO (pC (UEj n) pN) (by kernel_rfl)
abbrev t89 : Sl (List SV) := (.c (sP (JlI (.c Jlf (.c sSh .n)))) (.c (sP (JlI (.c Jlf (.c sSh .n)))) .n))
abbrev f89 (n : Nat) (K : List SV → O R) : t89.T (O R) := fun x1 x2 x3 x4 => p89 n x1 x2 x3 x4 (fun y1 y2 => K [.p (.agg [.v (.bool y1), .sh y2])])
abbrev UE5 (n : Nat) : FS := fT [false, false] t89 (f89 n)
theorem UHk (n : Nat) : FSound Tryz.prog GI 89 (UE5 n) := gd Udl n (Uqr n) Tryz.func89 (.cons (Uqr n) t89 (f89 n) (fun K _ _ _ _ => (Jkq (c := Jll Tryz.f89) (by kernel_rfl) (UOk n) K).trans (by kernel_rfl)) .nil) (by kernel_rfl)
def UcR : Ann := { loops := [(3, [(0, .id), (2, .id), (3, .id), (4, .own 3)], ids [2, 3, 4])], cuts := [(7, ids [0, 2, 3, 4, 5], ids [0, 2, 3, 4])], frz := [], rm := [.id] }
abbrev Upn (n : Nat) : Env := eC 122 (UiU n) eN
theorem Um (n : Nat) : EnvOK Tryz.prog GI (Upn n) := .cons (.nil) (Uj7 n)
def Ukc (n : Nat) (x1 : Int) (x2 x3 : Bool) (x4 : LP) (x5 : Int) (k0 : Int → Bool → Bool → LP → O R) : O R :=
  bif (Jbu (1 + (x4).length) 8) then (bif decide (10 = 0) then none else (k0 (IntKind.i64.wrap (Int.tdiv x1 10)) x2 x3 (([.v (.int .i64 x5)] : LP) ++ x4))) else none
def UmS (n : Nat) (l0 : Int → Bool → Bool → LP → O R) (x1 : Int) (x2 x3 : Bool) (x4 : LP) (k0 : Bool → Bool → LP → O R) : O R :=
  bif (x1 != 0) then (bif decide (10 = 0) then none else (bif (decide (Int.tmod x1 10 < 0)) then (let v5 := IntKind.i64.wrap (0 - (Int.tmod x1 10)); Ukc n x1 x2 x3 x4 v5 (fun y6 y7 y8 y9 => l0 y6 y7 y8 y9)) else (Ukc n x1 x2 x3 x4 (Int.tmod x1 10) (fun y10 y11 y12 y13 => l0 y10 y11 y12 y13)))) else (k0 x2 x3 x4)
def Uhy (n : Nat) : Nat → Int → Bool → Bool → LP → (Bool → Bool → LP → O R) → O R
  | 0, _, _, _, _, _ => none
  | m + 1, x1, x2, x3, x4, k0 => UmS n (fun x1 x2 x3 x4 => Uhy n m x1 x2 x3 x4 k0) x1 x2 x3 x4 k0
def Uzh (n : Nat) (x1 : Int) (x2 x3 : Bool) (x4 : LP) (k0 : Bool → Bool → LP → O R) : O R := Uhy n n x1 x2 x3 x4 k0
def UHs (n : Nat) (x1 : Int) (k0 : Bool → LP → O R) : O R :=
  Uzh n x1 false (decide (x1 < 0)) [] (fun y2 y3 y4 => UmQ n y3 y4 (fun y5 y6 => k0 y5 y6))
abbrev UIQ (n : Nat) : Code → Fr → Kc R → O R := evC Tryz.prog (Upn n) UcR n (25, [])
noncomputable def Uox : Code := Jj4 (Jll Tryz.f171) [1, 1, 1, 0, 0, 0, 1, 0, 1, 1]
abbrev UkJ : Sl (List SV) := (cI (.c (sBx 55 (cB (.c sNl .n))) (cB (cO 3 (cI .n)))))
abbrev UqT (n : Nat) (K : Kc R) : UkJ.T (O R) := fun x1 x2 x3 x4 x5 => Ukc n x1 x2 x3 x4 x5 (fun y1 y2 y3 y4 => xC UcR 7 K .normal [vI y1, .bx 55 [vB y2, .nl], vB y3, .own 3 y4])
noncomputable def Uoy : Code := Jj4 (Jll Tryz.f171) [1, 1, 1, 0, 0, 0]
abbrev Uej : Sl (List SV) := (cI (.c (sBx 55 (cB (.c sNl .n))) (cB (cO 3 .n))))
abbrev UjX (n m : Nat) (K : Kc R) : Uej.T (O R) := fun x1 x2 x3 x4 => Uhy n m x1 x2 x3 x4 (fun y1 y2 y3 => xL UcR 3 K (.exit 0) [.bx 55 [vB y1, .nl], vB y2, .own 3 y3])
abbrev UxJ (n : Nat) (K : Kc R) (l0 : Uej.T (O R)) : Uej.T (O R) := fun x1 x2 x3 x4 => UmS n l0 x1 x2 x3 x4 (fun y1 y2 y3 => xL UcR 3 K (.exit 0) [.bx 55 [vB y1, .nl], vB y2, .own 3 y3])
abbrev Uz (n : Nat) : Orc R := oL UcR (UIQ n) n 3 Uoy Uej (UjX n n) oN
abbrev Ux6 (n : Nat) : Orc R := oC UcR (UIQ n) 7 Uox UkJ (UqT n) oN
abbrev UFw (R : Type) (n : Nat) := JcH (R := R) Tryz.prog (Upn n) UcR n (25, []) (Uz n) (Ux6 n)
theorem UzV (n : Nat) : UFw R n (true, 7, Uox) := JkW (lo := Uz n) (cu := Ux6 n) (pO pN (by kernel_rfl)) UkJ (UqT n) (fun K _ _ _ _ _ => by show _ = _; kernel_rfl) fun _ _ => rfl
theorem UzW (n : Nat) : UFw R n (false, 3, Uoy) := JkF (lo := Uz n) (cu := Ux6 n) (pO (pC (UzV n) pN) (by kernel_rfl)) Uej (UjX n n) (JiE (F := UjX n) Uej (UxJ n) (fun K _ _ _ _ => rfl) (fun _ _ => rfl) (fun L K _ _ _ _ => by show _ = _; kernel_rfl) n) fun _ _ => rfl
theorem UH3 (n : Nat) : Je6 (UFw R n) (JaJ UcR (Jll Tryz.f171)) := pO (pC (UzW n) pN) (by kernel_rfl)
abbrev t171 : Sl (List SV) := (cI .n)
abbrev f171 (n : Nat) (K : List SV → O R) : t171.T (O R) := fun x1 => UHs n x1 (fun y1 y2 => K [.p (.agg [.v (.bool y1), .sh y2])])
abbrev UCQ (n : Nat) : FS := fT [false] t171 (f171 n)
theorem UHa (n : Nat) : FSound Tryz.prog GI 171 (UCQ n) := gd UcR n (Um n) Tryz.func171 (.cons (Um n) t171 (f171 n) (fun K _ => (Jkq (c := Jll Tryz.f171) (by kernel_rfl) (UH3 n) K).trans (by kernel_rfl)) .nil) (by kernel_rfl)
def UbD : Ann := { loops := [(4, [(2, .id), (3, .id), (4, .id), (5, .id), (6, .id), (7, .own 3), (8, .id)], ids [2, 3, 4, 5, 6, 7]), (10, ids [2, 3, 4, 5, 6, 7, 8, 10], ids [2, 3, 4, 5, 6, 7, 8, 10])], cuts := [(17, ids [2, 3, 4, 5, 11], ids [4, 5])], frz := [], rm := [.id, .id] }
abbrev Upk (n : Nat) : Env := eC 171 (UCQ n) (eC 147 (UyW n) (eC 146 (UyV n) (eC 122 (UiU n) (eC 121 (UyR n) (eC 89 (UE5 n) eN)))))
theorem Ul6 (n : Nat) : EnvOK Tryz.prog GI (Upk n) := .cons (.cons (.cons (.cons (.cons (.cons (.nil) (UHk n)) (UDb n)) (Uj7 n)) (UDf n)) (UDg n)) (UHa n)
def UfA (n : Nat) (l0 : Bool → LP → Bool → LP → Bool → Bool → Bool → LP → LP → Int → Int → O R) (x1 : Bool) (x2 : LP) (x3 : Bool) (x4 : LP) (x5 x6 x7 : Bool) (x8 x9 : LP) (x10 x11 : Int) (k0 : Bool → LP → Bool → LP → Bool → Bool → Bool → LP → LP → Int → Int → O R) : O R :=
  UDq n x8 x4 (fun y12 => bif (decide (y12 ≥ 0)) then (Uzg n x8 x4 (-1) (fun y13 => UmQ n false y13 (fun y14 y15 => l0 x1 x2 x3 x4 x5 x6 y14 y15 x9 x10 (IntKind.i64.wrap (x11 + 1))))) else (k0 x1 x2 x3 x4 x5 x6 x7 x8 x9 x10 x11))
def UbQ (n : Nat) : Nat → Bool → LP → Bool → LP → Bool → Bool → Bool → LP → LP → Int → Int → (Bool → LP → Bool → LP → Bool → Bool → Bool → LP → LP → Int → Int → O R) → O R
  | 0, _, _, _, _, _, _, _, _, _, _, _, _ => none
  | m + 1, x1, x2, x3, x4, x5, x6, x7, x8, x9, x10, x11, k0 => UfA n (fun x1 x2 x3 x4 x5 x6 x7 x8 x9 x10 x11 => UbQ n m x1 x2 x3 x4 x5 x6 x7 x8 x9 x10 x11 k0) x1 x2 x3 x4 x5 x6 x7 x8 x9 x10 x11 k0
def UmR (n : Nat) (x1 : Bool) (x2 : LP) (x3 : Bool) (x4 : LP) (x5 x6 x7 : Bool) (x8 x9 : LP) (x10 x11 : Int) (k0 : Bool → LP → Bool → LP → Bool → Bool → Bool → LP → LP → Int → Int → O R) : O R := UbQ n n x1 x2 x3 x4 x5 x6 x7 x8 x9 x10 x11 k0
def UeZ (n : Nat) (l0 : Bool → LP → Bool → LP → Bool → Bool → Bool → LP → LP → Int → O R) (x1 : Bool) (x2 : LP) (x3 : Bool) (x4 : LP) (x5 x6 x7 : Bool) (x8 x9 : LP) (x10 : Int) (k0 : Bool → LP → Bool → LP → Bool → Bool → Bool → LP → LP → O R) : O R :=
  bif (decide (x10 < ((x2).length : Int))) then (bif (Jgx 1 x8 && Jbu ((x8).length) 8) then (bif (inR x10 ((x2).length)) then (Jj .i64 ((x2).getD ((x10 : Int).toNat) (.v (.bool false))) fun e11 => bif (Jbu ((x8).length + 1) 8) then (UmQ n false (x8 ++ ([.v (.int .i64 e11)] : LP)) (fun y12 y13 => UmR n x1 x2 x3 x4 x5 x6 y12 y13 x9 x10 0 (fun y14 y15 y16 y17 y18 y19 y20 y21 y22 y23 y24 => bif (Jbu ((y22).length + 1) 8) then (l0 y14 y15 y16 y17 y18 y19 y20 y21 (y22 ++ ([.v (.int .i64 y24)] : LP)) (IntKind.i64.wrap (y23 + 1))) else none))) else none) else none) else none) else (k0 x1 x2 x3 x4 x5 x6 x7 x8 x9)
def Ubu (n : Nat) : Nat → Bool → LP → Bool → LP → Bool → Bool → Bool → LP → LP → Int → (Bool → LP → Bool → LP → Bool → Bool → Bool → LP → LP → O R) → O R
  | 0, _, _, _, _, _, _, _, _, _, _, _ => none
  | m + 1, x1, x2, x3, x4, x5, x6, x7, x8, x9, x10, k0 => UeZ n (fun x1 x2 x3 x4 x5 x6 x7 x8 x9 x10 => Ubu n m x1 x2 x3 x4 x5 x6 x7 x8 x9 x10 k0) x1 x2 x3 x4 x5 x6 x7 x8 x9 x10 k0
def Usc (n : Nat) (x1 : Bool) (x2 : LP) (x3 : Bool) (x4 : LP) (x5 x6 x7 : Bool) (x8 x9 : LP) (x10 : Int) (k0 : Bool → LP → Bool → LP → Bool → Bool → Bool → LP → LP → O R) : O R := Ubu n n x1 x2 x3 x4 x5 x6 x7 x8 x9 x10 k0
def Ub9 (n : Nat) (x1 : Bool) (x2 : LP) (x3 : Bool) (x4 : LP) (x5 x6 x7 : Bool) (x8 : LP) (k0 : Bool → LP → Bool → LP → O R) : O R :=
  p89 n x7 x8 x3 x4 (fun y9 y10 => Uze n x1 x2 y9 y10 (fun y11 y12 => k0 x7 x8 y11 y12))
def Uzf (n : Nat) (x1 : Bool) (x2 : LP) (x3 : Bool) (x4 : LP) (k0 : Bool → LP → Bool → LP → O R) : O R :=
  Usc n x1 x2 x3 x4 false false false [] [] 0 (fun y5 y6 y7 y8 y9 y10 y11 y12 y13 => UmQ n (!(y5 == y7)) y13 (fun y14 y15 => bif (decide (((y12).length : Int) > 0)) then (bif (bif true then (!(y5 == y7)) else false) then (UHs n 1 (fun y16 y17 => Uze n y14 y15 y16 y17 (fun y18 y19 => Ub9 n y5 y6 y7 y8 y9 y10 y18 y19 (fun y20 y21 y22 y23 => k0 y20 y21 y22 y23)))) else (Ub9 n y5 y6 y7 y8 y9 y10 y14 y15 (fun y24 y25 y26 y27 => k0 y24 y25 y26 y27))) else (Ub9 n y5 y6 y7 y8 y9 y10 y14 y15 (fun y28 y29 y30 y31 => k0 y28 y29 y30 y31))))
abbrev UFs (n : Nat) : Code → Fr → Kc R → O R := evC Tryz.prog (Upk n) UbD n (78, [])
noncomputable def Ulk : Code := Jj4 (Jll Tryz.f145) [1, 1, 1, 1, 1, 1]
abbrev Uiv : Sl (List SV) := (.c (sBx 55 (cB (cH .n))) (.c (sBx 55 (cB (cH .n))) (.c (sBx 55 (cB (.c sNl .n))) (.c (sBx 55 (cB (.c sNl .n))) (.c (sBx 55 (cB (cH .n))) .n)))))
abbrev Ums (n : Nat) (K : Kc R) : Uiv.T (O R) := fun x1 x2 x3 x4 x5 x6 x7 x8 => Ub9 n x1 x2 x3 x4 x5 x6 x7 x8 (fun y1 y2 y3 y4 => xC UbD 17 K .ret [.bx 55 [vB y1, vH y2], .bx 55 [vB y3, vH y4]])
noncomputable def Uos : Code := Jj4 (Jll Tryz.f145) [1, 1, 1, 0, 1, 0, 0]
abbrev Ueg : Sl (List SV) := (.c (sBx 55 (cB (cH .n))) (.c (sBx 55 (cB (cH .n))) (.c (sBx 55 (cB (.c sNl .n))) (.c (sBx 55 (cB (.c sNl .n))) (.c (sBx 55 (cB (cH .n))) (cO 3 (cI .n)))))))
abbrev UjU (n m : Nat) (K : Kc R) : Ueg.T (O R) := fun x1 x2 x3 x4 x5 x6 x7 x8 x9 x10 => Ubu n m x1 x2 x3 x4 x5 x6 x7 x8 x9 x10 (fun y1 y2 y3 y4 y5 y6 y7 y8 y9 => xL UbD 4 K (.exit 0) [.bx 55 [vB y1, vH y2], .bx 55 [vB y3, vH y4], .bx 55 [vB y5, .nl], .bx 55 [vB y6, .nl], .bx 55 [vB y7, vH y8], .own 3 y9])
abbrev UxG (n : Nat) (K : Kc R) (l0 : Ueg.T (O R)) : Ueg.T (O R) := fun x1 x2 x3 x4 x5 x6 x7 x8 x9 x10 => UeZ n l0 x1 x2 x3 x4 x5 x6 x7 x8 x9 x10 (fun y1 y2 y3 y4 y5 y6 y7 y8 y9 => xL UbD 4 K (.exit 0) [.bx 55 [vB y1, vH y2], .bx 55 [vB y3, vH y4], .bx 55 [vB y5, .nl], .bx 55 [vB y6, .nl], .bx 55 [vB y7, vH y8], .own 3 y9])
noncomputable def Ull : Code := Jj4 (Jll Tryz.f145) [1, 1, 1, 0, 1, 0, 0, 1, 0, 0, 1, 1, 1, 1, 0, 0, 0]
abbrev Ucm : Sl (List SV) := (.c (sBx 55 (cB (cH .n))) (.c (sBx 55 (cB (cH .n))) (.c (sBx 55 (cB (.c sNl .n))) (.c (sBx 55 (cB (.c sNl .n))) (.c (sBx 55 (cB (cH .n))) (cO 3 (cI (cI .n))))))))
abbrev Uh (n m : Nat) (K : Kc R) : Ucm.T (O R) := fun x1 x2 x3 x4 x5 x6 x7 x8 x9 x10 x11 => UbQ n m x1 x2 x3 x4 x5 x6 x7 x8 x9 x10 x11 (fun y1 y2 y3 y4 y5 y6 y7 y8 y9 y10 y11 => xL UbD 10 K (.exit 2) [.bx 55 [vB y1, vH y2], .bx 55 [vB y3, vH y4], .bx 55 [vB y5, .nl], .bx 55 [vB y6, .nl], .bx 55 [vB y7, vH y8], .own 3 y9, vI y10, vI y11])
abbrev Utj (n : Nat) (K : Kc R) (l0 : Ucm.T (O R)) : Ucm.T (O R) := fun x1 x2 x3 x4 x5 x6 x7 x8 x9 x10 x11 => UfA n l0 x1 x2 x3 x4 x5 x6 x7 x8 x9 x10 x11 (fun y1 y2 y3 y4 y5 y6 y7 y8 y9 y10 y11 => xL UbD 10 K (.exit 2) [.bx 55 [vB y1, vH y2], .bx 55 [vB y3, vH y4], .bx 55 [vB y5, .nl], .bx 55 [vB y6, .nl], .bx 55 [vB y7, vH y8], .own 3 y9, vI y10, vI y11])
abbrev UtH (n : Nat) : Orc R := oL UbD (UFs n) n 10 Ull Ucm (Uh n n) (oL UbD (UFs n) n 4 Uos Ueg (UjU n n) oN)
abbrev Utt (n : Nat) : Orc R := oC UbD (UFs n) 17 Ulk Uiv (Ums n) oN
abbrev UES (R : Type) (n : Nat) := JcH (R := R) Tryz.prog (Upk n) UbD n (78, []) (UtH n) (Utt n)
theorem Uuf (n : Nat) : UES R n (false, 10, Ull) := JkF (lo := UtH n) (cu := Utt n) (pO pN (by kernel_rfl)) Ucm (Uh n n) (JiE (F := Uh n) Ucm (Utj n) (fun K _ _ _ _ _ _ _ _ _ _ _ => rfl) (fun _ _ => rfl) (fun L K _ _ _ _ _ _ _ _ _ _ _ => by show _ = _; kernel_rfl) n) fun _ _ => rfl
theorem UzQ (n : Nat) : UES R n (false, 4, Uos) := JkF (lo := UtH n) (cu := Utt n) (pO (pC (Uuf n) pN) (by kernel_rfl)) Ueg (UjU n n) (JiE (F := UjU n) Ueg (UxG n) (fun K _ _ _ _ _ _ _ _ _ _ => rfl) (fun _ _ => rfl) (fun L K _ _ _ _ _ _ _ _ _ _ => by show _ = _; kernel_rfl) n) fun _ _ => rfl
theorem Uue (n : Nat) : UES R n (true, 17, Ulk) := JkW (lo := UtH n) (cu := Utt n) (pO pN (by kernel_rfl)) Uiv (Ums n) (fun K _ _ _ _ _ _ _ _ => by show _ = _; kernel_rfl) fun _ _ => rfl
theorem UHZ (n : Nat) : Je6 (UES R n) (JaJ UbD (Jll Tryz.f145)) := pO (pC (UzQ n) (pC (Uue n) pN)) (by kernel_rfl)
abbrev t145 : Sl (List SV) := (.c (sP (JlI (.c Jlf (.c sSh .n)))) (.c (sP (JlI (.c Jlf (.c sSh .n)))) .n))
abbrev f145 (n : Nat) (K : List SV → O R) : t145.T (O R) := fun x1 x2 x3 x4 => Uzf n x1 x2 x3 x4 (fun y1 y2 y3 y4 => K [.p (.agg [.v (.bool y1), .sh y2]), .p (.agg [.v (.bool y3), .sh y4])])
abbrev UyU (n : Nat) : FS := fT [false, false] t145 (f145 n)
theorem UDe (n : Nat) : FSound Tryz.prog GI 145 (UyU n) := gd UbD n (Ul6 n) Tryz.func145 (.cons (Ul6 n) t145 (f145 n) (fun K _ _ _ _ => (Jkq (c := Jll Tryz.f145) (by kernel_rfl) (UHZ n) K).trans (by kernel_rfl)) .nil) (by kernel_rfl)
def Ufi : Ann := { loops := [(1, ids [2, 3, 4], ids [2, 4])], cuts := [], frz := [], rm := [.id] }
abbrev Upj (n : Nat) : Env := eC 145 (UyU n) (eC 122 (UiU n) eN)
theorem Ul4 (n : Nat) : EnvOK Tryz.prog GI (Upj n) := .cons (.cons (.nil) (Uj7 n)) (UDe n)
def Uhw (n : Nat) (l0 : Bool → LP → Bool → LP → Bool → O R) (x1 : Bool) (x2 : LP) (x3 : Bool) (x4 : LP) (x5 : Bool) (k0 : Bool → LP → Bool → O R) : O R :=
  bif (decide (((x4).length : Int) > 0)) then (Uzf n x1 x2 x3 x4 (fun y6 y7 y8 y9 => l0 x3 x4 y8 y9 x5)) else (k0 x1 x2 x5)
def Uda (n : Nat) : Nat → Bool → LP → Bool → LP → Bool → (Bool → LP → Bool → O R) → O R
  | 0, _, _, _, _, _, _ => none
  | m + 1, x1, x2, x3, x4, x5, k0 => Uhw n (fun x1 x2 x3 x4 x5 => Uda n m x1 x2 x3 x4 x5 k0) x1 x2 x3 x4 x5 k0
def Usb (n : Nat) (x1 : Bool) (x2 : LP) (x3 : Bool) (x4 : LP) (x5 : Bool) (k0 : Bool → LP → Bool → O R) : O R := Uda n n x1 x2 x3 x4 x5 k0
def UFn (n : Nat) (x1 : Bool) (x2 : LP) (x3 : Bool) (x4 : LP) (k0 : Bool → LP → O R) : O R :=
  Usb n x1 x2 x3 x4 false (fun y5 y6 y7 => UmQ n false y6 (fun y8 y9 => k0 y8 y9))
abbrev UK2 (n : Nat) : Code → Fr → Kc R → O R := evC Tryz.prog (Upj n) Ufi n (22, [])
noncomputable def Uor : Code := Jj4 (Jll Tryz.f143) [1, 0, 0, 0]
abbrev Uef : Sl (List SV) := (.c (sBx 55 (cB (cH .n))) (.c (sBx 55 (cB (cH .n))) (.c (sBx 55 (cB (.c sNl .n))) .n)))
abbrev UjT (n m : Nat) (K : Kc R) : Uef.T (O R) := fun x1 x2 x3 x4 x5 => Uda n m x1 x2 x3 x4 x5 (fun y1 y2 y3 => xL Ufi 1 K (.exit 0) [.bx 55 [vB y1, vH y2], .bx 55 [vB y3, .nl]])
abbrev UxF (n : Nat) (K : Kc R) (l0 : Uef.T (O R)) : Uef.T (O R) := fun x1 x2 x3 x4 x5 => Uhw n l0 x1 x2 x3 x4 x5 (fun y1 y2 y3 => xL Ufi 1 K (.exit 0) [.bx 55 [vB y1, vH y2], .bx 55 [vB y3, .nl]])
abbrev UC6 (n : Nat) : Orc R := oL Ufi (UK2 n) n 1 Uor Uef (UjT n n) oN
abbrev UBy (n : Nat) : Orc R := oN
abbrev UIZ (R : Type) (n : Nat) := JcH (R := R) Tryz.prog (Upj n) Ufi n (22, []) (UC6 n) (UBy n)
theorem UzP (n : Nat) : UIZ R n (false, 1, Uor) := JkF (lo := UC6 n) (cu := UBy n) (pO pN (by kernel_rfl)) Uef (UjT n n) (JiE (F := UjT n) Uef (UxF n) (fun K _ _ _ _ _ => rfl) (fun _ _ => rfl) (fun L K _ _ _ _ _ => by show _ = _; kernel_rfl) n) fun _ _ => rfl
theorem UHX (n : Nat) : Je6 (UIZ R n) (JaJ Ufi (Jll Tryz.f143)) := pO (pC (UzP n) pN) (by kernel_rfl)
abbrev t143 : Sl (List SV) := (.c (sP (JlI (.c Jlf (.c sSh .n)))) (.c (sP (JlI (.c Jlf (.c sSh .n)))) .n))
abbrev f143 (n : Nat) (K : List SV → O R) : t143.T (O R) := fun x1 x2 x3 x4 => UFn n x1 x2 x3 x4 (fun y1 y2 => K [.p (.agg [.v (.bool y1), .sh y2])])
abbrev UCM (n : Nat) : FS := fT [false, false] t143 (f143 n)
theorem UG7 (n : Nat) : FSound Tryz.prog GI 143 (UCM n) := gd Ufi n (Ul4 n) Tryz.func143 (.cons (Ul4 n) t143 (f143 n) (fun K _ _ _ _ => (Jkq (c := Jll Tryz.f143) (by kernel_rfl) (UHX n) K).trans (by kernel_rfl)) .nil) (by kernel_rfl)
def UcM : Ann := { loops := [(7, ids [1, 3, 4], ids [2, 3])], cuts := [(6, ids [1, 3], ids [2])], frz := [], rm := [.id] }
abbrev Uo9 (n : Nat) : Env := eN
theorem UlM (n : Nat) : EnvOK Tryz.prog GI (Uo9 n) := .nil
def UeQ (n : Nat) (l0 : Bool → LP → ByteArray → Int → O R) (x1 : Bool) (x2 : LP) (x3 : ByteArray) (x4 : Int) (k0 : ByteArray → O R) : O R :=
  bif (decide (x4 < ((x2).length : Int))) then (bif (inR x4 ((x2).length)) then (Jj .i64 ((x2).getD ((x4 : Int).toNat) (.v (.bool false))) fun e5 => bif (inR x4 ((x2).length)) then (Jj .i64 ((x2).getD ((x4 : Int).toNat) (.v (.bool false))) fun e6 => bif (Je5 e5 (IntKind.i64.wrap (e6 + 1)) ((⟨#[48, 49, 50, 51, 52, 53, 54, 55, 56, 57]⟩ : ByteArray)).size) then (Jj0 x3 (ByteArray.extract (⟨#[48, 49, 50, 51, 52, 53, 54, 55, 56, 57]⟩ : ByteArray) (e5 : Int).toNat (IntKind.i64.wrap (e6 + 1) : Int).toNat) fun s7 => l0 x1 x2 s7 (IntKind.i64.wrap (x4 + 1))) else none) else none) else none) else (k0 x3)
def Ub2 (n : Nat) : Nat → Bool → LP → ByteArray → Int → (ByteArray → O R) → O R
  | 0, _, _, _, _, _ => none
  | m + 1, x1, x2, x3, x4, k0 => UeQ n (fun x1 x2 x3 x4 => Ub2 n m x1 x2 x3 x4 k0) x1 x2 x3 x4 k0
def Ur2 (n : Nat) (x1 : Bool) (x2 : LP) (x3 : ByteArray) (x4 : Int) (k0 : ByteArray → O R) : O R := Ub2 n n x1 x2 x3 x4 k0
def Uhm (n : Nat) (x1 : Bool) (x2 : LP) (x3 : ByteArray) (k0 : ByteArray → O R) : O R :=
  Ur2 n x1 x2 x3 0 (fun y4 => k0 y4)
def UAF (n : Nat) (x1 : Bool) (x2 : LP) (k0 : ByteArray → O R) : O R :=
  bif (((x2).length : Int) == 0) then (k0 ⟨#[48]⟩) else (bif x1 then (Uhm n x1 x2 ⟨#[45]⟩ (fun y3 => k0 y3)) else (Uhm n x1 x2 ⟨#[]⟩ (fun y4 => k0 y4)))
abbrev UIM (n : Nat) : Code → Fr → Kc R → O R := evC Tryz.prog (Uo9 n) UcM n (33, [])
noncomputable def Un8 : Code := Jj4 (Jll Tryz.f112) [1, 1, 1, 1]
abbrev Ukw : Sl (List SV) := (.c (sBx 55 (cB (cH .n))) (cS .n))
abbrev UqF (n : Nat) (K : Kc R) : Ukw.T (O R) := fun x1 x2 x3 => Uhm n x1 x2 x3 (fun y1 => xC UcM 6 K .ret [vS y1])
noncomputable def Un9 : Code := Jj4 (Jll Tryz.f112) [1, 1, 1, 1, 0, 1, 0, 0]
abbrev Ud7 : Sl (List SV) := (.c (sBx 55 (cB (cH .n))) (cS (cI .n)))
abbrev UjK (n m : Nat) (K : Kc R) : Ud7.T (O R) := fun x1 x2 x3 x4 => Ub2 n m x1 x2 x3 x4 (fun y1 => xL UcM 7 K (.exit 0) [dD, vS y1])
abbrev Uxw (n : Nat) (K : Kc R) (l0 : Ud7.T (O R)) : Ud7.T (O R) := fun x1 x2 x3 x4 => UeQ n l0 x1 x2 x3 x4 (fun y1 => xL UcM 7 K (.exit 0) [dD, vS y1])
abbrev Uy7 (n : Nat) : Orc R := oL UcM (UIM n) n 7 Un9 Ud7 (UjK n n) oN
abbrev Ux3 (n : Nat) : Orc R := oC UcM (UIM n) 6 Un8 Ukw (UqF n) oN
abbrev UFt (R : Type) (n : Nat) := JcH (R := R) Tryz.prog (Uo9 n) UcM n (33, []) (Uy7 n) (Ux3 n)
theorem Uzv (n : Nat) : UFt R n (false, 7, Un9) := JkF (lo := Uy7 n) (cu := Ux3 n) (pO pN (by kernel_rfl)) Ud7 (UjK n n) (JiE (F := UjK n) Ud7 (Uxw n) (fun K _ _ _ _ => rfl) (fun _ _ => rfl) (fun L K _ _ _ _ => by show _ = _; kernel_rfl) n) fun _ _ => rfl
theorem Uzu (n : Nat) : UFt R n (true, 6, Un8) := JkW (lo := Uy7 n) (cu := Ux3 n) (pO (pC (Uzv n) pN) (by kernel_rfl)) Ukw (UqF n) (fun K _ _ _ => by show _ = _; kernel_rfl) fun _ _ => rfl
theorem UHF (n : Nat) : Je6 (UFt R n) (JaJ UcM (Jll Tryz.f112)) := pO (pC (Uzu n) pN) (by kernel_rfl)
abbrev UIj : Sl (List SV) := (.c (sP (JlI (.c Jlf (.c sSh .n)))) .n)
abbrev f112 (n : Nat) (K : List SV → O R) : UIj.T (O R) := fun x1 x2 => UAF n x1 x2 (fun y1 => K [vS y1])
abbrev UCu (n : Nat) : FS := fT [false] UIj (f112 n)
theorem UGP (n : Nat) : FSound Tryz.prog GI 112 (UCu n) := gd UcM n (UlM n) Tryz.func112 (.cons (UlM n) UIj (f112 n) (fun K _ _ => (Jkq (c := Jll Tryz.f112) (by kernel_rfl) (UHF n) K).trans (by kernel_rfl)) .nil) (by kernel_rfl)
def UcO : Ann := { loops := [(4, [(0, .id), (2, .id), (3, .id), (4, .own 3), (5, .id)], ids [2, 3, 4])], cuts := [(5, ids [0, 2, 3, 4, 5], ids [0, 2, 3, 4, 5])], frz := [], rm := [.id] }
abbrev Upf (n : Nat) : Env := eC 122 (UiU n) eN
theorem UlX (n : Nat) : EnvOK Tryz.prog GI (Upf n) := .cons (.nil) (Uj7 n)
def Ufz (n : Nat) (x1 : ByteArray) (x2 x3 : Bool) (x4 : LP) (x5 : Int) (k0 : ByteArray → Bool → Bool → LP → Int → O R) : O R :=
  k0 x1 x2 x3 x4 (IntKind.i64.wrap (x5 + 1))
def Ud (n : Nat) (l0 : ByteArray → Bool → Bool → LP → Int → O R) (x1 : ByteArray) (x2 x3 : Bool) (x4 : LP) (x5 : Int) (k0 : Bool → Bool → LP → O R) : O R :=
  bif (decide (x5 < ((x1).size : Int))) then (bif (inR x5 (x1).size) then (bif (Jc6 x1 x5 == 45) then (Ufz n x1 x2 true x4 x5 (fun y6 y7 y8 y9 y10 => l0 y6 y7 y8 y9 y10)) else (bif (inR x5 (x1).size) then (let v11 := IntKind.u8.wrap ((Jc6 x1 x5) - 48); bif (Jbu ((x4).length + 1) 8) then (Ufz n x1 x2 x3 (x4 ++ ([.v (.int .i64 (IntKind.i64.wrap (v11)))] : LP)) x5 (fun y12 y13 y14 y15 y16 => l0 y12 y13 y14 y15 y16)) else none) else none)) else none) else (k0 x2 x3 x4)
def Ubs (n : Nat) : Nat → ByteArray → Bool → Bool → LP → Int → (Bool → Bool → LP → O R) → O R
  | 0, _, _, _, _, _, _ => none
  | m + 1, x1, x2, x3, x4, x5, k0 => Ud n (fun x1 x2 x3 x4 x5 => Ubs n m x1 x2 x3 x4 x5 k0) x1 x2 x3 x4 x5 k0
def Ur7 (n : Nat) (x1 : ByteArray) (x2 x3 : Bool) (x4 : LP) (x5 : Int) (k0 : Bool → Bool → LP → O R) : O R := Ubs n n x1 x2 x3 x4 x5 k0
def Uv8 (n : Nat) (x1 : ByteArray) (k0 : Bool → LP → O R) : O R :=
  Ur7 n x1 false false [] 0 (fun y2 y3 y4 => UmQ n y3 y4 (fun y5 y6 => k0 y5 y6))
abbrev UIP (n : Nat) : Code → Fr → Kc R → O R := evC Tryz.prog (Upf n) UcO n (27, [])
noncomputable def Uok : Code := Jj4 (Jll Tryz.f125) [1, 1, 1, 0, 1, 0, 0, 1, 1]
abbrev UkE : Sl (List SV) := (cS (.c (sBx 55 (cB (.c sNl .n))) (cB (cO 3 (cI .n)))))
abbrev UqN (n : Nat) (K : Kc R) : UkE.T (O R) := fun x1 x2 x3 x4 x5 => Ufz n x1 x2 x3 x4 x5 (fun y1 y2 y3 y4 y5 => xC UcO 5 K .normal [vS y1, .bx 55 [vB y2, .nl], vB y3, .own 3 y4, vI y5])
noncomputable def Uol : Code := Jj4 (Jll Tryz.f125) [1, 1, 1, 0, 1, 0, 0]
abbrev Ueb : Sl (List SV) := (cS (.c (sBx 55 (cB (.c sNl .n))) (cB (cO 3 (cI .n)))))
abbrev UjP (n m : Nat) (K : Kc R) : Ueb.T (O R) := fun x1 x2 x3 x4 x5 => Ubs n m x1 x2 x3 x4 x5 (fun y1 y2 y3 => xL UcO 4 K (.exit 0) [.bx 55 [vB y1, .nl], vB y2, .own 3 y3])
abbrev UxB (n : Nat) (K : Kc R) (l0 : Ueb.T (O R)) : Ueb.T (O R) := fun x1 x2 x3 x4 x5 => Ud n l0 x1 x2 x3 x4 x5 (fun y1 y2 y3 => xL UcO 4 K (.exit 0) [.bx 55 [vB y1, .nl], vB y2, .own 3 y3])
abbrev Uy9 (n : Nat) : Orc R := oL UcO (UIP n) n 4 Uol Ueb (UjP n n) oN
abbrev Ux5 (n : Nat) : Orc R := oC UcO (UIP n) 5 Uok UkE (UqN n) oN
abbrev UFv (R : Type) (n : Nat) := JcH (R := R) Tryz.prog (Upf n) UcO n (27, []) (Uy9 n) (Ux5 n)
theorem UzI (n : Nat) : UFv R n (true, 5, Uok) := JkW (lo := Uy9 n) (cu := Ux5 n) (pO pN (by kernel_rfl)) UkE (UqN n) (fun K _ _ _ _ _ => by show _ = _; kernel_rfl) fun _ _ => rfl
theorem UzJ (n : Nat) : UFv R n (false, 4, Uol) := JkF (lo := Uy9 n) (cu := Ux5 n) (pO (pC (UzI n) pN) (by kernel_rfl)) Ueb (UjP n n) (JiE (F := UjP n) Ueb (UxB n) (fun K _ _ _ _ _ => rfl) (fun _ _ => rfl) (fun L K _ _ _ _ _ => by show _ = _; kernel_rfl) n) fun _ _ => rfl
theorem UHQ (n : Nat) : Je6 (UFv R n) (JaJ UcO (Jll Tryz.f125)) := pO (pC (UzJ n) pN) (by kernel_rfl)
abbrev UIr : Sl (List SV) := (cS .n)
abbrev f125 (n : Nat) (K : List SV → O R) : UIr.T (O R) := fun x1 => Uv8 n x1 (fun y1 y2 => K [.p (.agg [.v (.bool y1), .sh y2])])
abbrev UyT (n : Nat) : FS := fT [false] UIr (f125 n)
theorem UDd (n : Nat) : FSound Tryz.prog GI 125 (UyT n) := gd UcO n (UlX n) Tryz.func125 (.cons (UlX n) UIr (f125 n) (fun K _ => (Jkq (c := Jll Tryz.f125) (by kernel_rfl) (UHQ n) K).trans (by kernel_rfl)) .nil) (by kernel_rfl)
end
end Go.Proofs.YtmgfmlhdnadglaaGreatDoor
set_option linter.unusedVariables false
set_option linter.unusedSimpArgs false
namespace Go.Proofs.YtmgfmlhdnadglaaGreatDoor
open Go Th Go.Proofs
variable {R : Type}
theorem UfV {l : List Nat} {i : Nat} (h : i < l.length) : l = l.take i ++ l.getD i 0 :: l.drop (i + 1) := by
  conv => lhs; rw [← List.take_append_drop i l]
  rw [UcU h]
theorem UwF {l : List Nat} {i : Nat} (d : Nat) (h : i < l.length) : vb (l.set i d) + l.getD i 0 * 10 ^ (l.length - 1 - i) = vb l + d * 10 ^ (l.length - 1 - i) := by
  have e1 : vb l = vb (l.take i) * 10 ^ (l.length - i) + (l.getD i 0 * 10 ^ (l.length - 1 - i) + vb (l.drop (i + 1))) := by
    conv => lhs; rw [UfV h]
    rw [Udk, UcK, List.length_cons, List.length_drop]
    congr 2
    · congr 1; omega
    · congr 2; omega
  have e2 : vb (l.set i d) = vb (l.take i) * 10 ^ (l.length - i) + (d * 10 ^ (l.length - 1 - i) + vb (l.drop (i + 1))) := by
    rw [List.set_eq_take_append_cons_drop, if_pos h, Udk, UcK, List.length_cons, List.length_drop]
    congr 2
    · congr 1; omega
    · congr 2; omega
  omega
theorem UbV {l : List Nat} {i : Nat} (h : i < l.length) : vb (l.take (i + 1)) = 10 * vb (l.take i) + l.getD i 0 := by
  rw [Ubc h, UkZ]
theorem UwE (a : Nat) : Int.tmod (a : Int) 10 = ((a % 10 : Nat) : Int) := Jlk a 10
theorem UwC (a : Nat) : Int.tdiv (a : Int) 10 = ((a / 10 : Nat) : Int) := Jlj a 10
theorem UfX (n : Nat) (x1 : Bool) (x2 : List PV) (x3 : Bool) (x4 : List PV) (x5 : Bool) (i k : Int) : ∀ (m at_ x : Nat) (o : List Nat), at_ < m → (∀ d ∈ o, d < 10) → at_ < o.length → o.length < 2 ^ 40 → x < 100 → vb o + x * 10 ^ (o.length - at_) < 10 ^ o.length →
    ∃ o' : List Nat, (∀ k0 : Bool → List PV → Bool → List PV → Bool → List PV → Int → Int → Option R, Ucg n m x1 x2 x3 x4 x5 (nl .i64 o) i k at_ x k0 = k0 x1 x2 x3 x4 x5 (nl .i64 o') i k) ∧ (∀ d ∈ o', d < 10) ∧ o'.length = o.length ∧ vb o' = vb o + x * 10 ^ (o.length - at_)
  | m + 1, at_, x, o, hm, ho, hat, hl, hx, hv => by
    by_cases h0 : x = 0
    · subst h0
      refine ⟨o, fun k0 => ?_, ho, rfl, by simp⟩
      simp only [Ucg, Ue6]
      simp (disch := (first | omega | (simp only [JlE]; omega))) only [↓JlH, JlF, JlG]
    · have hat0 : at_ ≠ 0 := by
        intro e
        subst e
        rw [Nat.sub_zero] at hv
        have : 1 * 10 ^ o.length ≤ x * 10 ^ o.length := Nat.mul_le_mul_right _ (by omega)
        omega
      obtain ⟨p, rfl⟩ : ∃ p, at_ = p + 1 := ⟨at_ - 1, by omega⟩
      have hd := Uac hT2 ho p
      have hs := UwF ((x + o.getD p 0) % 10) (l := o) (i := p) (by omega)
      have hdm := Nat.div_add_mod (x + o.getD p 0) 10
      have e1 : o.length - (p + 1) = o.length - 1 - p := by omega
      have e2 : o.length - p = (o.length - 1 - p) + 1 := by omega
      have key : vb (o.set p ((x + o.getD p 0) % 10)) + (x + o.getD p 0) / 10 * 10 ^ (o.length - p) = vb o + x * 10 ^ (o.length - (p + 1)) := by
        rw [e1, e2, Nat.pow_succ]
        generalize 10 ^ (o.length - 1 - p) = P at *
        generalize o.getD p 0 = y at *
        generalize (x + y) / 10 = q at *
        generalize (x + y) % 10 = r at *
        have : (10 * q + r) * P = (x + y) * P := by rw [hdm]
        clear hv e1 e2
        grind
      obtain ⟨o', q1, q2, q3, q4⟩ := UfX n x1 x2 x3 x4 x5 i k m p ((x + o.getD p 0) / 10) (o.set p ((x + o.getD p 0) % 10)) (by omega) (Ubg ho (Nat.mod_lt _ (by omega)) _) (by rw [List.length_set]; omega) (by rw [List.length_set]; exact hl) (by omega) (by rw [List.length_set, key]; exact hv)
      rw [List.length_set] at q3 q4
      refine ⟨o', fun k0 => ?_, q2, q3, by rw [q4, key]⟩
      rw [← q1 k0]
      have w1 : ((p + 1 : Nat) : Int) - 1 = (p : Int) := by omega
      have w2 : (x : Int) + ((o.getD p 0 : Nat) : Int) = ((x + o.getD p 0 : Nat) : Int) := by omega
      have w3 : decide ((10 : Int) = 0) = false := rfl
      simp only [Ucg, Ue6]
      simp (disch := (first | omega | (simp only [JlE]; omega))) only [↓JlH, JlF, JlG, w1, w2, w3, UwE, UwC]
theorem Uv3 (n : Nat) (x1 x3 x5 : Bool) (la lb : List Nat) (ha : ∀ d ∈ la, d < 10) (hb : ∀ d ∈ lb, d < 10) (hla : la.length + lb.length < 2 ^ 30) (hn : la.length + lb.length < n) (i : Nat) (hi : i < la.length) :
    ∀ (k m : Nat) (o : List Nat), k < m → k ≤ lb.length → (∀ d ∈ o, d < 10) → o.length = la.length + lb.length → vb o + la.getD i 0 * (vb (lb.take k) * 10 ^ (lb.length - k)) * 10 ^ (la.length - 1 - i) < 10 ^ o.length →
      ∃ o' : List Nat, (∀ k0 : Bool → List PV → Bool → List PV → Bool → List PV → Int → Option R, UdU n m x1 (nl .i64 la) x3 (nl .i64 lb) x5 (nl .i64 o) i ((k : Int) - 1) k0 = k0 x1 (nl .i64 la) x3 (nl .i64 lb) x5 (nl .i64 o') i) ∧ (∀ d ∈ o', d < 10) ∧ o'.length = o.length ∧
        vb o' = vb o + la.getD i 0 * (vb (lb.take k) * 10 ^ (lb.length - k)) * 10 ^ (la.length - 1 - i)
  | 0, m + 1, o, hm, hk, ho, hol, hv => by
    refine ⟨o, fun k0 => ?_, ho, rfl, by rw [List.take_zero, Un]; simp⟩
    simp only [UdU, Uh4]
    simp (disch := (first | omega | (simp only [JlE]; omega))) only [↓JlH, JlF, JlG]
  | k + 1, m + 1, o, hm, hk, ho, hol, hv => by
    have hx := Uac hT2 ha i
    have hy := Uac hT2 hb k
    have hz := Uac hT2 ho (i + k + 1)
    have hxy : la.getD i 0 * lb.getD k 0 ≤ 9 * 9 := Nat.mul_le_mul (by omega) (by omega)
    obtain ⟨v, hve⟩ : ∃ v, v = o.getD (i + k + 1) 0 + la.getD i 0 * lb.getD k 0 := ⟨_, rfl⟩
    have hs := UwF (v % 10) (l := o) (i := i + k + 1) (by omega)
    have hdm := Nat.div_add_mod v 10
    rw [UbV (by omega : k < lb.length)] at hv ⊢
    have eW : o.length - 1 - (i + k + 1) = (lb.length - (k + 1)) + (la.length - 1 - i) := by omega
    have eW2 : o.length - (i + k + 1) = (lb.length - (k + 1)) + (la.length - 1 - i) + 1 := by omega
    have eW3 : lb.length - k = (lb.length - (k + 1)) + 1 := by omega
    rw [eW, Nat.pow_add] at hs
    have key : vb (o.set (i + k + 1) (v % 10)) + v / 10 * 10 ^ (o.length - (i + k + 1)) = vb o + la.getD i 0 * lb.getD k 0 * (10 ^ (lb.length - (k + 1)) * 10 ^ (la.length - 1 - i)) := by
      rw [eW2, Nat.pow_succ, Nat.pow_add]
      generalize 10 ^ (lb.length - (k + 1)) = P at *
      generalize 10 ^ (la.length - 1 - i) = Q at *
      generalize o.getD (i + k + 1) 0 = z at *
      generalize la.getD i 0 * lb.getD k 0 = xy at *
      have : (10 * (v / 10) + v % 10) * (P * Q) = (z + xy) * (P * Q) := by rw [hdm, hve]
      generalize v / 10 = q at *
      generalize v % 10 = r at *
      clear hv eW eW2 eW3
      grind
    have split : la.getD i 0 * ((10 * vb (lb.take k) + lb.getD k 0) * 10 ^ (lb.length - (k + 1))) * 10 ^ (la.length - 1 - i) = la.getD i 0 * (vb (lb.take k) * 10 ^ (lb.length - k)) * 10 ^ (la.length - 1 - i) + la.getD i 0 * lb.getD k 0 * (10 ^ (lb.length - (k + 1)) * 10 ^ (la.length - 1 - i)) := by
      rw [eW3, Nat.pow_succ]
      clear hv hs key
      grind
    rw [split] at hv ⊢
    obtain ⟨o1, q1, q2, q3, q4⟩ := UfX (R := R) n x1 (nl .i64 la) x3 (nl .i64 lb) x5 i k n (i + k + 1) (v / 10) (o.set (i + k + 1) (v % 10)) (by omega) (Ubg ho (Nat.mod_lt _ (by omega)) _) (by rw [List.length_set]; omega) (by rw [List.length_set]; omega) (by omega) (by rw [List.length_set, key]; omega)
    rw [List.length_set] at q3 q4
    rw [key] at q4
    obtain ⟨o', s1, s2, s3, s4⟩ := Uv3 n x1 x3 x5 la lb ha hb hla hn i hi k m o1 (by omega) (by omega) q2 (by omega) (by rw [q4, q3]; omega)
    refine ⟨o', fun k0 => ?_, s2, by omega, by rw [s4, q4]; omega⟩
    rw [← s1 k0]
    have w0 : ((k + 1 : Nat) : Int) - 1 = (k : Int) := by omega
    have w1 : (i : Int) + (k : Int) + 1 = ((i + k + 1 : Nat) : Int) := by omega
    have w2 : ((la.getD i 0 : Nat) : Int) * ((lb.getD k 0 : Nat) : Int) = ((la.getD i 0 * lb.getD k 0 : Nat) : Int) := by rw [Int.natCast_mul]
    have w4 : decide ((10 : Int) = 0) = false := rfl
    clear hs key split s4 q4 hv
    generalize la.getD i 0 * lb.getD k 0 = xy at *
    have w3 : ((o.getD (i + k + 1) 0 : Nat) : Int) + (xy : Int) = (v : Int) := by omega
    simp only [UdU, Uh4, Ust]
    simp (disch := (first | omega | (simp only [JlE]; omega))) only [↓JlH, JlF, JlG, w0, w1, w2, w3, w4, UwE, UwC, q1]
theorem UrP (n : Nat) (x1 x3 x5 : Bool) (la lb : List Nat) (ha : ∀ d ∈ la, d < 10) (hb : ∀ d ∈ lb, d < 10) (hla : la.length + lb.length < 2 ^ 30) (hn : la.length + lb.length < n) :
    ∀ (i m : Nat) (o : List Nat), i < m → i ≤ la.length → (∀ d ∈ o, d < 10) → o.length = la.length + lb.length → vb o + vb (la.take i) * 10 ^ (la.length - i) * vb lb < 10 ^ o.length →
      ∃ o' : List Nat, (∀ k0 : Bool → List PV → Bool → List PV → Bool → List PV → Option R, UdT n m x1 (nl .i64 la) x3 (nl .i64 lb) x5 (nl .i64 o) ((i : Int) - 1) k0 = k0 x1 (nl .i64 la) x3 (nl .i64 lb) x5 (nl .i64 o')) ∧ (∀ d ∈ o', d < 10) ∧ o'.length = o.length ∧
        vb o' = vb o + vb (la.take i) * 10 ^ (la.length - i) * vb lb
  | 0, m + 1, o, hm, hi, ho, hol, hv => by
    refine ⟨o, fun k0 => ?_, ho, rfl, by rw [List.take_zero, Un]; simp⟩
    simp only [UdT, Uh3]
    simp (disch := (first | omega | (simp only [JlE]; omega))) only [↓JlH, JlF, JlG]
  | i + 1, m + 1, o, hm, hi, ho, hol, hv => by
    rw [UbV (by omega : i < la.length)] at hv ⊢
    have eW3 : la.length - i = (la.length - (i + 1)) + 1 := by omega
    have eW4 : la.length - 1 - i = la.length - (i + 1) := by omega
    have split : (10 * vb (la.take i) + la.getD i 0) * 10 ^ (la.length - (i + 1)) * vb lb = vb (la.take i) * 10 ^ (la.length - i) * vb lb + la.getD i 0 * (vb lb * 10 ^ (lb.length - lb.length)) * 10 ^ (la.length - 1 - i) := by
      rw [eW3, eW4, Nat.pow_succ, Nat.sub_self, Nat.pow_zero]
      clear hv
      grind
    rw [split] at hv ⊢
    obtain ⟨o1, q1, q2, q3, q4⟩ := Uv3 (R := R) n x1 x3 x5 la lb ha hb hla hn i (by omega) lb.length n o (by omega) (Nat.le_refl _) ho hol (by rw [List.take_length]; omega)
    rw [List.take_length] at q4
    obtain ⟨o', s1, s2, s3, s4⟩ := UrP n x1 x3 x5 la lb ha hb hla hn i m o1 (by omega) (by omega) q2 (by omega) (by rw [q4, q3]; omega)
    refine ⟨o', fun k0 => ?_, s2, by omega, by rw [s4, q4]; omega⟩
    rw [← s1 k0]
    have w0 : ((i + 1 : Nat) : Int) - 1 = (i : Int) := by omega
    clear split s4 q4 hv
    simp only [UdT, Uh3, Uwy]
    simp (disch := (first | omega | (simp only [JlE]; omega))) only [↓JlH, JlF, JlG, w0, q1]
theorem UdZ (n : Nat) (x y : Int) (hx : ll x.natAbs ≤ 50000) (hy : ll y.natAbs ≤ 50000) (hn : 200000 ≤ n) (k0 : Bool → List PV → Option R) :
    p89 n (sg x) (II x.natAbs) (sg y) (II y.natAbs) k0 = k0 (sg (x * y)) (II (x * y).natAbs) := by
  obtain ⟨L, hL⟩ : ∃ L, ll x.natAbs + ll y.natAbs = L := ⟨_, rfl⟩
  have hlt : x.natAbs * y.natAbs < 10 ^ L := by rw [← hL, Nat.pow_add]; exact Nat.mul_lt_mul_of_lt_of_lt (Udt.1 (Nat.le_refl _)) (Udt.1 (Nat.le_refl _))
  have hz : vb (List.replicate L 0) = 0 := by unfold vb; rw [List.reverse_replicate, Ujh]
  obtain ⟨o', q1, q2, q3, q4⟩ := UrP (R := R) n (sg x) (sg y) false (DL x.natAbs) (DL y.natAbs) (Uew _) (Uew _) (by rw [Uaa, Uaa]; omega) (by rw [Uaa, Uaa]; omega) (ll x.natAbs) n (List.replicate L 0) (by omega) (by rw [Uaa]; omega) (Ug hT2 _) (by rw [List.length_replicate, Uaa, Uaa]; omega)
    (by
      rw [List.take_of_length_le (by rw [Uaa]; omega), UfQ, UfQ, Uaa, Nat.sub_self, hz, List.length_replicate]
      simpa using hlt)
  rw [List.take_of_length_le (by rw [Uaa]; omega), UfQ, UfQ, Uaa, Nat.sub_self, hz, Nat.pow_zero, Nat.mul_one, Nat.zero_add] at q4
  rw [List.length_replicate] at q3
  have hm := fun k0 => UaB (R := R) n (!(sg x == sg y)) o' q2 (by omega) (by omega) k0
  rw [q4] at hm
  have e3 : (!(sg x == sg y) && !(x.natAbs * y.natAbs == 0)) = sg (x * y) := by
    rw [Bool.eq_iff_iff]
    simp only [sg, Bool.and_eq_true, decide_eq_true_eq, Bool.not_eq_true', beq_eq_false_iff_ne, ne_eq, Nat.mul_eq_zero, decide_eq_decide]
    constructor
    · rintro ⟨h1, h2⟩
      by_cases hx0 : x < 0
      · exact Int.mul_neg_of_neg_of_pos hx0 (by omega)
      · exact Int.mul_neg_of_pos_of_neg (by omega) (by omega)
    · intro h
      refine ⟨fun h1 => ?_, fun h2 => ?_⟩
      · by_cases hx0 : x < 0
        · have := Int.mul_pos_of_neg_of_neg hx0 (h1.1 hx0); omega
        · have := Int.mul_nonneg (by omega : 0 ≤ x) (by omega : 0 ≤ y); omega
      · rcases h2 with h2 | h2
        · rw [show x = 0 from by omega] at h; simp at h
        · rw [show y = 0 from by omega] at h; simp at h
  rw [e3] at hm
  have w1 : (ll x.natAbs : Int) + (ll y.natAbs : Int) = (L : Int) := by omega
  have hrep : List.replicate L (PV.v (.int .i64 0)) = nl .i64 (List.replicate L 0) := Jje .i64 L
  unfold p89 Uwx
  rw [Int.natAbs_mul]
  rw [Uas, Uas]
  unfold II at *
  simp (disch := (first | omega | (simp only [JlE]; omega))) only [↓JlH, JlF, JlG, w1, hrep, q1, hm]
end Go.Proofs.YtmgfmlhdnadglaaGreatDoor
set_option linter.unusedVariables false
set_option maxRecDepth 100000
namespace Go.Proofs.YtmgfmlhdnadglaaGreatDoor
open Go Th Go.Proofs
noncomputable section
variable {R : Type}
def UaG : Ann := { loops := [(5, ids [0, 3, 4], ids [2, 3])], cuts := [(6, ids [0, 3, 4], ids [0, 2, 3, 4])], frz := [], rm := [.id] }
abbrev UiT (n : Nat) : Env := eC 141 (UCL n) (eC 140 (UCK n) (eC 139 (UCJ n) (eC 138 (UCI n) eN)))
theorem UlQ (n : Nat) : EnvOK Tryz.prog GI (UiT n) := .cons (.cons (.cons (.cons (.nil) (UG3 n)) (UG4 n)) (UG5 n)) (UG6 n)
def Ucz (n : Nat) (x1 : LP) (x2 : ByteArray) (x3 : Int) (k0 : LP → ByteArray → Int → O R) : O R :=
  k0 x1 x2 (IntKind.i64.wrap (x3 - 1))
def Ub5 (n : Nat) (l0 : LP → ByteArray → Int → O R) (x1 : LP) (x2 : ByteArray) (x3 : Int) (k0 : ByteArray → O R) : O R :=
  bif (decide (x3 ≥ 0)) then (bif (inR x3 ((x1).length)) then (Jj .u32 ((x1).getD ((x3 : Int).toNat) (.v (.bool false))) fun e4 => bif (JkT (IntKind.i64.wrap (e4))) then (let v5 := IntKind.i64.wrap (((x1).length : Int) - 1); bif (decide (x3 < v5)) then (let v6 := IntKind.i64.wrap (9 - ((JiB (IntKind.i64.wrap (e4))).size : Int)); bif (decide ((0 : Int) ≤ v6) && decide ((v6 : Int) ≤ 9223372036854775807) && JiU (((⟨#[48]⟩ : ByteArray)).size * (v6 : Int).toNat)) then (Jj0 (Jld (⟨#[48]⟩ : ByteArray) v6) (JiB (IntKind.i64.wrap (e4))) fun s7 => bif (JiU ((x2).size + (s7).size)) then (Ucz n x1 (x2 ++ s7) x3 (fun y8 y9 y10 => l0 y8 y9 y10)) else none) else none) else (bif (JiU ((x2).size + (JiB (IntKind.i64.wrap (e4))).size)) then (Ucz n x1 (x2 ++ (JiB (IntKind.i64.wrap (e4)))) x3 (fun y11 y12 y13 => l0 y11 y12 y13)) else none)) else none) else none) else (k0 x2)
def Ua0 (n : Nat) : Nat → LP → ByteArray → Int → (ByteArray → O R) → O R
  | 0, _, _, _, _ => none
  | m + 1, x1, x2, x3, k0 => Ub5 n (fun x1 x2 x3 => Ua0 n m x1 x2 x3 k0) x1 x2 x3 k0
def Uht (n : Nat) (l0 : LP → Int → O R) (l1 : LP → ByteArray → Int → O R) (x1 : LP) (x2 : Int) (k0 : ByteArray → O R) (k1 : O R) : O R :=
  bif (decide (x2 ≥ 0)) then (bif (inR x2 ((x1).length)) then (Jj .u32 ((x1).getD ((x2 : Int).toNat) (.v (.bool false))) fun e3 => bif (JkT (IntKind.i64.wrap (e3))) then (let v4 := IntKind.i64.wrap (((x1).length : Int) - 1); bif (decide (x2 < v4)) then (let v5 := IntKind.i64.wrap (9 - ((JiB (IntKind.i64.wrap (e3))).size : Int)); bif (decide ((0 : Int) ≤ v5) && decide ((v5 : Int) ≤ 9223372036854775807) && JiU (((⟨#[48]⟩ : ByteArray)).size * (v5 : Int).toNat)) then (Jj0 (Jld (⟨#[48]⟩ : ByteArray) v5) (JiB (IntKind.i64.wrap (e3))) fun s6 => bif (JiU ((ByteArray.empty).size + (s6).size)) then (Ucz n x1 (ByteArray.empty ++ s6) x2 (fun y7 y8 y9 => l1 y7 y8 y9)) else none) else none) else (bif (JiU ((ByteArray.empty).size + (JiB (IntKind.i64.wrap (e3))).size)) then (Ucz n x1 (ByteArray.empty ++ (JiB (IntKind.i64.wrap (e3)))) x2 (fun y10 y11 y12 => l1 y10 y11 y12)) else none)) else none) else none) else (k1)
def UeT (n : Nat) : Nat → LP → Int → (ByteArray → O R) → (O R) → O R
  | 0, _, _, _, _ => none
  | m + 1, x1, x2, k0, k1 => Uht n (fun x1 x2 => UeT n m x1 x2 k0 k1) (fun x1 x2 x3 => Ua0 n m x1 x2 x3 k0) x1 x2 k0 k1
def Ur5 (n : Nat) (x1 : LP) (x2 : Int) (k0 : ByteArray → O R) (k1 : O R) : O R := UeT n n x1 x2 k0 k1
def UDl (n : Nat) (x1 : LP) (k0 : ByteArray → O R) : O R :=
  bif (((x1).length : Int) == 0) then (k0 ⟨#[48]⟩) else (let v2 := IntKind.i64.wrap (((x1).length : Int) - 1); Ur5 n x1 v2 (fun y3 => k0 y3) (k0 ByteArray.empty))
abbrev UIN (n : Nat) : Code → Fr → Kc R → O R := evC Tryz.prog (UiT n) UaG n (36, [])
noncomputable def Uog : Code := Jj4 (Jll Tryz.f116) [1, 1, 1, 0, 1, 0, 0, 1, 1]
abbrev UkC : Sl (List SV) := (cH (.c (sOb 181 5) (cI .n)))
abbrev UqL (n : Nat) (K : Kc R) : UkC.T (O R) := fun x1 x2 x3 => Ucz n x1 x2 x3 (fun y1 y2 y3 => xC UaG 6 K .normal [vH y1, dD, .ob 181 5 y2, vI y3])
noncomputable def Ufl : Code := Jj4 (Jll Tryz.f116) [1, 1, 1, 0, 1, 0, 0]
abbrev UaX : Sl (List SV) := (cH (.c (sOb 181 5) (cI .n)))
abbrev Ubx : Sl (List SV) := (cH (.c (sBx 181 (.c (sP Jlg) (.c sNl .n))) (cI .n)))
abbrev UcV (n m : Nat) (K : Kc R) : UaX.T (O R) := fun x1 x2 x3 => Ua0 n m x1 x2 x3 (fun y1 => xL UaG 5 K (.exit 0) [dD, .ob 181 5 y1])
abbrev Uth (n : Nat) (K : Kc R) (l0 : UaX.T (O R)) : UaX.T (O R) := fun x1 x2 x3 => Ub5 n l0 x1 x2 x3 (fun y1 => xL UaG 5 K (.exit 0) [dD, .ob 181 5 y1])
abbrev UeC (n m : Nat) (K : Kc R) : Ubx.T (O R) := fun x1 x2 => UeT n m x1 x2 (fun y1 => xL UaG 5 K (.exit 0) [dD, .ob 181 5 y1]) (xL UaG 5 K (.exit 0) [dD, .bx 181 [.p (.v (.pointer none)), .nl]])
abbrev Uti (n : Nat) (K : Kc R) (l0 : Ubx.T (O R)) (l1 : UaX.T (O R)) : Ubx.T (O R) := fun x1 x2 => Uht n l0 l1 x1 x2 (fun y1 => xL UaG 5 K (.exit 0) [dD, .ob 181 5 y1]) (xL UaG 5 K (.exit 0) [dD, .bx 181 [.p (.v (.pointer none)), .nl]])
abbrev Unp (n : Nat) : Orc R := fun i vs K => JfK (Nat.beq i 5) (Jjg (UaX.ap vs (UcV n n K)) (Jjg (Ubx.ap vs (UeC n n K)) (JcB UaG 5 (UIN n Ufl) n vs K))) (oN i vs K)
abbrev Uni (n : Nat) : Orc R := oC UaG (UIN n) 6 Uog UkC (UqL n) oN
abbrev UEQ (R : Type) (n : Nat) := JcH (R := R) Tryz.prog (UiT n) UaG n (36, []) (Unp n) (Uni n)
theorem UzD (n : Nat) : UEQ R n (true, 6, Uog) := JkW (lo := Unp n) (cu := Uni n) (pO pN (by kernel_rfl)) UkC (UqL n) (fun K _ _ _ => by show _ = _; kernel_rfl) fun _ _ => rfl
theorem UmY (n : Nat) : Je6 (UEQ R n) (JaJ UaG Ufl) := pO (pC (UzD n) pN) (by kernel_rfl)
theorem UlA (n : Nat) : ∀ m (K : Kc R), UaX.all (fun vs r => JcB UaG 5 (JcU Tryz.prog (UiT n) UaG (36, []) (Unp n) (Uni n) Ufl) m vs K = r) (UcV n m K) := JiE (F := UcV n) UaX (Uth n) (fun K _ _ _ => rfl) (fun _ _ => rfl) (fun L K _ _ _ => by show _ = _; kernel_rfl)
theorem Utw (n : Nat) : ∀ m (K : Kc R), Ubx.all (fun vs r => JcB UaG 5 (JcU Tryz.prog (UiT n) UaG (36, []) (Unp n) (Uni n) Ufl) m vs K = r) (UeC n m K) := Jhw (F1 := UcV n) (F := UeC n) Ubx UaX (Uti n) (fun K _ _ => rfl) (fun _ _ => rfl) (UlA n) (fun L K _ _ => by show _ = _; kernel_rfl)
theorem UzE (n : Nat) : UEQ R n (false, 5, Ufl) := JkF (lo := Unp n) (cu := Uni n) (UmY n) UaX (UcV n n) (UlA n n) (JkF (lo := Unp n) (cu := Uni n) (UmY n) Ubx (UeC n n) (Utw n n) fun _ _ => rfl)
theorem UHJ (n : Nat) : Je6 (UEQ R n) (JaJ UaG (Jll Tryz.f116)) := pO (pC (UzE n) pN) (by kernel_rfl)
abbrev t116 : Sl (List SV) := (cH .n)
abbrev f116 (n : Nat) (K : List SV → O R) : t116.T (O R) := fun x1 => UDl n x1 (fun y1 => K [vS y1])
abbrev UCx (n : Nat) : FS := fT [false] t116 (f116 n)
theorem UGS (n : Nat) : FSound Tryz.prog GI 116 (UCx n) := gd UaG n (UlQ n) Tryz.func116 (.cons (UlQ n) t116 (f116 n) (fun K _ => (Jkq (c := Jll Tryz.f116) (by kernel_rfl) (UHJ n) K).trans (by kernel_rfl)) .nil) (by kernel_rfl)
def UcS : Ann := { loops := [], cuts := [(5, ids [1, 4, 24], ids [1, 2, 3]), (7, ids [1], ids [2, 3]), (10, ids [1, 5, 6], ids [2, 3]), (12, ids [5, 6], ids [2, 3]), (14, ids [5], ids [2, 3])], frz := [], rm := [.id, .id] }
abbrev UyF (n : Nat) : Env := eC 116 (UCx n) (eC 115 (UyQ n) (eC 100 (UyO n) eN))
theorem Uql (n : Nat) : EnvOK Tryz.prog GI (UyF n) := .cons (.cons (.cons (.nil) (UC9 n)) (UDa n)) (UGS n)
def Uf6 (n : Nat) (x1 : Bool) (x2 x3 x4 : LP) (x5 : Bool) (k0 : Bool → LP → LP → O R) : O R :=
  bif x5 then (UAG n x2 x4 (fun y6 y7 => UAG n x3 x4 (fun y8 y9 => k0 x1 y6 y8))) else (k0 x1 x2 x3)
def Uh1 (n : Nat) (x1 : ByteArray) (k0 : ByteArray → Int → O R) : O R :=
  k0 x1 0
def Uh0 (n : Nat) (x1 x2 : ByteArray) (k0 : ByteArray → Int → O R) : O R :=
  bif (!eqS x2 (⟨#[49]⟩ : ByteArray)) then (Jj0 (⟨#[47]⟩ : ByteArray) x2 fun s3 => Jj0 x1 s3 fun s4 => Uh1 n s4 (fun y5 y6 => k0 y5 y6)) else (Uh1 n x1 (fun y7 y8 => k0 y7 y8))
def Ukl (n : Nat) (x1 : Bool) (x2 x3 : LP) (x4 x5 : ByteArray) (k0 : ByteArray → Int → O R) : O R :=
  bif x1 then (Jj0 (⟨#[45]⟩ : ByteArray) x4 fun s6 => Uh0 n s6 x5 (fun y7 y8 => k0 y7 y8)) else (Uh0 n x4 x5 (fun y9 y10 => k0 y9 y10))
def Ui0 (n : Nat) (x1 : Bool) (x2 x3 : LP) (k0 : ByteArray → Int → O R) : O R :=
  UDl n x2 (fun y4 => UDl n x3 (fun y5 => bif (decide (((y4).size : Int) > 400)) then (k0 ⟨#[]⟩ 5) else (bif (bif false then true else (decide (((y5).size : Int) > 400))) then (k0 ⟨#[]⟩ 5) else (Ukl n x1 x2 x3 y4 y5 (fun y6 y7 => k0 y6 y7)))))
def p79 (n : Nat) (x1 : Bool) (x2 x3 : LP) (k0 : ByteArray → Int → O R) : O R :=
  bif (((x2).length : Int) == 0) then (k0 ⟨#[48]⟩ 0) else (UDj n x2 x3 (fun y4 => bif (decide (((y4).length : Int) > 1)) then (Uf6 n x1 x2 x3 y4 true (fun y5 y6 y7 => Ui0 n y5 y6 y7 (fun y8 y9 => k0 y8 y9))) else (bif (inR 0 ((y4).length)) then (Jj .u32 ((y4).getD ((0 : Int).toNat) (.v (.bool false))) fun e10 => Uf6 n x1 x2 x3 y4 (bif false then true else (decide (e10 > 1))) (fun y11 y12 y13 => Ui0 n y11 y12 y13 (fun y14 y15 => k0 y14 y15))) else none)))
abbrev E79 (n : Nat) : Code → Fr → Kc R → O R := evC Tryz.prog (UyF n) UcS n (66, [])
noncomputable def Uu8 : Code := Jj4 (Jll Tryz.f79) [1, 1, 0, 1, 1]
abbrev UsW : Sl (List SV) := (.c (sBx 99 (cB (cH (cH .n)))) (cH (cB .n)))
abbrev UvK (n : Nat) (K : Kc R) : UsW.T (O R) := fun x1 x2 x3 x4 x5 => Uf6 n x1 x2 x3 x4 x5 (fun y1 y2 y3 => xC UcS 5 K .normal [.bx 99 [vB y1, vH y2, vH y3], dD, dD])
noncomputable def Uu9 : Code := Jj4 (Jll Tryz.f79) [1, 1, 1]
abbrev UsX : Sl (List SV) := (.c (sBx 99 (cB (cH (cH .n)))) .n)
abbrev UvL (n : Nat) (K : Kc R) : UsX.T (O R) := fun x1 x2 x3 => Ui0 n x1 x2 x3 (fun y1 y2 => xC UcS 7 K .ret [vS y1, vI y2])
noncomputable def UoK : Code := Jj4 (Jll Tryz.f79) [1, 1, 1, 1, 1]
abbrev UkU : Sl (List SV) := (.c (sBx 99 (cB (cH (cH .n)))) (cS (cS .n)))
abbrev Urr (n : Nat) (K : Kc R) : UkU.T (O R) := fun x1 x2 x3 x4 x5 => Ukl n x1 x2 x3 x4 x5 (fun y1 y2 => xC UcS 10 K .ret [vS y1, vI y2])
noncomputable def UoL : Code := Jj4 (Jll Tryz.f79) [1, 1, 1, 1, 1, 1]
abbrev UkV : Sl (List SV) := (cS (cS .n))
abbrev Urs (n : Nat) (K : Kc R) : UkV.T (O R) := fun x1 x2 => Uh0 n x1 x2 (fun y1 y2 => xC UcS 12 K .ret [vS y1, vI y2])
noncomputable def UoM : Code := Jj4 (Jll Tryz.f79) [1, 1, 1, 1, 1, 1, 1]
abbrev UkW : Sl (List SV) := (cS .n)
abbrev Urt (n : Nat) (K : Kc R) : UkW.T (O R) := fun x1 => Uh1 n x1 (fun y1 y2 => xC UcS 14 K .ret [vS y1, vI y2])
abbrev UAA (n : Nat) : Orc R := oN
abbrev UAw (n : Nat) : Orc R := oC UcS (E79 n) 14 UoM UkW (Urt n) (oC UcS (E79 n) 12 UoL UkV (Urs n) (oC UcS (E79 n) 10 UoK UkU (Urr n) (oC UcS (E79 n) 7 Uu9 UsX (UvL n) (oC UcS (E79 n) 5 Uu8 UsW (UvK n) oN))))
abbrev K79 (R : Type) (n : Nat) := JcH (R := R) Tryz.prog (UyF n) UcS n (66, []) (UAA n) (UAw n)
theorem UEg (n : Nat) : K79 R n (true, 5, Uu8) := JkW (lo := UAA n) (cu := UAw n) (pO pN (by kernel_rfl)) UsW (UvK n) (fun K _ _ _ _ _ => by show _ = _; kernel_rfl) fun _ _ => rfl
theorem UA (n : Nat) : K79 R n (true, 14, UoM) := JkW (lo := UAA n) (cu := UAw n) (pO pN (by kernel_rfl)) UkW (Urt n) (fun K _ => by show _ = _; kernel_rfl) fun _ _ => rfl
theorem Uz9 (n : Nat) : K79 R n (true, 12, UoL) := JkW (lo := UAA n) (cu := UAw n) (pO (pC (UA n) pN) (by kernel_rfl)) UkV (Urs n) (fun K _ _ => by show _ = _; kernel_rfl) fun _ _ => rfl
theorem Uz8 (n : Nat) : K79 R n (true, 10, UoK) := JkW (lo := UAA n) (cu := UAw n) (pO (pC (Uz9 n) pN) (by kernel_rfl)) UkU (Urr n) (fun K _ _ _ _ _ => by show _ = _; kernel_rfl) fun _ _ => rfl
theorem UEh (n : Nat) : K79 R n (true, 7, Uu9) := JkW (lo := UAA n) (cu := UAw n) (pO (pC (Uz8 n) pN) (by kernel_rfl)) UsX (UvL n) (fun K _ _ _ => by show _ = _; kernel_rfl) fun _ _ => rfl
theorem UOe (n : Nat) : Je6 (K79 R n) (JaJ UcS (Jll Tryz.f79)) := pO (pC (UEg n) (pC (UEh n) pN)) (by kernel_rfl)
abbrev t79 : Sl (List SV) := (.c (sP (JlI (.c Jlf (.c sSh (.c sSh .n))))) .n)
abbrev f79 (n : Nat) (K : List SV → O R) : t79.T (O R) := fun x1 x2 x3 => p79 n x1 x2 x3 (fun y1 y2 => K [vS y1, vI y2])
abbrev UGc (n : Nat) : FS := fT [false] t79 (f79 n)
theorem UKI (n : Nat) : FSound Tryz.prog GI 79 (UGc n) := gd UcS n (Uql n) Tryz.func79 (.cons (Uql n) t79 (f79 n) (fun K _ _ _ => (Jkq (c := Jll Tryz.f79) (by kernel_rfl) (UOe n) K).trans (by kernel_rfl)) .nil) (by kernel_rfl)
end
end Go.Proofs.YtmgfmlhdnadglaaGreatDoor
