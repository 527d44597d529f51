/- Proved: part 4 of the proof that the law CertifyFarkas returns true at all its arguments (no further conditions). -/
import Derived.Test.YtmgfmlhdnadglaaGreatDoorT1
import Derived.Test.YtmgfmlhdnadglaaGreatDoorProg
import Derived.Test.YtmgfmlhdnadglaaGreatDoorT2
import Derived.Lib.ItoaNum
import Derived.Lib.AtoiAll
set_option linter.unusedVariables false
set_option maxRecDepth 100000
namespace Go.Proofs.YtmgfmlhdnadglaaGreatDoor
open Go Th Go.Proofs
abbrev GI : GInv := GInv.tab Tryz.prog "internal/strconv.uint64pow10" .u64 Lib.pow10Tab 0 (by kernel_rfl)
def UrL : Go.Shelf.Ren := ⟨fun | 166 => 140 | 240 => 169 | 276 => 192 | n => n, fun | 0 => 0 | 3 => 3 | 4 => 4 | 5 => 5 | 9 => 9 | 20 => 20 | 37 => 173 | 70 => 179 | 72 => 181 | 75 => 166 | 80 => 154 | 164 => 227 | n => n, fun | n => n⟩
theorem Uy6 : Go.Proofs.Lays.n166 Tryz.prog UrL := {
  mixed := by kernel_rfl
  f166 := Tryz.func140.trans (congrArg some (by kernel_rfl))
  f240 := Tryz.func169.trans (congrArg some (by kernel_rfl))
  f276 := Tryz.func192.trans (congrArg some (by kernel_rfl))
  t0 := Tryz.underlying0
  a0 := Tryz.isAgg0
  z0 := Tryz.sizeOf0
  v0 := Tryz.zeroValue0
  t3 := Tryz.underlying3
  a3 := Tryz.isAgg3
  z3 := Tryz.sizeOf3
  v3 := Tryz.zeroValue3
  t4 := Tryz.underlying4
  a4 := Tryz.isAgg4
  z4 := Tryz.sizeOf4
  v4 := Tryz.zeroValue4
  t9 := Tryz.underlying9
  a9 := Tryz.isAgg9
  z9 := Tryz.sizeOf9
  v9 := Tryz.zeroValue9
  t20 := Tryz.underlying20
  a20 := Tryz.isAgg20
  z20 := Tryz.sizeOf20
  v20 := Tryz.zeroValue20
  t37 := Tryz.underlying173
  a37 := Tryz.isAgg173
  z37 := Tryz.sizeOf173
  v37 := Tryz.zeroValue173
  t70 := Tryz.underlying179
  a70 := Tryz.isAgg179
  z70 := Tryz.sizeOf179
  v70 := Tryz.zeroValue179
  t72 := Tryz.underlying181
  a72 := Tryz.isAgg181
  z72 := Tryz.sizeOf181
  v72 := Tryz.zeroValue181
  t75 := Tryz.underlying166
  a75 := Tryz.isAgg166
  z75 := Tryz.sizeOf166
  v75 := Tryz.zeroValue166
  t164 := Tryz.underlying227
  a164 := Tryz.isAgg227
  z164 := Tryz.sizeOf227
  v164 := Tryz.zeroValue227 }
theorem Uy7 : Builder.Extra Tryz.prog UrL := {
  sizeBuilder := by kernel_rfl
  liesBuilder := by kernel_rfl
  t5 := Tryz.underlying5
  a5 := Tryz.isAgg5
  z5 := Tryz.sizeOf5
  v5 := Tryz.zeroValue5
  infoByte := by kernel_rfl
  cellsByte := by kernel_rfl
  sizeByte := by kernel_rfl
  neB5 := by decide }
noncomputable def UGd (n : Nat) : FS := Ja9
theorem UKT (n : Nat) : FSound Tryz.prog GI 60 (UGd n) := Jjn (JlB Tryz.func60 (by kernel_rfl) (by kernel_rfl)) (fun F W h => h.2) Tryz.strconv_FormatInt_10
noncomputable def UCI (n : Nat) : FS := JeM
theorem UG4 (n : Nat) : FSound Tryz.prog GI 129 (UCI n) := Jlc (JlB Tryz.func129 (by kernel_rfl) (by kernel_rfl)) (fun s h1 v h2 w => Tryz.strconv_Atoi_ok s h1 v h2 w)
noncomputable def UCJ (n : Nat) : FS := JeO
theorem UG5 (n : Nat) : FSound Tryz.prog GI 130 (UCJ n) := Jle (JlB Tryz.func130 (by kernel_rfl) (by kernel_rfl)) (fun s t w h1 h2 h3 => Any.strings_Trim_laid Tryz.lays160 (by kernel_rfl) s t w h1 h2 h3)
noncomputable def UCN (n : Nat) : FS := JeN
theorem UG9 (n : Nat) : FSound Tryz.prog GI 138 (UCN n) := Jld (JlB Tryz.func138 (by kernel_rfl) (by kernel_rfl)) (fun F W h => h.2) Tryz.strconv_Itoa
noncomputable def UCO (n : Nat) : FS := Jcp
theorem UH (n : Nat) : FSound Tryz.prog GI 139 (UCO n) := JkH (JlB Tryz.func139 (by kernel_rfl) (by kernel_rfl)) (fun s c w h1 h2 => Tryz.strings_Repeat s c w h1 h2)
noncomputable def UCP (n : Nat) : FS := JaV 181 5
theorem UHa (n : Nat) : FSound Tryz.prog GI 140 (UCP n) := Jib Uy6 Uy7 (JlB Tryz.func140 (by kernel_rfl) (by kernel_rfl))
noncomputable def UCQ (n : Nat) : FS := Jcq 181 5
theorem UHb (n : Nat) : FSound Tryz.prog GI 141 (UCQ n) := JkI Tryz.lays169 Tryz.Builder_Extra_169 (JlB Tryz.func141 (by kernel_rfl) (by kernel_rfl))
noncomputable def UCT (n : Nat) : FS := Jco
theorem UHe (n : Nat) : FSound Tryz.prog GI 148 (UCT n) := JkG (JlB Tryz.func148 (by kernel_rfl) (by kernel_rfl)) Tryz.stringslite_Index_one
end Go.Proofs.YtmgfmlhdnadglaaGreatDoor
set_option linter.unusedVariables false
set_option maxRecDepth 100000
namespace Go.Proofs.YtmgfmlhdnadglaaGreatDoor
open Go Th Go.Proofs
noncomputable section
variable {R : Type}
def UnS : Ann := { loops := [], cuts := [], frz := [], rm := [.id, .id, .id] }
abbrev Uvy (n : Nat) : Env := eC 148 (UCT n) eN
theorem Ul1 (n : Nat) : EnvOK Tryz.prog GI (Uvy n) := .cons (.nil) (UHe n)
def UHv (n : Nat) (x1 : ByteArray) (k0 : ByteArray → ByteArray → Bool → O R) : O R :=
  let v2 := Lib.indexByte (x1).data.toList (((⟨#[47]⟩ : ByteArray)).data.toList.headD 0); bif (decide (v2 ≥ 0)) then (bif (Jfa 0 v2 (x1).size) then (let v3 := IntKind.i64.wrap (v2 + ((⟨#[47]⟩ : ByteArray).size : Int)); bif (Jfa v3 ((x1).size : Int) (x1).size) then (k0 (ByteArray.extract x1 (0 : Int).toNat (v2 : Int).toNat) (ByteArray.extract x1 (v3 : Int).toNat (((x1).size : Int) : Int).toNat) true) else none) else none) else (k0 x1 ⟨#[]⟩ false)
abbrev UGA (n : Nat) : Orc R := oN
abbrev UFQ (n : Nat) : Orc R := oN
abbrev ULs (R : Type) (n : Nat) := JcK (R := R) Tryz.prog (Uvy n) UnS n (23, []) (UGA n) (UFQ n)
theorem UHY (n : Nat) : Jfb (ULs R n) (JaJ UnS (Jls Tryz.f127)) := pO pN (by kernel_rfl)
abbrev UIE : Sl (List SV) := (cS (.c (sP (JlG (⟨#[47]⟩ : ByteArray))) .n))
abbrev f127 (n : Nat) (K : List SV → O R) : UIE.T (O R) := fun x1 => UHv n x1 (fun y1 y2 y3 => K [vS y1, vS y2, vB y3])
abbrev UCG (n : Nat) : FS := fT [false, false] UIE (f127 n)
theorem UG2 (n : Nat) : FSound Tryz.prog GI 127 (UCG n) := gd UnS n (Ul1 n) Tryz.func127 (.cons (Ul1 n) UIE (f127 n) (fun K _ => (Jkx (c := Jls Tryz.f127) (by kernel_rfl) (UHY n) K).trans (by kernel_rfl)) .nil) (by kernel_rfl)
def Uxr : Ann := { loops := [], cuts := [], frz := [], rm := [.id, .id, .id] }
abbrev UCh (n : Nat) : Env := eC 127 (UCG n) eN
theorem Uqz (n : Nat) : EnvOK Tryz.prog GI (UCh n) := .cons (.nil) (UG2 n)
def p96 (n : Nat) (x1 : ByteArray) (k0 : ByteArray → ByteArray → Bool → O R) : O R :=
  UHv n x1 (fun y2 y3 y4 => k0 y2 y3 y4)
abbrev UMR (n : Nat) : Orc R := oN
abbrev UMa (n : Nat) : Orc R := oN
abbrev K96 (R : Type) (n : Nat) := JcK (R := R) Tryz.prog (UCh n) Uxr n (13, []) (UMR n) (UMa n)
theorem UOG (n : Nat) : Jfb (K96 R n) (JaJ Uxr (Jls Tryz.f96)) := pO pN (by kernel_rfl)
abbrev t96 : Sl (List SV) := (cS (.c (sP (JlG (⟨#[47]⟩ : ByteArray))) .n))
abbrev f96 (n : Nat) (K : List SV → O R) : t96.T (O R) := fun x1 => p96 n x1 (fun y1 y2 y3 => K [vS y1, vS y2, vB y3])
abbrev UKp (n : Nat) : FS := fT [false, false] t96 (f96 n)
theorem UNx (n : Nat) : FSound Tryz.prog GI 96 (UKp n) := gd Uxr n (Uqz n) Tryz.func96 (.cons (Uqz n) t96 (f96 n) (fun K _ => (Jkx (c := Jls Tryz.f96) (by kernel_rfl) (UOG n) K).trans (by kernel_rfl)) .nil) (by kernel_rfl)
def Uxt : Ann := { loops := [], cuts := [], frz := [], rm := [.id] }
abbrev UCj (n : Nat) : Env := eC 130 (UCJ n) eN
theorem UqC (n : Nat) : EnvOK Tryz.prog GI (UCj n) := .cons (.nil) (UG5 n)
def p99 (n : Nat) (x1 : ByteArray) (k0 : Bool → O R) : O R :=
  bif (eqS x1 (⟨#[]⟩ : ByteArray)) then (k0 false) else (bif (bif false then true else (decide (((x1).size : Int) > 400))) then (k0 false) else (bif (inR 0 (x1).size) then (bif (Jc9 x1 0 == 48) then (bif (bif false then true else (bif true then (decide (((x1).size : Int) > 1)) else false)) then (k0 false) else (bif (Jjp x1 (⟨#[48, 49, 50, 51, 52, 53, 54, 55, 56, 57]⟩ : ByteArray)) then (k0 (eqS (JkS x1 (⟨#[48, 49, 50, 51, 52, 53, 54, 55, 56, 57]⟩ : ByteArray)) (⟨#[]⟩ : ByteArray))) else none)) else (bif (Jjp x1 (⟨#[48, 49, 50, 51, 52, 53, 54, 55, 56, 57]⟩ : ByteArray)) then (k0 (eqS (JkS x1 (⟨#[48, 49, 50, 51, 52, 53, 54, 55, 56, 57]⟩ : ByteArray)) (⟨#[]⟩ : ByteArray))) else none)) else none))
abbrev UMT (n : Nat) : Orc R := oN
abbrev UMc (n : Nat) : Orc R := oN
abbrev K99 (R : Type) (n : Nat) := JcK (R := R) Tryz.prog (UCj n) Uxt n (23, []) (UMT n) (UMc n)
theorem UOJ (n : Nat) : Jfb (K99 R n) (JaJ Uxt (Jls Tryz.f99)) := pO pN (by kernel_rfl)
abbrev t99 : Sl (List SV) := (cS .n)
abbrev f99 (n : Nat) (K : List SV → O R) : t99.T (O R) := fun x1 => p99 n x1 (fun y1 => K [vB y1])
abbrev UGo (n : Nat) : FS := fT [false] t99 (f99 n)
theorem UK4 (n : Nat) : FSound Tryz.prog GI 99 (UGo n) := gd Uxt n (UqC n) Tryz.func99 (.cons (UqC n) t99 (f99 n) (fun K _ => (Jkx (c := Jls Tryz.f99) (by kernel_rfl) (UOJ n) K).trans (by kernel_rfl)) .nil) (by kernel_rfl)
def UnX : Ann := { loops := [], cuts := [], frz := [], rm := [.id] }
abbrev UvD (n : Nat) : Env := eN
theorem Umd (n : Nat) : EnvOK Tryz.prog GI (UvD n) := .nil
def UHz (n : Nat) (x1 x2 : ByteArray) (k0 : Bool → O R) : O R :=
  bif (decide (((x1).size : Int) ≥ ((x2).size : Int))) then (bif (Jfa 0 ((x2).size : Int) (x1).size) then (k0 (bif true then eqS (ByteArray.extract x1 (0 : Int).toNat (((x2).size : Int) : Int).toNat) x2 else false)) else none) else (k0 false)
abbrev UGG (n : Nat) : Orc R := oN
abbrev UFW (n : Nat) : Orc R := oN
abbrev ULx (R : Type) (n : Nat) := JcK (R := R) Tryz.prog (UvD n) UnX n (18, []) (UGG n) (UFW n)
theorem UIa (n : Nat) : Jfb (ULx R n) (JaJ UnX (Jls Tryz.f177)) := pO pN (by kernel_rfl)
abbrev UIR : Sl (List SV) := (cS (cS .n))
abbrev f177 (n : Nat) (K : List SV → O R) : UIR.T (O R) := fun x1 x2 => UHz n x1 x2 (fun y1 => K [vB y1])
abbrev UCX (n : Nat) : FS := fT [false, false] UIR (f177 n)
theorem UHi (n : Nat) : FSound Tryz.prog GI 177 (UCX n) := gd UnX n (Umd n) Tryz.func177 (.cons (Umd n) UIR (f177 n) (fun K _ _ => (Jkx (c := Jls Tryz.f177) (by kernel_rfl) (UIa n) K).trans (by kernel_rfl)) .nil) (by kernel_rfl)
def UnV : Ann := { loops := [], cuts := [], frz := [], rm := [.id, .id] }
abbrev UvB (n : Nat) : Env := eC 177 (UCX n) eN
theorem Uma (n : Nat) : EnvOK Tryz.prog GI (UvB n) := .cons (.nil) (UHi n)
def UHx (n : Nat) (x1 x2 : ByteArray) (k0 : ByteArray → Bool → O R) : O R :=
  UHz n x1 x2 (fun y3 => bif (!y3) then (k0 x1 false) else (bif (Jfa ((x2).size : Int) ((x1).size : Int) (x1).size) then (k0 (ByteArray.extract x1 (((x2).size : Int) : Int).toNat (((x1).size : Int) : Int).toNat) true) else none))
abbrev UGE (n : Nat) : Orc R := oN
abbrev UFU (n : Nat) : Orc R := oN
abbrev ULv (R : Type) (n : Nat) := JcK (R := R) Tryz.prog (UvB n) UnV n (15, []) (UGE n) (UFU n)
theorem UH8 (n : Nat) : Jfb (ULv R n) (JaJ UnV (Jls Tryz.f149)) := pO pN (by kernel_rfl)
abbrev UIO : Sl (List SV) := (cS (cS .n))
abbrev f149 (n : Nat) (K : List SV → O R) : UIO.T (O R) := fun x1 x2 => UHx n x1 x2 (fun y1 y2 => K [vS y1, vB y2])
abbrev UCU (n : Nat) : FS := fT [false, false] UIO (f149 n)
theorem UHf (n : Nat) : FSound Tryz.prog GI 149 (UCU n) := gd UnV n (Uma n) Tryz.func149 (.cons (Uma n) UIO (f149 n) (fun K _ _ => (Jkx (c := Jls Tryz.f149) (by kernel_rfl) (UH8 n) K).trans (by kernel_rfl)) .nil) (by kernel_rfl)
def UnT : Ann := { loops := [], cuts := [], frz := [], rm := [.id, .id] }
abbrev Uvz (n : Nat) : Env := eC 149 (UCU n) eN
theorem Ul2 (n : Nat) : EnvOK Tryz.prog GI (Uvz n) := .cons (.nil) (UHf n)
def UFr (n : Nat) (x1 x2 : ByteArray) (k0 : ByteArray → Bool → O R) : O R :=
  UHx n x1 x2 (fun y3 y4 => k0 y3 y4)
abbrev UGB (n : Nat) : Orc R := oN
abbrev UFR (n : Nat) : Orc R := oN
abbrev ULt (R : Type) (n : Nat) := JcK (R := R) Tryz.prog (Uvz n) UnT n (11, []) (UGB n) (UFR n)
theorem UHZ (n : Nat) : Jfb (ULt R n) (JaJ UnT (Jls Tryz.f128)) := pO pN (by kernel_rfl)
abbrev UIF : Sl (List SV) := (cS (cS .n))
abbrev f128 (n : Nat) (K : List SV → O R) : UIF.T (O R) := fun x1 x2 => UFr n x1 x2 (fun y1 y2 => K [vS y1, vB y2])
abbrev UCH (n : Nat) : FS := fT [false, false] UIF (f128 n)
theorem UG3 (n : Nat) : FSound Tryz.prog GI 128 (UCH n) := gd UnT n (Ul2 n) Tryz.func128 (.cons (Ul2 n) UIF (f128 n) (fun K _ _ => (Jkx (c := Jls Tryz.f128) (by kernel_rfl) (UHZ n) K).trans (by kernel_rfl)) .nil) (by kernel_rfl)
def Uxs : Ann := { loops := [], cuts := [], frz := [], rm := [.id, .id, .id] }
abbrev UCi (n : Nat) : Env := eC 128 (UCH n) (eC 99 (UGo n) eN)
theorem UqA (n : Nat) : EnvOK Tryz.prog GI (UCi n) := .cons (.cons (.nil) (UK4 n)) (UG3 n)
def p97 (n : Nat) (x1 : ByteArray) (k0 : Bool → ByteArray → Bool → O R) : O R :=
  UFr n x1 ⟨#[45]⟩ (fun y2 y3 => p99 n y2 (fun y4 => bif y4 then (bif y3 then (k0 y3 y2 (bif true then (!(bif true then eqS y2 (⟨#[48]⟩ : ByteArray) else false)) else false)) else (k0 y3 y2 true)) else (k0 y3 y2 false)))
abbrev UMS (n : Nat) : Orc R := oN
abbrev UMb (n : Nat) : Orc R := oN
abbrev K97 (R : Type) (n : Nat) := JcK (R := R) Tryz.prog (UCi n) Uxs n (24, []) (UMS n) (UMb n)
theorem UOH (n : Nat) : Jfb (K97 R n) (JaJ Uxs (Jls Tryz.f97)) := pO pN (by kernel_rfl)
abbrev t97 : Sl (List SV) := (cS .n)
abbrev f97 (n : Nat) (K : List SV → O R) : t97.T (O R) := fun x1 => p97 n x1 (fun y1 y2 y3 => K [vB y1, vS y2, vB y3])
abbrev UKq (n : Nat) : FS := fT [false] t97 (f97 n)
theorem UNy (n : Nat) : FSound Tryz.prog GI 97 (UKq n) := gd Uxs n (UqA n) Tryz.func97 (.cons (UqA n) t97 (f97 n) (fun K _ => (Jkx (c := Jls Tryz.f97) (by kernel_rfl) (UOH n) K).trans (by kernel_rfl)) .nil) (by kernel_rfl)
def Uff : Ann := { loops := [(1, ids [0], ids [0, 2])], cuts := [], frz := [], rm := [.id] }
abbrev Uo6 (n : Nat) : Env := eN
theorem UlE (n : Nat) : EnvOK Tryz.prog GI (Uo6 n) := .nil
def Uhm (n : Nat) (l0 : LP → O R) (x1 : LP) (k0 : LP → O R) : O R :=
  bif (decide (((x1).length : Int) > 0)) then (let v2 := IntKind.i64.wrap (((x1).length : Int) - 1); bif (inR v2 ((x1).length)) then (Jjf .u32 ((x1).getD ((v2 : Int).toNat) (.v (.bool false))) fun e3 => bif (bif true then (e3 == 0) else false) then (let v4 := IntKind.i64.wrap (((x1).length : Int) - 1); bif (JgD 1 x1 && Jfa 0 v4 ((x1).length)) then (l0 (((x1).take (v4 : Int).toNat).drop (0 : Int).toNat)) else none) else (k0 x1)) else none) else (k0 x1)
def Uc3 (n : Nat) : Nat → LP → (LP → O R) → O R
  | 0, _, _ => none
  | m + 1, x1, k0 => Uhm n (fun x1 => Uc3 n m x1 k0) x1 k0
def Ur0 (n : Nat) (x1 : LP) (k0 : LP → O R) : O R := Uc3 n n x1 k0
def UrZ (n : Nat) (x1 : LP) (k0 : LP → O R) : O R :=
  Ur0 n x1 (fun y2 => k0 y2)
abbrev ULa (n : Nat) : Code → Fr → Kc R → O R := evC Tryz.prog (Uo6 n) Uff n (21, [])
noncomputable def Un2 : Code := Jk (Jls Tryz.f101) [1, 0, 0, 0]
abbrev Ud4 : Sl (List SV) := (cH .n)
abbrev UjH (n m : Nat) (K : Kc R) : Ud4.T (O R) := fun x1 => Uc3 n m x1 (fun y1 => xL Uff 1 K (.exit 0) [vH y1, dD])
abbrev Uxw (n : Nat) (K : Kc R) (l0 : Ud4.T (O R)) : Ud4.T (O R) := fun x1 => Uhm n l0 x1 (fun y1 => xL Uff 1 K (.exit 0) [vH y1, dD])
abbrev UC4 (n : Nat) : Orc R := oL Uff (ULa n) n 1 Un2 Ud4 (UjH n n) oN
abbrev UBw (n : Nat) : Orc R := oN
abbrev UI8 (R : Type) (n : Nat) := JcK (R := R) Tryz.prog (Uo6 n) Uff n (21, []) (UC4 n) (UBw n)
theorem Uzr (n : Nat) : UI8 R n (false, 1, Un2) := JkM (lo := UC4 n) (cu := UBw n) (pO pN (by kernel_rfl)) Ud4 (UjH n n) (JiK (F := UjH n) Ud4 (Uxw n) (fun K _ => rfl) (fun _ _ => rfl) (fun L K _ => by show _ = _; kernel_rfl) n) fun _ _ => rfl
theorem UHB (n : Nat) : Jfb (UI8 R n) (JaJ Uff (Jls Tryz.f101)) := pO (pC (Uzr n) pN) (by kernel_rfl)
abbrev UIh : Sl (List SV) := (cH .n)
abbrev f101 (n : Nat) (K : List SV → O R) : UIh.T (O R) := fun x1 => UrZ n x1 (fun y1 => K [vH y1])
abbrev Uj6 (n : Nat) : FS := fT [false] UIh (f101 n)
theorem Unw (n : Nat) : FSound Tryz.prog GI 101 (Uj6 n) := gd Uff n (UlE n) Tryz.func101 (.cons (UlE n) UIh (f101 n) (fun K _ => (Jkx (c := Jls Tryz.f101) (by kernel_rfl) (UHB n) K).trans (by kernel_rfl)) .nil) (by kernel_rfl)
def Ujt : Ann := { loops := [(2, [(0, .id), (3, .own 143)], ids [2, 3])], cuts := [], frz := [], rm := [.id] }
abbrev UyO (n : Nat) : Env := eC 129 (UCI n) (eC 101 (Uj6 n) eN)
theorem UqB (n : Nat) : EnvOK Tryz.prog GI (UyO n) := .cons (.cons (.nil) (Unw n)) (UG4 n)
def Uh7 (n : Nat) (l0 : ByteArray → LP → O R) (x1 : ByteArray) (x2 : LP) (k0 : LP → O R) : O R :=
  bif (decide (((x1).size : Int) > 0)) then (let v3 := IntKind.i64.wrap (((x1).size : Int) - 9); bif (Jfa (Jk1 0 v3) ((x1).size : Int) (x1).size) then (Jih (ByteArray.extract x1 (Jk1 0 v3 : Int).toNat (((x1).size : Int) : Int).toNat) fun v4 => bif (Jbv ((x2).length + 1) 4) then (bif (Jfa 0 (Jk1 0 v3) (x1).size) then (l0 (ByteArray.extract x1 (0 : Int).toNat (Jk1 0 v3 : Int).toNat) (x2 ++ ([.v (.int .u32 (IntKind.u32.wrap (v4)))] : LP))) else none) else none) else none) else (k0 x2)
def UdZ (n : Nat) : Nat → ByteArray → LP → (LP → O R) → O R
  | 0, _, _, _ => none
  | m + 1, x1, x2, k0 => Uh7 n (fun x1 x2 => UdZ n m x1 x2 k0) x1 x2 k0
def UwE (n : Nat) (x1 : ByteArray) (x2 : LP) (k0 : LP → O R) : O R := UdZ n n x1 x2 k0
def p98 (n : Nat) (x1 : ByteArray) (k0 : LP → O R) : O R :=
  UwE n x1 [] (fun y2 => UrZ n y2 (fun y3 => k0 y3))
abbrev E98 (n : Nat) : Code → Fr → Kc R → O R := evC Tryz.prog (UyO n) Ujt n (31, [])
noncomputable def Uvl : Code := Jk (Jls Tryz.f98) [1, 1, 0, 0, 0]
abbrev UgL : Sl (List SV) := (cS (cO 143 .n))
abbrev UrB (n m : Nat) (K : Kc R) : UgL.T (O R) := fun x1 x2 => UdZ n m x1 x2 (fun y1 => xL Ujt 2 K (.exit 0) [dD, .own 143 y1])
abbrev UBp (n : Nat) (K : Kc R) (l0 : UgL.T (O R)) : UgL.T (O R) := fun x1 x2 => Uh7 n l0 x1 x2 (fun y1 => xL Ujt 2 K (.exit 0) [dD, .own 143 y1])
abbrev UKJ (n : Nat) : Orc R := oL Ujt (E98 n) n 2 Uvl UgL (UrB n n) oN
abbrev UJy (n : Nat) : Orc R := oN
abbrev K98 (R : Type) (n : Nat) := JcK (R := R) Tryz.prog (UyO n) Ujt n (31, []) (UKJ n) (UJy n)
theorem UEv (n : Nat) : K98 R n (false, 2, Uvl) := JkM (lo := UKJ n) (cu := UJy n) (pO pN (by kernel_rfl)) UgL (UrB n n) (JiK (F := UrB n) UgL (UBp n) (fun K _ _ => rfl) (fun _ _ => rfl) (fun L K _ _ => by show _ = _; kernel_rfl) n) fun _ _ => rfl
theorem UOI (n : Nat) : Jfb (K98 R n) (JaJ Ujt (Jls Tryz.f98)) := pO (pC (UEv n) pN) (by kernel_rfl)
abbrev t98 : Sl (List SV) := (cS .n)
abbrev f98 (n : Nat) (K : List SV → O R) : t98.T (O R) := fun x1 => p98 n x1 (fun y1 => K [vH y1])
abbrev UKr (n : Nat) : FS := fT [false] t98 (f98 n)
theorem UNz (n : Nat) : FSound Tryz.prog GI 98 (UKr n) := gd Ujt n (UqB n) Tryz.func98 (.cons (UqB n) t98 (f98 n) (fun K _ => (Jkx (c := Jls Tryz.f98) (by kernel_rfl) (UOI n) K).trans (by kernel_rfl)) .nil) (by kernel_rfl)
def UgY : Ann := { loops := [(6, ids [0, 1, 5], ids [4])], cuts := [], frz := [], rm := [.id] }
abbrev UyB (n : Nat) : Env := eN
theorem Up3 (n : Nat) : EnvOK Tryz.prog GI (UyB n) := .nil
def UhT (n : Nat) (l0 : LP → LP → Int → O R) (x1 x2 : LP) (x3 : Int) (k0 : Int → O R) (k1 : O R) : O R :=
  bif (decide (x3 ≥ 0)) then (bif (inR x3 ((x1).length)) then (Jjf .u32 ((x1).getD ((x3 : Int).toNat) (.v (.bool false))) fun e4 => bif (inR x3 ((x2).length)) then (Jjf .u32 ((x2).getD ((x3 : Int).toNat) (.v (.bool false))) fun e5 => bif (e4 != e5) then (bif (inR x3 ((x1).length)) then (Jjf .u32 ((x1).getD ((x3 : Int).toNat) (.v (.bool false))) fun e6 => bif (inR x3 ((x2).length)) then (Jjf .u32 ((x2).getD ((x3 : Int).toNat) (.v (.bool false))) fun e7 => bif (decide (e6 < e7)) then (k0 (-1)) else (k0 1)) else none) else none) else (l0 x1 x2 (IntKind.i64.wrap (x3 - 1)))) else none) else none) else (k1)
def UdM (n : Nat) : Nat → LP → LP → Int → (Int → O R) → (O R) → O R
  | 0, _, _, _, _, _ => none
  | m + 1, x1, x2, x3, k0, k1 => UhT n (fun x1 x2 x3 => UdM n m x1 x2 x3 k0 k1) x1 x2 x3 k0 k1
def Uwt (n : Nat) (x1 x2 : LP) (x3 : Int) (k0 : Int → O R) (k1 : O R) : O R := UdM n n x1 x2 x3 k0 k1
def p57 (n : Nat) (x1 x2 : LP) (k0 : Int → O R) : O R :=
  bif (((x1).length : Int) != ((x2).length : Int)) then (bif (decide (((x1).length : Int) < ((x2).length : Int))) then (k0 (-1)) else (k0 1)) else (let v3 := IntKind.i64.wrap (((x1).length : Int) - 1); Uwt n x1 x2 v3 (fun y4 => k0 y4) (k0 0))
abbrev E57 (n : Nat) : Code → Fr → Kc R → O R := evC Tryz.prog (UyB n) UgY n (41, [])
noncomputable def Uu3 : Code := Jk (Jls Tryz.f57) [1, 1, 0, 1, 0, 0]
abbrev Ugx : Sl (List SV) := (cH (cH (cI .n)))
abbrev Urh (n m : Nat) (K : Kc R) : Ugx.T (O R) := fun x1 x2 x3 => UdM n m x1 x2 x3 (fun y1 => xL UgY 6 K .ret [vI y1]) (xL UgY 6 K (.exit 0) [dD])
abbrev UBb (n : Nat) (K : Kc R) (l0 : Ugx.T (O R)) : Ugx.T (O R) := fun x1 x2 x3 => UhT n l0 x1 x2 x3 (fun y1 => xL UgY 6 K .ret [vI y1]) (xL UgY 6 K (.exit 0) [dD])
abbrev UKC (n : Nat) : Orc R := oL UgY (E57 n) n 6 Uu3 Ugx (Urh n n) oN
abbrev UJr (n : Nat) : Orc R := oN
abbrev K57 (R : Type) (n : Nat) := JcK (R := R) Tryz.prog (UyB n) UgY n (41, []) (UKC n) (UJr n)
theorem UEa (n : Nat) : K57 R n (false, 6, Uu3) := JkM (lo := UKC n) (cu := UJr n) (pO pN (by kernel_rfl)) Ugx (Urh n n) (JiK (F := Urh n) Ugx (UBb n) (fun K _ _ _ => rfl) (fun _ _ => rfl) (fun L K _ _ _ => by show _ = _; kernel_rfl) n) fun _ _ => rfl
theorem UOa (n : Nat) : Jfb (K57 R n) (JaJ UgY (Jls Tryz.f57)) := pO (pC (UEa n) pN) (by kernel_rfl)
abbrev t57 : Sl (List SV) := (cH (cH .n))
abbrev f57 (n : Nat) (K : List SV → O R) : t57.T (O R) := fun x1 x2 => p57 n x1 x2 (fun y1 => K [vI y1])
abbrev UE6 (n : Nat) : FS := fT [false, false] t57 (f57 n)
theorem UHm (n : Nat) : FSound Tryz.prog GI 57 (UE6 n) := gd UgY n (Up3 n) Tryz.func57 (.cons (Up3 n) t57 (f57 n) (fun K _ _ => (Jkx (c := Jls Tryz.f57) (by kernel_rfl) (UOa n) K).trans (by kernel_rfl)) .nil) (by kernel_rfl)
def UfV : Ann := { loops := [(3, ids [0, 1, 5, 16, 17], ids [4, 5]), (7, ids [0, 1, 5, 6, 7, 16, 17, 21, 22], ids [0, 1, 4, 5, 6, 7, 16, 17])], cuts := [], frz := [], rm := [.id] }
abbrev UyC (n : Nat) : Env := eC 101 (Uj6 n) eN
theorem Up4 (n : Nat) : EnvOK Tryz.prog GI (UyC n) := .cons (.nil) (Unw n)
def UhV (n : Nat) (l0 : LP → LP → LP → Int → Int → Int → Int → Int → Int → O R) (x1 x2 x3 : LP) (x4 x5 x6 x7 x8 x9 : Int) (k0 : LP → LP → LP → Int → Int → Int → Int → O R) : O R :=
  bif (decide (x9 < x8)) then (bif (inR x4 ((x1).length)) then (Jjf .u32 ((x1).getD ((x4 : Int).toNat) (.v (.bool false))) fun e10 => bif (inR x9 ((x2).length)) then (Jjf .u32 ((x2).getD ((x9 : Int).toNat) (.v (.bool false))) fun e11 => let v12 := IntKind.u64.wrap ((IntKind.u64.wrap (e10)) * (IntKind.u64.wrap (e11))); bif (inR (IntKind.i64.wrap (x4 + x9)) ((x3).length)) then (Jjf .u32 ((x3).getD ((IntKind.i64.wrap (x4 + x9) : Int).toNat) (.v (.bool false))) fun e13 => let v14 := IntKind.u64.wrap (v12 + (IntKind.u64.wrap (e13))); bif decide (1000000000 = 0) then none else (let v15 := Int.tmod (IntKind.u64.wrap (x5 + v14)) 1000000000; bif (inR (IntKind.i64.wrap (x4 + x9)) ((x3).length)) then (Jjf .u32 ((x3).getD ((IntKind.i64.wrap (x4 + x9) : Int).toNat) (.v (.bool false))) fun e16 => bif decide (1000000000 = 0) then none else (let v17 := IntKind.u64.wrap (Int.tdiv (IntKind.u64.wrap (x5 + v14)) 1000000000); l0 x1 x2 ((x3).set ((IntKind.i64.wrap (x4 + x9) : Int).toNat) (.v (.int .u32 (IntKind.u32.wrap (v15))))) x4 v17 x6 x7 x8 (IntKind.i64.wrap (x9 + 1)))) else none)) else none) else none) else none) else (k0 x1 x2 x3 x4 x5 x6 x7)
def UdO (n : Nat) : Nat → LP → LP → LP → Int → Int → Int → Int → Int → Int → (LP → LP → LP → Int → Int → Int → Int → O R) → O R
  | 0, _, _, _, _, _, _, _, _, _, _ => none
  | m + 1, x1, x2, x3, x4, x5, x6, x7, x8, x9, k0 => UhV n (fun x1 x2 x3 x4 x5 x6 x7 x8 x9 => UdO n m x1 x2 x3 x4 x5 x6 x7 x8 x9 k0) x1 x2 x3 x4 x5 x6 x7 x8 x9 k0
def Uwv (n : Nat) (x1 x2 x3 : LP) (x4 x5 x6 x7 x8 x9 : Int) (k0 : LP → LP → LP → Int → Int → Int → Int → O R) : O R := UdO n n x1 x2 x3 x4 x5 x6 x7 x8 x9 k0
def UhU (n : Nat) (l0 : LP → LP → LP → Int → Int → O R) (x1 x2 x3 : LP) (x4 x5 : Int) (k0 : LP → O R) : O R :=
  bif (decide (x5 < x4)) then (Uwv n x1 x2 x3 x5 0 x4 x5 ((x2).length : Int) 0 (fun y6 y7 y8 y9 y10 y11 y12 => let v13 := IntKind.i64.wrap (y9 + ((y7).length : Int)); bif (inR v13 ((y8).length)) then (Jjf .u32 ((y8).getD ((v13 : Int).toNat) (.v (.bool false))) fun e14 => l0 y6 y7 ((y8).set ((v13 : Int).toNat) (.v (.int .u32 (IntKind.u32.wrap (y10))))) y11 (IntKind.i64.wrap (y12 + 1))) else none)) else (k0 x3)
def UdN (n : Nat) : Nat → LP → LP → LP → Int → Int → (LP → O R) → O R
  | 0, _, _, _, _, _, _ => none
  | m + 1, x1, x2, x3, x4, x5, k0 => UhU n (fun x1 x2 x3 x4 x5 => UdN n m x1 x2 x3 x4 x5 k0) x1 x2 x3 x4 x5 k0
def Uwu (n : Nat) (x1 x2 x3 : LP) (x4 x5 : Int) (k0 : LP → O R) : O R := UdN n n x1 x2 x3 x4 x5 k0
def p58 (n : Nat) (x1 x2 : LP) (k0 : LP → O R) : O R :=
  let v3 := IntKind.i64.wrap (((x1).length : Int) + ((x2).length : Int)); bif (decide ((0 : Int) ≤ v3) && decide ((v3 : Int) ≤ v3) && Jbv (v3 : Int).toNat 4) then (Uwu n x1 x2 (List.replicate (v3 : Int).toNat (.v (.int .u32 0) : PV)) ((x1).length : Int) 0 (fun y4 => UrZ n y4 (fun y5 => k0 y5))) else none
abbrev E58 (n : Nat) : Code → Fr → Kc R → O R := evC Tryz.prog (UyC n) UfV n (68, [])
noncomputable def Uu4 : Code := Jk (Jls Tryz.f58) [1, 1, 0, 1, 0, 0]
abbrev Ugy : Sl (List SV) := (cH (cH (cO 143 (cI (cI .n)))))
abbrev Uri (n m : Nat) (K : Kc R) : Ugy.T (O R) := fun x1 x2 x3 x4 x5 => UdN n m x1 x2 x3 x4 x5 (fun y1 => xL UfV 3 K (.exit 0) [dD, .own 143 y1])
abbrev UBc (n : Nat) (K : Kc R) (l0 : Ugy.T (O R)) : Ugy.T (O R) := fun x1 x2 x3 x4 x5 => UhU n l0 x1 x2 x3 x4 x5 (fun y1 => xL UfV 3 K (.exit 0) [dD, .own 143 y1])
noncomputable def Uu5 : Code := Jk (Jls Tryz.f58) [1, 1, 0, 1, 0, 0, 1, 1, 0, 0, 1, 1, 0, 1, 0, 0]
abbrev Ugz : Sl (List SV) := (cH (cH (cO 143 (cI (.c (sP (JlC .u64)) (cI (cI (cI (cI .n)))))))))
abbrev Urj (n m : Nat) (K : Kc R) : Ugz.T (O R) := fun x1 x2 x3 x4 x5 x6 x7 x8 x9 => UdO n m x1 x2 x3 x4 x5 x6 x7 x8 x9 (fun y1 y2 y3 y4 y5 y6 y7 => xL UfV 7 K (.exit 2) [vH y1, vH y2, dD, .own 143 y3, vI y4, .p (.v (.int .u64 y5)), vI y6, vI y7])
abbrev UBd (n : Nat) (K : Kc R) (l0 : Ugz.T (O R)) : Ugz.T (O R) := fun x1 x2 x3 x4 x5 x6 x7 x8 x9 => UhV n l0 x1 x2 x3 x4 x5 x6 x7 x8 x9 (fun y1 y2 y3 y4 y5 y6 y7 => xL UfV 7 K (.exit 2) [vH y1, vH y2, dD, .own 143 y3, vI y4, .p (.v (.int .u64 y5)), vI y6, vI y7])
abbrev UGL (n : Nat) : Orc R := oL UfV (E58 n) n 7 Uu5 Ugz (Urj n n) (oL UfV (E58 n) n 3 Uu4 Ugy (Uri n n) oN)
abbrev UF1 (n : Nat) : Orc R := oN
abbrev K58 (R : Type) (n : Nat) := JcK (R := R) Tryz.prog (UyC n) UfV n (68, []) (UGL n) (UF1 n)
theorem UEc (n : Nat) : K58 R n (false, 7, Uu5) := JkM (lo := UGL n) (cu := UF1 n) (pO pN (by kernel_rfl)) Ugz (Urj n n) (JiK (F := Urj n) Ugz (UBd n) (fun K _ _ _ _ _ _ _ _ _ => rfl) (fun _ _ => rfl) (fun L K _ _ _ _ _ _ _ _ _ => by show _ = _; kernel_rfl) n) fun _ _ => rfl
theorem UEb (n : Nat) : K58 R n (false, 3, Uu4) := JkM (lo := UGL n) (cu := UF1 n) (pO (pC (UEc n) pN) (by kernel_rfl)) Ugy (Uri n n) (JiK (F := Uri n) Ugy (UBc n) (fun K _ _ _ _ _ => rfl) (fun _ _ => rfl) (fun L K _ _ _ _ _ => by show _ = _; kernel_rfl) n) fun _ _ => rfl
theorem UOb (n : Nat) : Jfb (K58 R n) (JaJ UfV (Jls Tryz.f58)) := pO (pC (UEb n) pN) (by kernel_rfl)
abbrev t58 : Sl (List SV) := (cH (cH .n))
abbrev f58 (n : Nat) (K : List SV → O R) : t58.T (O R) := fun x1 x2 => p58 n x1 x2 (fun y1 => K [vH y1])
abbrev UCZ (n : Nat) : FS := fT [false, false] t58 (f58 n)
theorem UFj (n : Nat) : FSound Tryz.prog GI 58 (UCZ n) := gd UfV n (Up4 n) Tryz.func58 (.cons (Up4 n) t58 (f58 n) (fun K _ _ => (Jkx (c := Jls Tryz.f58) (by kernel_rfl) (UOb n) K).trans (by kernel_rfl)) .nil) (by kernel_rfl)
def Ufj : Ann := { loops := [(4, ids [0, 1, 6, 7, 8], ids [4, 5, 6, 7])], cuts := [], frz := [], rm := [.id, .id] }
abbrev Upk (n : Nat) : Env := eC 101 (Uj6 n) eN
theorem Ul5 (n : Nat) : EnvOK Tryz.prog GI (Upk n) := .cons (.nil) (Unw n)
def Ue0 (n : Nat) (l0 : LP → Int → LP → Int → Int → O R) (x1 : LP) (x2 : Int) (x3 : LP) (x4 x5 : Int) (k0 : LP → Int → O R) : O R :=
  bif (decide (x5 ≥ 0)) then (bif (inR x5 ((x1).length)) then (Jjf .u32 ((x1).getD ((x5 : Int).toNat) (.v (.bool false))) fun e6 => let v7 := IntKind.u64.wrap ((IntKind.u64.wrap (x4 * 1000000000)) + (IntKind.u64.wrap (e6))); bif decide (IntKind.u64.wrap (x2) = 0) then none else (let v8 := IntKind.u64.wrap (Int.tdiv v7 (IntKind.u64.wrap (x2))); bif (inR x5 ((x3).length)) then (Jjf .u32 ((x3).getD ((x5 : Int).toNat) (.v (.bool false))) fun e9 => bif decide (IntKind.u64.wrap (x2) = 0) then none else (let v10 := Int.tmod v7 (IntKind.u64.wrap (x2)); l0 x1 x2 ((x3).set ((x5 : Int).toNat) (.v (.int .u32 (IntKind.u32.wrap (v8))))) v10 (IntKind.i64.wrap (x5 - 1)))) else none)) else none) else (k0 x3 x4)
def Uc (n : Nat) : Nat → LP → Int → LP → Int → Int → (LP → Int → O R) → O R
  | 0, _, _, _, _, _, _ => none
  | m + 1, x1, x2, x3, x4, x5, k0 => Ue0 n (fun x1 x2 x3 x4 x5 => Uc n m x1 x2 x3 x4 x5 k0) x1 x2 x3 x4 x5 k0
def Usc (n : Nat) (x1 : LP) (x2 : Int) (x3 : LP) (x4 x5 : Int) (k0 : LP → Int → O R) : O R := Uc n n x1 x2 x3 x4 x5 k0
def UDu (n : Nat) (x1 : LP) (x2 : Int) (k0 : LP → Int → O R) : O R :=
  bif (decide ((0 : Int) ≤ ((x1).length : Int)) && decide ((((x1).length : Int) : Int) ≤ ((x1).length : Int)) && Jbv (((x1).length : Int) : Int).toNat 4) then (let v3 := IntKind.i64.wrap (((x1).length : Int) - 1); Usc n x1 x2 (List.replicate (((x1).length : Int) : Int).toNat (.v (.int .u32 0) : PV)) 0 v3 (fun y4 y5 => UrZ n y4 (fun y6 => k0 y6 (IntKind.u32.wrap (y5))))) else none
abbrev ULg (n : Nat) : Code → Fr → Kc R → O R := evC Tryz.prog (Upk n) Ufj n (43, [])
noncomputable def Uos : Code := Jk (Jls Tryz.f137) [1, 1, 1, 0, 1, 0, 0]
abbrev Ueg : Sl (List SV) := (cH (.c (sP (JlC .u32)) (cO 143 (.c (sP (JlC .u64)) (cI .n)))))
abbrev UjU (n m : Nat) (K : Kc R) : Ueg.T (O R) := fun x1 x2 x3 x4 x5 => Uc n m x1 x2 x3 x4 x5 (fun y1 y2 => xL Ufj 4 K (.exit 0) [dD, dD, .own 143 y1, .p (.v (.int .u64 y2))])
abbrev UxJ (n : Nat) (K : Kc R) (l0 : Ueg.T (O R)) : Ueg.T (O R) := fun x1 x2 x3 x4 x5 => Ue0 n l0 x1 x2 x3 x4 x5 (fun y1 y2 => xL Ufj 4 K (.exit 0) [dD, dD, .own 143 y1, .p (.v (.int .u64 y2))])
abbrev UD (n : Nat) : Orc R := oL Ufj (ULg n) n 4 Uos Ueg (UjU n n) oN
abbrev UBC (n : Nat) : Orc R := oN
abbrev UJd (R : Type) (n : Nat) := JcK (R := R) Tryz.prog (Upk n) Ufj n (43, []) (UD n) (UBC n)
theorem UzT (n : Nat) : UJd R n (false, 4, Uos) := JkM (lo := UD n) (cu := UBC n) (pO pN (by kernel_rfl)) Ueg (UjU n n) (JiK (F := UjU n) Ueg (UxJ n) (fun K _ _ _ _ _ => rfl) (fun _ _ => rfl) (fun L K _ _ _ _ _ => by show _ = _; kernel_rfl) n) fun _ _ => rfl
theorem UH2 (n : Nat) : Jfb (UJd R n) (JaJ Ufj (Jls Tryz.f137)) := pO (pC (UzT n) pN) (by kernel_rfl)
abbrev UII : Sl (List SV) := (cH (.c (sP (JlC .u32)) .n))
abbrev f137 (n : Nat) (K : List SV → O R) : UII.T (O R) := fun x1 x2 => UDu n x1 x2 (fun y1 y2 => K [vH y1, .p (.v (.int .u32 y2))])
abbrev UCM (n : Nat) : FS := fT [false, false] UII (f137 n)
theorem UG8 (n : Nat) : FSound Tryz.prog GI 137 (UCM n) := gd Ufj n (Ul5 n) Tryz.func137 (.cons (Ul5 n) UII (f137 n) (fun K _ _ => (Jkx (c := Jls Tryz.f137) (by kernel_rfl) (UH2 n) K).trans (by kernel_rfl)) .nil) (by kernel_rfl)
def Uad : Ann := { loops := [(12, ids [8, 9, 10, 11, 12, 13], ids [4, 5, 8, 9, 12]), (16, ids [8, 9, 10, 11, 12, 13, 15, 16], ids [4, 5, 8, 9, 10, 11, 12, 13, 15]), (22, ids [8, 9, 10, 11, 12, 13, 15, 17, 18, 151, 152], ids [4, 5, 8, 9, 10, 11, 12, 13, 15, 17, 18]), (38, ids [8, 9, 10, 11, 12, 13, 15, 21, 22, 207, 208], ids [4, 5, 8, 9, 10, 11, 12, 13, 15, 21, 22])], cuts := [(3, ids [0, 1], ids [4, 5]), (6, ids [0, 1], ids [4, 5]), (7, ids [0, 1, 8], ids [4, 5]), (8, ids [8, 9, 10], ids [4, 5]), (9, ids [8, 9, 10], ids [4, 5]), (10, ids [8, 9, 10, 11], ids [4, 5]), (11, ids [8, 9, 10, 11, 12], ids [4, 5]), (13, ids [8, 9, 10, 11, 12, 13], ids [4, 5, 8, 9, 10, 11, 12, 13]), (17, ids [8, 9, 10, 11, 12, 13, 15, 16], ids [4, 5, 8, 9, 10, 11, 12, 13, 15, 16]), (31, ids [8, 9, 10, 11, 12, 13, 15, 17, 18, 19, 20, 151, 152], ids [4, 5, 8, 9, 10, 11, 12, 13, 15, 17, 18, 151, 152]), (45, ids [8, 9, 10, 11, 12, 13, 15, 21], ids [4, 5, 8, 9, 10, 11, 12, 13])], frz := [], rm := [.sh, .id] }
abbrev Upd (n : Nat) : Env := eC 137 (UCM n) (eC 101 (Uj6 n) (eC 58 (UCZ n) (eC 57 (UE6 n) eN)))
theorem UlR (n : Nat) : EnvOK Tryz.prog GI (Upd n) := .cons (.cons (.cons (.cons (.nil) (UHm n)) (UFj n)) (Unw n)) (UG8 n)
def Uc8 (n : Nat) (x1 x2 x3 : LP) (x4 : Int) (x5 : LP) (x6 x7 x8 : Int) (k0 : LP → LP → LP → Int → LP → Int → Int → Int → O R) (k1 : LP → LP → LP → Int → LP → Int → Int → Int → O R) : O R :=
  bif (inR (IntKind.i64.wrap (x4 - 1)) ((x3).length)) then (Jjf .u32 ((x3).getD ((IntKind.i64.wrap (x4 - 1) : Int).toNat) (.v (.bool false))) fun e9 => let v10 := IntKind.u64.wrap (x8 + (IntKind.u64.wrap (e9))); bif (decide (v10 ≥ 1000000000)) then (k0 x1 x2 x3 x4 x5 x6 (IntKind.u64.wrap (x7 - 1)) v10) else (k1 x1 x2 x3 x4 x5 x6 (IntKind.u64.wrap (x7 - 1)) v10)) else none
def UbR (n : Nat) (l0 : LP → LP → LP → Int → LP → Int → Int → Int → O R) (x1 x2 x3 : LP) (x4 : Int) (x5 : LP) (x6 x7 x8 : Int) (k0 : LP → LP → LP → Int → LP → Int → Int → O R) : O R :=
  bif (decide (x7 ≥ 1000000000)) then (Uc8 n x1 x2 x3 x4 x5 x6 x7 x8 (fun y9 y10 y11 y12 y13 y14 y15 y16 => k0 y9 y10 y11 y12 y13 y14 y15) (fun y17 y18 y19 y20 y21 y22 y23 y24 => l0 y17 y18 y19 y20 y21 y22 y23 y24)) else (bif (inR (IntKind.i64.wrap (x4 - 2)) ((x3).length)) then (Jjf .u32 ((x3).getD ((IntKind.i64.wrap (x4 - 2) : Int).toNat) (.v (.bool false))) fun e25 => let v26 := IntKind.u64.wrap (x7 * (IntKind.u64.wrap (e25))); let v27 := IntKind.i64.wrap ((IntKind.i64.wrap (x6 + x4)) - 2); bif (inR v27 ((x2).length)) then (Jjf .u32 ((x2).getD ((v27 : Int).toNat) (.v (.bool false))) fun e28 => let v29 := IntKind.u64.wrap ((IntKind.u64.wrap (x8 * 1000000000)) + (IntKind.u64.wrap (e28))); bif (bif false then true else (decide (v26 > v29))) then (Uc8 n x1 x2 x3 x4 x5 x6 x7 x8 (fun y30 y31 y32 y33 y34 y35 y36 y37 => k0 y30 y31 y32 y33 y34 y35 y36) (fun y38 y39 y40 y41 y42 y43 y44 y45 => l0 y38 y39 y40 y41 y42 y43 y44 y45)) else (k0 x1 x2 x3 x4 x5 x6 x7)) else none) else none)
def Ua8 (n : Nat) : Nat → LP → LP → LP → Int → LP → Int → Int → Int → (LP → LP → LP → Int → LP → Int → Int → O R) → O R
  | 0, _, _, _, _, _, _, _, _, _ => none
  | m + 1, x1, x2, x3, x4, x5, x6, x7, x8, k0 => UbR n (fun x1 x2 x3 x4 x5 x6 x7 x8 => Ua8 n m x1 x2 x3 x4 x5 x6 x7 x8 k0) x1 x2 x3 x4 x5 x6 x7 x8 k0
def Uht (n : Nat) (x1 x2 x3 : LP) (x4 : Int) (x5 : LP) (x6 x7 x8 : Int) (k0 : LP → LP → LP → Int → LP → Int → Int → O R) : O R := Ua8 n n x1 x2 x3 x4 x5 x6 x7 x8 k0
def UeU (n : Nat) (x1 x2 x3 : LP) (x4 : Int) (x5 : LP) (x6 x7 x8 x9 x10 x11 x12 x13 : Int) (k0 : LP → LP → LP → Int → LP → Int → Int → Int → Int → Int → Int → O R) : O R :=
  bif (inR (IntKind.i64.wrap (x6 + x10)) ((x2).length)) then (Jjf .u32 ((x2).getD ((IntKind.i64.wrap (x6 + x10) : Int).toNat) (.v (.bool false))) fun e14 => k0 x1 ((x2).set ((IntKind.i64.wrap (x6 + x10) : Int).toNat) (.v (.int .u32 (IntKind.u32.wrap (x11))))) x3 x4 x5 x6 x7 x8 x9 x12 x13) else none
def Ud (n : Nat) (l0 : LP → LP → LP → Int → LP → Int → Int → Int → Int → Int → Int → O R) (x1 x2 x3 : LP) (x4 : Int) (x5 : LP) (x6 x7 x8 x9 x10 x11 : Int) (k0 : LP → LP → LP → Int → LP → Int → Int → Int → Int → O R) : O R :=
  bif (decide (x11 < x10)) then (bif (inR x11 ((x3).length)) then (Jjf .u32 ((x3).getD ((x11 : Int).toNat) (.v (.bool false))) fun e12 => let v13 := IntKind.u64.wrap (x7 * (IntKind.u64.wrap (e12))); bif (inR (IntKind.i64.wrap (x6 + x11)) ((x2).length)) then (Jjf .u32 ((x2).getD ((IntKind.i64.wrap (x6 + x11) : Int).toNat) (.v (.bool false))) fun e14 => bif decide (1000000000 = 0) then none else (let v15 := Int.tmod (IntKind.u64.wrap (x8 + v13)) 1000000000; let v16 := IntKind.i64.wrap ((IntKind.i64.wrap (e14)) - (IntKind.i64.wrap (v15))); bif decide (1000000000 = 0) then none else (let v17 := IntKind.u64.wrap (Int.tdiv (IntKind.u64.wrap (x8 + v13)) 1000000000); bif (decide (IntKind.i64.wrap (v16 - x9) < 0)) then (let v18 := IntKind.i64.wrap ((IntKind.i64.wrap (v16 - x9)) + 1000000000); UeU n x1 x2 x3 x4 x5 x6 x7 v17 1 x11 v18 x10 x11 (fun y19 y20 y21 y22 y23 y24 y25 y26 y27 y28 y29 => l0 y19 y20 y21 y22 y23 y24 y25 y26 y27 y28 (IntKind.i64.wrap (y29 + 1)))) else (UeU n x1 x2 x3 x4 x5 x6 x7 v17 0 x11 (IntKind.i64.wrap (v16 - x9)) x10 x11 (fun y30 y31 y32 y33 y34 y35 y36 y37 y38 y39 y40 => l0 y30 y31 y32 y33 y34 y35 y36 y37 y38 y39 (IntKind.i64.wrap (y40 + 1))))))) else none) else none) else (k0 x1 x2 x3 x4 x5 x6 x7 x8 x9)
def UaP (n : Nat) : Nat → LP → LP → LP → Int → LP → Int → Int → Int → Int → Int → Int → (LP → LP → LP → Int → LP → Int → Int → Int → Int → O R) → O R
  | 0, _, _, _, _, _, _, _, _, _, _, _, _ => none
  | m + 1, x1, x2, x3, x4, x5, x6, x7, x8, x9, x10, x11, k0 => Ud n (fun x1 x2 x3 x4 x5 x6 x7 x8 x9 x10 x11 => UaP n m x1 x2 x3 x4 x5 x6 x7 x8 x9 x10 x11 k0) x1 x2 x3 x4 x5 x6 x7 x8 x9 x10 x11 k0
def Uhu (n : Nat) (x1 x2 x3 : LP) (x4 : Int) (x5 : LP) (x6 x7 x8 x9 x10 x11 : Int) (k0 : LP → LP → LP → Int → LP → Int → Int → Int → Int → O R) : O R := UaP n n x1 x2 x3 x4 x5 x6 x7 x8 x9 x10 x11 k0
def Uda (n : Nat) (l0 : LP → LP → LP → Int → LP → Int → Int → Int → Int → Int → Int → O R) (x1 x2 x3 : LP) (x4 : Int) (x5 : LP) (x6 x7 x8 x9 x10 x11 : Int) (k0 : LP → LP → LP → Int → LP → Int → Int → Int → Int → O R) : O R :=
  bif (decide (x11 < x10)) then (bif (inR (IntKind.i64.wrap (x6 + x11)) ((x2).length)) then (Jjf .u32 ((x2).getD ((IntKind.i64.wrap (x6 + x11) : Int).toNat) (.v (.bool false))) fun e12 => bif (inR x11 ((x3).length)) then (Jjf .u32 ((x3).getD ((x11 : Int).toNat) (.v (.bool false))) fun e13 => let v14 := IntKind.u32.wrap (x9 + (IntKind.u32.wrap (e12 + e13))); bif decide (1000000000 = 0) then none else (bif (inR (IntKind.i64.wrap (x6 + x11)) ((x2).length)) then (Jjf .u32 ((x2).getD ((IntKind.i64.wrap (x6 + x11) : Int).toNat) (.v (.bool false))) fun e15 => bif decide (1000000000 = 0) then none else (let v16 := IntKind.u32.wrap (Int.tdiv v14 1000000000); l0 x1 ((x2).set ((IntKind.i64.wrap (x6 + x11) : Int).toNat) (.v (.int .u32 (Int.tmod v14 1000000000)))) x3 x4 x5 x6 x7 x8 v16 x10 (IntKind.i64.wrap (x11 + 1)))) else none)) else none) else none) else (k0 x1 x2 x3 x4 x5 x6 x7 x8 x9)
def Ua9 (n : Nat) : Nat → LP → LP → LP → Int → LP → Int → Int → Int → Int → Int → Int → (LP → LP → LP → Int → LP → Int → Int → Int → Int → O R) → O R
  | 0, _, _, _, _, _, _, _, _, _, _, _, _ => none
  | m + 1, x1, x2, x3, x4, x5, x6, x7, x8, x9, x10, x11, k0 => Uda n (fun x1 x2 x3 x4 x5 x6 x7 x8 x9 x10 x11 => Ua9 n m x1 x2 x3 x4 x5 x6 x7 x8 x9 x10 x11 k0) x1 x2 x3 x4 x5 x6 x7 x8 x9 x10 x11 k0
def UmQ (n : Nat) (x1 x2 x3 : LP) (x4 : Int) (x5 : LP) (x6 x7 x8 x9 x10 x11 : Int) (k0 : LP → LP → LP → Int → LP → Int → Int → Int → Int → O R) : O R := Ua9 n n x1 x2 x3 x4 x5 x6 x7 x8 x9 x10 x11 k0
def Uc9 (n : Nat) (x1 x2 x3 : LP) (x4 : Int) (x5 : LP) (x6 x7 x8 : Int) (k0 : LP → LP → LP → Int → LP → Int → O R) : O R :=
  bif (inR (IntKind.i64.wrap (x6 + x4)) ((x2).length)) then (Jjf .u32 ((x2).getD ((IntKind.i64.wrap (x6 + x4) : Int).toNat) (.v (.bool false))) fun e9 => bif (inR x6 ((x5).length)) then (Jjf .u32 ((x5).getD ((x6 : Int).toNat) (.v (.bool false))) fun e10 => k0 x1 ((x2).set ((IntKind.i64.wrap (x6 + x4) : Int).toNat) (.v (.int .u32 (IntKind.u32.wrap (x8))))) x3 x4 ((x5).set ((x6 : Int).toNat) (.v (.int .u32 (IntKind.u32.wrap (x7))))) x6) else none) else none
def Uc7 (n : Nat) (x1 x2 x3 : LP) (x4 : Int) (x5 : LP) (x6 : Int) (k0 : LP → LP → LP → Int → LP → Int → O R) : O R :=
  k0 x1 x2 x3 x4 x5 (IntKind.i64.wrap (x6 - 1))
def UbQ (n : Nat) (l0 : LP → LP → LP → Int → LP → Int → O R) (x1 x2 x3 : LP) (x4 : Int) (x5 : LP) (x6 : Int) (k0 : LP → LP → LP → O R) : O R :=
  bif (decide (x6 ≥ 0)) then (bif (inR (IntKind.i64.wrap (x6 + x4)) ((x2).length)) then (Jjf .u32 ((x2).getD ((IntKind.i64.wrap (x6 + x4) : Int).toNat) (.v (.bool false))) fun e7 => let v8 := IntKind.u64.wrap ((IntKind.u64.wrap (e7)) * 1000000000); let v9 := IntKind.i64.wrap ((IntKind.i64.wrap (x6 + x4)) - 1); bif (inR v9 ((x2).length)) then (Jjf .u32 ((x2).getD ((v9 : Int).toNat) (.v (.bool false))) fun e10 => let v11 := IntKind.u64.wrap (v8 + (IntKind.u64.wrap (e10))); bif (inR (IntKind.i64.wrap (x4 - 1)) ((x3).length)) then (Jjf .u32 ((x3).getD ((IntKind.i64.wrap (x4 - 1) : Int).toNat) (.v (.bool false))) fun e12 => bif decide (IntKind.u64.wrap (e12) = 0) then none else (let v13 := IntKind.u64.wrap (Int.tdiv v11 (IntKind.u64.wrap (e12))); bif (inR (IntKind.i64.wrap (x4 - 1)) ((x3).length)) then (Jjf .u32 ((x3).getD ((IntKind.i64.wrap (x4 - 1) : Int).toNat) (.v (.bool false))) fun e14 => bif decide (IntKind.u64.wrap (e14) = 0) then none else (let v15 := Int.tmod v11 (IntKind.u64.wrap (e14)); Uht n x1 x2 x3 x4 x5 x6 v13 v15 (fun y16 y17 y18 y19 y20 y21 y22 => Uhu n y16 y17 y18 y19 y20 y21 y22 0 0 y19 0 (fun y23 y24 y25 y26 y27 y28 y29 y30 y31 => bif (inR (IntKind.i64.wrap (y28 + y26)) ((y24).length)) then (Jjf .u32 ((y24).getD ((IntKind.i64.wrap (y28 + y26) : Int).toNat) (.v (.bool false))) fun e32 => let v33 := IntKind.i64.wrap ((IntKind.i64.wrap (e32)) - (IntKind.i64.wrap (y30))); bif (decide (IntKind.i64.wrap (v33 - y31) < 0)) then (UmQ n y23 y24 y25 y26 y27 y28 (IntKind.u64.wrap (y29 - 1)) (IntKind.i64.wrap (v33 - y31)) 0 y26 0 (fun y34 y35 y36 y37 y38 y39 y40 y41 y42 => let v43 := IntKind.i64.wrap (y41 + (IntKind.i64.wrap (y42))); Uc9 n y34 y35 y36 y37 y38 y39 y40 v43 (fun y44 y45 y46 y47 y48 y49 => Uc7 n y44 y45 y46 y47 y48 y49 (fun y50 y51 y52 y53 y54 y55 => l0 y50 y51 y52 y53 y54 y55)))) else (Uc9 n y23 y24 y25 y26 y27 y28 y29 (IntKind.i64.wrap (v33 - y31)) (fun y56 y57 y58 y59 y60 y61 => Uc7 n y56 y57 y58 y59 y60 y61 (fun y62 y63 y64 y65 y66 y67 => l0 y62 y63 y64 y65 y66 y67)))) else none)))) else none)) else none) else none) else none) else (k0 x1 x2 x5)
def UaF (n : Nat) : Nat → LP → LP → LP → Int → LP → Int → (LP → LP → LP → O R) → O R
  | 0, _, _, _, _, _, _, _ => none
  | m + 1, x1, x2, x3, x4, x5, x6, k0 => UbQ n (fun x1 x2 x3 x4 x5 x6 => UaF n m x1 x2 x3 x4 x5 x6 k0) x1 x2 x3 x4 x5 x6 k0
def UmP (n : Nat) (x1 x2 x3 : LP) (x4 : Int) (x5 : LP) (x6 : Int) (k0 : LP → LP → LP → O R) : O R := UaF n n x1 x2 x3 x4 x5 x6 k0
def Uhr (n : Nat) (x1 x2 x3 : LP) (x4 : Int) (x5 : LP) (k0 : LP → LP → O R) : O R :=
  let v6 := IntKind.i64.wrap (((x2).length : Int) - x4); UmP n x1 x2 x3 x4 x5 (IntKind.i64.wrap (v6 - 1)) (fun y7 y8 y9 => UrZ n y8 (fun y10 => bif (inR 0 ((y7).length)) then (Jjf .u32 ((y7).getD ((0 : Int).toNat) (.v (.bool false))) fun e11 => UDu n y10 e11 (fun y12 y13 => UrZ n y9 (fun y14 => k0 y14 y12))) else none))
def Uhq (n : Nat) (x1 x2 x3 : LP) (x4 : Int) (k0 : LP → LP → O R) : O R :=
  let v5 := IntKind.i64.wrap (((x2).length : Int) - x4); bif (decide ((0 : Int) ≤ v5) && decide ((v5 : Int) ≤ v5) && Jbv (v5 : Int).toNat 4) then (Uhr n x1 x2 x3 x4 (List.replicate (v5 : Int).toNat (.v (.int .u32 0) : PV)) (fun y6 y7 => k0 y6 y7)) else none
def Ukc (n : Nat) (x1 x2 x3 : LP) (k0 : LP → LP → O R) : O R :=
  Uhq n x1 x2 x3 ((x3).length : Int) (fun y4 y5 => k0 y4 y5)
def Ukb (n : Nat) (x1 x2 x3 : LP) (k0 : LP → LP → O R) : O R :=
  bif (JgD 1 x2 && Jbv (0 + (x2).length) 4) then (bif (Jbv (([] ++ x2).length + 1) 4) then (Ukc n x1 (([] ++ x2) ++ ([.v (.int .u32 0)] : LP)) x3 (fun y4 y5 => k0 y4 y5)) else none) else none
def Uka (n : Nat) (x1 x2 x3 : LP) (k0 : LP → LP → O R) : O R :=
  p58 n x1 x3 (fun y4 => p58 n x2 x3 (fun y5 => Ukb n x3 y4 y5 (fun y6 y7 => k0 y6 y7)))
def Uk (n : Nat) (x1 x2 : LP) (k0 : LP → LP → O R) : O R :=
  let v3 := IntKind.i64.wrap (((x2).length : Int) - 1); bif (inR v3 ((x2).length)) then (Jjf .u32 ((x2).getD ((v3 : Int).toNat) (.v (.bool false))) fun e4 => bif decide (IntKind.u32.wrap (e4 + 1) = 0) then none else (let v5 := IntKind.u32.wrap (Int.tdiv 1000000000 (IntKind.u32.wrap (e4 + 1))); Uka n x1 x2 ([.v (.int .u32 v5)] : LP) (fun y6 y7 => k0 y6 y7))) else none
def Uhs (n : Nat) (x1 x2 : LP) (k0 : LP → LP → O R) : O R :=
  bif (((x2).length : Int) == 1) then (bif (inR 0 ((x2).length)) then (Jjf .u32 ((x2).getD ((0 : Int).toNat) (.v (.bool false))) fun e3 => UDu n x1 e3 (fun y4 y5 => UrZ n ([.v (.int .u32 y5)] : LP) (fun y6 => k0 y4 y6))) else none) else (Uk n x1 x2 (fun y7 y8 => k0 y7 y8))
def UAL (n : Nat) (x1 x2 : LP) (k0 : LP → LP → O R) : O R :=
  p57 n x1 x2 (fun y3 => bif (decide (y3 < 0)) then (k0 [] x1) else (Uhs n x1 x2 (fun y4 y5 => k0 y4 y5)))
abbrev Ujp (n : Nat) : Code → Fr → Kc R → O R := evC Tryz.prog (Upd n) Uad n (262, [])
noncomputable def Uod : Code := Jk (Jls Tryz.f115) [1, 1]
abbrev Ukz : Sl (List SV) := (cH (cH .n))
abbrev UqI (n : Nat) (K : Kc R) : Ukz.T (O R) := fun x1 x2 => Uhs n x1 x2 (fun y1 y2 => xC Uad 3 K .ret [vH y1, vH y2])
noncomputable def Uoe : Code := Jk (Jls Tryz.f115) [1, 1, 1]
abbrev UkA : Sl (List SV) := (cH (cH .n))
abbrev UqJ (n : Nat) (K : Kc R) : UkA.T (O R) := fun x1 x2 => Uk n x1 x2 (fun y1 y2 => xC Uad 6 K .ret [vH y1, vH y2])
noncomputable def Uof : Code := Jk (Jls Tryz.f115) [1, 1, 1, 1]
abbrev UkB : Sl (List SV) := (cH (cH (cO 143 .n)))
abbrev UqK (n : Nat) (K : Kc R) : UkB.T (O R) := fun x1 x2 x3 => Uka n x1 x2 x3 (fun y1 y2 => xC Uad 7 K .ret [vH y1, vH y2])
noncomputable def Uog : Code := Jk (Jls Tryz.f115) [1, 1, 1, 1, 1]
abbrev UkC : Sl (List SV) := (cH (cH (cH .n)))
abbrev UqL (n : Nat) (K : Kc R) : UkC.T (O R) := fun x1 x2 x3 => Ukb n x1 x2 x3 (fun y1 y2 => xC Uad 8 K .ret [vH y1, vH y2])
noncomputable def Uoh : Code := Jk (Jls Tryz.f115) [1, 1, 1, 1, 1, 1]
abbrev UkD : Sl (List SV) := (cH (cO 143 (cH .n)))
abbrev UqM (n : Nat) (K : Kc R) : UkD.T (O R) := fun x1 x2 x3 => Ukc n x1 x2 x3 (fun y1 y2 => xC Uad 9 K .ret [vH y1, vH y2])
noncomputable def Ulb : Code := Jk (Jls Tryz.f115) [1, 1, 1, 1, 1, 1, 1]
abbrev Uiq : Sl (List SV) := (cH (cO 143 (cH (cI .n))))
abbrev Umn (n : Nat) (K : Kc R) : Uiq.T (O R) := fun x1 x2 x3 x4 => Uhq n x1 x2 x3 x4 (fun y1 y2 => xC Uad 10 K .ret [vH y1, vH y2])
noncomputable def Ulc : Code := Jk (Jls Tryz.f115) [1, 1, 1, 1, 1, 1, 1, 1]
abbrev Uir : Sl (List SV) := (cH (cO 143 (cH (cI (cO 143 .n)))))
abbrev Umo (n : Nat) (K : Kc R) : Uir.T (O R) := fun x1 x2 x3 x4 x5 => Uhr n x1 x2 x3 x4 x5 (fun y1 y2 => xC Uad 11 K .ret [vH y1, vH y2])
noncomputable def Uld : Code := Jk (Jls Tryz.f115) [1, 1, 1, 1, 1, 1, 1, 1, 0, 1, 0, 0, 1, 1]
abbrev Uis : Sl (List SV) := (cH (cO 143 (cH (cI (cO 143 (cI .n))))))
abbrev Ump (n : Nat) (K : Kc R) : Uis.T (O R) := fun x1 x2 x3 x4 x5 x6 => Uc7 n x1 x2 x3 x4 x5 x6 (fun y1 y2 y3 y4 y5 y6 => xC Uad 13 K .normal [dD, dD, vH y1, .own 143 y2, vH y3, vI y4, .own 143 y5, vI y6])
noncomputable def Ule : Code := Jk (Jls Tryz.f115) [1, 1, 1, 1, 1, 1, 1, 1, 0, 1, 0, 0, 1, 0, 0, 1, 1, 0, 0, 0, 1]
abbrev Uit : Sl (List SV) := (cH (cO 143 (cH (cI (cO 143 (cI (.c (sP (JlC .u64)) (.c (sP (JlC .u64)) .n))))))))
abbrev Umq (n : Nat) (K : Kc R) : Uit.T (O R) := fun x1 x2 x3 x4 x5 x6 x7 x8 => Uc8 n x1 x2 x3 x4 x5 x6 x7 x8 (fun y1 y2 y3 y4 y5 y6 y7 y8 => xC Uad 17 K (.exit 2) [dD, dD, vH y1, .own 143 y2, vH y3, vI y4, .own 143 y5, vI y6, .p (.v (.int .u64 y7)), .p (.v (.int .u64 y8))]) (fun y1 y2 y3 y4 y5 y6 y7 y8 => xC Uad 17 K .normal [dD, dD, vH y1, .own 143 y2, vH y3, vI y4, .own 143 y5, vI y6, .p (.v (.int .u64 y7)), .p (.v (.int .u64 y8))])
noncomputable def Ulf : Code := Jk (Jls Tryz.f115) [1, 1, 1, 1, 1, 1, 1, 1, 0, 1, 0, 0, 1, 0, 0, 1, 1, 1, 1, 0, 1, 0, 0, 1, 1, 0, 0, 1, 1, 1, 1, 1, 1]
abbrev Uiu : Sl (List SV) := (cH (cO 143 (cH (cI (cO 143 (cI (.c (sP (JlC .u64)) (.c (sP (JlC .u64)) (cI (cI (cI (cI (cI .n)))))))))))))
abbrev Umr (n : Nat) (K : Kc R) : Uiu.T (O R) := fun x1 x2 x3 x4 x5 x6 x7 x8 x9 x10 x11 x12 x13 => UeU n x1 x2 x3 x4 x5 x6 x7 x8 x9 x10 x11 x12 x13 (fun y1 y2 y3 y4 y5 y6 y7 y8 y9 y10 y11 => xC Uad 31 K .normal [dD, dD, vH y1, .own 143 y2, vH y3, vI y4, .own 143 y5, vI y6, .p (.v (.int .u64 y7)), .p (.v (.int .u64 y8)), vI y9, vI y10, vI y11])
noncomputable def Ulg : Code := Jk (Jls Tryz.f115) [1, 1, 1, 1, 1, 1, 1, 1, 0, 1, 0, 0, 1, 0, 0, 1, 1, 1, 1, 1, 1, 1]
abbrev Uiv : Sl (List SV) := (cH (cO 143 (cH (cI (cO 143 (cI (.c (sP (JlC .u64)) (cI .n))))))))
abbrev Ums (n : Nat) (K : Kc R) : Uiv.T (O R) := fun x1 x2 x3 x4 x5 x6 x7 x8 => Uc9 n x1 x2 x3 x4 x5 x6 x7 x8 (fun y1 y2 y3 y4 y5 y6 => xC Uad 45 K .normal [dD, dD, vH y1, .own 143 y2, vH y3, vI y4, .own 143 y5, vI y6])
noncomputable def Ulh : Code := Jk (Jls Tryz.f115) [1, 1, 1, 1, 1, 1, 1, 1, 0, 1, 0, 0]
abbrev Uck : Sl (List SV) := (cH (cO 143 (cH (cI (cO 143 (cI .n))))))
abbrev Ug8 (n m : Nat) (K : Kc R) : Uck.T (O R) := fun x1 x2 x3 x4 x5 x6 => UaF n m x1 x2 x3 x4 x5 x6 (fun y1 y2 y3 => xL Uad 12 K (.exit 0) [dD, dD, vH y1, .own 143 y2, .own 143 y3])
abbrev Uth (n : Nat) (K : Kc R) (l0 : Uck.T (O R)) : Uck.T (O R) := fun x1 x2 x3 x4 x5 x6 => UbQ n l0 x1 x2 x3 x4 x5 x6 (fun y1 y2 y3 => xL Uad 12 K (.exit 0) [dD, dD, vH y1, .own 143 y2, .own 143 y3])
noncomputable def Uli : Code := Jk (Jls Tryz.f115) [1, 1, 1, 1, 1, 1, 1, 1, 0, 1, 0, 0, 1, 0, 0, 1, 1, 0, 0, 0]
abbrev Ucl : Sl (List SV) := (cH (cO 143 (cH (cI (cO 143 (cI (.c (sP (JlC .u64)) (.c (sP (JlC .u64)) .n))))))))
abbrev Ug9 (n m : Nat) (K : Kc R) : Ucl.T (O R) := fun x1 x2 x3 x4 x5 x6 x7 x8 => Ua8 n m x1 x2 x3 x4 x5 x6 x7 x8 (fun y1 y2 y3 y4 y5 y6 y7 => xL Uad 16 K (.exit 2) [dD, dD, vH y1, .own 143 y2, vH y3, vI y4, .own 143 y5, vI y6, .p (.v (.int .u64 y7))])
abbrev Uti (n : Nat) (K : Kc R) (l0 : Ucl.T (O R)) : Ucl.T (O R) := fun x1 x2 x3 x4 x5 x6 x7 x8 => UbR n l0 x1 x2 x3 x4 x5 x6 x7 x8 (fun y1 y2 y3 y4 y5 y6 y7 => xL Uad 16 K (.exit 2) [dD, dD, vH y1, .own 143 y2, vH y3, vI y4, .own 143 y5, vI y6, .p (.v (.int .u64 y7))])
noncomputable def Ulj : Code := Jk (Jls Tryz.f115) [1, 1, 1, 1, 1, 1, 1, 1, 0, 1, 0, 0, 1, 0, 0, 1, 1, 1, 1, 0, 1, 0, 0]
abbrev Ucm : Sl (List SV) := (cH (cO 143 (cH (cI (cO 143 (cI (.c (sP (JlC .u64)) (.c (sP (JlC .u64)) (cI (cI (cI .n)))))))))))
abbrev Uh (n m : Nat) (K : Kc R) : Ucm.T (O R) := fun x1 x2 x3 x4 x5 x6 x7 x8 x9 x10 x11 => UaP n m x1 x2 x3 x4 x5 x6 x7 x8 x9 x10 x11 (fun y1 y2 y3 y4 y5 y6 y7 y8 y9 => xL Uad 22 K (.exit 4) [dD, dD, vH y1, .own 143 y2, vH y3, vI y4, .own 143 y5, vI y6, .p (.v (.int .u64 y7)), .p (.v (.int .u64 y8)), vI y9])
abbrev Utj (n : Nat) (K : Kc R) (l0 : Ucm.T (O R)) : Ucm.T (O R) := fun x1 x2 x3 x4 x5 x6 x7 x8 x9 x10 x11 => Ud n l0 x1 x2 x3 x4 x5 x6 x7 x8 x9 x10 x11 (fun y1 y2 y3 y4 y5 y6 y7 y8 y9 => xL Uad 22 K (.exit 4) [dD, dD, vH y1, .own 143 y2, vH y3, vI y4, .own 143 y5, vI y6, .p (.v (.int .u64 y7)), .p (.v (.int .u64 y8)), vI y9])
noncomputable def Ulk : Code := Jk (Jls Tryz.f115) [1, 1, 1, 1, 1, 1, 1, 1, 0, 1, 0, 0, 1, 0, 0, 1, 1, 1, 1, 1, 1, 0, 1, 0, 1, 1, 0, 1, 0, 0]
abbrev Ucn : Sl (List SV) := (cH (cO 143 (cH (cI (cO 143 (cI (.c (sP (JlC .u64)) (cI (.c (sP (JlC .u32)) (cI (cI .n)))))))))))
abbrev Uha (n m : Nat) (K : Kc R) : Ucn.T (O R) := fun x1 x2 x3 x4 x5 x6 x7 x8 x9 x10 x11 => Ua9 n m x1 x2 x3 x4 x5 x6 x7 x8 x9 x10 x11 (fun y1 y2 y3 y4 y5 y6 y7 y8 y9 => xL Uad 38 K (.exit 6) [dD, dD, vH y1, .own 143 y2, vH y3, vI y4, .own 143 y5, vI y6, .p (.v (.int .u64 y7)), vI y8, .p (.v (.int .u32 y9))])
abbrev Utk (n : Nat) (K : Kc R) (l0 : Ucn.T (O R)) : Ucn.T (O R) := fun x1 x2 x3 x4 x5 x6 x7 x8 x9 x10 x11 => Uda n l0 x1 x2 x3 x4 x5 x6 x7 x8 x9 x10 x11 (fun y1 y2 y3 y4 y5 y6 y7 y8 y9 => xL Uad 38 K (.exit 6) [dD, dD, vH y1, .own 143 y2, vH y3, vI y4, .own 143 y5, vI y6, .p (.v (.int .u64 y7)), vI y8, .p (.v (.int .u32 y9))])
abbrev Ucs (n : Nat) : Orc R := oL Uad (Ujp n) n 38 Ulk Ucn (Uha n n) (oL Uad (Ujp n) n 22 Ulj Ucm (Uh n n) (oL Uad (Ujp n) n 16 Uli Ucl (Ug9 n n) (oL Uad (Ujp n) n 12 Ulh Uck (Ug8 n n) oN)))
abbrev Ucr (n : Nat) : Orc R := oC Uad (Ujp n) 45 Ulg Uiv (Ums n) (oC Uad (Ujp n) 31 Ulf Uiu (Umr n) (oC Uad (Ujp n) 17 Ule Uit (Umq n) (oC Uad (Ujp n) 13 Uld Uis (Ump n) (oC Uad (Ujp n) 11 Ulc Uir (Umo n) (oC Uad (Ujp n) 10 Ulb Uiq (Umn n) (oC Uad (Ujp n) 9 Uoh UkD (UqM n) (oC Uad (Ujp n) 8 Uog UkC (UqL n) (oC Uad (Ujp n) 7 Uof UkB (UqK n) (oC Uad (Ujp n) 6 Uoe UkA (UqJ n) (oC Uad (Ujp n) 3 Uod Ukz (UqI n) oN))))))))))
abbrev Ujm (R : Type) (n : Nat) := JcK (R := R) Tryz.prog (Upd n) Uad n (262, []) (Ucs n) (Ucr n)
theorem Uua (n : Nat) : Ujm R n (true, 17, Ule) := Jk3 (lo := Ucs n) (cu := Ucr n) (pO pN (by kernel_rfl)) Uit (Umq n) (fun K _ _ _ _ _ _ _ _ => by show _ = _; kernel_rfl) fun _ _ => rfl
theorem Uue (n : Nat) : Ujm R n (false, 16, Uli) := JkM (lo := Ucs n) (cu := Ucr n) (pO (pC (Uua n) pN) (by kernel_rfl)) Ucl (Ug9 n n) (JiK (F := Ug9 n) Ucl (Uti n) (fun K _ _ _ _ _ _ _ _ => rfl) (fun _ _ => rfl) (fun L K _ _ _ _ _ _ _ _ => by show _ = _; kernel_rfl) n) fun _ _ => rfl
theorem Uub (n : Nat) : Ujm R n (true, 31, Ulf) := Jk3 (lo := Ucs n) (cu := Ucr n) (pO pN (by kernel_rfl)) Uiu (Umr n) (fun K _ _ _ _ _ _ _ _ _ _ _ _ _ => by show _ = _; kernel_rfl) fun _ _ => rfl
theorem Uuf (n : Nat) : Ujm R n (false, 22, Ulj) := JkM (lo := Ucs n) (cu := Ucr n) (pO (pC (Uub n) pN) (by kernel_rfl)) Ucm (Uh n n) (JiK (F := Uh n) Ucm (Utj n) (fun K _ _ _ _ _ _ _ _ _ _ _ => rfl) (fun _ _ => rfl) (fun L K _ _ _ _ _ _ _ _ _ _ _ => by show _ = _; kernel_rfl) n) fun _ _ => rfl
theorem Uug (n : Nat) : Ujm R n (false, 38, Ulk) := JkM (lo := Ucs n) (cu := Ucr n) (pO pN (by kernel_rfl)) Ucn (Uha n n) (JiK (F := Uha n) Ucn (Utk n) (fun K _ _ _ _ _ _ _ _ _ _ _ => rfl) (fun _ _ => rfl) (fun L K _ _ _ _ _ _ _ _ _ _ _ => by show _ = _; kernel_rfl) n) fun _ _ => rfl
theorem Uuc (n : Nat) : Ujm R n (true, 45, Ulg) := Jk3 (lo := Ucs n) (cu := Ucr n) (pO pN (by kernel_rfl)) Uiv (Ums n) (fun K _ _ _ _ _ _ _ _ => by show _ = _; kernel_rfl) fun _ _ => rfl
theorem Uu (n : Nat) : Ujm R n (true, 13, Uld) := Jk3 (lo := Ucs n) (cu := Ucr n) (pO pN (by kernel_rfl)) Uis (Ump n) (fun K _ _ _ _ _ _ => by show _ = _; kernel_rfl) fun _ _ => rfl
theorem Uud (n : Nat) : Ujm R n (false, 12, Ulh) := JkM (lo := Ucs n) (cu := Ucr n) (pO (pC (Uue n) (pC (Uuf n) (pC (Uug n) (pC (Uuc n) (pC (Uu n) pN))))) (by kernel_rfl)) Uck (Ug8 n n) (JiK (F := Ug8 n) Uck (Uth n) (fun K _ _ _ _ _ _ => rfl) (fun _ _ => rfl) (fun L K _ _ _ _ _ _ => by show _ = _; kernel_rfl) n) fun _ _ => rfl
theorem Ut9 (n : Nat) : Ujm R n (true, 11, Ulc) := Jk3 (lo := Ucs n) (cu := Ucr n) (pO (pC (Uud n) pN) (by kernel_rfl)) Uir (Umo n) (fun K _ _ _ _ _ => by show _ = _; kernel_rfl) fun _ _ => rfl
theorem Ut8 (n : Nat) : Ujm R n (true, 10, Ulb) := Jk3 (lo := Ucs n) (cu := Ucr n) (pO (pC (Ut9 n) pN) (by kernel_rfl)) Uiq (Umn n) (fun K _ _ _ _ => by show _ = _; kernel_rfl) fun _ _ => rfl
theorem UzH (n : Nat) : Ujm R n (true, 9, Uoh) := Jk3 (lo := Ucs n) (cu := Ucr n) (pO (pC (Ut8 n) pN) (by kernel_rfl)) UkD (UqM n) (fun K _ _ _ => by show _ = _; kernel_rfl) fun _ _ => rfl
theorem UzG (n : Nat) : Ujm R n (true, 8, Uog) := Jk3 (lo := Ucs n) (cu := Ucr n) (pO (pC (UzH n) pN) (by kernel_rfl)) UkC (UqL n) (fun K _ _ _ => by show _ = _; kernel_rfl) fun _ _ => rfl
theorem UzF (n : Nat) : Ujm R n (true, 7, Uof) := Jk3 (lo := Ucs n) (cu := Ucr n) (pO (pC (UzG n) pN) (by kernel_rfl)) UkB (UqK n) (fun K _ _ _ => by show _ = _; kernel_rfl) fun _ _ => rfl
theorem UzE (n : Nat) : Ujm R n (true, 6, Uoe) := Jk3 (lo := Ucs n) (cu := Ucr n) (pO (pC (UzF n) pN) (by kernel_rfl)) UkA (UqJ n) (fun K _ _ => by show _ = _; kernel_rfl) fun _ _ => rfl
theorem UzD (n : Nat) : Ujm R n (true, 3, Uod) := Jk3 (lo := Ucs n) (cu := Ucr n) (pO (pC (UzE n) pN) (by kernel_rfl)) Ukz (UqI n) (fun K _ _ => by show _ = _; kernel_rfl) fun _ _ => rfl
theorem UHO (n : Nat) : Jfb (Ujm R n) (JaJ Uad (Jls Tryz.f115)) := pO (pC (UzD n) pN) (by kernel_rfl)
abbrev UIu : Sl (List SV) := (cH (cH .n))
abbrev f115 (n : Nat) (K : List SV → O R) : UIu.T (O R) := fun x1 x2 => UAL n x1 x2 (fun y1 y2 => K [vH y1, vH y2])
abbrev UyV (n : Nat) : FS := fT [false, false] UIu (f115 n)
theorem UDf (n : Nat) : FSound Tryz.prog GI 115 (UyV n) := gd Uad n (UlR n) Tryz.func115 (.cons (UlR n) UIu (f115 n) (fun K _ _ => (Jkx (c := Jls Tryz.f115) (by kernel_rfl) (UHO n) K).trans (by kernel_rfl)) .nil) (by kernel_rfl)
def Ufe : Ann := { loops := [(1, ids [0, 1], ids [0, 4])], cuts := [], frz := [], rm := [.id] }
abbrev Uo5 (n : Nat) : Env := eC 115 (UyV n) eN
theorem UlD (n : Nat) : EnvOK Tryz.prog GI (Uo5 n) := .cons (.nil) (UDf n)
def Uhl (n : Nat) (l0 : LP → LP → O R) (x1 x2 : LP) (k0 : LP → O R) : O R :=
  bif (decide (((x2).length : Int) > 0)) then (UAL n x1 x2 (fun y3 y4 => l0 x2 y4)) else (k0 x1)
def Uc2 (n : Nat) : Nat → LP → LP → (LP → O R) → O R
  | 0, _, _, _ => none
  | m + 1, x1, x2, k0 => Uhl n (fun x1 x2 => Uc2 n m x1 x2 k0) x1 x2 k0
def UrY (n : Nat) (x1 x2 : LP) (k0 : LP → O R) : O R := Uc2 n n x1 x2 k0
def UDo (n : Nat) (x1 x2 : LP) (k0 : LP → O R) : O R :=
  UrY n x1 x2 (fun y3 => k0 y3)
abbrev UL (n : Nat) : Code → Fr → Kc R → O R := evC Tryz.prog (Uo5 n) Ufe n (19, [])
noncomputable def Un1 : Code := Jk (Jls Tryz.f100) [1, 0, 0, 0]
abbrev Ud3 : Sl (List SV) := (cH (cH .n))
abbrev UjG (n m : Nat) (K : Kc R) : Ud3.T (O R) := fun x1 x2 => Uc2 n m x1 x2 (fun y1 => xL Ufe 1 K (.exit 0) [vH y1, dD])
abbrev Uxv (n : Nat) (K : Kc R) (l0 : Ud3.T (O R)) : Ud3.T (O R) := fun x1 x2 => Uhl n l0 x1 x2 (fun y1 => xL Ufe 1 K (.exit 0) [vH y1, dD])
abbrev UC3 (n : Nat) : Orc R := oL Ufe (UL n) n 1 Un1 Ud3 (UjG n n) oN
abbrev UBv (n : Nat) : Orc R := oN
abbrev UI7 (R : Type) (n : Nat) := JcK (R := R) Tryz.prog (Uo5 n) Ufe n (19, []) (UC3 n) (UBv n)
theorem Uzq (n : Nat) : UI7 R n (false, 1, Un1) := JkM (lo := UC3 n) (cu := UBv n) (pO pN (by kernel_rfl)) Ud3 (UjG n n) (JiK (F := UjG n) Ud3 (Uxv n) (fun K _ _ => rfl) (fun _ _ => rfl) (fun L K _ _ => by show _ = _; kernel_rfl) n) fun _ _ => rfl
theorem UHA (n : Nat) : Jfb (UI7 R n) (JaJ Ufe (Jls Tryz.f100)) := pO (pC (Uzq n) pN) (by kernel_rfl)
abbrev UIg : Sl (List SV) := (cH (cH .n))
abbrev f100 (n : Nat) (K : List SV → O R) : UIg.T (O R) := fun x1 x2 => UDo n x1 x2 (fun y1 => K [vH y1])
abbrev UyT (n : Nat) : FS := fT [false, false] UIg (f100 n)
theorem UDd (n : Nat) : FSound Tryz.prog GI 100 (UyT n) := gd Ufe n (UlD n) Tryz.func100 (.cons (UlD n) UIg (f100 n) (fun K _ _ => (Jkx (c := Jls Tryz.f100) (by kernel_rfl) (UHA n) K).trans (by kernel_rfl)) .nil) (by kernel_rfl)
def Unh : Ann := { loops := [], cuts := [(10, ids [2, 5, 10], ids [2, 3])], frz := [], rm := [.id, .id] }
abbrev UyA (n : Nat) : Env := eC 100 (UyT n) (eC 99 (UGo n) (eC 98 (UKr n) (eC 97 (UKq n) (eC 96 (UKp n) eN))))
theorem Up2 (n : Nat) : EnvOK Tryz.prog GI (UyA n) := .cons (.cons (.cons (.cons (.cons (.nil) (UNx n)) (UNy n)) (UNz n)) (UK4 n)) (UDd n)
def UhS (n : Nat) (x1 : Bool) (x2 : ByteArray) (x3 : Bool) (x4 x5 : LP) (k0 : Bool → LP → LP → Bool → O R) : O R :=
  p98 n x2 (fun y6 => UDo n x4 y6 (fun y7 => bif (((y7).length : Int) == 1) then (bif (inR 0 ((y7).length)) then (Jjf .u32 ((y7).getD ((0 : Int).toNat) (.v (.bool false))) fun e8 => k0 x3 x4 y6 (bif true then (e8 == 1) else false)) else none) else (k0 x3 x4 y6 false)))
def p56 (n : Nat) (x1 : ByteArray) (k0 : Bool → LP → LP → Bool → O R) : O R :=
  p96 n x1 (fun y2 y3 y4 => p97 n y2 (fun y5 y6 y7 => bif (!y7) then (k0 false [] [] false) else (p98 n y6 (fun y8 => bif (!y4) then (k0 y5 y8 ([.v (.int .u32 1)] : LP) true) else (p99 n y3 (fun y9 => bif (!y9) then (k0 false [] [] false) else (bif (bif false then true else eqS y3 (⟨#[48]⟩ : ByteArray)) then (k0 false [] [] false) else (bif (bif false then true else eqS y3 (⟨#[49]⟩ : ByteArray)) then (k0 false [] [] false) else (UhS n false y3 y5 y8 ([.v (.int .u32 1)] : LP) (fun y10 y11 y12 y13 => k0 y10 y11 y12 y13))))))))))
abbrev E56 (n : Nat) : Code → Fr → Kc R → O R := evC Tryz.prog (UyA n) Unh n (65, [])
noncomputable def UoK : Code := Jk (Jls Tryz.f56) [1, 1, 1, 1, 1, 1, 1]
abbrev UkT : Sl (List SV) := (.c (sBx 99 (cB (.c sNl (.c sNl .n)))) (cS (.c (sBx 99 (cB (cH (cH .n)))) .n)))
abbrev Urg (n : Nat) (K : Kc R) : UkT.T (O R) := fun x1 x2 x3 x4 x5 => UhS n x1 x2 x3 x4 x5 (fun y1 y2 y3 y4 => xC Unh 10 K .ret [.bx 99 [vB y1, vH y2, vH y3], vB y4])
abbrev UKB (n : Nat) : Orc R := oN
abbrev UJq (n : Nat) : Orc R := oC Unh (E56 n) 10 UoK UkT (Urg n) oN
abbrev K56 (R : Type) (n : Nat) := JcK (R := R) Tryz.prog (UyA n) Unh n (65, []) (UKB n) (UJq n)
theorem UAb (n : Nat) : K56 R n (true, 10, UoK) := Jk3 (lo := UKB n) (cu := UJq n) (pO pN (by kernel_rfl)) UkT (Urg n) (fun K _ _ _ _ _ => by show _ = _; kernel_rfl) fun _ _ => rfl
theorem UO (n : Nat) : Jfb (K56 R n) (JaJ Unh (Jls Tryz.f56)) := pO (pC (UAb n) pN) (by kernel_rfl)
abbrev t56 : Sl (List SV) := (cS .n)
abbrev f56 (n : Nat) (K : List SV → O R) : t56.T (O R) := fun x1 => p56 n x1 (fun y1 y2 y3 y4 => K [.p (.agg [.v (.bool y1), .sh y2, .sh y3]), vB y4])
abbrev UCY (n : Nat) : FS := fT [false] t56 (f56 n)
theorem UFi (n : Nat) : FSound Tryz.prog GI 56 (UCY n) := gd Unh n (Up2 n) Tryz.func56 (.cons (Up2 n) t56 (f56 n) (fun K _ => (Jkx (c := Jls Tryz.f56) (by kernel_rfl) (UO n) K).trans (by kernel_rfl)) .nil) (by kernel_rfl)
def UbK : Ann := { loops := [(9, ids [4, 5, 6, 37, 38], ids [2, 3, 4, 6])], cuts := [(2, ids [0, 4], ids [2, 3]), (5, ids [0, 4, 5], ids [2, 3]), (7, ids [4, 5], ids [2, 3]), (17, ids [6], ids [2, 3])], frz := [], rm := [.id, .id] }
abbrev UyN (n : Nat) : Env := eN
theorem Uqy (n : Nat) : EnvOK Tryz.prog GI (UyN n) := .nil
def UdY (n : Nat) (l0 : Bool → ByteArray → Int → Int → Int → O R) (x1 : Bool) (x2 : ByteArray) (x3 x4 x5 : Int) (k0 : Int → Bool → Bool → Int → O R) (k1 : Bool → Int → O R) : O R :=
  bif (decide (x5 < x4)) then (bif (inR x5 (x2).size) then (bif (decide (Jc9 x2 x5 < 48)) then (k0 0 false x1 x3) else (bif (inR x5 (x2).size) then (bif (bif false then true else (decide (Jc9 x2 x5 > 57))) then (k0 0 false x1 x3) else (bif (inR x5 (x2).size) then (let v6 := IntKind.u8.wrap ((Jc9 x2 x5) - 48); let v7 := IntKind.i64.wrap ((IntKind.i64.wrap (10 * x3)) + (IntKind.i64.wrap (v6))); l0 x1 x2 v7 x4 (IntKind.i64.wrap (x5 + 1))) else none)) else none)) else none) else (k1 x1 x3)
def Uby (n : Nat) : Nat → Bool → ByteArray → Int → Int → Int → (Int → Bool → Bool → Int → O R) → (Bool → Int → O R) → O R
  | 0, _, _, _, _, _, _, _ => none
  | m + 1, x1, x2, x3, x4, x5, k0, k1 => UdY n (fun x1 x2 x3 x4 x5 => Uby n m x1 x2 x3 x4 x5 k0 k1) x1 x2 x3 x4 x5 k0 k1
def UmZ (n : Nat) (x1 : Bool) (x2 : ByteArray) (x3 x4 x5 : Int) (k0 : Int → Bool → Bool → Int → O R) (k1 : Bool → Int → O R) : O R := Uby n n x1 x2 x3 x4 x5 k0 k1
def UdX (n : Nat) (x1 : Int) (k0 : Int → Bool → O R) : O R :=
  k0 x1 true
def Uf9 (n : Nat) (x1 : Bool) (x2 : ByteArray) (k0 : Int → Bool → O R) : O R :=
  UmZ n x1 x2 0 ((x2).size : Int) 0 (fun y3 y4 y5 y6 => k0 y3 y4) (fun y7 y8 => bif y7 then (UdX n (IntKind.i64.wrap (0 - y8)) (fun y9 y10 => k0 y9 y10)) else (UdX n y8 (fun y11 y12 => k0 y11 y12)))
def Ude (n : Nat) (x1 : ByteArray) (x2 : Bool) (x3 : ByteArray) (k0 : Int → Bool → O R) : O R :=
  bif (eqS x3 (⟨#[]⟩ : ByteArray)) then (k0 0 false) else (bif (bif false then true else (decide (((x3).size : Int) > 9))) then (k0 0 false) else (bif (inR 0 (x3).size) then (bif (Jc9 x3 0 == 48) then (bif (bif false then true else (bif true then (decide (((x1).size : Int) > 1)) else false)) then (k0 0 false) else (Uf9 n x2 x3 (fun y4 y5 => k0 y4 y5))) else (Uf9 n x2 x3 (fun y6 y7 => k0 y6 y7))) else none))
def Ui4 (n : Nat) (x1 : ByteArray) (x2 : Bool) (k0 : Int → Bool → O R) : O R :=
  bif x2 then (bif (Jfa 1 ((x1).size : Int) (x1).size) then (Ude n x1 x2 (ByteArray.extract x1 (1 : Int).toNat (((x1).size : Int) : Int).toNat) (fun y3 y4 => k0 y3 y4)) else none) else (Ude n x1 x2 x1 (fun y5 y6 => k0 y5 y6))
def p95 (n : Nat) (x1 : ByteArray) (k0 : Int → Bool → O R) : O R :=
  bif (!eqS x1 (⟨#[]⟩ : ByteArray)) then (bif (inR 0 (x1).size) then (Ui4 n x1 (bif true then (Jc9 x1 0 == 45) else false) (fun y2 y3 => k0 y2 y3)) else none) else (Ui4 n x1 false (fun y4 y5 => k0 y4 y5))
abbrev E95 (n : Nat) : Code → Fr → Kc R → O R := evC Tryz.prog (UyN n) UbK n (64, [])
noncomputable def Uvh : Code := Jk (Jls Tryz.f95) [1, 1]
abbrev Us1 : Sl (List SV) := (cS (cB .n))
abbrev UvR (n : Nat) (K : Kc R) : Us1.T (O R) := fun x1 x2 => Ui4 n x1 x2 (fun y1 y2 => xC UbK 2 K .ret [vI y1, vB y2])
noncomputable def Uvi : Code := Jk (Jls Tryz.f95) [1, 1, 1, 1]
abbrev Us2 : Sl (List SV) := (cS (cB (cS .n)))
abbrev UvS (n : Nat) (K : Kc R) : Us2.T (O R) := fun x1 x2 x3 => Ude n x1 x2 x3 (fun y1 y2 => xC UbK 5 K .ret [vI y1, vB y2])
noncomputable def Uvj : Code := Jk (Jls Tryz.f95) [1, 1, 1, 1, 1]
abbrev Us3 : Sl (List SV) := (cB (cS .n))
abbrev UvT (n : Nat) (K : Kc R) : Us3.T (O R) := fun x1 x2 => Uf9 n x1 x2 (fun y1 y2 => xC UbK 7 K .ret [vI y1, vB y2])
noncomputable def UoQ : Code := Jk (Jls Tryz.f95) [1, 1, 1, 1, 1, 1, 1, 1]
abbrev UkZ : Sl (List SV) := (cI .n)
abbrev Urz (n : Nat) (K : Kc R) : UkZ.T (O R) := fun x1 => UdX n x1 (fun y1 y2 => xC UbK 17 K .ret [vI y1, vB y2])
noncomputable def Uvk : Code := Jk (Jls Tryz.f95) [1, 1, 1, 1, 1, 1, 0, 1, 0, 0]
abbrev UgK : Sl (List SV) := (cB (cS (cI (cI (cI .n)))))
abbrev UrA (n m : Nat) (K : Kc R) : UgK.T (O R) := fun x1 x2 x3 x4 x5 => Uby n m x1 x2 x3 x4 x5 (fun y1 y2 y3 y4 => xL UbK 9 K .ret [vI y1, vB y2, vB y3, vI y4]) (fun y1 y2 => xL UbK 9 K (.exit 0) [dD, dD, vB y1, vI y2])
abbrev UBo (n : Nat) (K : Kc R) (l0 : UgK.T (O R)) : UgK.T (O R) := fun x1 x2 x3 x4 x5 => UdY n l0 x1 x2 x3 x4 x5 (fun y1 y2 y3 y4 => xL UbK 9 K .ret [vI y1, vB y2, vB y3, vI y4]) (fun y1 y2 => xL UbK 9 K (.exit 0) [dD, dD, vB y1, vI y2])
abbrev UAG (n : Nat) : Orc R := oL UbK (E95 n) n 9 Uvk UgK (UrA n n) oN
abbrev UAC (n : Nat) : Orc R := oC UbK (E95 n) 17 UoQ UkZ (Urz n) (oC UbK (E95 n) 7 Uvj Us3 (UvT n) (oC UbK (E95 n) 5 Uvi Us2 (UvS n) (oC UbK (E95 n) 2 Uvh Us1 (UvR n) oN)))
abbrev K95 (R : Type) (n : Nat) := JcK (R := R) Tryz.prog (UyN n) UbK n (64, []) (UAG n) (UAC n)
theorem UEu (n : Nat) : K95 R n (false, 9, Uvk) := JkM (lo := UAG n) (cu := UAC n) (pO pN (by kernel_rfl)) UgK (UrA n n) (JiK (F := UrA n) UgK (UBo n) (fun K _ _ _ _ _ => rfl) (fun _ _ => rfl) (fun L K _ _ _ _ _ => by show _ = _; kernel_rfl) n) fun _ _ => rfl
theorem UAg (n : Nat) : K95 R n (true, 17, UoQ) := Jk3 (lo := UAG n) (cu := UAC n) (pO pN (by kernel_rfl)) UkZ (Urz n) (fun K _ => by show _ = _; kernel_rfl) fun _ _ => rfl
theorem UEt (n : Nat) : K95 R n (true, 7, Uvj) := Jk3 (lo := UAG n) (cu := UAC n) (pO (pC (UEu n) (pC (UAg n) pN)) (by kernel_rfl)) Us3 (UvT n) (fun K _ _ => by show _ = _; kernel_rfl) fun _ _ => rfl
theorem UEs (n : Nat) : K95 R n (true, 5, Uvi) := Jk3 (lo := UAG n) (cu := UAC n) (pO (pC (UEt n) pN) (by kernel_rfl)) Us2 (UvS n) (fun K _ _ _ => by show _ = _; kernel_rfl) fun _ _ => rfl
theorem UEr (n : Nat) : K95 R n (true, 2, Uvh) := Jk3 (lo := UAG n) (cu := UAC n) (pO (pC (UEs n) pN) (by kernel_rfl)) Us1 (UvR n) (fun K _ _ => by show _ = _; kernel_rfl) fun _ _ => rfl
theorem UOF (n : Nat) : Jfb (K95 R n) (JaJ UbK (Jls Tryz.f95)) := pO (pC (UEr n) pN) (by kernel_rfl)
abbrev t95 : Sl (List SV) := (cS .n)
abbrev f95 (n : Nat) (K : List SV → O R) : t95.T (O R) := fun x1 => p95 n x1 (fun y1 y2 => K [vI y1, vB y2])
abbrev UGn (n : Nat) : FS := fT [false] t95 (f95 n)
theorem UK3 (n : Nat) : FSound Tryz.prog GI 95 (UGn n) := gd UbK n (Uqy n) Tryz.func95 (.cons (Uqy n) t95 (f95 n) (fun K _ => (Jkx (c := Jls Tryz.f95) (by kernel_rfl) (UOF n) K).trans (by kernel_rfl)) .nil) (by kernel_rfl)
def Uw5 : Ann := { loops := [], cuts := [], frz := [], rm := [.id] }
abbrev UBV (n : Nat) : Env := eC 95 (UGn n) (eC 56 (UCY n) eN)
theorem UpZ (n : Nat) : EnvOK Tryz.prog GI (UBV n) := .cons (.cons (.nil) (UFi n)) (UK3 n)
def p53 (n : Nat) (x1 : ByteArray) (k0 : Bool → O R) : O R :=
  p95 n x1 (fun y2 y3 => bif y3 then (k0 true) else (p56 n x1 (fun y4 y5 y6 y7 => k0 y7)))
abbrev UMu (n : Nat) : Orc R := oN
abbrev ULO (n : Nat) : Orc R := oN
abbrev K53 (R : Type) (n : Nat) := JcK (R := R) Tryz.prog (UBV n) Uw5 n (19, []) (UMu n) (ULO n)
theorem UN7 (n : Nat) : Jfb (K53 R n) (JaJ Uw5 (Jls Tryz.f53)) := pO pN (by kernel_rfl)
abbrev t53 : Sl (List SV) := (cS .n)
abbrev f53 (n : Nat) (K : List SV → O R) : t53.T (O R) := fun x1 => p53 n x1 (fun y1 => K [vB y1])
abbrev Uy3 (n : Nat) : FS := fT [false] t53 (f53 n)
theorem UAI (n : Nat) : FSound Tryz.prog GI 53 (Uy3 n) := gd Uw5 n (UpZ n) Tryz.func53 (.cons (UpZ n) t53 (f53 n) (fun K _ => (Jkx (c := Jls Tryz.f53) (by kernel_rfl) (UN7 n) K).trans (by kernel_rfl)) .nil) (by kernel_rfl)
end
end Go.Proofs.YtmgfmlhdnadglaaGreatDoor
set_option linter.unusedVariables false
set_option linter.unusedSimpArgs false
namespace Go.Proofs.YtmgfmlhdnadglaaGreatDoor
open Go Th Go.Proofs
def val (b : Nat) : List Nat → Nat
  | [] => 0
  | d :: r => d + b * val b r
def toL (b : Nat) (n : Nat) : List Nat :=
  if h : n = 0 ∨ b < 2 then [] else n % b :: toL b (n / b)
termination_by n
decreasing_by
  have : 2 ≤ b := by omega
  exact Nat.div_lt_self (by omega) this
theorem Uai (b : Nat) : toL b 0 = [] := by unfold toL; simp
theorem UbE {b n : Nat} (hb : 2 ≤ b) (h : n ≠ 0) : toL b n = n % b :: toL b (n / b) := by
  conv => lhs; unfold toL
  rw [dif_neg (by omega)]
theorem Uaq {b : Nat} (hb : 2 ≤ b) (n : Nat) : val b (toL b n) = n := by
  induction n using Nat.strongRecOn with
  | _ n ih =>
    by_cases h : n = 0
    · subst h; rw [Uai]; rfl
    · rw [UbE hb h, val, ih (n / b) (Nat.div_lt_self (by omega) hb)]
      exact Nat.mod_add_div n b
theorem UaQ {b : Nat} (hb : 2 ≤ b) (n : Nat) : ∀ d ∈ toL b n, d < b := by
  induction n using Nat.strongRecOn with
  | _ n ih =>
    by_cases h : n = 0
    · subst h; rw [Uai]; intro d hd; cases hd
    · rw [UbE hb h]
      intro d hd
      rcases List.mem_cons.1 hd with rfl | hd
      · exact Nat.mod_lt _ (by omega)
      · exact ih (n / b) (Nat.div_lt_self (by omega) hb) d hd
theorem Ubl {b n : Nat} (hb : 2 ≤ b) : toL b n = [] ↔ n = 0 := by
  constructor
  · intro h
    have := Uaq hb n
    rw [h] at this
    exact this.symm
  · rintro rfl; exact Uai b
theorem Ucp (b : Nat) : ∀ (x y : List Nat), val b (x ++ y) = val b x + b ^ x.length * val b y
  | [], y => by simp [val]
  | d :: x, y => by
    simp only [List.cons_append, val, List.length_cons, Ucp b x y, Nat.pow_succ]
    rw [Nat.mul_add, ← Nat.mul_assoc, Nat.mul_comm (b ^ x.length) b]; omega
theorem Ubc (b : Nat) (x : List Nat) (d : Nat) : val b (x ++ [d]) = val b x + b ^ x.length * d := by
  rw [Ucp]; simp [val]
theorem Ujj (b k : Nat) : val b (List.replicate k 0) = 0 := by
  induction k with
  | zero => rfl
  | succ k ih => simp [List.replicate_succ, val, ih]
theorem Uex {b : Nat} (hb : 2 ≤ b) : ∀ (l : List Nat), (∀ d ∈ l, d < b) → val b l < b ^ l.length
  | [], _ => by simp [val]
  | d :: r, h => by
    have h1 := Uex hb r fun x hx => h x (List.mem_cons_of_mem _ hx)
    have h2 := h d (List.mem_cons_self ..)
    simp only [val, List.length_cons, Nat.pow_succ]
    have : b * val b r + b ≤ b ^ r.length * b := by
      rw [Nat.mul_comm (b ^ r.length) b, ← Nat.mul_succ]
      exact Nat.mul_le_mul_left b h1
    omega
theorem Uk0 {b : Nat} (hb : 2 ≤ b) : ∀ (l : List Nat), (∀ d ∈ l, d < b) → l.getLast? ≠ some 0 → toL b (val b l) = l
  | [], _, _ => Uai b
  | d :: r, h, hl => by
    have hd := h d (List.mem_cons_self ..)
    have hr : r.getLast? ≠ some 0 := by
      intro e
      cases r with
      | nil => cases e
      | cons x r => rw [List.getLast?_cons_cons] at hl; exact hl e
    have ih := Uk0 hb r (fun x hx => h x (List.mem_cons_of_mem _ hx)) hr
    have hne : val b (d :: r) ≠ 0 := by
      intro e
      simp only [val, Nat.add_eq_zero_iff, Nat.mul_eq_zero] at e
      have hv : val b r = 0 := by omega
      rw [hv, Uai] at ih
      rw [← ih] at hl
      exact hl (by rw [e.1]; rfl)
    rw [UbE hb hne]
    simp only [val]
    rw [Nat.add_mul_mod_self_left, Nat.mod_eq_of_lt hd, Nat.add_mul_div_left _ _ (by omega), Nat.div_eq_of_lt hd, Nat.zero_add, ih]
theorem Udl (b : Nat) (l : List Nat) : val b (l ++ [0]) = val b l := by rw [Ubc]; simp
theorem Uah {b : Nat} (hb : 2 ≤ b) (n k : Nat) : (toL b n).length ≤ k ↔ n < b ^ k := by
  induction k generalizing n with
  | zero =>
    rw [Nat.pow_zero]
    constructor
    · intro h
      have : toL b n = [] := List.eq_nil_of_length_eq_zero (by omega)
      rw [Ubl hb] at this; omega
    · intro h
      have : n = 0 := by omega
      subst this
      rw [Uai]; exact Nat.le_refl _
  | succ k ih =>
    by_cases h : n = 0
    · subst h; rw [Uai]; simp; exact Nat.pow_pos (by omega)
    · rw [UbE hb h, List.length_cons, Nat.succ_le_succ_iff, ih, Nat.pow_succ, Nat.mul_comm, Nat.div_lt_iff_lt_mul (by omega), Nat.mul_comm]
theorem Ubm {b : Nat} (hb : 2 ≤ b) {x y : Nat} (h : (toL b x).length < (toL b y).length) : x < y := by
  have h1 := (Uah hb x (toL b x).length).1 (Nat.le_refl _)
  have h2 : ¬ y < b ^ (toL b x).length := fun q => by have := (Uah hb y _).2 q; omega
  omega
theorem Una {b : Nat} (hb : 2 ≤ b) (n : Nat) : (toL b n).getLast? ≠ some 0 := by
  induction n using Nat.strongRecOn with
  | _ n ih =>
    by_cases h : n = 0
    · subst h; rw [Uai]; simp
    · rw [UbE hb h]
      by_cases h2 : n / b = 0
      · rw [h2, Uai]
        have : n < b := by
          rcases (Nat.div_eq_zero_iff).1 h2 with q | q <;> omega
        rw [Nat.mod_eq_of_lt this]
        simpa using h
      · have := ih (n / b) (Nat.div_lt_self (by omega) hb)
        rw [UbE hb h2] at this ⊢
        rw [List.getLast?_cons_cons]
        exact this
theorem Ube {l : List Nat} {i : Nat} (h : i < l.length) : l.take (i + 1) = l.take i ++ [l.getD i 0] := by
  rw [List.take_succ_eq_append_getElem h, List.getD_eq_getElem?_getD, List.getElem?_eq_getElem h]; rfl
theorem Ua1 (b : Nat) {l : List Nat} {i : Nat} (h : i < l.length) : val b (l.take (i + 1)) = val b (l.take i) + b ^ i * l.getD i 0 := by
  rw [Ube h, Ubc, List.length_take, Nat.min_eq_left (by omega)]
theorem Uam {b : Nat} (hb : 2 ≤ b) {l : List Nat} (hl : ∀ d ∈ l, d < b) {i : Nat} (h : i ≤ l.length) : val b (l.take i) < b ^ i := by
  have := Uex hb (l.take i) fun x hx => hl x (List.mem_of_mem_take hx)
  rwa [List.length_take, Nat.min_eq_left h] at this
theorem Uac {b : Nat} (hb : 2 ≤ b) {l : List Nat} (hl : ∀ d ∈ l, d < b) (i : Nat) : l.getD i 0 < b := by
  rw [List.getD_eq_getElem?_getD]
  cases h : l[i]? with
  | none => simp; omega
  | some x => exact hl x (List.mem_of_getElem? h)
theorem Uat (b : Nat) (l : List Nat) (i : Nat) (h : i ≤ l.length) : val b l = val b (l.take i) + b ^ i * val b (l.drop i) := by
  conv => lhs; rw [← List.take_append_drop i l]
  rw [Ucp, List.length_take, Nat.min_eq_left h]
theorem Ufc {l : List Nat} {i : Nat} (d : Nat) (h : i < l.length) : (l.set i d).take (i + 1) = l.take i ++ [d] := by
  rw [Ube (by rw [List.length_set]; exact h), List.take_set_of_le (Nat.le_refl _), List.getD_eq_getElem?_getD, List.getElem?_set_self h]; rfl
theorem Ubi {b : Nat} {l : List Nat} (hl : ∀ d ∈ l, d < b) {x : Nat} (hx : x < b) (i : Nat) : ∀ d ∈ l.set i x, d < b := by
  intro d hd
  rcases List.mem_or_eq_of_mem_set hd with h | h
  · exact hl d h
  · rw [h]; exact hx
theorem Uet (b : Nat) {l : List Nat} {i : Nat} (d : Nat) (h : i < l.length) : val b (l.set i d) + b ^ i * l.getD i 0 = val b l + b ^ i * d := by
  have h1 := Uat b (l.set i d) (i + 1) (by rw [List.length_set]; omega)
  have h2 := Uat b l (i + 1) (by omega)
  rw [Ufc d h, List.drop_set_of_lt (by omega), Ubc, List.length_take, Nat.min_eq_left (by omega)] at h1
  rw [Ua1 b h] at h2
  omega
theorem Ugb {b : Nat} (hb : 2 ≤ b) (n : Nat) : ∀ d ∈ List.replicate n 0, d < b := by
  intro d hd
  rw [List.mem_replicate] at hd
  omega
theorem Uan (b : Nat) (l : List Nat) (i : Nat) : val b (l.take (i + 1)) = val b (l.take i) + b ^ i * l.getD i 0 := by
  by_cases h : i < l.length
  · exact Ua1 b h
  · rw [List.take_of_length_le (by omega), List.take_of_length_le (by omega), List.getD_eq_getElem?_getD, List.getElem?_eq_none (by omega)]; simp
theorem Ubr {l : List Nat} {i : Nat} (h : l.length ≤ i) : l.getD i 0 = 0 := by rw [List.getD_eq_getElem?_getD, List.getElem?_eq_none h]; rfl
theorem Unm (b i v c s : Nat) (hb : 0 < b) : v + b ^ i * (s % b) + b ^ (i + 1) * (s / b) = v + b ^ i * s := by
  rw [Nat.pow_succ, Nat.mul_assoc, Nat.add_assoc, ← Nat.mul_add, Nat.mod_add_div]
theorem Ujf {l : List Nat} {i : Nat} (h : l.length = i + 1) (d : Nat) : l.set i d = l.take i ++ [d] := by
  have := Ufc d (l := l) (i := i) (by omega)
  rw [List.take_of_length_le (by rw [List.length_set]; omega)] at this
  exact this
theorem hT2 : 2 ≤ 10 := by decide
def ch (d : Nat) : UInt8 := UInt8.ofNat (48 + d)
theorem UeD {d : Nat} (h : d < 10) : (ch d).toNat = 48 + d := by
  unfold ch; rw [UInt8.toNat_ofNat']; omega
def DL (a : Nat) : List Nat := (toL 10 a).reverse
abbrev dec (a : Nat) : List UInt8 := Lib.decDigits a
theorem Ua5 {a : Nat} (h : a < 10) : dec a = [ch a] := by unfold dec; rw [Lib.decDigits, dif_pos h]; rfl
theorem UjB {a : Nat} (h : 10 ≤ a) : dec a = dec (a / 10) ++ [ch (a % 10)] := by
  unfold dec; rw [Lib.decDigits, dif_neg (by omega)]; rfl
theorem Uap : dec 0 = [48] := Ua5 (by omega)
theorem UfR {x : Nat} (h0 : x ≠ 0) (hx : x < 10) : toL 10 x = [x] := by
  rw [UbE hT2 h0, Nat.mod_eq_of_lt hx, Nat.div_eq_of_lt hx, Uai]
theorem Ucy (a : Nat) (h : a ≠ 0) : dec a = (DL a).map ch := by
  induction a using Nat.strongRecOn with
  | _ a ih =>
    unfold DL
    by_cases h1 : a < 10
    · rw [Ua5 h1, UfR h h1]; rfl
    · rw [UjB (by omega), ih (a / 10) (by omega) (by omega), UbE hT2 h, List.reverse_cons, List.map_append]; rfl
theorem Uey (a : Nat) : ∀ d ∈ DL a, d < 10 := fun d h => UaQ hT2 a d (List.mem_reverse.1 h)
theorem Ujo : DL 0 = [] := by unfold DL; rw [Uai]; rfl
theorem UAO {a : Nat} : DL a = [] ↔ a = 0 := by unfold DL; rw [List.reverse_eq_nil_iff, Ubl hT2]
theorem UAN (a k : Nat) : (DL a).length ≤ k ↔ a < 10 ^ k := by unfold DL; rw [List.length_reverse, Uah hT2]
def vb (l : List Nat) : Nat := val 10 l.reverse
theorem Unb : vb [] = 0 := rfl
theorem Uk1 (l : List Nat) (d : Nat) : vb (l ++ [d]) = 10 * vb l + d := by unfold vb; rw [List.reverse_append]; simp [val]; omega
theorem Udm (x y : List Nat) : vb (x ++ y) = vb x * 10 ^ y.length + vb y := by
  unfold vb; rw [List.reverse_append, Ucp, List.length_reverse, Nat.mul_comm]; omega
theorem UcM (d : Nat) (l : List Nat) : vb (d :: l) = d * 10 ^ l.length + vb l := by
  have := Udm [d] l
  rw [show vb [d] = d from by simp [vb, val]] at this
  exact this
theorem UfS (a : Nat) : vb (DL a) = a := by unfold vb DL; rw [List.reverse_reverse, Uaq hT2]
theorem UAw (l : List Nat) (h : ∀ d ∈ l, d < 10) : vb l < 10 ^ l.length := by
  have := Uex hT2 l.reverse fun d hd => h d (List.mem_reverse.1 hd)
  rwa [List.length_reverse] at this
theorem UAP {l : List Nat} (h : ∀ d ∈ l, d < 10) (hl : l.head? ≠ some 0) : DL (vb l) = l := by
  unfold DL vb
  rw [Uk0 hT2 l.reverse (fun d hd => h d (List.mem_reverse.1 hd)) (by rw [List.getLast?_reverse]; exact hl), List.reverse_reverse]
theorem UwM (a : Nat) : (DL a).head? ≠ some 0 := by
  unfold DL; rw [List.head?_reverse]; exact Una hT2 a
def isD (c : UInt8) : Bool := decide (48 ≤ c.toNat) && decide (c.toNat ≤ 57)
theorem UaB {c : UInt8} : isD c = true ↔ 48 ≤ c.toNat ∧ c.toNat ≤ 57 := by simp [isD]
def dg (s : List UInt8) : List Nat := s.map fun c => c.toNat - 48
theorem Uyb {s : List UInt8} (h : ∀ c ∈ s, isD c = true) : ∀ d ∈ dg s, d < 10 := by
  intro d hd
  simp only [dg, List.mem_map] at hd
  obtain ⟨c, hc, rfl⟩ := hd
  have := UaB.1 (h c hc)
  omega
theorem UFF {s : List UInt8} (h : ∀ c ∈ s, isD c = true) : (dg s).map ch = s := by
  unfold dg
  rw [List.map_map]
  conv => rhs; rw [← List.map_id s]
  apply List.map_congr_left
  intro c hc
  have := UaB.1 (h c hc)
  simp only [Function.comp, id]
  apply UInt8.toNat_inj.1
  rw [UeD (by omega)]; omega
theorem UF4 {l : List Nat} (h : ∀ d ∈ l, d < 10) : dg (l.map ch) = l := by
  unfold dg
  rw [List.map_map]
  conv => rhs; rw [← List.map_id l]
  apply List.map_congr_left
  intro d hd
  simp only [Function.comp, id]
  rw [UeD (h d hd)]; omega
theorem UC2 {l : List Nat} (h : ∀ d ∈ l, d < 10) : ∀ c ∈ l.map ch, isD c = true := by
  intro c hc
  rw [List.mem_map] at hc
  obtain ⟨d, hd, rfl⟩ := hc
  have := h d hd
  rw [UaB, UeD this]; omega
def ofD (s : List UInt8) : Nat := vb (dg s)
theorem Unv (s t : List UInt8) : ofD (s ++ t) = ofD s * 10 ^ t.length + ofD t := by
  unfold ofD dg; rw [List.map_append, Udm, List.length_map]
theorem UrU {s : List UInt8} (h : ∀ c ∈ s, isD c = true) : ofD s < 10 ^ s.length := by
  have := UAw (dg s) (Uyb h)
  rwa [dg, List.length_map] at this
theorem Ua4 (a : Nat) : ∀ c ∈ dec a, isD c = true := by
  by_cases h : a = 0
  · subst h; rw [Uap]; intro c hc; simp at hc; subst hc; rfl
  · rw [Ucy a h]; exact UC2 (Uey a)
theorem UcA (a : Nat) : ofD (dec a) = a := by
  by_cases h : a = 0
  · subst h; rw [Uap]; rfl
  · rw [Ucy a h, ofD, UF4 (Uey a), UfS]
theorem Ucx {a b : Nat} (h : dec a = dec b) : a = b := by rw [← UcA a, h, UcA]
theorem Uo0 (a : Nat) : dec a ≠ [] := by
  by_cases h : a = 0
  · subst h; rw [Uap]; simp
  · rw [Ucy a h]; simp [UAO, h]
theorem Ubp (a k : Nat) (hk : 1 ≤ k) : (dec a).length ≤ k ↔ a < 10 ^ k := by
  by_cases h : a = 0
  · subst h; rw [Uap]
    have : 0 < 10 ^ k := Nat.pow_pos (by omega)
    simp [hk, this]
  · rw [Ucy a h, List.length_map, UAN]
theorem Uo1 {s : List UInt8} (h : ∀ c ∈ s, isD c = true) (h0 : s ≠ []) (h1 : s.head? ≠ some 48 ∨ s.length = 1) : dec (ofD s) = s := by
  by_cases hz : s = [48]
  · subst hz; rw [show ofD [48] = 0 from rfl, Uap]
  · have hh : s.head? ≠ some 48 := by
      rcases h1 with h1 | h1
      · exact h1
      · intro e
        match s, h1, e with
        | [c], _, e => simp at e; subst e; exact hz rfl
    have hd : (dg s).head? ≠ some 0 := by
      match s, h0 with
      | c :: r, _ =>
        simp only [dg, List.map_cons, List.head?_cons, ne_eq, Option.some.injEq] at hh ⊢
        have := UaB.1 (h c (List.mem_cons_self ..))
        intro e
        exact hh (by apply UInt8.toNat_inj.1; show c.toNat = 48; omega)
    have hD := UAP (Uyb h) hd
    have hne : ofD s ≠ 0 := by
      intro e
      unfold ofD at e
      rw [e, Ujo] at hD
      simp [dg] at hD
      exact h0 (by first | exact hD | exact hD.symm)
    rw [Ucy _ hne]
    unfold ofD
    rw [hD, UFF h]
theorem Ulu (a : Nat) : (dec a).head? ≠ some 48 ∨ (dec a).length = 1 := by
  by_cases h : a = 0
  · subst h; rw [Uap]; right; rfl
  · left
    rw [Ucy a h]
    have := UwM a
    have hl := Uey a
    cases hD : DL a with
    | nil => simp
    | cons d r =>
      rw [hD] at this hl
      simp only [List.map_cons, List.head?_cons, ne_eq, Option.some.injEq] at this ⊢
      intro e
      have h2 := congrArg UInt8.toNat e
      rw [UeD (hl d (List.mem_cons_self ..))] at h2
      have : (48 : UInt8).toNat = 48 := rfl
      omega
def pad : Nat → Nat → List UInt8
  | 0, _ => []
  | k + 1, d => pad k (d / 10) ++ [ch (d % 10)]
theorem UtY (k : Nat) : pad k 0 = List.replicate k 48 := by
  induction k with
  | zero => rfl
  | succ k ih => rw [pad, Nat.zero_div, ih, List.replicate_succ']; rfl
theorem UwF : ∀ (k d : Nat), d < 10 ^ (k + 1) → List.replicate (k + 1 - (dec d).length) 48 ++ dec d = pad (k + 1) d
  | 0, d, h => by
    have h' : d < 10 := by simpa using h
    rw [Ua5 h', pad, pad, Nat.mod_eq_of_lt h']; rfl
  | k + 1, d, h => by
    by_cases h1 : d < 10
    · rw [Ua5 h1, pad, Nat.mod_eq_of_lt h1, Nat.div_eq_of_lt h1, UtY]; rfl
    · have ih := UwF k (d / 10) (by rw [Nat.pow_succ] at h; omega)
      rw [UjB (by omega), pad, ← ih, List.length_append, List.length_singleton, ← List.append_assoc]
      congr 3
      omega
theorem Ulv : ∀ (k h d : Nat), h ≠ 0 → d < 10 ^ k → dec (h * 10 ^ k + d) = dec h ++ pad k d
  | 0, h, d, h0, hd => by
    have : d = 0 := by simpa using hd
    subst this
    simp [pad]
  | k + 1, h, d, h0, hd => by
    have hp : 0 < 10 ^ k := Nat.pow_pos (by omega)
    have e : h * 10 ^ (k + 1) = 10 * (h * 10 ^ k) := by rw [Nat.pow_succ]; grind
    have hge : 1 * 1 ≤ h * 10 ^ k := Nat.mul_le_mul (by omega) hp
    rw [Nat.pow_succ] at hd
    rw [UjB (by omega), pad, ← List.append_assoc, ← Ulv k h (d / 10) h0 (by omega)]
    congr 3
    · omega
    · omega
theorem Udf : ∀ (s : List UInt8) (acc : Nat), (∀ c ∈ s, isD c = true) → (acc + 1) * 10 ^ s.length ≤ 1000000000000000000 → Lib.parseUint10 acc s = .ok (acc * 10 ^ s.length + ofD s)
  | [], acc, _, _ => by simp [Lib.parseUint10, ofD, dg, Unb]
  | c :: r, acc, h, hb => by
    have hc := UaB.1 (h c (List.mem_cons_self ..))
    rw [List.length_cons, Nat.pow_succ] at hb
    have hp : 0 < 10 ^ r.length := Nat.pow_pos (by omega)
    have h1 : (acc + 1) * 10 ≤ (acc + 1) * (10 ^ r.length * 10) := Nat.mul_le_mul_left _ (by omega)
    have ih := Udf r (acc * 10 + (c.toNat - 48)) (fun x hx => h x (List.mem_cons_of_mem _ hx)) (by
      have : (acc * 10 + (c.toNat - 48) + 1) * 10 ^ r.length ≤ ((acc + 1) * 10) * 10 ^ r.length := Nat.mul_le_mul_right _ (by omega)
      have e : (acc + 1) * (10 ^ r.length * 10) = ((acc + 1) * 10) * 10 ^ r.length := by grind
      omega)
    rw [Lib.parseUint10, if_pos hc, if_neg (by omega), if_neg (by omega), ih]
    congr 1
    have : ofD (c :: r) = (c.toNat - 48) * 10 ^ r.length + ofD r := by
      unfold ofD dg; rw [List.map_cons, UcM, List.length_map]
    rw [this, List.length_cons, Nat.pow_succ]
    grind
theorem Utg (s : List UInt8) (h : ∀ c ∈ s, isD c = true) (h0 : s ≠ []) (hl : s.length ≤ 18) : Lib.atoiAll s = .ok (ofD s : Int) := by
  match s, h0 with
  | c :: r, _ =>
    have hc := UaB.1 (h c (List.mem_cons_self ..))
    have hlt := UrU h
    have hp : 10 ^ (c :: r).length ≤ 10 ^ 18 := Nat.pow_le_pow_right (by omega) hl
    have hu := Udf (c :: r) 0 h (by rw [Nat.zero_add, Nat.one_mul]; exact hp)
    rw [Nat.zero_mul, Nat.zero_add] at hu
    have e1 : ¬ (c.toNat = 43 ∨ c.toNat = 45) := by omega
    have e2 : ¬ c.toNat = 45 := by omega
    unfold Lib.atoiAll
    simp only [if_neg e1, Lib.parseMag, List.cons_ne_nil, if_false, hu]
    rw [if_neg (by omega), if_neg (by omega), if_neg e2]
end Go.Proofs.YtmgfmlhdnadglaaGreatDoor
set_option linter.unusedVariables false
set_option maxRecDepth 100000
namespace Go.Proofs.YtmgfmlhdnadglaaGreatDoor
open Go Th Go.Proofs
noncomputable section
variable {R : Type}
def UbH : Ann := { loops := [(6, ids [0, 1, 5, 6, 20, 21], ids [0, 4, 5, 6])], cuts := [(3, ids [0, 1], ids [4]), (11, ids [0, 1, 5, 6, 7, 20, 21], ids [0, 1, 4, 5, 6, 20, 21])], frz := [], rm := [.id] }
abbrev Uo7 (n : Nat) : Env := eC 101 (Uj6 n) eN
theorem UlF (n : Nat) : EnvOK Tryz.prog GI (Uo7 n) := .cons (.nil) (Unw n)
def UeN (n : Nat) (x1 x2 x3 : LP) (x4 x5 x6 x7 : Int) (k0 : LP → LP → LP → Int → Int → Int → O R) : O R :=
  bif decide (1000000000 = 0) then none else (bif (inR x5 ((x3).length)) then (Jjf .u32 ((x3).getD ((x5 : Int).toNat) (.v (.bool false))) fun e8 => bif decide (1000000000 = 0) then none else (let v9 := IntKind.u32.wrap (Int.tdiv x4 1000000000); k0 x1 x2 ((x3).set ((x5 : Int).toNat) (.v (.int .u32 (Int.tmod x4 1000000000)))) v9 x6 x7)) else none)
def UeO (n : Nat) (l0 : LP → LP → LP → Int → Int → Int → O R) (x1 x2 x3 : LP) (x4 x5 x6 : Int) (k0 : LP → LP → Int → O R) : O R :=
  bif (decide (x6 < x5)) then (bif (inR x6 ((x1).length)) then (Jjf .u32 ((x1).getD ((x6 : Int).toNat) (.v (.bool false))) fun e7 => bif (decide (x6 < ((x2).length : Int))) then (bif (inR x6 ((x2).length)) then (Jjf .u32 ((x2).getD ((x6 : Int).toNat) (.v (.bool false))) fun e8 => let v9 := IntKind.u32.wrap ((IntKind.u32.wrap (x4 + e7)) + e8); UeN n x1 x2 x3 v9 x6 x5 x6 (fun y10 y11 y12 y13 y14 y15 => l0 y10 y11 y12 y13 y14 (IntKind.i64.wrap (y15 + 1)))) else none) else (UeN n x1 x2 x3 (IntKind.u32.wrap (x4 + e7)) x6 x5 x6 (fun y16 y17 y18 y19 y20 y21 => l0 y16 y17 y18 y19 y20 (IntKind.i64.wrap (y21 + 1))))) else none) else (k0 x1 x3 x4)
def Ub1 (n : Nat) : Nat → LP → LP → LP → Int → Int → Int → (LP → LP → Int → O R) → O R
  | 0, _, _, _, _, _, _, _ => none
  | m + 1, x1, x2, x3, x4, x5, x6, k0 => UeO n (fun x1 x2 x3 x4 x5 x6 => Ub1 n m x1 x2 x3 x4 x5 x6 k0) x1 x2 x3 x4 x5 x6 k0
def Ur1 (n : Nat) (x1 x2 x3 : LP) (x4 x5 x6 : Int) (k0 : LP → LP → Int → O R) : O R := Ub1 n n x1 x2 x3 x4 x5 x6 k0
def Ufx (n : Nat) (x1 x2 : LP) (k0 : LP → O R) : O R :=
  let v3 := IntKind.i64.wrap (((x1).length : Int) + 1); bif (decide ((0 : Int) ≤ v3) && decide ((v3 : Int) ≤ v3) && Jbv (v3 : Int).toNat 4) then (Ur1 n x1 x2 (List.replicate (v3 : Int).toNat (.v (.int .u32 0) : PV)) 0 ((x1).length : Int) 0 (fun y4 y5 y6 => bif (inR ((y4).length : Int) ((y5).length)) then (Jjf .u32 ((y5).getD ((((y4).length : Int) : Int).toNat) (.v (.bool false))) fun e7 => UrZ n ((y5).set ((((y4).length : Int) : Int).toNat) (.v (.int .u32 y6))) (fun y8 => k0 y8)) else none)) else none
def UFm (n : Nat) (x1 x2 : LP) (k0 : LP → O R) : O R :=
  bif (decide (((x1).length : Int) < ((x2).length : Int))) then (Ufx n x2 x1 (fun y3 => k0 y3)) else (Ufx n x1 x2 (fun y4 => k0 y4))
abbrev UFv (n : Nat) : Code → Fr → Kc R → O R := evC Tryz.prog (Uo7 n) UbH n (55, [])
noncomputable def Un3 : Code := Jk (Jls Tryz.f103) [1, 1]
abbrev Ukv : Sl (List SV) := (cH (cH .n))
abbrev UqD (n : Nat) (K : Kc R) : Ukv.T (O R) := fun x1 x2 => Ufx n x1 x2 (fun y1 => xC UbH 3 K .ret [vH y1])
noncomputable def Uk4 : Code := Jk (Jls Tryz.f103) [1, 1, 1, 1, 0, 1, 0, 0, 1, 1, 0, 0, 1, 1, 1]
abbrev Uii : Sl (List SV) := (cH (cH (cO 143 (.c (sP (JlC .u32)) (cI (cI (cI .n)))))))
abbrev Umf (n : Nat) (K : Kc R) : Uii.T (O R) := fun x1 x2 x3 x4 x5 x6 x7 => UeN n x1 x2 x3 x4 x5 x6 x7 (fun y1 y2 y3 y4 y5 y6 => xC UbH 11 K .normal [vH y1, vH y2, dD, .own 143 y3, .p (.v (.int .u32 y4)), vI y5, vI y6])
noncomputable def Un4 : Code := Jk (Jls Tryz.f103) [1, 1, 1, 1, 0, 1, 0, 0]
abbrev Ud5 : Sl (List SV) := (cH (cH (cO 143 (.c (sP (JlC .u32)) (cI (cI .n))))))
abbrev UjI (n m : Nat) (K : Kc R) : Ud5.T (O R) := fun x1 x2 x3 x4 x5 x6 => Ub1 n m x1 x2 x3 x4 x5 x6 (fun y1 y2 y3 => xL UbH 6 K (.exit 0) [vH y1, dD, .own 143 y2, .p (.v (.int .u32 y3))])
abbrev Uxx (n : Nat) (K : Kc R) (l0 : Ud5.T (O R)) : Ud5.T (O R) := fun x1 x2 x3 x4 x5 x6 => UeO n l0 x1 x2 x3 x4 x5 x6 (fun y1 y2 y3 => xL UbH 6 K (.exit 0) [vH y1, dD, .own 143 y2, .p (.v (.int .u32 y3))])
abbrev UtI (n : Nat) : Orc R := oL UbH (UFv n) n 6 Un4 Ud5 (UjI n n) oN
abbrev Utu (n : Nat) : Orc R := oC UbH (UFv n) 11 Uk4 Uii (Umf n) (oC UbH (UFv n) 3 Un3 Ukv (UqD n) oN)
abbrev UET (R : Type) (n : Nat) := JcK (R := R) Tryz.prog (Uo7 n) UbH n (55, []) (UtI n) (Utu n)
theorem Ut0 (n : Nat) : UET R n (true, 11, Uk4) := Jk3 (lo := UtI n) (cu := Utu n) (pO pN (by kernel_rfl)) Uii (Umf n) (fun K _ _ _ _ _ _ _ => by show _ = _; kernel_rfl) fun _ _ => rfl
theorem Uzt (n : Nat) : UET R n (false, 6, Un4) := JkM (lo := UtI n) (cu := Utu n) (pO (pC (Ut0 n) pN) (by kernel_rfl)) Ud5 (UjI n n) (JiK (F := UjI n) Ud5 (Uxx n) (fun K _ _ _ _ _ _ => rfl) (fun _ _ => rfl) (fun L K _ _ _ _ _ _ => by show _ = _; kernel_rfl) n) fun _ _ => rfl
theorem Uzs (n : Nat) : UET R n (true, 3, Un3) := Jk3 (lo := UtI n) (cu := Utu n) (pO (pC (Uzt n) pN) (by kernel_rfl)) Ukv (UqD n) (fun K _ _ => by show _ = _; kernel_rfl) fun _ _ => rfl
theorem UHC (n : Nat) : Jfb (UET R n) (JaJ UbH (Jls Tryz.f103)) := pO (pC (Uzs n) pN) (by kernel_rfl)
abbrev UIi : Sl (List SV) := (cH (cH .n))
abbrev f103 (n : Nat) (K : List SV → O R) : UIi.T (O R) := fun x1 x2 => UFm n x1 x2 (fun y1 => K [vH y1])
abbrev UCs (n : Nat) : FS := fT [false, false] UIi (f103 n)
theorem UGO (n : Nat) : FSound Tryz.prog GI 103 (UCs n) := gd UbH n (UlF n) Tryz.func103 (.cons (UlF n) UIi (f103 n) (fun K _ _ => (Jkx (c := Jls Tryz.f103) (by kernel_rfl) (UHC n) K).trans (by kernel_rfl)) .nil) (by kernel_rfl)
def UbI : Ann := { loops := [(4, ids [0, 1, 5, 6, 13, 14], ids [4, 5])], cuts := [(9, ids [0, 1, 5, 7, 8, 13, 14], ids [0, 1, 4, 5, 6, 13, 14]), (13, ids [0, 1, 5, 6, 7, 8, 13, 14], ids [0, 1, 4, 5, 6, 13, 14])], frz := [], rm := [.id] }
abbrev Uo8 (n : Nat) : Env := eC 101 (Uj6 n) eN
theorem UlG (n : Nat) : EnvOK Tryz.prog GI (Uo8 n) := .cons (.nil) (Unw n)
def Uc4 (n : Nat) (x1 x2 x3 : LP) (x4 x5 x6 x7 x8 : Int) (k0 : LP → LP → LP → Int → Int → Int → O R) : O R :=
  bif (inR x5 ((x3).length)) then (Jjf .u32 ((x3).getD ((x5 : Int).toNat) (.v (.bool false))) fun e9 => k0 x1 x2 ((x3).set ((x5 : Int).toNat) (.v (.int .u32 (IntKind.u32.wrap (x6))))) x4 x7 x8) else none
def Ufy (n : Nat) (x1 x2 x3 : LP) (x4 x5 x6 x7 : Int) (k0 : LP → LP → LP → Int → Int → Int → O R) : O R :=
  bif (decide (x5 < 0)) then (Uc4 n x1 x2 x3 1 x4 (IntKind.i64.wrap (x5 + 1000000000)) x6 x7 (fun y8 y9 y10 y11 y12 y13 => k0 y8 y9 y10 y11 y12 y13)) else (Uc4 n x1 x2 x3 0 x4 x5 x6 x7 (fun y14 y15 y16 y17 y18 y19 => k0 y14 y15 y16 y17 y18 y19))
def Uc5 (n : Nat) (l0 : LP → LP → LP → Int → Int → Int → O R) (x1 x2 x3 : LP) (x4 x5 x6 : Int) (k0 : LP → O R) : O R :=
  bif (decide (x6 < x5)) then (bif (inR x6 ((x1).length)) then (Jjf .u32 ((x1).getD ((x6 : Int).toNat) (.v (.bool false))) fun e7 => let v8 := IntKind.i64.wrap ((IntKind.i64.wrap (e7)) - x4); bif (decide (x6 < ((x2).length : Int))) then (bif (inR x6 ((x2).length)) then (Jjf .u32 ((x2).getD ((x6 : Int).toNat) (.v (.bool false))) fun e9 => let v10 := IntKind.i64.wrap (v8 - (IntKind.i64.wrap (e9))); Ufy n x1 x2 x3 x6 v10 x5 x6 (fun y11 y12 y13 y14 y15 y16 => l0 y11 y12 y13 y14 y15 (IntKind.i64.wrap (y16 + 1)))) else none) else (Ufy n x1 x2 x3 x6 v8 x5 x6 (fun y17 y18 y19 y20 y21 y22 => l0 y17 y18 y19 y20 y21 (IntKind.i64.wrap (y22 + 1))))) else none) else (k0 x3)
def Ubt (n : Nat) : Nat → LP → LP → LP → Int → Int → Int → (LP → O R) → O R
  | 0, _, _, _, _, _, _, _ => none
  | m + 1, x1, x2, x3, x4, x5, x6, k0 => Uc5 n (fun x1 x2 x3 x4 x5 x6 => Ubt n m x1 x2 x3 x4 x5 x6 k0) x1 x2 x3 x4 x5 x6 k0
def Ur2 (n : Nat) (x1 x2 x3 : LP) (x4 x5 x6 : Int) (k0 : LP → O R) : O R := Ubt n n x1 x2 x3 x4 x5 x6 k0
def UDp (n : Nat) (x1 x2 : LP) (k0 : LP → O R) : O R :=
  bif (decide ((0 : Int) ≤ ((x1).length : Int)) && decide ((((x1).length : Int) : Int) ≤ ((x1).length : Int)) && Jbv (((x1).length : Int) : Int).toNat 4) then (Ur2 n x1 x2 (List.replicate (((x1).length : Int) : Int).toNat (.v (.int .u32 0) : PV)) 0 ((x1).length : Int) 0 (fun y3 => UrZ n y3 (fun y4 => k0 y4))) else none
abbrev UFw (n : Nat) : Code → Fr → Kc R → O R := evC Tryz.prog (Uo8 n) UbI n (47, [])
noncomputable def Un5 : Code := Jk (Jls Tryz.f104) [1, 1, 1, 0, 1, 0, 0, 1, 1, 0, 0, 1, 1, 1]
abbrev Ukw : Sl (List SV) := (cH (cH (cO 143 (cI (cI (cI (cI .n)))))))
abbrev UqE (n : Nat) (K : Kc R) : Ukw.T (O R) := fun x1 x2 x3 x4 x5 x6 x7 => Ufy n x1 x2 x3 x4 x5 x6 x7 (fun y1 y2 y3 y4 y5 y6 => xC UbI 9 K .normal [vH y1, vH y2, dD, .own 143 y3, vI y4, vI y5, vI y6])
noncomputable def Uk5 : Code := Jk (Jls Tryz.f104) [1, 1, 1, 0, 1, 0, 0, 1, 1, 0, 0, 1, 1, 1, 1, 1]
abbrev Uij : Sl (List SV) := (cH (cH (cO 143 (cI (cI (cI (cI (cI .n))))))))
abbrev Umg (n : Nat) (K : Kc R) : Uij.T (O R) := fun x1 x2 x3 x4 x5 x6 x7 x8 => Uc4 n x1 x2 x3 x4 x5 x6 x7 x8 (fun y1 y2 y3 y4 y5 y6 => xC UbI 13 K .normal [vH y1, vH y2, dD, .own 143 y3, vI y4, vI y5, vI y6])
noncomputable def Un6 : Code := Jk (Jls Tryz.f104) [1, 1, 1, 0, 1, 0, 0]
abbrev Ud6 : Sl (List SV) := (cH (cH (cO 143 (cI (cI (cI .n))))))
abbrev UjJ (n m : Nat) (K : Kc R) : Ud6.T (O R) := fun x1 x2 x3 x4 x5 x6 => Ubt n m x1 x2 x3 x4 x5 x6 (fun y1 => xL UbI 4 K (.exit 0) [dD, .own 143 y1])
abbrev Uxy (n : Nat) (K : Kc R) (l0 : Ud6.T (O R)) : Ud6.T (O R) := fun x1 x2 x3 x4 x5 x6 => Uc5 n l0 x1 x2 x3 x4 x5 x6 (fun y1 => xL UbI 4 K (.exit 0) [dD, .own 143 y1])
abbrev UtJ (n : Nat) : Orc R := oL UbI (UFw n) n 4 Un6 Ud6 (UjJ n n) oN
abbrev Utv (n : Nat) : Orc R := oC UbI (UFw n) 13 Uk5 Uij (Umg n) (oC UbI (UFw n) 9 Un5 Ukw (UqE n) oN)
abbrev UEU (R : Type) (n : Nat) := JcK (R := R) Tryz.prog (Uo8 n) UbI n (47, []) (UtJ n) (Utv n)
theorem Ut1 (n : Nat) : UEU R n (true, 13, Uk5) := Jk3 (lo := UtJ n) (cu := Utv n) (pO pN (by kernel_rfl)) Uij (Umg n) (fun K _ _ _ _ _ _ _ _ => by show _ = _; kernel_rfl) fun _ _ => rfl
theorem Uzu (n : Nat) : UEU R n (true, 9, Un5) := Jk3 (lo := UtJ n) (cu := Utv n) (pO (pC (Ut1 n) pN) (by kernel_rfl)) Ukw (UqE n) (fun K _ _ _ _ _ _ _ => by show _ = _; kernel_rfl) fun _ _ => rfl
theorem Uzv (n : Nat) : UEU R n (false, 4, Un6) := JkM (lo := UtJ n) (cu := Utv n) (pO (pC (Uzu n) pN) (by kernel_rfl)) Ud6 (UjJ n n) (JiK (F := UjJ n) Ud6 (Uxy n) (fun K _ _ _ _ _ _ => rfl) (fun _ _ => rfl) (fun L K _ _ _ _ _ _ => by show _ = _; kernel_rfl) n) fun _ _ => rfl
theorem UHD (n : Nat) : Jfb (UEU R n) (JaJ UbI (Jls Tryz.f104)) := pO (pC (Uzv n) pN) (by kernel_rfl)
abbrev UIj : Sl (List SV) := (cH (cH .n))
abbrev f104 (n : Nat) (K : List SV → O R) : UIj.T (O R) := fun x1 x2 => UDp n x1 x2 (fun y1 => K [vH y1])
abbrev UCt (n : Nat) : FS := fT [false, false] UIj (f104 n)
theorem UGP (n : Nat) : FSound Tryz.prog GI 104 (UCt n) := gd UbI n (UlG n) Tryz.func104 (.cons (UlG n) UIj (f104 n) (fun K _ _ => (Jkx (c := Jls Tryz.f104) (by kernel_rfl) (UHD n) K).trans (by kernel_rfl)) .nil) (by kernel_rfl)
end
end Go.Proofs.YtmgfmlhdnadglaaGreatDoor
set_option linter.unusedVariables false
set_option linter.unusedSimpArgs false
namespace Go.Proofs.YtmgfmlhdnadglaaGreatDoor
open Go Th Go.Proofs
variable {R : Type}
theorem hB2 : 2 ≤ 1000000000 := by decide
def NN (a : Nat) : List PV := nl .u32 (toL 1000000000 a)
theorem Uji (n : Nat) (k0 : List PV → Option R) : ∀ (m : Nat) (l : List Nat), (∀ d ∈ l, d < 1000000000) → l.length < m → l.length < 2 ^ 40 → Uc3 n m (nl .u32 l) k0 = k0 (NN (val 1000000000 l))
  | m + 1, l, hl, hm, hb => by
    simp only [Uc3, Uhm]
    rcases List.eq_nil_or_concat l with rfl | ⟨r, d, rfl⟩
    · simp (disch := (first | omega | (simp only [JlL]; omega))) only [↓JlO, JlM, JlN]
      unfold NN
      rw [show val 1000000000 [] = 0 from rfl, Uai]
    · rw [List.concat_eq_append] at *
      have hlen : (r ++ [d]).length = r.length + 1 := by simp
      have hg : (r ++ [d]).getD r.length 0 = d := by rw [List.getD_eq_getElem?_getD, List.getElem?_append_right (Nat.le_refl _)]; simp
      have ht : (r ++ [d]).take r.length = r := List.take_left
      have e1 : ((r.length + (0 + 1) : Nat) : Int) - 1 = (r.length : Int) := by omega
      rw [hlen] at hm hb
      by_cases hd : d = 0
      · subst hd
        have ih := Uji n k0 m r (fun x hx => hl x (by simp [hx])) (by omega) (by omega)
        simp (disch := (first | omega | (simp only [JlL]; omega))) only [↓JlO, JlM, JlN, e1, hg, Jk7, ht, ih]
        rw [Udl]
        rfl
      · have hne : (d == 0) = false := by simpa using hd
        simp (disch := (first | omega | (simp only [JlL]; omega))) only [↓JlO, JlM, JlN, e1, hg, Jk7, hne]
        congr 1
        unfold NN
        rw [Uk0 hB2 _ hl (by rw [List.getLast?_append]; simpa using hd)]
theorem UbW (n : Nat) (l : List Nat) (hl : ∀ d ∈ l, d < 1000000000) (hn : l.length < n) (hb : l.length < 2 ^ 40) (k0 : List PV → Option R) : UrZ n (nl .u32 l) k0 = k0 (NN (val 1000000000 l)) := by
  unfold UrZ Ur0
  exact Uji n _ n l hl hn hb
def Ucv (a b : Nat) : Int := if a < b then -1 else if b < a then 1 else 0
theorem Uls (n : Nat) (la lb : List Nat) (ha : ∀ d ∈ la, d < 1000000000) (hb : ∀ d ∈ lb, d < 1000000000) (hlen : la.length = lb.length) (hl : la.length < 2 ^ 40) (k0 : Int → Option R) (k1 : Option R) :
    ∀ (i m : Nat), i ≤ la.length → i < m → UdM n m (nl .u32 la) (nl .u32 lb) ((i : Int) - 1) k0 k1 =
      if val 1000000000 (la.take i) < val 1000000000 (lb.take i) then k0 (-1) else if val 1000000000 (lb.take i) < val 1000000000 (la.take i) then k0 1 else k1
  | 0, m + 1, _, _ => by
    simp only [UdM, UhT]
    simp (disch := (first | omega | (simp only [JlL]; omega))) only [↓JlO, JlM, JlN]
    rfl
  | i + 1, m + 1, h, hm => by
    have ih := Uls n la lb ha hb hlen hl k0 k1 i m (by omega) (by omega)
    have e1 : ((i + 1 : Nat) : Int) - 1 = (i : Int) := by omega
    have va := Uam hB2 ha (i := i) (by omega)
    have vb := Uam hB2 hb (i := i) (by omega)
    rw [Ua1 1000000000 (by omega : i < la.length), Ua1 1000000000 (by omega : i < lb.length)]
    simp only [UdM, UhT]
    simp (disch := (first | omega | (simp only [JlL]; omega))) only [↓JlO, JlM, JlN, e1, Jj4]
    have hd := Uac hB2 ha i
    have hd2 := Uac hB2 hb i
    generalize la.getD i 0 = x at *
    generalize lb.getD i 0 = y at *
    by_cases he : x = y
    · subst he
      rw [bne_self_eq_false, cond_false, ih]
      simp only [Nat.add_lt_add_iff_right]
    · rw [bne_iff_ne.2 he, cond_true]
      by_cases hlt : x < y
      · have : 1000000000 ^ i * x + 1000000000 ^ i ≤ 1000000000 ^ i * y := by rw [← Nat.mul_succ]; exact Nat.mul_le_mul_left _ hlt
        rw [Jkm (by omega), if_pos (by omega)]
      · have hgt : y < x := by omega
        have : 1000000000 ^ i * y + 1000000000 ^ i ≤ 1000000000 ^ i * x := by rw [← Nat.mul_succ]; exact Nat.mul_le_mul_left _ hgt
        rw [Jkl (by omega), if_neg (by omega), if_pos (by omega)]
theorem UoW (n a b : Nat) (hla : (toL 1000000000 a).length < 2 ^ 40) (hlb : (toL 1000000000 b).length < 2 ^ 40) (hn : (toL 1000000000 a).length < n) (k0 : Int → Option R) : p57 n (NN a) (NN b) k0 = k0 (Ucv a b) := by
  unfold p57 NN Ucv
  by_cases he : (toL 1000000000 a).length = (toL 1000000000 b).length
  · have : ((toL 1000000000 a).length != (toL 1000000000 b).length) = false := by simp [he]
    have hlp := Uls n _ _ (UaQ hB2 a) (UaQ hB2 b) he hla (fun y4 => k0 y4) (k0 0) (toL 1000000000 a).length n (Nat.le_refl _) hn
    rw [List.take_length, show (toL 1000000000 b).take (toL 1000000000 a).length = toL 1000000000 b from by rw [he, List.take_length], Uaq hB2, Uaq hB2] at hlp
    simp only [Jjj]
    rw [Jj4, this, cond_false, w64 (by omega) (by omega)]
    unfold Uwt
    rw [hlp]
    split
    · rfl
    · split <;> rfl
  · have : ((toL 1000000000 a).length != (toL 1000000000 b).length) = true := by simpa using he
    by_cases hlt : (toL 1000000000 a).length < (toL 1000000000 b).length
    · have h2 := Ubm hB2 hlt
      simp (disch := (first | omega | (simp only [JlL]; omega))) only [↓JlO, JlM, JlN, Jj4, this]
    · have h2 := Ubm hB2 (x := b) (y := a) (by omega)
      simp (disch := (first | omega | (simp only [JlL]; omega))) only [↓JlO, JlM, JlN, Jj4, this]
theorem Ui5 (n : Nat) (la lb : List Nat) (ha : ∀ d ∈ la, d < 1000000000) (hb : ∀ d ∈ lb, d < 1000000000) (hab : lb.length ≤ la.length) (hl : la.length < 2 ^ 40) :
    ∀ (d m i : Nat) (o : List Nat) (c : Nat), d + i = la.length → d < m → o.length = la.length + 1 → (∀ x ∈ o, x < 1000000000) → c ≤ 1 → val 1000000000 (o.take i) + 1000000000 ^ i * c = val 1000000000 (la.take i) + val 1000000000 (lb.take i) →
      ∃ (o' : List Nat) (c' : Nat), (∀ k0 : List PV → List PV → Int → Option R, Ub1 n m (nl .u32 la) (nl .u32 lb) (nl .u32 o) c la.length i k0 = k0 (nl .u32 la) (nl .u32 o') c') ∧ o'.length = la.length + 1 ∧ (∀ x ∈ o', x < 1000000000) ∧ c' ≤ 1 ∧
        val 1000000000 (o'.take la.length) + 1000000000 ^ la.length * c' = val 1000000000 la + val 1000000000 lb
  | 0, m + 1, i, o, c, hd, hm, ho, hlt, hc, hv => by
    have hi : i = la.length := by omega
    subst hi
    refine ⟨o, c, fun k0 => ?_, ho, hlt, hc, ?_⟩
    · simp only [Ub1, UeO]
      simp (disch := (first | omega | (simp only [JlL]; omega))) only [↓JlO, JlM, JlN]
    · rw [hv, List.take_length, List.take_of_length_le hab]
  | d + 1, m + 1, i, o, c, hd, hm, ho, hlt, hc, hv => by
    have hx := Uac hB2 ha i
    have hy := Uac hB2 hb i
    have hs2 : c + la.getD i 0 + lb.getD i 0 < 2 * 1000000000 := by omega
    have step := Ui5 n la lb ha hb hab hl d m (i + 1) (o.set i ((c + la.getD i 0 + lb.getD i 0) % 1000000000)) ((c + la.getD i 0 + lb.getD i 0) / 1000000000) (by omega) (by omega) (by rw [List.length_set]; exact ho)
      (Ubi hlt (Nat.mod_lt _ (by decide)) i) (by have := Nat.div_lt_of_lt_mul (show c + la.getD i 0 + lb.getD i 0 < 1000000000 * 2 by omega); omega)
      (by rw [Ufc _ (by omega), Ubc, List.length_take, Nat.min_eq_left (by omega), Unm 1000000000 i _ c _ (by decide), Uan 1000000000 la, Uan 1000000000 lb, Nat.mul_add, Nat.mul_add]; omega)
    obtain ⟨o', c', h1, h2⟩ := step
    refine ⟨o', c', fun k0 => ?_, h2⟩
    rw [← h1 k0]
    have e2 : ((i : Int) + 1) = ((i + 1 : Nat) : Int) := by omega
    simp only [Ub1, UeO, UeN]
    by_cases hi : i < lb.length
    · have e3 : ((c : Int) + ((la.getD i 0 : Nat) : Int) + ((lb.getD i 0 : Nat) : Int)) = ((c + la.getD i 0 + lb.getD i 0 : Nat) : Int) := by omega
      simp (disch := (first | omega | (simp only [JlL]; omega))) only [↓JlO, JlM, JlN, e3, e2, JlI, JlJ]
    · have h0 := Ubr (l := lb) (i := i) (by omega)
      rw [h0] at *
      have e3 : ((c : Int) + ((la.getD i 0 : Nat) : Int)) = ((c + la.getD i 0 + 0 : Nat) : Int) := by omega
      simp (disch := (first | omega | (simp only [JlL]; omega))) only [↓JlO, JlM, JlN, e3, e2, JlI, JlJ]
theorem Uzp (n a b : Nat) (hla : (toL 1000000000 a).length < 2 ^ 30) (hlb : (toL 1000000000 b).length < 2 ^ 30) (hna : (toL 1000000000 a).length + 1 < n) (hnb : (toL 1000000000 b).length + 1 < n) (k0 : List PV → Option R) : UFm n (NN a) (NN b) k0 = k0 (NN (a + b)) := by
  have key : ∀ x y : Nat, (toL 1000000000 x).length < 2 ^ 30 → (toL 1000000000 y).length ≤ (toL 1000000000 x).length → (toL 1000000000 x).length + 1 < n → Ufx n (NN x) (NN y) k0 = k0 (NN (x + y)) := by
    intro x y hx hyx hn
    obtain ⟨o', c', h1, h2, h3, h4, h5⟩ := Ui5 (R := R) n (toL 1000000000 x) (toL 1000000000 y) (UaQ hB2 x) (UaQ hB2 y) hyx (by omega)
      (toL 1000000000 x).length n 0 (List.replicate ((toL 1000000000 x).length + 1) 0) 0 (by omega) (by omega) (by rw [List.length_replicate]) (Ugb hB2 _) (by omega) (by simp [val])
    rw [Uaq hB2, Uaq hB2] at h5
    have ht := UbW n (o'.set (toL 1000000000 x).length c') (Ubi h3 (by omega) _) (by rw [List.length_set]; omega) (by rw [List.length_set]; omega) k0
    rw [Ujf h2, Ubc, List.length_take, Nat.min_eq_left (by omega), h5] at ht
    have e1 : ((toL 1000000000 x).length : Int) + 1 = (((toL 1000000000 x).length + 1 : Nat) : Int) := by omega
    unfold Ufx NN Ur1
    rw [show ((0 : Nat) : Int) = 0 from rfl] at h1
    simp (disch := (first | omega | (simp only [JlL]; omega))) only [↓JlO, JlM, JlN, e1, h1, Ujf h2]
    exact ht
  unfold UFm
  have l1 : (NN a).length = (toL 1000000000 a).length := Jjj _ _
  have l2 : (NN b).length = (toL 1000000000 b).length := Jjj _ _
  rw [l1, l2]
  by_cases h : (toL 1000000000 a).length < (toL 1000000000 b).length
  · rw [Jkm (by omega), Nat.add_comm]
    exact key b a hlb (by omega) hnb
  · rw [Jkl (by omega)]
    exact key a b hla (by omega) hna
theorem Uf3 (n : Nat) (la lb : List Nat) (ha : ∀ d ∈ la, d < 1000000000) (hb : ∀ d ∈ lb, d < 1000000000) (hab : lb.length ≤ la.length) (hl : la.length < 2 ^ 40) :
    ∀ (d m i : Nat) (o : List Nat) (c : Nat), d + i = la.length → d < m → o.length = la.length → (∀ x ∈ o, x < 1000000000) → c ≤ 1 → val 1000000000 (la.take i) + 1000000000 ^ i * c = val 1000000000 (o.take i) + val 1000000000 (lb.take i) →
      ∃ (o' : List Nat) (c' : Nat), (∀ k0 : List PV → Option R, Ubt n m (nl .u32 la) (nl .u32 lb) (nl .u32 o) c la.length i k0 = k0 (nl .u32 o')) ∧ o'.length = la.length ∧ (∀ x ∈ o', x < 1000000000) ∧ c' ≤ 1 ∧
        val 1000000000 la + 1000000000 ^ la.length * c' = val 1000000000 o' + val 1000000000 lb
  | 0, m + 1, i, o, c, hd, hm, ho, hlt, hc, hv => by
    have hi : i = la.length := by omega
    subst hi
    refine ⟨o, c, fun k0 => ?_, ho, hlt, hc, ?_⟩
    · simp only [Ubt, Uc5]
      simp (disch := (first | omega | (simp only [JlL]; omega))) only [↓JlO, JlM, JlN]
    · rw [List.take_length, List.take_of_length_le (by omega), List.take_of_length_le hab] at hv
      exact hv
  | d + 1, m + 1, i, o, c, hd, hm, ho, hlt, hc, hv => by
    have hx := Uac hB2 ha i
    have hy := Uac hB2 hb i
    have step : ∀ (dg c' : Nat), dg < 1000000000 → c' ≤ 1 → la.getD i 0 + 1000000000 * c' = dg + c + lb.getD i 0 → _ := fun dg c' h1 h2 h3 =>
      Uf3 n la lb ha hb hab hl d m (i + 1) (o.set i dg) c' (by omega) (by omega) (by rw [List.length_set]; exact ho) (Ubi hlt h1 i) h2
      (by
        rw [Ufc _ (by omega), Ubc, List.length_take, Nat.min_eq_left (by omega), Uan 1000000000 la, Uan 1000000000 lb, Nat.pow_succ, Nat.mul_assoc]
        have : 1000000000 ^ i * (la.getD i 0 + 1000000000 * c') = 1000000000 ^ i * (dg + c + lb.getD i 0) := by rw [h3]
        rw [Nat.mul_add, Nat.mul_add, Nat.mul_add] at this
        omega)
    have e2 : ((i : Int) + 1) = ((i + 1 : Nat) : Int) := by omega
    by_cases hneg : la.getD i 0 < c + lb.getD i 0
    · obtain ⟨o', c', h1, h2⟩ := step (la.getD i 0 + 1000000000 - c - lb.getD i 0) 1 (by omega) (by omega) (by omega)
      refine ⟨o', c', fun k0 => ?_, h2⟩
      rw [← h1 k0]
      simp only [Ubt, Uc5, Ufy, Uc4]
      by_cases hi : i < lb.length
      · have e3 : ((la.getD i 0 : Nat) : Int) - (c : Int) - ((lb.getD i 0 : Nat) : Int) + 1000000000 = ((la.getD i 0 + 1000000000 - c - lb.getD i 0 : Nat) : Int) := by omega
        simp (disch := (first | omega | (simp only [JlL]; omega))) only [↓JlO, JlM, JlN, e3, e2]
        rfl
      · have h0 := Ubr (l := lb) (i := i) (by omega)
        have e3 : ((la.getD i 0 : Nat) : Int) - (c : Int) + 1000000000 = ((la.getD i 0 + 1000000000 - c - lb.getD i 0 : Nat) : Int) := by omega
        simp (disch := (first | omega | (simp only [JlL]; omega))) only [↓JlO, JlM, JlN, e3, e2]
        rfl
    · obtain ⟨o', c', h1, h2⟩ := step (la.getD i 0 - c - lb.getD i 0) 0 (by omega) (by omega) (by omega)
      refine ⟨o', c', fun k0 => ?_, h2⟩
      rw [← h1 k0]
      simp only [Ubt, Uc5, Ufy, Uc4]
      by_cases hi : i < lb.length
      · have e3 : ((la.getD i 0 : Nat) : Int) - (c : Int) - ((lb.getD i 0 : Nat) : Int) = ((la.getD i 0 - c - lb.getD i 0 : Nat) : Int) := by omega
        simp (disch := (first | omega | (simp only [JlL]; omega))) only [↓JlO, JlM, JlN, e3, e2]
        rfl
      · have h0 := Ubr (l := lb) (i := i) (by omega)
        have e3 : ((la.getD i 0 : Nat) : Int) - (c : Int) = ((la.getD i 0 - c - lb.getD i 0 : Nat) : Int) := by omega
        simp (disch := (first | omega | (simp only [JlL]; omega))) only [↓JlO, JlM, JlN, e3, e2]
        rfl
theorem Uuy {x y : Nat} (h : x ≤ y) : (toL 1000000000 x).length ≤ (toL 1000000000 y).length := by
  by_cases hq : (toL 1000000000 x).length ≤ (toL 1000000000 y).length
  · exact hq
  · have := Ubm hB2 (x := y) (y := x) (by omega); omega
theorem UmK (n a b : Nat) (hba : b ≤ a) (hla : (toL 1000000000 a).length < 2 ^ 30) (hna : (toL 1000000000 a).length + 1 < n) (k0 : List PV → Option R) : UDp n (NN a) (NN b) k0 = k0 (NN (a - b)) := by
  obtain ⟨o', c', h1, h2, h3, h4, h5⟩ := Uf3 (R := R) n (toL 1000000000 a) (toL 1000000000 b) (UaQ hB2 a) (UaQ hB2 b) (Uuy hba) (by omega)
    (toL 1000000000 a).length n 0 (List.replicate (toL 1000000000 a).length 0) 0 (by omega) (by omega) (by rw [List.length_replicate]) (Ugb hB2 _) (by omega) (by simp [val])
  rw [Uaq hB2, Uaq hB2] at h5
  have hlt := Uex hB2 o' h3
  rw [h2] at hlt
  have hc : c' = 0 := by
    rcases Nat.lt_or_ge 0 c' with q | q
    · have : c' = 1 := by omega
      subst this; omega
    · omega
  subst hc
  have ht := UbW n o' h3 (by omega) (by omega) k0
  rw [show val 1000000000 o' = a - b from by omega] at ht
  unfold UDp NN Ur2
  rw [show ((0 : Nat) : Int) = 0 from rfl] at h1
  simp (disch := (first | omega | (simp only [JlL]; omega))) only [↓JlO, JlM, JlN, h1]
  exact ht
theorem Ugf (n : Nat) (la : List Nat) (by_ : Nat) (hby : 0 < by_) (hby2 : by_ < 4294967296) (ha : ∀ d ∈ la, d < 1000000000) (hl : la.length < 2 ^ 40) :
    ∀ (i m : Nat) (o : List Nat) (r : Nat), i ≤ la.length → i < m → o.length = la.length → (∀ x ∈ o, x < 1000000000) → r < by_ →
      val 1000000000 (la.drop i) = by_ * val 1000000000 (o.drop i) + r →
      ∃ (o' : List Nat) (r' : Nat), (∀ k0 : List PV → Int → Option R, Uc n m (nl .u32 la) by_ (nl .u32 o) r ((i : Int) - 1) k0 = k0 (nl .u32 o') r') ∧ o'.length = la.length ∧ (∀ x ∈ o', x < 1000000000) ∧ r' < by_ ∧ val 1000000000 la = by_ * val 1000000000 o' + r'
  | 0, m + 1, o, r, hi, hm, ho, hlt, hr, hv => by
    refine ⟨o, r, fun k0 => ?_, ho, hlt, hr, by simpa using hv⟩
    simp only [Uc, Ue0]
    simp (disch := (first | omega | (simp only [JlL]; omega))) only [↓JlO, JlM, JlN]
  | i + 1, m + 1, o, r, hi, hm, ho, hlt, hr, hv => by
    have hx := Uac hB2 ha i
    have hs : r * 1000000000 + la.getD i 0 < by_ * 1000000000 := by
      have : (r + 1) * 1000000000 ≤ by_ * 1000000000 := Nat.mul_le_mul_right _ hr
      omega
    have hq : (r * 1000000000 + la.getD i 0) / by_ < 1000000000 := Nat.div_lt_of_lt_mul hs
    have hmod : (r * 1000000000 + la.getD i 0) % by_ < by_ := Nat.mod_lt _ hby
    have hdm := Nat.div_add_mod (r * 1000000000 + la.getD i 0) by_
    have dropSucc : ∀ l : List Nat, i < l.length → val 1000000000 (l.drop i) = l.getD i 0 + 1000000000 * val 1000000000 (l.drop (i + 1)) := fun l h => by
      rw [List.drop_eq_getElem_cons h, val, List.getD_eq_getElem?_getD, List.getElem?_eq_getElem h]; rfl
    obtain ⟨o', r', h1, h2⟩ := Ugf n la by_ hby hby2 ha hl i m (o.set i ((r * 1000000000 + la.getD i 0) / by_)) ((r * 1000000000 + la.getD i 0) % by_) (by omega) (by omega) (by rw [List.length_set]; exact ho) (Ubi hlt hq i) hmod
      (by
        rw [dropSucc la (by omega), dropSucc _ (by rw [List.length_set]; omega), List.drop_set_of_lt (by omega), hv, List.getD_eq_getElem?_getD, List.getD_eq_getElem?_getD, List.getElem?_set_self (by omega)]
        simp only [Option.getD_some]
        rw [List.getD_eq_getElem?_getD] at hdm
        rw [Nat.mul_add, Nat.mul_add, Nat.mul_left_comm by_ 1000000000]
        omega)
    refine ⟨o', r', fun k0 => ?_, h2⟩
    rw [← h1 k0]
    have e1 : ((i + 1 : Nat) : Int) - 1 = (i : Int) := by omega
    have e3 : (r : Int) * 1000000000 + ((la.getD i 0 : Nat) : Int) = ((r * 1000000000 + la.getD i 0 : Nat) : Int) := by omega
    have hd0 : ¬ ((by_ : Int) = 0) := by omega
    have t1 : Int.tdiv ((r * 1000000000 + la.getD i 0 : Nat) : Int) (by_ : Int) = (((r * 1000000000 + la.getD i 0) / by_ : Nat) : Int) := Jlq _ _
    have t2 : Int.tmod ((r * 1000000000 + la.getD i 0 : Nat) : Int) (by_ : Int) = (((r * 1000000000 + la.getD i 0) % by_ : Nat) : Int) := Jlr _ _
    generalize (r * 1000000000 + la.getD i 0) / by_ = q at *
    generalize (r * 1000000000 + la.getD i 0) % by_ = md at *
    simp only [Uc, Ue0]
    simp (disch := (first | omega | (simp only [JlL]; omega))) only [↓JlO, JlM, JlN, e1, e3, t1, t2]
theorem Um7 (n a by_ : Nat) (hby : 0 < by_) (hby2 : by_ < 4294967296) (hla : (toL 1000000000 a).length < 2 ^ 30) (hna : (toL 1000000000 a).length + 1 < n) (k0 : List PV → Int → Option R) : UDu n (NN a) by_ k0 = k0 (NN (a / by_)) ((a % by_ : Nat) : Int) := by
  obtain ⟨o', r', h1, h2, h3, h4, h5⟩ := Ugf (R := R) n (toL 1000000000 a) by_ hby hby2 (UaQ hB2 a) (by omega)
    (toL 1000000000 a).length n (List.replicate (toL 1000000000 a).length 0) 0 (Nat.le_refl _) (by omega) (by rw [List.length_replicate]) (Ugb hB2 _) hby (by simp [val])
  rw [Uaq hB2] at h5
  have hq : val 1000000000 o' = a / by_ := by rw [h5, Nat.mul_add_div hby, Nat.div_eq_of_lt h4]; omega
  have hr : r' = a % by_ := by rw [h5, Nat.mul_add_mod, Nat.mod_eq_of_lt h4]
  have ht := fun k0 => UbW (R := R) n o' h3 (by omega) (by omega) k0
  rw [hq] at ht
  rw [← hr]
  unfold UDu Usc
  have hN : NN a = nl .u32 (toL 1000000000 a) := rfl
  rw [hN]
  rw [show ((0 : Nat) : Int) = 0 from rfl] at h1
  simp (disch := (first | omega | (simp only [JlL]; omega))) only [↓JlO, JlM, JlN, h1, ht]
theorem Ubq {l : List Nat} {i : Nat} (h : i < l.length) : val 1000000000 (l.drop i) = l.getD i 0 + 1000000000 * val 1000000000 (l.drop (i + 1)) := by
  rw [List.drop_eq_getElem_cons h, val, List.getD_eq_getElem?_getD, List.getElem?_eq_getElem h]; rfl
theorem Un (n : Nat) (la lb : List Nat) (ha : ∀ d ∈ la, d < 1000000000) (hb : ∀ d ∈ lb, d < 1000000000) (hl : la.length + lb.length < 2 ^ 40) (i : Nat) (hi : i < la.length) :
    ∀ (d m k : Nat) (o : List Nat) (c : Nat), d + k = lb.length → d < m → o.length = la.length + lb.length → (∀ x ∈ o, x < 1000000000) → c < 1000000000 →
      ∃ (o' : List Nat) (c' : Nat), (∀ k0 : List PV → List PV → List PV → Int → Int → Int → Int → Option R, UdO n m (nl .u32 la) (nl .u32 lb) (nl .u32 o) i c la.length i lb.length k k0 = k0 (nl .u32 la) (nl .u32 lb) (nl .u32 o') i c' la.length i) ∧
        o'.length = la.length + lb.length ∧ (∀ x ∈ o', x < 1000000000) ∧ c' < 1000000000 ∧ o'.drop (i + lb.length) = o.drop (i + lb.length) ∧
        val 1000000000 o' + 1000000000 ^ (i + lb.length) * c' = val 1000000000 o + 1000000000 ^ (i + k) * c + la.getD i 0 * (1000000000 ^ (i + k) * val 1000000000 (lb.drop k))
  | 0, m + 1, k, o, c, hd, hm, ho, hlt, hc => by
    have hk : k = lb.length := by omega
    subst hk
    refine ⟨o, c, fun k0 => ?_, ho, hlt, hc, rfl, ?_⟩
    · simp only [UdO, UhV]
      simp (disch := (first | omega | (simp only [JlL]; omega))) only [↓JlO, JlM, JlN]
    · rw [List.drop_length]; simp [val]
  | d + 1, m + 1, k, o, c, hd, hm, ho, hlt, hc => by
    have hx := Uac hB2 ha i
    have hy := Uac hB2 hb k
    have hz := Uac hB2 hlt (i + k)
    have hxy : la.getD i 0 * lb.getD k 0 ≤ 999999999 * 999999999 := Nat.mul_le_mul (by omega) (by omega)
    obtain ⟨s, hs⟩ : ∃ s, s = c + (la.getD i 0 * lb.getD k 0 + o.getD (i + k) 0) := ⟨_, rfl⟩
    have hs2 : s / 1000000000 < 1000000000 := by omega
    obtain ⟨o', c', h1, h2, h3, h4, h5, h6⟩ := Un n la lb ha hb hl i hi d m (k + 1) (o.set (i + k) (s % 1000000000)) (s / 1000000000) (by omega) (by omega) (by rw [List.length_set]; exact ho) (Ubi hlt (Nat.mod_lt _ (by omega)) _) hs2
    refine ⟨o', c', fun k0 => ?_, h2, h3, h4, by rw [h5, List.drop_set_of_lt (by omega)], ?_⟩
    · rw [← h1 k0]
      have e1 : (i : Int) + (k : Int) = ((i + k : Nat) : Int) := by omega
      have e2 : (k : Int) + 1 = ((k + 1 : Nat) : Int) := by omega
      have e4 : ((la.getD i 0 : Nat) : Int) * ((lb.getD k 0 : Nat) : Int) = ((la.getD i 0 * lb.getD k 0 : Nat) : Int) := by rw [Int.natCast_mul]
      generalize la.getD i 0 * lb.getD k 0 = xy at *
      have e3 : (c : Int) + ((xy : Int) + ((o.getD (i + k) 0 : Nat) : Int)) = (s : Int) := by omega
      simp only [UdO, UhV]
      simp (disch := (first | omega | (simp only [JlL]; omega))) only [↓JlO, JlM, JlN, e1, e2, e4, e3, JlI, JlJ]
    · rw [h6, Ubq (by omega : k < lb.length)]
      have hv := Uet 1000000000 (s % 1000000000) (l := o) (i := i + k) (by omega)
      have hm := Nat.mod_add_div s 1000000000
      rw [show i + (k + 1) = (i + k) + 1 from by omega, Nat.pow_succ]
      generalize 1000000000 ^ (i + k) = P at *
      generalize val 1000000000 (List.drop (k + 1) lb) = V at *
      generalize val 1000000000 (o.set (i + k) (s % 1000000000)) = W at *
      generalize val 1000000000 o = U at *
      generalize s % 1000000000 = q at *
      generalize s / 1000000000 = t at *
      generalize la.getD i 0 = x at *
      generalize lb.getD k 0 = y at *
      generalize o.getD (i + k) 0 = z at *
      clear h1 h3 h4 h5 hlt ha hb
      have h7 : P * q + P * (1000000000 * t) = P * c + P * (x * y) + P * z := by rw [← Nat.mul_add, hm, hs]; grind
      grind
theorem Ujh (n : Nat) (la lb : List Nat) (ha : ∀ d ∈ la, d < 1000000000) (hb : ∀ d ∈ lb, d < 1000000000) (hl : la.length + lb.length < 2 ^ 40) (hn : lb.length < n) :
    ∀ (d m i : Nat) (o : List Nat), d + i = la.length → d < m → o.length = la.length + lb.length → (∀ x ∈ o, x < 1000000000) → o.drop (i + lb.length) = List.replicate (la.length - i) 0 → val 1000000000 o = val 1000000000 (la.take i) * val 1000000000 lb →
      ∃ (o' : List Nat), (∀ k0 : List PV → Option R, UdN n m (nl .u32 la) (nl .u32 lb) (nl .u32 o) la.length i k0 = k0 (nl .u32 o')) ∧ o'.length = la.length + lb.length ∧ (∀ x ∈ o', x < 1000000000) ∧ val 1000000000 o' = val 1000000000 la * val 1000000000 lb
  | 0, m + 1, i, o, hd, hm, ho, hlt, hz, hv => by
    have hi : i = la.length := by omega
    subst hi
    refine ⟨o, fun k0 => ?_, ho, hlt, by rw [hv, List.take_length]⟩
    simp only [UdN, UhU]
    simp (disch := (first | omega | (simp only [JlL]; omega))) only [↓JlO, JlM, JlN]
  | d + 1, m + 1, i, o, hd, hm, ho, hlt, hz, hv => by
    obtain ⟨o1, c1, h1, h2, h3, h4, h5, h6⟩ := Un (R := R) n la lb ha hb hl i (by omega) lb.length n 0 o 0 (by omega) hn ho hlt (by omega)
    have hg : o1.getD (i + lb.length) 0 = 0 := by
      have := congrArg (fun l : List Nat => l.getD 0 0) h5
      simp only [List.getD_eq_getElem?_getD, List.getElem?_drop, Nat.add_zero] at this
      rw [List.getD_eq_getElem?_getD, this]
      have h0 := congrArg (fun l : List Nat => l.getD 0 0) hz
      simp only [List.getD_eq_getElem?_getD, List.getElem?_drop, Nat.add_zero] at h0
      rw [h0, List.getElem?_replicate]
      split <;> rfl
    have hvs := Uet 1000000000 c1 (l := o1) (i := i + lb.length) (by omega)
    rw [hg] at hvs
    obtain ⟨o', q1, q2⟩ := Ujh n la lb ha hb hl hn d m (i + 1) (o1.set (i + lb.length) c1) (by omega) (by omega) (by rw [List.length_set]; exact h2) (Ubi h3 h4 _)
      (by
        rw [show i + 1 + lb.length = (i + lb.length) + 1 from by omega, List.drop_set_of_lt (by omega), ← List.drop_drop, h5, hz, List.drop_replicate]
        congr 1)
      (by
        rw [Uan 1000000000 la]
        rw [List.drop_zero, Nat.add_zero, Nat.mul_zero, Nat.add_zero, hv] at h6
        rw [Nat.mul_zero, Nat.add_zero] at hvs
        rw [hvs, h6]
        grind)
    refine ⟨o', fun k0 => ?_, q2⟩
    rw [← q1 k0]
    have e1 : (i : Int) + (lb.length : Int) = ((i + lb.length : Nat) : Int) := by omega
    have e2 : (i : Int) + 1 = ((i + 1 : Nat) : Int) := by omega
    rw [show ((0 : Nat) : Int) = 0 from rfl] at h1
    simp only [UdN, UhU, Uwv]
    simp (disch := (first | omega | (simp only [JlL]; omega))) only [↓JlO, JlM, JlN, h1, e1, e2]
theorem Ua0 (n a b : Nat) (hla : (toL 1000000000 a).length < 2 ^ 30) (hlb : (toL 1000000000 b).length < 2 ^ 30) (hn : (toL 1000000000 a).length + (toL 1000000000 b).length < n) (k0 : List PV → Option R) : p58 n (NN a) (NN b) k0 = k0 (NN (a * b)) := by
  obtain ⟨o', h1, h2, h3, h4⟩ := Ujh (R := R) n (toL 1000000000 a) (toL 1000000000 b) (UaQ hB2 a) (UaQ hB2 b) (by omega) (by omega)
    (toL 1000000000 a).length n 0 (List.replicate ((toL 1000000000 a).length + (toL 1000000000 b).length) 0) (by omega) (by omega) (by rw [List.length_replicate]) (Ugb hB2 _)
    (by rw [List.drop_replicate]; congr 1; omega) (by rw [Ujj]; simp [val])
  rw [Uaq hB2, Uaq hB2] at h4
  have ht := fun k0 => UbW (R := R) n o' h3 (by omega) (by omega) k0
  rw [h4] at ht
  have e1 : ((toL 1000000000 a).length : Int) + ((toL 1000000000 b).length : Int) = (((toL 1000000000 a).length + (toL 1000000000 b).length : Nat) : Int) := by omega
  have hN : NN a = nl .u32 (toL 1000000000 a) := rfl
  have hM : NN b = nl .u32 (toL 1000000000 b) := rfl
  unfold p58 Uwu
  rw [hN, hM]
  rw [show ((0 : Nat) : Int) = 0 from rfl] at h1
  simp (disch := (first | omega | (simp only [JlL]; omega))) only [↓JlO, JlM, JlN, e1, h1, ht]
end Go.Proofs.YtmgfmlhdnadglaaGreatDoor
set_option linter.unusedVariables false
set_option maxRecDepth 100000
namespace Go.Proofs.YtmgfmlhdnadglaaGreatDoor
open Go Th Go.Proofs
noncomputable section
variable {R : Type}
def Ufh : Ann := { loops := [(1, ids [0, 1, 4], ids [0, 1, 4])], cuts := [], frz := [], rm := [.id] }
abbrev Upf (n : Nat) : Env := eN
theorem UlW (n : Nat) : EnvOK Tryz.prog GI (Upf n) := .nil
def UeW (n : Nat) (l0 : Bool → LP → Bool → O R) (x1 : Bool) (x2 : LP) (x3 : Bool) (k0 : Bool → LP → Bool → O R) : O R :=
  bif (decide (((x2).length : Int) > 0)) then (bif (inR 0 ((x2).length)) then (Jjf .i64 ((x2).getD ((0 : Int).toNat) (.v (.bool false))) fun e4 => bif (bif true then (e4 == 0) else false) then (bif (JgD 1 x2 && Jfa 1 ((x2).length : Int) ((x2).length)) then (l0 x1 (((x2).take (((x2).length : Int) : Int).toNat).drop (1 : Int).toNat) x3) else none) else (k0 x1 x2 x3)) else none) else (k0 x1 x2 x3)
def Ub8 (n : Nat) : Nat → Bool → LP → Bool → (Bool → LP → Bool → O R) → O R
  | 0, _, _, _, _ => none
  | m + 1, x1, x2, x3, k0 => UeW n (fun x1 x2 x3 => Ub8 n m x1 x2 x3 k0) x1 x2 x3 k0
def Ur9 (n : Nat) (x1 : Bool) (x2 : LP) (x3 : Bool) (k0 : Bool → LP → Bool → O R) : O R := Ub8 n n x1 x2 x3 k0
def UmS (n : Nat) (x1 : Bool) (x2 : LP) (k0 : Bool → LP → O R) : O R :=
  Ur9 n x1 x2 false (fun y3 y4 y5 => bif (((y4).length : Int) == 0) then (k0 false []) else (k0 y3 y4))
abbrev ULe (n : Nat) : Code → Fr → Kc R → O R := evC Tryz.prog (Upf n) Ufh n (23, [])
noncomputable def Uok : Code := Jk (Jls Tryz.f122) [1, 0, 0, 0]
abbrev Uec : Sl (List SV) := (cB (cH (.c (sBx 55 (cB (.c sNl .n))) .n)))
abbrev UjQ (n m : Nat) (K : Kc R) : Uec.T (O R) := fun x1 x2 x3 => Ub8 n m x1 x2 x3 (fun y1 y2 y3 => xL Ufh 1 K (.exit 0) [vB y1, vH y2, .bx 55 [vB y3, .nl]])
abbrev UxF (n : Nat) (K : Kc R) (l0 : Uec.T (O R)) : Uec.T (O R) := fun x1 x2 x3 => UeW n l0 x1 x2 x3 (fun y1 y2 y3 => xL Ufh 1 K (.exit 0) [vB y1, vH y2, .bx 55 [vB y3, .nl]])
abbrev UC8 (n : Nat) : Orc R := oL Ufh (ULe n) n 1 Uok Uec (UjQ n n) oN
abbrev UBA (n : Nat) : Orc R := oN
abbrev UJb (R : Type) (n : Nat) := JcK (R := R) Tryz.prog (Upf n) Ufh n (23, []) (UC8 n) (UBA n)
theorem UzL (n : Nat) : UJb R n (false, 1, Uok) := JkM (lo := UC8 n) (cu := UBA n) (pO pN (by kernel_rfl)) Uec (UjQ n n) (JiK (F := UjQ n) Uec (UxF n) (fun K _ _ _ => rfl) (fun _ _ => rfl) (fun L K _ _ _ => by show _ = _; kernel_rfl) n) fun _ _ => rfl
theorem UHT (n : Nat) : Jfb (UJb R n) (JaJ Ufh (Jls Tryz.f122)) := pO (pC (UzL n) pN) (by kernel_rfl)
abbrev UIz : Sl (List SV) := (cB (cH .n))
abbrev f122 (n : Nat) (K : List SV → O R) : UIz.T (O R) := fun x1 x2 => UmS n x1 x2 (fun y1 y2 => K [.p (.agg [.v (.bool y1), .sh y2])])
abbrev UiW (n : Nat) : FS := fT [false, false] UIz (f122 n)
theorem Uj9 (n : Nat) : FSound Tryz.prog GI 122 (UiW n) := gd Ufh n (UlW n) Tryz.func122 (.cons (UlW n) UIz (f122 n) (fun K _ _ => (Jkx (c := Jls Tryz.f122) (by kernel_rfl) (UHT n) K).trans (by kernel_rfl)) .nil) (by kernel_rfl)
def UcS : Ann := { loops := [(6, ids [0, 1, 5], ids [4])], cuts := [], frz := [], rm := [.id] }
abbrev Upo (n : Nat) : Env := eN
theorem Um (n : Nat) : EnvOK Tryz.prog GI (Upo n) := .nil
def Ue2 (n : Nat) (l0 : LP → LP → Int → O R) (x1 x2 : LP) (x3 : Int) (k0 : Int → O R) (k1 : O R) : O R :=
  bif (decide (x3 < ((x1).length : Int))) then (bif (inR x3 ((x1).length)) then (Jjf .i64 ((x1).getD ((x3 : Int).toNat) (.v (.bool false))) fun e4 => bif (inR x3 ((x2).length)) then (Jjf .i64 ((x2).getD ((x3 : Int).toNat) (.v (.bool false))) fun e5 => bif (decide (e4 < e5)) then (k0 (-1)) else (bif (inR x3 ((x1).length)) then (Jjf .i64 ((x1).getD ((x3 : Int).toNat) (.v (.bool false))) fun e6 => bif (inR x3 ((x2).length)) then (Jjf .i64 ((x2).getD ((x3 : Int).toNat) (.v (.bool false))) fun e7 => bif (decide (e6 > e7)) then (k0 1) else (l0 x1 x2 (IntKind.i64.wrap (x3 + 1)))) else none) else none)) else none) else none) else (k1)
def Ucc (n : Nat) : Nat → LP → LP → Int → (Int → O R) → (O R) → O R
  | 0, _, _, _, _, _ => none
  | m + 1, x1, x2, x3, k0, k1 => Ue2 n (fun x1 x2 x3 => Ucc n m x1 x2 x3 k0 k1) x1 x2 x3 k0 k1
def Ush (n : Nat) (x1 x2 : LP) (x3 : Int) (k0 : Int → O R) (k1 : O R) : O R := Ucc n n x1 x2 x3 k0 k1
def UDv (n : Nat) (x1 x2 : LP) (k0 : Int → O R) : O R :=
  bif (((x1).length : Int) != ((x2).length : Int)) then (bif (decide (((x1).length : Int) < ((x2).length : Int))) then (k0 (-1)) else (k0 1)) else (Ush n x1 x2 0 (fun y3 => k0 y3) (k0 0))
abbrev ULi (n : Nat) : Code → Fr → Kc R → O R := evC Tryz.prog (Upo n) UcS n (40, [])
noncomputable def Uoy : Code := Jk (Jls Tryz.f147) [1, 1, 0, 1, 0, 0]
abbrev Uek : Sl (List SV) := (cH (cH (cI .n)))
abbrev UjY (n m : Nat) (K : Kc R) : Uek.T (O R) := fun x1 x2 x3 => Ucc n m x1 x2 x3 (fun y1 => xL UcS 6 K .ret [vI y1]) (xL UcS 6 K (.exit 0) [dD])
abbrev UxN (n : Nat) (K : Kc R) (l0 : Uek.T (O R)) : Uek.T (O R) := fun x1 x2 x3 => Ue2 n l0 x1 x2 x3 (fun y1 => xL UcS 6 K .ret [vI y1]) (xL UcS 6 K (.exit 0) [dD])
abbrev UDb (n : Nat) : Orc R := oL UcS (ULi n) n 6 Uoy Uek (UjY n n) oN
abbrev UBE (n : Nat) : Orc R := oN
abbrev UJf (R : Type) (n : Nat) := JcK (R := R) Tryz.prog (Upo n) UcS n (40, []) (UDb n) (UBE n)
theorem UzZ (n : Nat) : UJf R n (false, 6, Uoy) := JkM (lo := UDb n) (cu := UBE n) (pO pN (by kernel_rfl)) Uek (UjY n n) (JiK (F := UjY n) Uek (UxN n) (fun K _ _ _ => rfl) (fun _ _ => rfl) (fun L K _ _ _ => by show _ = _; kernel_rfl) n) fun _ _ => rfl
theorem UH7 (n : Nat) : Jfb (UJf R n) (JaJ UcS (Jls Tryz.f147)) := pO (pC (UzZ n) pN) (by kernel_rfl)
abbrev UIN : Sl (List SV) := (cH (cH .n))
abbrev f147 (n : Nat) (K : List SV → O R) : UIN.T (O R) := fun x1 x2 => UDv n x1 x2 (fun y1 => K [vI y1])
abbrev Uy1 (n : Nat) : FS := fT [false, false] UIN (f147 n)
theorem UDl (n : Nat) : FSound Tryz.prog GI 147 (Uy1 n) := gd UcS n (Um n) Tryz.func147 (.cons (Um n) UIN (f147 n) (fun K _ _ => (Jkx (c := Jls Tryz.f147) (by kernel_rfl) (UH7 n) K).trans (by kernel_rfl)) .nil) (by kernel_rfl)
def UnW : Ann := { loops := [], cuts := [], frz := [], rm := [.id] }
abbrev UvC (n : Nat) : Env := eN
theorem Umc (n : Nat) : EnvOK Tryz.prog GI (UvC n) := .nil
def UDw (n : Nat) (x1 : LP) (x2 : Int) (k0 : Int → O R) : O R :=
  bif (decide (x2 ≥ ((x1).length : Int))) then (k0 0) else (let v3 := IntKind.i64.wrap (((x1).length : Int) - 1); bif (inR (IntKind.i64.wrap (v3 - x2)) ((x1).length)) then (Jjf .i64 ((x1).getD ((IntKind.i64.wrap (v3 - x2) : Int).toNat) (.v (.bool false))) fun e4 => k0 e4) else none)
abbrev UGF (n : Nat) : Orc R := oN
abbrev UFV (n : Nat) : Orc R := oN
abbrev ULw (R : Type) (n : Nat) := JcK (R := R) Tryz.prog (UvC n) UnW n (17, []) (UGF n) (UFV n)
theorem UI (n : Nat) : Jfb (ULw R n) (JaJ UnW (Jls Tryz.f172)) := pO pN (by kernel_rfl)
abbrev UIQ : Sl (List SV) := (cH (cI .n))
abbrev f172 (n : Nat) (K : List SV → O R) : UIQ.T (O R) := fun x1 x2 => UDw n x1 x2 (fun y1 => K [vI y1])
abbrev UCW (n : Nat) : FS := fT [false, false] UIQ (f172 n)
theorem UHh (n : Nat) : FSound Tryz.prog GI 172 (UCW n) := gd UnW n (Umc n) Tryz.func172 (.cons (Umc n) UIQ (f172 n) (fun K _ _ => (Jkx (c := Jls Tryz.f172) (by kernel_rfl) (UI n) K).trans (by kernel_rfl)) .nil) (by kernel_rfl)
def Ua3 : Ann := { loops := [(4, [(0, .id), (1, .id), (2, .id), (7, .own 3), (8, .id), (9, .id)], ids [6, 7])], cuts := [(5, ids [0, 1, 2, 7, 8, 9], ids [0, 1, 2, 6, 7, 8, 9]), (6, ids [0, 1, 2, 7, 8, 9], ids [0, 1, 2, 6, 7, 8, 9]), (11, ids [0, 1, 2, 7, 8, 9, 10], ids [0, 1, 2, 6, 7, 8, 9]), (14, ids [0, 1, 2, 7, 8, 9, 10], ids [0, 1, 2, 6, 7, 8, 9])], frz := [], rm := [.id] }
abbrev Upn (n : Nat) : Env := eC 172 (UCW n) eN
theorem Ul9 (n : Nat) : EnvOK Tryz.prog GI (Upn n) := .cons (.nil) (UHh n)
def UaX (n : Nat) (x1 x2 : LP) (x3 : Int) (x4 : LP) (x5 x6 x7 : Int) (k0 : LP → LP → Int → LP → Int → Int → O R) : O R :=
  bif (Jbv (1 + (x4).length) 8) then (k0 x1 x2 x3 (([.v (.int .i64 x7)] : LP) ++ x4) x5 x6) else none
def UaW (n : Nat) (x1 x2 : LP) (x3 : Int) (x4 : LP) (x5 x6 x7 : Int) (k0 : LP → LP → Int → LP → Int → Int → O R) : O R :=
  bif (decide (x7 > 9)) then (UaX n x1 x2 x3 x4 1 x6 (IntKind.i64.wrap (x7 - 10)) (fun y8 y9 y10 y11 y12 y13 => k0 y8 y9 y10 y11 y12 y13)) else (UaX n x1 x2 x3 x4 x5 x6 x7 (fun y14 y15 y16 y17 y18 y19 => k0 y14 y15 y16 y17 y18 y19))
def Ubx (n : Nat) (x1 x2 : LP) (x3 : Int) (x4 : LP) (x5 x6 : Int) (k0 : LP → LP → Int → LP → Int → Int → O R) : O R :=
  k0 x1 x2 x3 x4 x5 (IntKind.i64.wrap (x6 + 1))
def UaS (n : Nat) (x1 x2 : LP) (x3 : Int) (x4 : LP) (x5 x6 : Int) (k0 : LP → LP → Int → LP → Int → Int → O R) : O R :=
  UDw n x1 x6 (fun y7 => UDw n x2 x6 (fun y8 => let v9 := IntKind.i64.wrap (y7 + (IntKind.i64.wrap (x3 * y8))); bif (decide (IntKind.i64.wrap (v9 + x5) < 0)) then (let v10 := IntKind.i64.wrap ((IntKind.i64.wrap (v9 + x5)) + 10); UaW n x1 x2 x3 x4 (-1) x6 v10 (fun y11 y12 y13 y14 y15 y16 => Ubx n y11 y12 y13 y14 y15 y16 (fun y17 y18 y19 y20 y21 y22 => k0 y17 y18 y19 y20 y21 y22))) else (UaW n x1 x2 x3 x4 0 x6 (IntKind.i64.wrap (v9 + x5)) (fun y23 y24 y25 y26 y27 y28 => Ubx n y23 y24 y25 y26 y27 y28 (fun y29 y30 y31 y32 y33 y34 => k0 y29 y30 y31 y32 y33 y34)))))
def Uhz (n : Nat) (l0 : LP → LP → Int → LP → Int → Int → O R) (x1 x2 : LP) (x3 : Int) (x4 : LP) (x5 x6 : Int) (k0 : LP → O R) : O R :=
  bif (decide (x6 < ((x1).length : Int))) then (UaS n x1 x2 x3 x4 x5 x6 (fun y7 y8 y9 y10 y11 y12 => l0 y7 y8 y9 y10 y11 y12)) else (bif (bif false then true else (decide (x6 < ((x2).length : Int)))) then (UaS n x1 x2 x3 x4 x5 x6 (fun y13 y14 y15 y16 y17 y18 => l0 y13 y14 y15 y16 y17 y18)) else (bif (bif false then true else (x5 != 0)) then (UaS n x1 x2 x3 x4 x5 x6 (fun y19 y20 y21 y22 y23 y24 => l0 y19 y20 y21 y22 y23 y24)) else (k0 x4)))
def Ucb (n : Nat) : Nat → LP → LP → Int → LP → Int → Int → (LP → O R) → O R
  | 0, _, _, _, _, _, _, _ => none
  | m + 1, x1, x2, x3, x4, x5, x6, k0 => Uhz n (fun x1 x2 x3 x4 x5 x6 => Ucb n m x1 x2 x3 x4 x5 x6 k0) x1 x2 x3 x4 x5 x6 k0
def Usg (n : Nat) (x1 x2 : LP) (x3 : Int) (x4 : LP) (x5 x6 : Int) (k0 : LP → O R) : O R := Ucb n n x1 x2 x3 x4 x5 x6 k0
def Uzl (n : Nat) (x1 x2 : LP) (x3 : Int) (k0 : LP → O R) : O R :=
  Usg n x1 x2 x3 [] 0 0 (fun y4 => k0 y4)
abbrev UAR (n : Nat) : Code → Fr → Kc R → O R := evC Tryz.prog (Upn n) Ua3 n (51, [])
noncomputable def Uov : Code := Jk (Jls Tryz.f146) [1, 1, 1, 0, 1, 0, 0, 1, 1]
abbrev UkJ : Sl (List SV) := (cH (cH (cI (cO 3 (cI (cI .n))))))
abbrev UqT (n : Nat) (K : Kc R) : UkJ.T (O R) := fun x1 x2 x3 x4 x5 x6 => Ubx n x1 x2 x3 x4 x5 x6 (fun y1 y2 y3 y4 y5 y6 => xC Ua3 5 K .normal [vH y1, vH y2, vI y3, dD, .own 3 y4, vI y5, vI y6])
noncomputable def Uow : Code := Jk (Jls Tryz.f146) [1, 1, 1, 0, 1, 0, 0, 1]
abbrev UkK : Sl (List SV) := (cH (cH (cI (cO 3 (cI (cI .n))))))
abbrev UqU (n : Nat) (K : Kc R) : UkK.T (O R) := fun x1 x2 x3 x4 x5 x6 => UaS n x1 x2 x3 x4 x5 x6 (fun y1 y2 y3 y4 y5 y6 => xC Ua3 6 K .normal [vH y1, vH y2, vI y3, dD, .own 3 y4, vI y5, vI y6])
noncomputable def Ulo : Code := Jk (Jls Tryz.f146) [1, 1, 1, 0, 1, 0, 0, 1, 0, 0, 1, 1, 1]
abbrev Uiy : Sl (List SV) := (cH (cH (cI (cO 3 (cI (cI (cI .n)))))))
abbrev Umv (n : Nat) (K : Kc R) : Uiy.T (O R) := fun x1 x2 x3 x4 x5 x6 x7 => UaW n x1 x2 x3 x4 x5 x6 x7 (fun y1 y2 y3 y4 y5 y6 => xC Ua3 11 K .normal [vH y1, vH y2, vI y3, dD, .own 3 y4, vI y5, vI y6])
noncomputable def Ulp : Code := Jk (Jls Tryz.f146) [1, 1, 1, 0, 1, 0, 0, 1, 0, 0, 1, 1, 1, 1]
abbrev Uiz : Sl (List SV) := (cH (cH (cI (cO 3 (cI (cI (cI .n)))))))
abbrev Umw (n : Nat) (K : Kc R) : Uiz.T (O R) := fun x1 x2 x3 x4 x5 x6 x7 => UaX n x1 x2 x3 x4 x5 x6 x7 (fun y1 y2 y3 y4 y5 y6 => xC Ua3 14 K .normal [vH y1, vH y2, vI y3, dD, .own 3 y4, vI y5, vI y6])
noncomputable def Uox : Code := Jk (Jls Tryz.f146) [1, 1, 1, 0, 1, 0, 0]
abbrev Uej : Sl (List SV) := (cH (cH (cI (cO 3 (cI (cI .n))))))
abbrev UjX (n m : Nat) (K : Kc R) : Uej.T (O R) := fun x1 x2 x3 x4 x5 x6 => Ucb n m x1 x2 x3 x4 x5 x6 (fun y1 => xL Ua3 4 K (.exit 0) [dD, .own 3 y1])
abbrev UxM (n : Nat) (K : Kc R) (l0 : Uej.T (O R)) : Uej.T (O R) := fun x1 x2 x3 x4 x5 x6 => Uhz n l0 x1 x2 x3 x4 x5 x6 (fun y1 => xL Ua3 4 K (.exit 0) [dD, .own 3 y1])
abbrev Uns (n : Nat) : Orc R := oL Ua3 (UAR n) n 4 Uox Uej (UjX n n) oN
abbrev Unl (n : Nat) : Orc R := oC Ua3 (UAR n) 14 Ulp Uiz (Umw n) (oC Ua3 (UAR n) 11 Ulo Uiy (Umv n) (oC Ua3 (UAR n) 6 Uow UkK (UqU n) (oC Ua3 (UAR n) 5 Uov UkJ (UqT n) oN)))
abbrev UAz (R : Type) (n : Nat) := JcK (R := R) Tryz.prog (Upn n) Ua3 n (51, []) (Uns n) (Unl n)
theorem Uul (n : Nat) : UAz R n (true, 14, Ulp) := Jk3 (lo := Uns n) (cu := Unl n) (pO pN (by kernel_rfl)) Uiz (Umw n) (fun K _ _ _ _ _ _ _ => by show _ = _; kernel_rfl) fun _ _ => rfl
theorem Uuk (n : Nat) : UAz R n (true, 11, Ulo) := Jk3 (lo := Uns n) (cu := Unl n) (pO (pC (Uul n) pN) (by kernel_rfl)) Uiy (Umv n) (fun K _ _ _ _ _ _ _ => by show _ = _; kernel_rfl) fun _ _ => rfl
theorem UzW (n : Nat) : UAz R n (true, 5, Uov) := Jk3 (lo := Uns n) (cu := Unl n) (pO pN (by kernel_rfl)) UkJ (UqT n) (fun K _ _ _ _ _ _ => by show _ = _; kernel_rfl) fun _ _ => rfl
theorem UzX (n : Nat) : UAz R n (true, 6, Uow) := Jk3 (lo := Uns n) (cu := Unl n) (pO (pC (Uuk n) (pC (UzW n) pN)) (by kernel_rfl)) UkK (UqU n) (fun K _ _ _ _ _ _ => by show _ = _; kernel_rfl) fun _ _ => rfl
theorem UzY (n : Nat) : UAz R n (false, 4, Uox) := JkM (lo := Uns n) (cu := Unl n) (pO (pC (UzX n) pN) (by kernel_rfl)) Uej (UjX n n) (JiK (F := UjX n) Uej (UxM n) (fun K _ _ _ _ _ _ => rfl) (fun _ _ => rfl) (fun L K _ _ _ _ _ _ => by show _ = _; kernel_rfl) n) fun _ _ => rfl
theorem UH6 (n : Nat) : Jfb (UAz R n) (JaJ Ua3 (Jls Tryz.f146)) := pO (pC (UzY n) pN) (by kernel_rfl)
abbrev UIM : Sl (List SV) := (cH (cH (cI .n)))
abbrev f146 (n : Nat) (K : List SV → O R) : UIM.T (O R) := fun x1 x2 x3 => Uzl n x1 x2 x3 (fun y1 => K [vH y1])
abbrev Uy0 (n : Nat) : FS := fT [false, false, false] UIM (f146 n)
theorem UDk (n : Nat) : FSound Tryz.prog GI 146 (Uy0 n) := gd Ua3 n (Ul9 n) Tryz.func146 (.cons (Ul9 n) UIM (f146 n) (fun K _ _ _ => (Jkx (c := Jls Tryz.f146) (by kernel_rfl) (UH6 n) K).trans (by kernel_rfl)) .nil) (by kernel_rfl)
def UnQ : Ann := { loops := [], cuts := [], frz := [], rm := [.id] }
abbrev Uvw (n : Nat) : Env := eC 147 (Uy1 n) (eC 146 (Uy0 n) (eC 122 (UiW n) eN))
theorem UlY (n : Nat) : EnvOK Tryz.prog GI (Uvw n) := .cons (.cons (.cons (.nil) (Uj9 n)) (UDk n)) (UDl n)
def UDs (n : Nat) (x1 : Bool) (x2 : LP) (x3 : Bool) (x4 : LP) (k0 : Bool → LP → O R) : O R :=
  bif (x1 == x3) then (Uzl n x2 x4 1 (fun y5 => UmS n x1 y5 (fun y6 y7 => k0 y6 y7))) else (UDv n x2 x4 (fun y8 => bif (decide (y8 < 0)) then (Uzl n x4 x2 (-1) (fun y9 => UmS n x3 y9 (fun y10 y11 => k0 y10 y11))) else (Uzl n x2 x4 (-1) (fun y12 => UmS n x1 y12 (fun y13 y14 => k0 y13 y14)))))
abbrev UGy (n : Nat) : Orc R := oN
abbrev UFO (n : Nat) : Orc R := oN
abbrev ULq (R : Type) (n : Nat) := JcK (R := R) Tryz.prog (Uvw n) UnQ n (40, []) (UGy n) (UFO n)
theorem UHV (n : Nat) : Jfb (ULq R n) (JaJ UnQ (Jls Tryz.f124)) := pO pN (by kernel_rfl)
abbrev UIB : Sl (List SV) := (.c (sP (JlP (.c Jlm (.c sSh .n)))) (.c (sP (JlP (.c Jlm (.c sSh .n)))) .n))
abbrev f124 (n : Nat) (K : List SV → O R) : UIB.T (O R) := fun x1 x2 x3 x4 => UDs n x1 x2 x3 x4 (fun y1 y2 => K [.p (.agg [.v (.bool y1), .sh y2])])
abbrev UyX (n : Nat) : FS := fT [false, false] UIB (f124 n)
theorem UDh (n : Nat) : FSound Tryz.prog GI 124 (UyX n) := gd UnQ n (UlY n) Tryz.func124 (.cons (UlY n) UIB (f124 n) (fun K _ _ _ _ => (Jkx (c := Jls Tryz.f124) (by kernel_rfl) (UHV n) K).trans (by kernel_rfl)) .nil) (by kernel_rfl)
def Uxn : Ann := { loops := [], cuts := [], frz := [], rm := [.id] }
abbrev UCd (n : Nat) : Env := eC 122 (UiW n) eN
theorem Uqu (n : Nat) : EnvOK Tryz.prog GI (UCd n) := .cons (.nil) (Uj9 n)
def p90 (n : Nat) (x1 : Bool) (x2 : LP) (k0 : Bool → LP → O R) : O R :=
  UmS n (!x1) x2 (fun y3 y4 => k0 y3 y4)
abbrev UMN (n : Nat) : Orc R := oN
abbrev UL7 (n : Nat) : Orc R := oN
abbrev K90 (R : Type) (n : Nat) := JcK (R := R) Tryz.prog (UCd n) Uxn n (9, []) (UMN n) (UL7 n)
theorem UOB (n : Nat) : Jfb (K90 R n) (JaJ Uxn (Jls Tryz.f90)) := pO pN (by kernel_rfl)
abbrev t90 : Sl (List SV) := (.c (sP (JlP (.c Jlm (.c sSh .n)))) .n)
abbrev f90 (n : Nat) (K : List SV → O R) : t90.T (O R) := fun x1 x2 => p90 n x1 x2 (fun y1 y2 => K [.p (.agg [.v (.bool y1), .sh y2])])
abbrev UGk (n : Nat) : FS := fT [false] t90 (f90 n)
theorem UK0 (n : Nat) : FSound Tryz.prog GI 90 (UGk n) := gd Uxn n (Uqu n) Tryz.func90 (.cons (Uqu n) t90 (f90 n) (fun K _ _ => (Jkx (c := Jls Tryz.f90) (by kernel_rfl) (UOB n) K).trans (by kernel_rfl)) .nil) (by kernel_rfl)
def UnP : Ann := { loops := [], cuts := [], frz := [], rm := [.id] }
abbrev Uvv (n : Nat) : Env := eC 124 (UyX n) (eC 90 (UGk n) eN)
theorem UlV (n : Nat) : EnvOK Tryz.prog GI (Uvv n) := .cons (.cons (.nil) (UK0 n)) (UDh n)
def Uzj (n : Nat) (x1 : Bool) (x2 : LP) (x3 : Bool) (x4 : LP) (k0 : Bool → LP → O R) : O R :=
  p90 n x3 x4 (fun y5 y6 => UDs n x1 x2 y5 y6 (fun y7 y8 => k0 y7 y8))
abbrev UGx (n : Nat) : Orc R := oN
abbrev UFN (n : Nat) : Orc R := oN
abbrev ULp (R : Type) (n : Nat) := JcK (R := R) Tryz.prog (Uvv n) UnP n (9, []) (UGx n) (UFN n)
theorem UHS (n : Nat) : Jfb (ULp R n) (JaJ UnP (Jls Tryz.f121)) := pO pN (by kernel_rfl)
abbrev UIy : Sl (List SV) := (.c (sP (JlP (.c Jlm (.c sSh .n)))) (.c (sP (JlP (.c Jlm (.c sSh .n)))) .n))
abbrev f121 (n : Nat) (K : List SV → O R) : UIy.T (O R) := fun x1 x2 x3 x4 => Uzj n x1 x2 x3 x4 (fun y1 y2 => K [.p (.agg [.v (.bool y1), .sh y2])])
abbrev UyW (n : Nat) : FS := fT [false, false] UIy (f121 n)
theorem UDg (n : Nat) : FSound Tryz.prog GI 121 (UyW n) := gd UnP n (UlV n) Tryz.func121 (.cons (UlV n) UIy (f121 n) (fun K _ _ _ _ => (Jkx (c := Jls Tryz.f121) (by kernel_rfl) (UHS n) K).trans (by kernel_rfl)) .nil) (by kernel_rfl)
def Uxm : Ann := { loops := [], cuts := [], frz := [], rm := [.id] }
abbrev UCc (n : Nat) : Env := eC 121 (UyW n) eN
theorem Uqs (n : Nat) : EnvOK Tryz.prog GI (UCc n) := .cons (.nil) (UDg n)
def p88 (n : Nat) (x1 : Bool) (x2 : LP) (x3 : Bool) (x4 : LP) (k0 : Int → O R) : O R :=
  Uzj n x1 x2 x3 x4 (fun y5 y6 => bif (((y6).length : Int) == 0) then (k0 0) else (bif y5 then (k0 (-1)) else (k0 1)))
abbrev UMM (n : Nat) : Orc R := oN
abbrev UL6 (n : Nat) : Orc R := oN
abbrev K88 (R : Type) (n : Nat) := JcK (R := R) Tryz.prog (UCc n) Uxm n (15, []) (UMM n) (UL6 n)
theorem UOz (n : Nat) : Jfb (K88 R n) (JaJ Uxm (Jls Tryz.f88)) := pO pN (by kernel_rfl)
abbrev t88 : Sl (List SV) := (.c (sP (JlP (.c Jlm (.c sSh .n)))) (.c (sP (JlP (.c Jlm (.c sSh .n)))) .n))
abbrev f88 (n : Nat) (K : List SV → O R) : t88.T (O R) := fun x1 x2 x3 x4 => p88 n x1 x2 x3 x4 (fun y1 => K [vI y1])
abbrev UKm (n : Nat) : FS := fT [false, false] t88 (f88 n)
theorem UNu (n : Nat) : FSound Tryz.prog GI 88 (UKm n) := gd Uxm n (Uqs n) Tryz.func88 (.cons (Uqs n) t88 (f88 n) (fun K _ _ _ _ => (Jkx (c := Jls Tryz.f88) (by kernel_rfl) (UOz n) K).trans (by kernel_rfl)) .nil) (by kernel_rfl)
end
end Go.Proofs.YtmgfmlhdnadglaaGreatDoor
set_option linter.unusedVariables false
set_option linter.unusedSimpArgs false
namespace Go.Proofs.YtmgfmlhdnadglaaGreatDoor
open Go Th Go.Proofs
variable {R : Type}
def II (a : Nat) : List PV := nl .i64 (DL a)
def ll (a : Nat) : Nat := (toL 10 a).length
theorem Uaa (a : Nat) : (DL a).length = ll a := by unfold DL ll; rw [List.length_reverse]
theorem Uau (a : Nat) : (II a).length = ll a := by unfold II; rw [Jjj, Uaa]
theorem Udv {a k : Nat} : ll a ≤ k ↔ a < 10 ^ k := Uah hT2 a k
theorem Ua7 {a b : Nat} (h : a ≤ b) : ll a ≤ ll b := Udv.2 (Nat.lt_of_le_of_lt h (Udv.1 (Nat.le_refl _)))
theorem UmJ (a b : Nat) : ll (a * b) ≤ ll a + ll b := by
  rw [Udv, Nat.pow_add]
  exact Nat.mul_lt_mul_of_lt_of_lt (Udv.1 (Nat.le_refl _)) (Udv.1 (Nat.le_refl _))
theorem Uv3 {a b k : Nat} (ha : ll a ≤ k) (hb : ll b ≤ k) : ll (a + b) ≤ k + 1 := by
  rw [Udv] at *
  rw [Nat.pow_succ]; omega
theorem Ubs : ll 0 = 0 := by unfold ll; rw [Uai]; rfl
theorem Uct {a : Nat} : ll a = 0 ↔ a = 0 := by
  constructor
  · intro h; exact (Ubl hT2).1 (List.eq_nil_of_length_eq_zero h)
  · intro h; rw [h, Ubs]
theorem UnG : II 0 = [] := by unfold II; rw [Ujo]; rfl
theorem UfW (l : List Nat) : (l.dropWhile (· == 0)).head? ≠ some 0 := by
  induction l with
  | nil => simp
  | cons d r ih =>
    rw [List.dropWhile_cons]
    by_cases h : d = 0
    · rw [if_pos (by simpa using h)]; exact ih
    · rw [if_neg (by simpa using h)]; simpa using h
theorem Ujl (l : List Nat) : vb (l.dropWhile (· == 0)) = vb l := by
  induction l with
  | nil => rfl
  | cons d r ih =>
    rw [List.dropWhile_cons]
    by_cases h : d = 0
    · rw [if_pos (by simpa using h), ih, h, UcM]; omega
    · rw [if_neg (by simpa using h)]
theorem UiK {l : List Nat} (h : ∀ d ∈ l, d < 10) : DL (vb l) = l.dropWhile (· == 0) := by
  rw [← Ujl]
  exact UAP (fun d hd => h d ((List.dropWhile_sublist _).subset hd)) (UfW l)
theorem Uf2 (n : Nat) (neg x3 : Bool) (k0 : Bool → List PV → Bool → Option R) : ∀ (m : Nat) (l : List Nat), l.length < m → l.length < 2 ^ 40 → Ub8 n m neg (nl .i64 l) x3 k0 = k0 neg (nl .i64 (l.dropWhile (· == 0))) x3
  | m + 1, [], hm, hl => by
    simp only [Ub8, UeW]
    simp (disch := (first | omega | (simp only [JlL]; omega))) only [↓JlO, JlM, JlN]
    rfl
  | m + 1, d :: r, hm, hl => by
    rw [List.length_cons] at hm hl
    simp only [Ub8, UeW]
    have hg : ∀ (K : Int → Option R), Jjf .i64 ((nl .i64 (d :: r)).getD (0 : Int).toNat (PV.v (Value.bool false))) K = K (d : Int) := fun K => Jhr (l := d :: r) (i := 0) (by simp)
    have e1 : List.drop (1 : Int).toNat (List.take (r.length + 1) (d :: r)) = r := by
      show List.drop 1 (d :: List.take r.length r) = r
      rw [List.take_length]; rfl
    have e2 : List.drop (0 + 1) (List.take (r.length + 1) (d :: r)) = r := e1
    rw [List.dropWhile_cons]
    by_cases h : d = 0
    · have ih := Uf2 n neg x3 k0 m r (by omega) (by omega)
      rw [if_pos (by simpa using h)]
      subst h
      have e3 : ((0 : Nat) == 0) = true := rfl
      simp (disch := (first | omega | (simp only [JlL]; omega))) only [↓JlO, JlM, JlN, hg, Jk7, e1, e2, e3, ih, List.length_cons]
    · have e3 : (d == 0) = false := by simpa using h
      rw [if_neg (by simpa using h)]
      simp (disch := (first | omega | (simp only [JlL]; omega))) only [↓JlO, JlM, JlN, hg, Jk7, e1, e2, e3, List.length_cons]
theorem UaD (n : Nat) (neg : Bool) (l : List Nat) (h : ∀ d ∈ l, d < 10) (hn : l.length < n) (hl : l.length < 2 ^ 40) (k0 : Bool → List PV → Option R) : UmS n neg (nl .i64 l) k0 = k0 (neg && !(vb l == 0)) (II (vb l)) := by
  unfold UmS Ur9
  rw [Uf2 n neg false _ n l hn hl, ← UiK h]
  by_cases h0 : vb l = 0
  · rw [h0, UnG, Ujo]
    simp [nl]
  · have e1 : ((ll (vb l) : Int) == 0) = false := by
      rw [Jk7]; simp only [beq_eq_false_iff_ne, ne_eq]
      intro e; exact h0 (Uct.1 e)
    have e2 : (vb l == 0) = false := by simpa using h0
    rw [Jjj, Uaa, e1, e2]
    simp [II]
theorem UcW {l : List Nat} {i : Nat} (h : i < l.length) : l.drop i = l.getD i 0 :: l.drop (i + 1) := by
  rw [List.drop_eq_getElem_cons h, List.getD_eq_getElem?_getD, List.getElem?_eq_getElem h]; rfl
theorem Ui9 (n : Nat) (la lb : List Nat) (ha : ∀ d ∈ la, d < 10) (hb : ∀ d ∈ lb, d < 10) (hlen : la.length = lb.length) (hl : la.length < 2 ^ 40) (k0 : Int → Option R) (k1 : Option R) :
    ∀ (d m i : Nat), d + i = la.length → d < m → Ucc n m (nl .i64 la) (nl .i64 lb) (i : Int) k0 k1 =
      if vb (la.drop i) < vb (lb.drop i) then k0 (-1) else if vb (lb.drop i) < vb (la.drop i) then k0 1 else k1
  | 0, m + 1, i, h, hm => by
    rw [List.drop_eq_nil_of_le (by omega), List.drop_eq_nil_of_le (by omega)]
    simp only [Ucc, Ue2]
    simp (disch := (first | omega | (simp only [JlL]; omega))) only [↓JlO, JlM, JlN]
  | d + 1, m + 1, i, h, hm => by
    have ih := Ui9 n la lb ha hb hlen hl k0 k1 d m (i + 1) (by omega) (by omega)
    have e1 : (i : Int) + 1 = ((i + 1 : Nat) : Int) := by omega
    have va := UAw (la.drop (i + 1)) (fun x hx => ha x (List.mem_of_mem_drop hx))
    have vb' := UAw (lb.drop (i + 1)) (fun x hx => hb x (List.mem_of_mem_drop hx))
    rw [UcW (by omega : i < la.length), UcW (by omega : i < lb.length), UcM, UcM]
    have el : (lb.drop (i + 1)).length = (la.drop (i + 1)).length := by rw [List.length_drop, List.length_drop, hlen]
    rw [el] at vb' ⊢
    simp only [Ucc, Ue2]
    by_cases h1 : la.getD i 0 < lb.getD i 0
    · simp (disch := (first | omega | (simp only [JlL]; omega))) only [↓JlO, JlM, JlN, e1]
      have : (la.getD i 0 + 1) * 10 ^ (la.drop (i + 1)).length ≤ lb.getD i 0 * 10 ^ (la.drop (i + 1)).length := Nat.mul_le_mul_right _ h1
      rw [Nat.succ_mul] at this
      rw [if_pos (by omega)]
    · by_cases h2 : lb.getD i 0 < la.getD i 0
      · simp (disch := (first | omega | (simp only [JlL]; omega))) only [↓JlO, JlM, JlN, e1]
        have : (lb.getD i 0 + 1) * 10 ^ (la.drop (i + 1)).length ≤ la.getD i 0 * 10 ^ (la.drop (i + 1)).length := Nat.mul_le_mul_right _ h2
        rw [Nat.succ_mul] at this
        rw [if_neg (by omega), if_pos (by omega)]
      · have h3 : la.getD i 0 = lb.getD i 0 := by omega
        simp (disch := (first | omega | (simp only [JlL]; omega))) only [↓JlO, JlM, JlN, e1, ih]
        rw [h3]
        simp only [Nat.add_lt_add_iff_left]
theorem UsF (n a b : Nat) (ha : ll a < 2 ^ 40) (hb : ll b < 2 ^ 40) (hn : ll a < n) (k0 : Int → Option R) : UDv n (II a) (II b) k0 = k0 (Ucv a b) := by
  unfold UDv Ush
  rw [Uau, Uau, Jj4]
  by_cases he : ll a = ll b
  · have e1 : (ll a != ll b) = false := by simp [he]
    have hlp := Ui9 n (DL a) (DL b) (Uey a) (Uey b) (by rw [Uaa, Uaa, he]) (by rw [Uaa]; exact ha) (fun y => k0 y) (k0 0) (ll a) n 0 (by rw [Uaa]; omega) hn
    rw [List.drop_zero, List.drop_zero, UfS, UfS] at hlp
    rw [e1, cond_false]
    unfold II
    rw [show ((0 : Nat) : Int) = 0 from rfl] at hlp
    rw [hlp]
    unfold Ucv
    split
    · rfl
    · split <;> rfl
  · have e1 : (ll a != ll b) = true := by simpa using he
    rw [e1, cond_true]
    unfold Ucv
    by_cases hlt : ll a < ll b
    · have h2 := Ubm hT2 hlt
      rw [Jkm (by omega), if_pos h2]
    · have h2 := Ubm hT2 (x := b) (y := a) (by unfold ll at *; omega)
      rw [Jkl (by omega), if_neg (by omega), if_pos h2]
theorem Ulw (n a i : Nat) (ha : ll a < 2 ^ 40) (hi : i < 2 ^ 40) (k0 : Int → Option R) : UDw n (II a) i k0 = k0 (((toL 10 a).getD i 0 : Nat) : Int) := by
  unfold UDw II
  have hll : (toL 10 a).length = ll a := rfl
  by_cases h : ll a ≤ i
  · rw [Ubr h]
    simp (disch := (first | omega | (simp only [JlL]; omega))) only [↓JlO, JlM, JlN, Uaa]
    rfl
  · have hr : (DL a).getD (ll a - 1 - i) 0 = (toL 10 a).getD i 0 := by
      unfold DL
      rw [List.getD_eq_getElem?_getD, List.getD_eq_getElem?_getD, List.getElem?_reverse (by omega)]
      congr 2
      omega
    have e1 : ((ll a : Int) - 1) - (i : Int) = ((ll a - 1 - i : Nat) : Int) := by omega
    have hg : ∀ (K : Int → Option R), Jjf .i64 ((nl .i64 (DL a)).getD (ll a - 1 - i) (PV.v (Value.bool false))) K = K (((toL 10 a).getD i 0 : Nat) : Int) := fun K => by
      rw [Jhr (by rw [Uaa]; omega), hr]
    simp (disch := (first | omega | (simp only [JlL]; omega))) only [↓JlO, JlM, JlN, Uaa, e1, hg]
theorem UnB (n a b : Nat) (f : Int) (hf : f = 1 ∨ f = -1) (ha : ll a < 2 ^ 30) (hb : ll b < 2 ^ 30) (o : List Nat) (c : Int) (hc : -1 ≤ c ∧ c ≤ 1) (i : Nat) (hi : i < 2 ^ 31) (ho : o.length = i) :
    ∃ (r : Nat) (c' : Int), (∀ k0 : List PV → List PV → Int → List PV → Int → Int → Option R, UaS n (II a) (II b) f (nl .i64 o.reverse) c i k0 = k0 (II a) (II b) f (nl .i64 (o ++ [r]).reverse) c' ((i + 1 : Nat) : Int)) ∧ r < 10 ∧ -1 ≤ c' ∧ c' ≤ 1 ∧
      (((toL 10 a).getD i 0 : Nat) : Int) + f * (((toL 10 b).getD i 0 : Nat) : Int) + c = (r : Int) + 10 * c' := by
  have hx := Uac hT2 (UaQ hT2 a) i
  have hy := Uac hT2 (UaQ hT2 b) i
  have d1 := fun k0 => Ulw (R := R) n a i (by omega) (by omega) k0
  have d2 := fun k0 => Ulw (R := R) n b i (by omega) (by omega) k0
  generalize (toL 10 a).getD i 0 = x at *
  generalize (toL 10 b).getD i 0 = y at *
  obtain ⟨v, hv⟩ : ∃ v : Int, v = (x : Int) + f * (y : Int) + c := ⟨_, rfl⟩
  have hv2 : -11 < v ∧ v < 20 := by rcases hf with rfl | rfl <;> omega
  have e1 : (i : Int) + 1 = ((i + 1 : Nat) : Int) := by omega
  have e2 : ∀ r : Nat, nl .i64 (o ++ [r]).reverse = nl .i64 [r] ++ nl .i64 o.reverse := fun r => by rw [List.reverse_append, ← Jji]; rfl
  have hol : o.reverse.length = i := by rw [List.length_reverse, ho]
  by_cases h1 : v < 0
  · obtain ⟨r, hr⟩ : ∃ r : Nat, (r : Int) = v + 10 := ⟨(v + 10).toNat, by omega⟩
    refine ⟨r, -1, fun k0 => ?_, by omega, by omega, by omega, by omega⟩
    rw [e2]
    rcases hf with rfl | rfl
    · have e3 : (x : Int) + 1 * (y : Int) + c + 10 = (r : Int) := by omega
      simp only [UaS, UaW, UaX, Ubx, d1, d2]
      simp (disch := (first | omega | (simp only [JlL]; omega))) only [↓JlO, JlM, JlN, e1, e3, hol, Jlu]
    · have e3 : (x : Int) + -1 * (y : Int) + c + 10 = (r : Int) := by omega
      simp only [UaS, UaW, UaX, Ubx, d1, d2]
      simp (disch := (first | omega | (simp only [JlL]; omega))) only [↓JlO, JlM, JlN, e1, e3, hol, Jlu]
  · by_cases h2 : v > 9
    · obtain ⟨r, hr⟩ : ∃ r : Nat, (r : Int) = v - 10 := ⟨(v - 10).toNat, by omega⟩
      refine ⟨r, 1, fun k0 => ?_, by omega, by omega, by omega, by omega⟩
      rw [e2]
      rcases hf with rfl | rfl
      · have e3 : (x : Int) + 1 * (y : Int) + c - 10 = (r : Int) := by omega
        simp only [UaS, UaW, UaX, Ubx, d1, d2]
        simp (disch := (first | omega | (simp only [JlL]; omega))) only [↓JlO, JlM, JlN, e1, e3, hol, Jlu]
      · have e3 : (x : Int) + -1 * (y : Int) + c - 10 = (r : Int) := by omega
        simp only [UaS, UaW, UaX, Ubx, d1, d2]
        simp (disch := (first | omega | (simp only [JlL]; omega))) only [↓JlO, JlM, JlN, e1, e3, hol, Jlu]
    · obtain ⟨r, hr⟩ : ∃ r : Nat, (r : Int) = v := ⟨v.toNat, by omega⟩
      refine ⟨r, 0, fun k0 => ?_, by omega, by omega, by omega, by omega⟩
      rw [e2]
      rcases hf with rfl | rfl
      · have e3 : (x : Int) + 1 * (y : Int) + c = (r : Int) := by omega
        simp only [UaS, UaW, UaX, Ubx, d1, d2]
        simp (disch := (first | omega | (simp only [JlL]; omega))) only [↓JlO, JlM, JlN, e1, e3, hol, Jlu]
      · have e3 : (x : Int) + -1 * (y : Int) + c = (r : Int) := by omega
        simp only [UaS, UaW, UaX, Ubx, d1, d2]
        simp (disch := (first | omega | (simp only [JlL]; omega))) only [↓JlO, JlM, JlN, e1, e3, hol, Jlu]
theorem Ugc (n a b : Nat) (f : Int) (hf : f = 1 ∨ f = -1) (ha : ll a < 2 ^ 30) (hb : ll b < 2 ^ 30) (hab : 0 ≤ (a : Int) + f * (b : Int)) (K : Nat) (hK : K = max (ll a) (ll b)) :
    ∀ (m i : Nat) (o : List Nat) (c : Int), K + 2 ≤ m + i → i ≤ K + 1 → (i ≤ K ∨ c = 0) → o.length = i → (∀ d ∈ o, d < 10) → (-1 ≤ c ∧ c ≤ 1) → (val 10 o : Int) + (10 ^ i : Nat) * c = (val 10 ((toL 10 a).take i) : Int) + f * (val 10 ((toL 10 b).take i) : Int) →
      ∃ o' : List Nat, (∀ k0 : List PV → Option R, Ucb n m (II a) (II b) f (nl .i64 o.reverse) c i k0 = k0 (nl .i64 o'.reverse)) ∧ (∀ d ∈ o', d < 10) ∧ (val 10 o' : Int) = (a : Int) + f * (b : Int) ∧ o'.length ≤ K + 1
  | 0, i, o, c, hm, hi, hic, ho, hd, hc, hv => by omega
  | m + 1, i, o, c, hm, hi, hic, ho, hd, hc, hv => by
    have go : (i < ll a ∨ i < ll b ∨ c ≠ 0) → i ≤ K → (i = K → c = 1) →
        ∃ o' : List Nat, (∀ k0 : List PV → Option R, UaS n (II a) (II b) f (nl .i64 o.reverse) c i (fun x1 x2 x3 x4 x5 x6 => Ucb n m x1 x2 x3 x4 x5 x6 k0) = k0 (nl .i64 o'.reverse)) ∧ (∀ d ∈ o', d < 10) ∧ (val 10 o' : Int) = (a : Int) + f * (b : Int) ∧ o'.length ≤ K + 1 := by
      intro _ hiK hc1
      obtain ⟨r, c', s1, s2, s3, s4, s5⟩ := UnB (R := R) n a b f hf ha hb o c hc i (by omega) ho
      have hcK : i + 1 ≤ K ∨ c' = 0 := by
        by_cases h : i = K
        · right
          have := hc1 h
          rw [Ubr (by unfold ll at *; omega), Ubr (by unfold ll at *; omega)] at s5
          simp at s5
          omega
        · left; omega
      obtain ⟨o', q1, q2, q3, q4⟩ := Ugc n a b f hf ha hb hab K hK m (i + 1) (o ++ [r]) c' (by omega) (by omega) hcK (by rw [List.length_append, ho]; rfl) (by
        intro d h
        rcases List.mem_append.1 h with h | h
        · exact hd d h
        · rw [List.mem_singleton.1 h]; exact s2) ⟨s3, s4⟩ (by
          rw [Ubc, ho, Uan, Uan, Nat.pow_succ]
          generalize (toL 10 a).getD i 0 = x at *
          generalize (toL 10 b).getD i 0 = y at *
          generalize val 10 ((toL 10 a).take i) = A at *
          generalize val 10 ((toL 10 b).take i) = B at *
          generalize val 10 o = O at *
          generalize 10 ^ i = P at *
          push_cast
          have : (P : Int) * ((x : Int) + f * (y : Int) + c) = (P : Int) * ((r : Int) + 10 * c') := by rw [s5]
          clear s1 hf hab
          grind)
      exact ⟨o', fun k0 => by rw [s1, q1], q2, q3, q4⟩
    simp only [Ucb, Uhz]
    have hA : i < ll a ∨ ¬ i < ll a := Decidable.em _
    have hB : i < ll b ∨ ¬ i < ll b := Decidable.em _
    rcases hA with hA | hA
    · have g1 : i ≤ K := by clear go; omega
      have g2 : i = K → c = 1 := by clear go; omega
      obtain ⟨o', q1, q2⟩ := go (Or.inl hA) g1 g2
      refine ⟨o', fun k0 => ?_, q2⟩
      rw [← q1 k0]
      simp (disch := (first | omega | (simp only [JlL]; omega))) only [↓JlO, JlM, JlN, Uau]
    rcases hB with hB | hB
    · have g1 : i ≤ K := by clear go; omega
      have g2 : i = K → c = 1 := by clear go; omega
      obtain ⟨o', q1, q2⟩ := go (Or.inr (Or.inl hB)) g1 g2
      refine ⟨o', fun k0 => ?_, q2⟩
      rw [← q1 k0]
      simp (disch := (first | omega | (simp only [JlL]; omega))) only [↓JlO, JlM, JlN, Uau]
    rw [List.take_of_length_le (by unfold ll at *; omega), List.take_of_length_le (by unfold ll at *; omega), Uaq hT2, Uaq hT2] at hv
    have hol := Uex hT2 o hd
    rw [ho] at hol
    by_cases h0 : c = 0
    · subst h0
      rw [Int.mul_zero, Int.add_zero] at hv
      refine ⟨o, fun k0 => ?_, hd, hv, by omega⟩
      have e : ((0 : Int) != 0) = false := rfl
      simp (disch := (first | omega | (simp only [JlL]; omega))) only [↓JlO, JlM, JlN, Uau, e]
    · have h1 : c = 1 := by
        by_cases h : c = -1
        · exfalso
          subst h
          generalize 10 ^ i = P at *
          omega
        · omega
      have g1 : i ≤ K := by clear go; omega
      obtain ⟨o', q1, q2⟩ := go (Or.inr (Or.inr h0)) g1 (fun _ => h1)
      refine ⟨o', fun k0 => ?_, q2⟩
      rw [← q1 k0]
      have e : (c != 0) = true := by simpa using h0
      simp (disch := (first | omega | (simp only [JlL]; omega))) only [↓JlO, JlM, JlN, Uau, e]
theorem Ufa (n a b : Nat) (f : Int) (hf : f = 1 ∨ f = -1) (ha : ll a < 2 ^ 30) (hb : ll b < 2 ^ 30) (hab : 0 ≤ (a : Int) + f * (b : Int)) (hn : max (ll a) (ll b) + 2 ≤ n) :
    ∃ l : List Nat, (∀ k0 : List PV → Option R, Uzl n (II a) (II b) f k0 = k0 (nl .i64 l)) ∧ (∀ d ∈ l, d < 10) ∧ (vb l : Int) = (a : Int) + f * (b : Int) ∧ l.length ≤ max (ll a) (ll b) + 1 := by
  obtain ⟨o', q1, q2, q3, q4⟩ := Ugc (R := R) n a b f hf ha hb hab _ rfl n 0 [] 0 (by omega) (by omega) (by omega) rfl (by intro d h; cases h) (by omega) (by simp [val])
  refine ⟨o'.reverse, fun k0 => ?_, fun d h => q2 d (List.mem_reverse.1 h), by unfold vb; rw [List.reverse_reverse]; exact q3, by rw [List.length_reverse]; exact q4⟩
  unfold Uzl Usg
  exact q1 _
abbrev sg (z : Int) : Bool := decide (z < 0)
theorem UsE (n : Nat) (x y : Int) (hx : ll x.natAbs ≤ 50000) (hy : ll y.natAbs ≤ 50000) (hn : 200000 ≤ n) (k0 : Bool → List PV → Option R) :
    UDs n (sg x) (II x.natAbs) (sg y) (II y.natAbs) k0 = k0 (sg (x + y)) (II (x + y).natAbs) := by
  unfold UDs
  by_cases hs : sg x = sg y
  · obtain ⟨l, q1, q2, q3, q4⟩ := Ufa (R := R) n x.natAbs y.natAbs 1 (Or.inl rfl) (by omega) (by omega) (by omega) (by omega)
    have e1 : (sg x == sg y) = true := by simpa using hs
    have e2 : vb l = (x + y).natAbs := by
      have : x < 0 ↔ y < 0 := by simpa [sg] using hs
      omega
    have e3 : (sg x && !((x + y).natAbs == 0)) = sg (x + y) := by
      have : x < 0 ↔ y < 0 := by simpa [sg] using hs
      rw [Bool.eq_iff_iff]
      simp only [sg, Bool.and_eq_true, decide_eq_true_eq, Bool.not_eq_true', beq_eq_false_iff_ne]
      omega
    rw [e1, cond_true, q1, UaD n _ l q2 (by omega) (by omega), e2, e3]
  · have e1 : (sg x == sg y) = false := by simpa using hs
    have hxy : ¬ (x < 0 ↔ y < 0) := by simpa [sg] using hs
    rw [e1, cond_false, UsF n _ _ (by omega) (by omega) (by omega)]
    by_cases hlt : x.natAbs < y.natAbs
    · obtain ⟨l, q1, q2, q3, q4⟩ := Ufa (R := R) n y.natAbs x.natAbs (-1) (Or.inr rfl) (by omega) (by omega) (by omega) (by omega)
      have e2 : vb l = (x + y).natAbs := by omega
      have e3 : (sg y && !((x + y).natAbs == 0)) = sg (x + y) := by
        rw [Bool.eq_iff_iff]
        simp only [sg, Bool.and_eq_true, decide_eq_true_eq, Bool.not_eq_true', beq_eq_false_iff_ne]
        omega
      have e4 : Ucv x.natAbs y.natAbs = -1 := by unfold Ucv; rw [if_pos hlt]
      rw [e4, Jkm (by omega), q1, UaD n _ l q2 (by omega) (by omega), e2, e3]
    · obtain ⟨l, q1, q2, q3, q4⟩ := Ufa (R := R) n x.natAbs y.natAbs (-1) (Or.inr rfl) (by omega) (by omega) (by omega) (by omega)
      have e2 : vb l = (x + y).natAbs := by omega
      have e3 : (sg x && !((x + y).natAbs == 0)) = sg (x + y) := by
        rw [Bool.eq_iff_iff]
        simp only [sg, Bool.and_eq_true, decide_eq_true_eq, Bool.not_eq_true', beq_eq_false_iff_ne]
        omega
      have e4 : ¬ Ucv x.natAbs y.natAbs < 0 := by unfold Ucv; rw [if_neg hlt]; split <;> omega
      rw [Jkl e4, q1, UaD n _ l q2 (by omega) (by omega), e2, e3]
theorem Uic (n : Nat) (x : Int) (hx : ll x.natAbs ≤ 50000) (hn : 200000 ≤ n) (k0 : Bool → List PV → Option R) : p90 n (sg x) (II x.natAbs) k0 = k0 (sg (-x)) (II (-x).natAbs) := by
  unfold p90 II
  rw [UaD n _ _ (Uey _) (by rw [Uaa]; omega) (by rw [Uaa]; omega), UfS, Int.natAbs_neg]
  have e3 : (!(sg x) && !(x.natAbs == 0)) = sg (-x) := by
    rw [Bool.eq_iff_iff]
    simp only [sg, Bool.and_eq_true, decide_eq_true_eq, Bool.not_eq_true', beq_eq_false_iff_ne, decide_eq_false_iff_not]
    omega
  rw [e3]; rfl
theorem Uku (n : Nat) (x y : Int) (hx : ll x.natAbs ≤ 50000) (hy : ll y.natAbs ≤ 50000) (hn : 200000 ≤ n) (k0 : Bool → List PV → Option R) :
    Uzj n (sg x) (II x.natAbs) (sg y) (II y.natAbs) k0 = k0 (sg (x - y)) (II (x - y).natAbs) := by
  unfold Uzj
  rw [Uic n y hy hn, UsE n x (-y) hx (by rw [Int.natAbs_neg]; exact hy) hn, Int.sub_eq_add_neg]
def UiI (x y : Int) : Int := if x < y then -1 else if x = y then 0 else 1
theorem Uum (n : Nat) (x y : Int) (hx : ll x.natAbs ≤ 50000) (hy : ll y.natAbs ≤ 50000) (hn : 200000 ≤ n) (k0 : Int → Option R) :
    p88 n (sg x) (II x.natAbs) (sg y) (II y.natAbs) k0 = k0 (UiI x y) := by
  unfold p88 UiI
  rw [Uku n x y hx hy hn, Uau, Jk7]
  by_cases h : x = y
  · have e : (ll (x - y).natAbs == 0) = true := by simp only [beq_iff_eq, Uct]; omega
    rw [e, if_neg (by omega), if_pos h]; rfl
  · have e : (ll (x - y).natAbs == 0) = false := by simp only [beq_eq_false_iff_ne, ne_eq, Uct]; omega
    rw [e, cond_false]
    by_cases h2 : x < y
    · have e2 : sg (x - y) = true := by simp [sg]; omega
      rw [e2, if_pos h2]; rfl
    · have e2 : sg (x - y) = false := by simp [sg]; omega
      rw [e2, if_neg h2, if_neg h]; rfl
end Go.Proofs.YtmgfmlhdnadglaaGreatDoor
set_option linter.unusedVariables false
set_option maxRecDepth 100000
namespace Go.Proofs.YtmgfmlhdnadglaaGreatDoor
open Go Th Go.Proofs
noncomputable section
variable {R : Type}
def Udn : Ann := { loops := [(3, ids [2, 3, 4, 5, 6], ids [2, 3, 4, 5]), (6, ids [2, 3, 4, 5, 6, 7], ids [2, 3, 4, 5, 6]), (12, ids [2, 3, 4, 5, 6, 7, 8, 9], ids [2, 3, 4, 5, 6, 7])], cuts := [], frz := [], rm := [.id] }
abbrev UyM (n : Nat) : Env := eC 122 (UiW n) eN
theorem Uqt (n : Nat) : EnvOK Tryz.prog GI (UyM n) := .cons (.nil) (Uj9 n)
def Ue8 (n : Nat) (l0 : Bool → LP → Bool → LP → Bool → LP → Int → Int → Int → Int → O R) (x1 : Bool) (x2 : LP) (x3 : Bool) (x4 : LP) (x5 : Bool) (x6 : LP) (x7 x8 x9 x10 : Int) (k0 : Bool → LP → Bool → LP → Bool → LP → Int → Int → O R) : O R :=
  bif (decide (x10 > 0)) then (bif (inR (IntKind.i64.wrap (x9 - 1)) ((x6).length)) then (Jjf .i64 ((x6).getD ((IntKind.i64.wrap (x9 - 1) : Int).toNat) (.v (.bool false))) fun e11 => bif decide (10 = 0) then none else (let v12 := Int.tmod (IntKind.i64.wrap (x10 + e11)) 10; bif (inR (IntKind.i64.wrap (x9 - 1)) ((x6).length)) then (Jjf .i64 ((x6).getD ((IntKind.i64.wrap (x9 - 1) : Int).toNat) (.v (.bool false))) fun e13 => bif decide (10 = 0) then none else (let v14 := IntKind.i64.wrap (Int.tdiv (IntKind.i64.wrap (x10 + e11)) 10); l0 x1 x2 x3 x4 x5 ((x6).set ((IntKind.i64.wrap (x9 - 1) : Int).toNat) (.v (.int .i64 v12))) x7 x8 (IntKind.i64.wrap (x9 - 1)) v14)) else none)) else none) else (k0 x1 x2 x3 x4 x5 x6 x7 x8)
def Uci (n : Nat) : Nat → Bool → LP → Bool → LP → Bool → LP → Int → Int → Int → Int → (Bool → LP → Bool → LP → Bool → LP → Int → Int → O R) → O R
  | 0, _, _, _, _, _, _, _, _, _, _, _ => none
  | m + 1, x1, x2, x3, x4, x5, x6, x7, x8, x9, x10, k0 => Ue8 n (fun x1 x2 x3 x4 x5 x6 x7 x8 x9 x10 => Uci n m x1 x2 x3 x4 x5 x6 x7 x8 x9 x10 k0) x1 x2 x3 x4 x5 x6 x7 x8 x9 x10 k0
def Usw (n : Nat) (x1 : Bool) (x2 : LP) (x3 : Bool) (x4 : LP) (x5 : Bool) (x6 : LP) (x7 x8 x9 x10 : Int) (k0 : Bool → LP → Bool → LP → Bool → LP → Int → Int → O R) : O R := Uci n n x1 x2 x3 x4 x5 x6 x7 x8 x9 x10 k0
def Uh6 (n : Nat) (l0 : Bool → LP → Bool → LP → Bool → LP → Int → Int → O R) (x1 : Bool) (x2 : LP) (x3 : Bool) (x4 : LP) (x5 : Bool) (x6 : LP) (x7 x8 : Int) (k0 : Bool → LP → Bool → LP → Bool → LP → Int → O R) : O R :=
  bif (decide (x8 ≥ 0)) then (let v9 := IntKind.i64.wrap ((IntKind.i64.wrap (x7 + x8)) + 1); bif (inR v9 ((x6).length)) then (Jjf .i64 ((x6).getD ((v9 : Int).toNat) (.v (.bool false))) fun e10 => bif (inR x7 ((x2).length)) then (Jjf .i64 ((x2).getD ((x7 : Int).toNat) (.v (.bool false))) fun e11 => bif (inR x8 ((x4).length)) then (Jjf .i64 ((x4).getD ((x8 : Int).toNat) (.v (.bool false))) fun e12 => let v13 := IntKind.i64.wrap (e10 + (IntKind.i64.wrap (e11 * e12))); bif decide (10 = 0) then none else (bif (inR v9 ((x6).length)) then (Jjf .i64 ((x6).getD ((v9 : Int).toNat) (.v (.bool false))) fun e14 => bif decide (10 = 0) then none else (Usw n x1 x2 x3 x4 x5 ((x6).set ((v9 : Int).toNat) (.v (.int .i64 (Int.tmod v13 10)))) x7 x8 v9 (IntKind.i64.wrap (Int.tdiv v13 10)) (fun y15 y16 y17 y18 y19 y20 y21 y22 => l0 y15 y16 y17 y18 y19 y20 y21 (IntKind.i64.wrap (y22 - 1))))) else none)) else none) else none) else none) else (k0 x1 x2 x3 x4 x5 x6 x7)
def UdW (n : Nat) : Nat → Bool → LP → Bool → LP → Bool → LP → Int → Int → (Bool → LP → Bool → LP → Bool → LP → Int → O R) → O R
  | 0, _, _, _, _, _, _, _, _, _ => none
  | m + 1, x1, x2, x3, x4, x5, x6, x7, x8, k0 => Uh6 n (fun x1 x2 x3 x4 x5 x6 x7 x8 => UdW n m x1 x2 x3 x4 x5 x6 x7 x8 k0) x1 x2 x3 x4 x5 x6 x7 x8 k0
def UwD (n : Nat) (x1 : Bool) (x2 : LP) (x3 : Bool) (x4 : LP) (x5 : Bool) (x6 : LP) (x7 x8 : Int) (k0 : Bool → LP → Bool → LP → Bool → LP → Int → O R) : O R := UdW n n x1 x2 x3 x4 x5 x6 x7 x8 k0
def Uh5 (n : Nat) (l0 : Bool → LP → Bool → LP → Bool → LP → Int → O R) (x1 : Bool) (x2 : LP) (x3 : Bool) (x4 : LP) (x5 : Bool) (x6 : LP) (x7 : Int) (k0 : Bool → LP → Bool → LP → Bool → LP → O R) : O R :=
  bif (decide (x7 ≥ 0)) then (let v8 := IntKind.i64.wrap (((x4).length : Int) - 1); UwD n x1 x2 x3 x4 x5 x6 x7 v8 (fun y9 y10 y11 y12 y13 y14 y15 => l0 y9 y10 y11 y12 y13 y14 (IntKind.i64.wrap (y15 - 1)))) else (k0 x1 x2 x3 x4 x5 x6)
def UdV (n : Nat) : Nat → Bool → LP → Bool → LP → Bool → LP → Int → (Bool → LP → Bool → LP → Bool → LP → O R) → O R
  | 0, _, _, _, _, _, _, _, _ => none
  | m + 1, x1, x2, x3, x4, x5, x6, x7, k0 => Uh5 n (fun x1 x2 x3 x4 x5 x6 x7 => UdV n m x1 x2 x3 x4 x5 x6 x7 k0) x1 x2 x3 x4 x5 x6 x7 k0
def UwC (n : Nat) (x1 : Bool) (x2 : LP) (x3 : Bool) (x4 : LP) (x5 : Bool) (x6 : LP) (x7 : Int) (k0 : Bool → LP → Bool → LP → Bool → LP → O R) : O R := UdV n n x1 x2 x3 x4 x5 x6 x7 k0
def p89 (n : Nat) (x1 : Bool) (x2 : LP) (x3 : Bool) (x4 : LP) (k0 : Bool → LP → O R) : O R :=
  let v5 := IntKind.i64.wrap (((x2).length : Int) + ((x4).length : Int)); bif (decide ((0 : Int) ≤ v5) && decide ((v5 : Int) ≤ v5) && Jbv (v5 : Int).toNat 8) then (let v6 := IntKind.i64.wrap (((x2).length : Int) - 1); UwC n x1 x2 x3 x4 false (List.replicate (v5 : Int).toNat (.v (.int .i64 0) : PV)) v6 (fun y7 y8 y9 y10 y11 y12 => UmS n (!(y7 == y9)) y12 (fun y13 y14 => k0 y13 y14))) else none
abbrev E89 (n : Nat) : Code → Fr → Kc R → O R := evC Tryz.prog (UyM n) Udn n (85, [])
noncomputable def Uvf : Code := Jk (Jls Tryz.f89) [1, 1, 0, 1, 0, 0]
abbrev UgI : Sl (List SV) := (.c (sBx 55 (cB (cH .n))) (.c (sBx 55 (cB (cH .n))) (.c (sBx 55 (cB (.c sNl .n))) (cO 3 (cI .n)))))
abbrev Urx (n m : Nat) (K : Kc R) : UgI.T (O R) := fun x1 x2 x3 x4 x5 x6 x7 => UdV n m x1 x2 x3 x4 x5 x6 x7 (fun y1 y2 y3 y4 y5 y6 => xL Udn 3 K (.exit 0) [.bx 55 [vB y1, vH y2], .bx 55 [vB y3, vH y4], .bx 55 [vB y5, .nl], .own 3 y6])
abbrev UBm (n : Nat) (K : Kc R) (l0 : UgI.T (O R)) : UgI.T (O R) := fun x1 x2 x3 x4 x5 x6 x7 => Uh5 n l0 x1 x2 x3 x4 x5 x6 x7 (fun y1 y2 y3 y4 y5 y6 => xL Udn 3 K (.exit 0) [.bx 55 [vB y1, vH y2], .bx 55 [vB y3, vH y4], .bx 55 [vB y5, .nl], .own 3 y6])
noncomputable def Uvg : Code := Jk (Jls Tryz.f89) [1, 1, 0, 1, 0, 0, 1, 0, 0, 1, 0, 0]
abbrev UgJ : Sl (List SV) := (.c (sBx 55 (cB (cH .n))) (.c (sBx 55 (cB (cH .n))) (.c (sBx 55 (cB (.c sNl .n))) (cO 3 (cI (cI .n))))))
abbrev Ury (n m : Nat) (K : Kc R) : UgJ.T (O R) := fun x1 x2 x3 x4 x5 x6 x7 x8 => UdW n m x1 x2 x3 x4 x5 x6 x7 x8 (fun y1 y2 y3 y4 y5 y6 y7 => xL Udn 6 K (.exit 2) [.bx 55 [vB y1, vH y2], .bx 55 [vB y3, vH y4], .bx 55 [vB y5, .nl], .own 3 y6, vI y7])
abbrev UBn (n : Nat) (K : Kc R) (l0 : UgJ.T (O R)) : UgJ.T (O R) := fun x1 x2 x3 x4 x5 x6 x7 x8 => Uh6 n l0 x1 x2 x3 x4 x5 x6 x7 x8 (fun y1 y2 y3 y4 y5 y6 y7 => xL Udn 6 K (.exit 2) [.bx 55 [vB y1, vH y2], .bx 55 [vB y3, vH y4], .bx 55 [vB y5, .nl], .own 3 y6, vI y7])
noncomputable def UoP : Code := Jk (Jls Tryz.f89) [1, 1, 0, 1, 0, 0, 1, 0, 0, 1, 0, 0, 1, 0, 0, 1, 1, 1, 1, 0, 0]
abbrev Uer : Sl (List SV) := (.c (sBx 55 (cB (cH .n))) (.c (sBx 55 (cB (cH .n))) (.c (sBx 55 (cB (.c sNl .n))) (cO 3 (cI (cI (cI (cI .n))))))))
abbrev Uj5 (n m : Nat) (K : Kc R) : Uer.T (O R) := fun x1 x2 x3 x4 x5 x6 x7 x8 x9 x10 => Uci n m x1 x2 x3 x4 x5 x6 x7 x8 x9 x10 (fun y1 y2 y3 y4 y5 y6 y7 y8 => xL Udn 12 K (.exit 4) [.bx 55 [vB y1, vH y2], .bx 55 [vB y3, vH y4], .bx 55 [vB y5, .nl], .own 3 y6, vI y7, vI y8])
abbrev UxZ (n : Nat) (K : Kc R) (l0 : Uer.T (O R)) : Uer.T (O R) := fun x1 x2 x3 x4 x5 x6 x7 x8 x9 x10 => Ue8 n l0 x1 x2 x3 x4 x5 x6 x7 x8 x9 x10 (fun y1 y2 y3 y4 y5 y6 y7 y8 => xL Udn 12 K (.exit 4) [.bx 55 [vB y1, vH y2], .bx 55 [vB y3, vH y4], .bx 55 [vB y5, .nl], .own 3 y6, vI y7, vI y8])
abbrev UFe (n : Nat) : Orc R := oL Udn (E89 n) n 12 UoP Uer (Uj5 n n) (oL Udn (E89 n) n 6 Uvg UgJ (Ury n n) (oL Udn (E89 n) n 3 Uvf UgI (Urx n n) oN))
abbrev UE2 (n : Nat) : Orc R := oN
abbrev K89 (R : Type) (n : Nat) := JcK (R := R) Tryz.prog (UyM n) Udn n (85, []) (UFe n) (UE2 n)
theorem UAf (n : Nat) : K89 R n (false, 12, UoP) := JkM (lo := UFe n) (cu := UE2 n) (pO pN (by kernel_rfl)) Uer (Uj5 n n) (JiK (F := Uj5 n) Uer (UxZ n) (fun K _ _ _ _ _ _ _ _ _ _ => rfl) (fun _ _ => rfl) (fun L K _ _ _ _ _ _ _ _ _ _ => by show _ = _; kernel_rfl) n) fun _ _ => rfl
theorem UEp (n : Nat) : K89 R n (false, 6, Uvg) := JkM (lo := UFe n) (cu := UE2 n) (pO (pC (UAf n) pN) (by kernel_rfl)) UgJ (Ury n n) (JiK (F := Ury n) UgJ (UBn n) (fun K _ _ _ _ _ _ _ _ => rfl) (fun _ _ => rfl) (fun L K _ _ _ _ _ _ _ _ => by show _ = _; kernel_rfl) n) fun _ _ => rfl
theorem UEo (n : Nat) : K89 R n (false, 3, Uvf) := JkM (lo := UFe n) (cu := UE2 n) (pO (pC (UEp n) pN) (by kernel_rfl)) UgI (Urx n n) (JiK (F := Urx n) UgI (UBm n) (fun K _ _ _ _ _ _ _ => rfl) (fun _ _ => rfl) (fun L K _ _ _ _ _ _ _ => by show _ = _; kernel_rfl) n) fun _ _ => rfl
theorem UOA (n : Nat) : Jfb (K89 R n) (JaJ Udn (Jls Tryz.f89)) := pO (pC (UEo n) pN) (by kernel_rfl)
abbrev t89 : Sl (List SV) := (.c (sP (JlP (.c Jlm (.c sSh .n)))) (.c (sP (JlP (.c Jlm (.c sSh .n)))) .n))
abbrev f89 (n : Nat) (K : List SV → O R) : t89.T (O R) := fun x1 x2 x3 x4 => p89 n x1 x2 x3 x4 (fun y1 y2 => K [.p (.agg [.v (.bool y1), .sh y2])])
abbrev UF (n : Nat) : FS := fT [false, false] t89 (f89 n)
theorem UHq (n : Nat) : FSound Tryz.prog GI 89 (UF n) := gd Udn n (Uqt n) Tryz.func89 (.cons (Uqt n) t89 (f89 n) (fun K _ _ _ _ => (Jkx (c := Jls Tryz.f89) (by kernel_rfl) (UOA n) K).trans (by kernel_rfl)) .nil) (by kernel_rfl)
def UcT : Ann := { loops := [(3, [(0, .id), (2, .id), (3, .id), (4, .own 3)], ids [2, 3, 4])], cuts := [(7, ids [0, 2, 3, 4, 5], ids [0, 2, 3, 4])], frz := [], rm := [.id] }
abbrev Upp (n : Nat) : Env := eC 122 (UiW n) eN
theorem Umb (n : Nat) : EnvOK Tryz.prog GI (Upp n) := .cons (.nil) (Uj9 n)
def Uke (n : Nat) (x1 : Int) (x2 x3 : Bool) (x4 : LP) (x5 : Int) (k0 : Int → Bool → Bool → LP → O R) : O R :=
  bif (Jbv (1 + (x4).length) 8) then (bif decide (10 = 0) then none else (k0 (IntKind.i64.wrap (Int.tdiv x1 10)) x2 x3 (([.v (.int .i64 x5)] : LP) ++ x4))) else none
def UmU (n : Nat) (l0 : Int → Bool → Bool → LP → O R) (x1 : Int) (x2 x3 : Bool) (x4 : LP) (k0 : Bool → Bool → LP → O R) : O R :=
  bif (x1 != 0) then (bif decide (10 = 0) then none else (bif (decide (Int.tmod x1 10 < 0)) then (let v5 := IntKind.i64.wrap (0 - (Int.tmod x1 10)); Uke n x1 x2 x3 x4 v5 (fun y6 y7 y8 y9 => l0 y6 y7 y8 y9)) else (Uke n x1 x2 x3 x4 (Int.tmod x1 10) (fun y10 y11 y12 y13 => l0 y10 y11 y12 y13)))) else (k0 x2 x3 x4)
def UhA (n : Nat) : Nat → Int → Bool → Bool → LP → (Bool → Bool → LP → O R) → O R
  | 0, _, _, _, _, _ => none
  | m + 1, x1, x2, x3, x4, k0 => UmU n (fun x1 x2 x3 x4 => UhA n m x1 x2 x3 x4 k0) x1 x2 x3 x4 k0
def Uzm (n : Nat) (x1 : Int) (x2 x3 : Bool) (x4 : LP) (k0 : Bool → Bool → LP → O R) : O R := UhA n n x1 x2 x3 x4 k0
def UHy (n : Nat) (x1 : Int) (k0 : Bool → LP → O R) : O R :=
  Uzm n x1 false (decide (x1 < 0)) [] (fun y2 y3 y4 => UmS n y3 y4 (fun y5 y6 => k0 y5 y6))
abbrev UI6 (n : Nat) : Code → Fr → Kc R → O R := evC Tryz.prog (Upp n) UcT n (25, [])
noncomputable def Uoz : Code := Jk (Jls Tryz.f171) [1, 1, 1, 0, 0, 0, 1, 0, 1, 1]
abbrev UkL : Sl (List SV) := (cI (.c (sBx 55 (cB (.c sNl .n))) (cB (cO 3 (cI .n)))))
abbrev UqV (n : Nat) (K : Kc R) : UkL.T (O R) := fun x1 x2 x3 x4 x5 => Uke n x1 x2 x3 x4 x5 (fun y1 y2 y3 y4 => xC UcT 7 K .normal [vI y1, .bx 55 [vB y2, .nl], vB y3, .own 3 y4])
noncomputable def UoA : Code := Jk (Jls Tryz.f171) [1, 1, 1, 0, 0, 0]
abbrev Uel : Sl (List SV) := (cI (.c (sBx 55 (cB (.c sNl .n))) (cB (cO 3 .n))))
abbrev UjZ (n m : Nat) (K : Kc R) : Uel.T (O R) := fun x1 x2 x3 x4 => UhA n m x1 x2 x3 x4 (fun y1 y2 y3 => xL UcT 3 K (.exit 0) [.bx 55 [vB y1, .nl], vB y2, .own 3 y3])
abbrev UxO (n : Nat) (K : Kc R) (l0 : Uel.T (O R)) : Uel.T (O R) := fun x1 x2 x3 x4 => UmU n l0 x1 x2 x3 x4 (fun y1 y2 y3 => xL UcT 3 K (.exit 0) [.bx 55 [vB y1, .nl], vB y2, .own 3 y3])
abbrev Uze (n : Nat) : Orc R := oL UcT (UI6 n) n 3 UoA Uel (UjZ n n) oN
abbrev Uya (n : Nat) : Orc R := oC UcT (UI6 n) 7 Uoz UkL (UqV n) oN
abbrev UFC (R : Type) (n : Nat) := JcK (R := R) Tryz.prog (Upp n) UcT n (25, []) (Uze n) (Uya n)
theorem Uz0 (n : Nat) : UFC R n (true, 7, Uoz) := Jk3 (lo := Uze n) (cu := Uya n) (pO pN (by kernel_rfl)) UkL (UqV n) (fun K _ _ _ _ _ => by show _ = _; kernel_rfl) fun _ _ => rfl
theorem Uz1 (n : Nat) : UFC R n (false, 3, UoA) := JkM (lo := Uze n) (cu := Uya n) (pO (pC (Uz0 n) pN) (by kernel_rfl)) Uel (UjZ n n) (JiK (F := UjZ n) Uel (UxO n) (fun K _ _ _ _ => rfl) (fun _ _ => rfl) (fun L K _ _ _ _ => by show _ = _; kernel_rfl) n) fun _ _ => rfl
theorem UH9 (n : Nat) : Jfb (UFC R n) (JaJ UcT (Jls Tryz.f171)) := pO (pC (Uz1 n) pN) (by kernel_rfl)
abbrev UIP : Sl (List SV) := (cI .n)
abbrev f171 (n : Nat) (K : List SV → O R) : UIP.T (O R) := fun x1 => UHy n x1 (fun y1 y2 => K [.p (.agg [.v (.bool y1), .sh y2])])
abbrev UCV (n : Nat) : FS := fT [false] UIP (f171 n)
theorem UHg (n : Nat) : FSound Tryz.prog GI 171 (UCV n) := gd UcT n (Umb n) Tryz.func171 (.cons (Umb n) UIP (f171 n) (fun K _ => (Jkx (c := Jls Tryz.f171) (by kernel_rfl) (UH9 n) K).trans (by kernel_rfl)) .nil) (by kernel_rfl)
def UbF : Ann := { loops := [(4, [(2, .id), (3, .id), (4, .id), (5, .id), (6, .id), (7, .own 3), (8, .id)], ids [2, 3, 4, 5, 6, 7]), (10, ids [2, 3, 4, 5, 6, 7, 8, 10], ids [2, 3, 4, 5, 6, 7, 8, 10])], cuts := [(17, ids [2, 3, 4, 5, 11], ids [4, 5])], frz := [], rm := [.id, .id] }
abbrev Upm (n : Nat) : Env := eC 171 (UCV n) (eC 147 (Uy1 n) (eC 146 (Uy0 n) (eC 122 (UiW n) (eC 121 (UyW n) (eC 89 (UF n) eN)))))
theorem Ul8 (n : Nat) : EnvOK Tryz.prog GI (Upm n) := .cons (.cons (.cons (.cons (.cons (.cons (.nil) (UHq n)) (UDg n)) (Uj9 n)) (UDk n)) (UDl n)) (UHg n)
def UfC (n : Nat) (l0 : Bool → LP → Bool → LP → Bool → Bool → Bool → LP → LP → Int → Int → O R) (x1 : Bool) (x2 : LP) (x3 : Bool) (x4 : LP) (x5 x6 x7 : Bool) (x8 x9 : LP) (x10 x11 : Int) (k0 : Bool → LP → Bool → LP → Bool → Bool → Bool → LP → LP → Int → Int → O R) : O R :=
  UDv n x8 x4 (fun y12 => bif (decide (y12 ≥ 0)) then (Uzl n x8 x4 (-1) (fun y13 => UmS n false y13 (fun y14 y15 => l0 x1 x2 x3 x4 x5 x6 y14 y15 x9 x10 (IntKind.i64.wrap (x11 + 1))))) else (k0 x1 x2 x3 x4 x5 x6 x7 x8 x9 x10 x11))
def UbS (n : Nat) : Nat → Bool → LP → Bool → LP → Bool → Bool → Bool → LP → LP → Int → Int → (Bool → LP → Bool → LP → Bool → Bool → Bool → LP → LP → Int → Int → O R) → O R
  | 0, _, _, _, _, _, _, _, _, _, _, _, _ => none
  | m + 1, x1, x2, x3, x4, x5, x6, x7, x8, x9, x10, x11, k0 => UfC n (fun x1 x2 x3 x4 x5 x6 x7 x8 x9 x10 x11 => UbS n m x1 x2 x3 x4 x5 x6 x7 x8 x9 x10 x11 k0) x1 x2 x3 x4 x5 x6 x7 x8 x9 x10 x11 k0
def UmT (n : Nat) (x1 : Bool) (x2 : LP) (x3 : Bool) (x4 : LP) (x5 x6 x7 : Bool) (x8 x9 : LP) (x10 x11 : Int) (k0 : Bool → LP → Bool → LP → Bool → Bool → Bool → LP → LP → Int → Int → O R) : O R := UbS n n x1 x2 x3 x4 x5 x6 x7 x8 x9 x10 x11 k0
def Ue1 (n : Nat) (l0 : Bool → LP → Bool → LP → Bool → Bool → Bool → LP → LP → Int → O R) (x1 : Bool) (x2 : LP) (x3 : Bool) (x4 : LP) (x5 x6 x7 : Bool) (x8 x9 : LP) (x10 : Int) (k0 : Bool → LP → Bool → LP → Bool → Bool → Bool → LP → LP → O R) : O R :=
  bif (decide (x10 < ((x2).length : Int))) then (bif (JgD 1 x8 && Jbv ((x8).length) 8) then (bif (inR x10 ((x2).length)) then (Jjf .i64 ((x2).getD ((x10 : Int).toNat) (.v (.bool false))) fun e11 => bif (Jbv ((x8).length + 1) 8) then (UmS n false (x8 ++ ([.v (.int .i64 e11)] : LP)) (fun y12 y13 => UmT n x1 x2 x3 x4 x5 x6 y12 y13 x9 x10 0 (fun y14 y15 y16 y17 y18 y19 y20 y21 y22 y23 y24 => bif (Jbv ((y22).length + 1) 8) then (l0 y14 y15 y16 y17 y18 y19 y20 y21 (y22 ++ ([.v (.int .i64 y24)] : LP)) (IntKind.i64.wrap (y23 + 1))) else none))) else none) else none) else none) else (k0 x1 x2 x3 x4 x5 x6 x7 x8 x9)
def Ubw (n : Nat) : Nat → Bool → LP → Bool → LP → Bool → Bool → Bool → LP → LP → Int → (Bool → LP → Bool → LP → Bool → Bool → Bool → LP → LP → O R) → O R
  | 0, _, _, _, _, _, _, _, _, _, _, _ => none
  | m + 1, x1, x2, x3, x4, x5, x6, x7, x8, x9, x10, k0 => Ue1 n (fun x1 x2 x3 x4 x5 x6 x7 x8 x9 x10 => Ubw n m x1 x2 x3 x4 x5 x6 x7 x8 x9 x10 k0) x1 x2 x3 x4 x5 x6 x7 x8 x9 x10 k0
def Usf (n : Nat) (x1 : Bool) (x2 : LP) (x3 : Bool) (x4 : LP) (x5 x6 x7 : Bool) (x8 x9 : LP) (x10 : Int) (k0 : Bool → LP → Bool → LP → Bool → Bool → Bool → LP → LP → O R) : O R := Ubw n n x1 x2 x3 x4 x5 x6 x7 x8 x9 x10 k0
def Uca (n : Nat) (x1 : Bool) (x2 : LP) (x3 : Bool) (x4 : LP) (x5 x6 x7 : Bool) (x8 : LP) (k0 : Bool → LP → Bool → LP → O R) : O R :=
  p89 n x7 x8 x3 x4 (fun y9 y10 => Uzj n x1 x2 y9 y10 (fun y11 y12 => k0 x7 x8 y11 y12))
def Uzk (n : Nat) (x1 : Bool) (x2 : LP) (x3 : Bool) (x4 : LP) (k0 : Bool → LP → Bool → LP → O R) : O R :=
  Usf n x1 x2 x3 x4 false false false [] [] 0 (fun y5 y6 y7 y8 y9 y10 y11 y12 y13 => UmS n (!(y5 == y7)) y13 (fun y14 y15 => bif (decide (((y12).length : Int) > 0)) then (bif (bif true then (!(y5 == y7)) else false) then (UHy n 1 (fun y16 y17 => Uzj n y14 y15 y16 y17 (fun y18 y19 => Uca n y5 y6 y7 y8 y9 y10 y18 y19 (fun y20 y21 y22 y23 => k0 y20 y21 y22 y23)))) else (Uca n y5 y6 y7 y8 y9 y10 y14 y15 (fun y24 y25 y26 y27 => k0 y24 y25 y26 y27))) else (Uca n y5 y6 y7 y8 y9 y10 y14 y15 (fun y28 y29 y30 y31 => k0 y28 y29 y30 y31))))
abbrev UFy (n : Nat) : Code → Fr → Kc R → O R := evC Tryz.prog (Upm n) UbF n (78, [])
noncomputable def Ulm : Code := Jk (Jls Tryz.f145) [1, 1, 1, 1, 1, 1]
abbrev Uix : Sl (List SV) := (.c (sBx 55 (cB (cH .n))) (.c (sBx 55 (cB (cH .n))) (.c (sBx 55 (cB (.c sNl .n))) (.c (sBx 55 (cB (.c sNl .n))) (.c (sBx 55 (cB (cH .n))) .n)))))
abbrev Umu (n : Nat) (K : Kc R) : Uix.T (O R) := fun x1 x2 x3 x4 x5 x6 x7 x8 => Uca n x1 x2 x3 x4 x5 x6 x7 x8 (fun y1 y2 y3 y4 => xC UbF 17 K .ret [.bx 55 [vB y1, vH y2], .bx 55 [vB y3, vH y4]])
noncomputable def Uou : Code := Jk (Jls Tryz.f145) [1, 1, 1, 0, 1, 0, 0]
abbrev Uei : Sl (List SV) := (.c (sBx 55 (cB (cH .n))) (.c (sBx 55 (cB (cH .n))) (.c (sBx 55 (cB (.c sNl .n))) (.c (sBx 55 (cB (.c sNl .n))) (.c (sBx 55 (cB (cH .n))) (cO 3 (cI .n)))))))
abbrev UjW (n m : Nat) (K : Kc R) : Uei.T (O R) := fun x1 x2 x3 x4 x5 x6 x7 x8 x9 x10 => Ubw n m x1 x2 x3 x4 x5 x6 x7 x8 x9 x10 (fun y1 y2 y3 y4 y5 y6 y7 y8 y9 => xL UbF 4 K (.exit 0) [.bx 55 [vB y1, vH y2], .bx 55 [vB y3, vH y4], .bx 55 [vB y5, .nl], .bx 55 [vB y6, .nl], .bx 55 [vB y7, vH y8], .own 3 y9])
abbrev UxL (n : Nat) (K : Kc R) (l0 : Uei.T (O R)) : Uei.T (O R) := fun x1 x2 x3 x4 x5 x6 x7 x8 x9 x10 => Ue1 n l0 x1 x2 x3 x4 x5 x6 x7 x8 x9 x10 (fun y1 y2 y3 y4 y5 y6 y7 y8 y9 => xL UbF 4 K (.exit 0) [.bx 55 [vB y1, vH y2], .bx 55 [vB y3, vH y4], .bx 55 [vB y5, .nl], .bx 55 [vB y6, .nl], .bx 55 [vB y7, vH y8], .own 3 y9])
noncomputable def Uln : Code := Jk (Jls Tryz.f145) [1, 1, 1, 0, 1, 0, 0, 1, 0, 0, 1, 1, 1, 1, 0, 0, 0]
abbrev Uco : Sl (List SV) := (.c (sBx 55 (cB (cH .n))) (.c (sBx 55 (cB (cH .n))) (.c (sBx 55 (cB (.c sNl .n))) (.c (sBx 55 (cB (.c sNl .n))) (.c (sBx 55 (cB (cH .n))) (cO 3 (cI (cI .n))))))))
abbrev Uhb (n m : Nat) (K : Kc R) : Uco.T (O R) := fun x1 x2 x3 x4 x5 x6 x7 x8 x9 x10 x11 => UbS n m x1 x2 x3 x4 x5 x6 x7 x8 x9 x10 x11 (fun y1 y2 y3 y4 y5 y6 y7 y8 y9 y10 y11 => xL UbF 10 K (.exit 2) [.bx 55 [vB y1, vH y2], .bx 55 [vB y3, vH y4], .bx 55 [vB y5, .nl], .bx 55 [vB y6, .nl], .bx 55 [vB y7, vH y8], .own 3 y9, vI y10, vI y11])
abbrev Utn (n : Nat) (K : Kc R) (l0 : Uco.T (O R)) : Uco.T (O R) := fun x1 x2 x3 x4 x5 x6 x7 x8 x9 x10 x11 => UfC n l0 x1 x2 x3 x4 x5 x6 x7 x8 x9 x10 x11 (fun y1 y2 y3 y4 y5 y6 y7 y8 y9 y10 y11 => xL UbF 10 K (.exit 2) [.bx 55 [vB y1, vH y2], .bx 55 [vB y3, vH y4], .bx 55 [vB y5, .nl], .bx 55 [vB y6, .nl], .bx 55 [vB y7, vH y8], .own 3 y9, vI y10, vI y11])
abbrev UtL (n : Nat) : Orc R := oL UbF (UFy n) n 10 Uln Uco (Uhb n n) (oL UbF (UFy n) n 4 Uou Uei (UjW n n) oN)
abbrev Utx (n : Nat) : Orc R := oC UbF (UFy n) 17 Ulm Uix (Umu n) oN
abbrev UEX (R : Type) (n : Nat) := JcK (R := R) Tryz.prog (Upm n) UbF n (78, []) (UtL n) (Utx n)
theorem Uuj (n : Nat) : UEX R n (false, 10, Uln) := JkM (lo := UtL n) (cu := Utx n) (pO pN (by kernel_rfl)) Uco (Uhb n n) (JiK (F := Uhb n) Uco (Utn n) (fun K _ _ _ _ _ _ _ _ _ _ _ => rfl) (fun _ _ => rfl) (fun L K _ _ _ _ _ _ _ _ _ _ _ => by show _ = _; kernel_rfl) n) fun _ _ => rfl
theorem UzV (n : Nat) : UEX R n (false, 4, Uou) := JkM (lo := UtL n) (cu := Utx n) (pO (pC (Uuj n) pN) (by kernel_rfl)) Uei (UjW n n) (JiK (F := UjW n) Uei (UxL n) (fun K _ _ _ _ _ _ _ _ _ _ => rfl) (fun _ _ => rfl) (fun L K _ _ _ _ _ _ _ _ _ _ => by show _ = _; kernel_rfl) n) fun _ _ => rfl
theorem Uui (n : Nat) : UEX R n (true, 17, Ulm) := Jk3 (lo := UtL n) (cu := Utx n) (pO pN (by kernel_rfl)) Uix (Umu n) (fun K _ _ _ _ _ _ _ _ => by show _ = _; kernel_rfl) fun _ _ => rfl
theorem UH5 (n : Nat) : Jfb (UEX R n) (JaJ UbF (Jls Tryz.f145)) := pO (pC (UzV n) (pC (Uui n) pN)) (by kernel_rfl)
abbrev UIL : Sl (List SV) := (.c (sP (JlP (.c Jlm (.c sSh .n)))) (.c (sP (JlP (.c Jlm (.c sSh .n)))) .n))
abbrev f145 (n : Nat) (K : List SV → O R) : UIL.T (O R) := fun x1 x2 x3 x4 => Uzk n x1 x2 x3 x4 (fun y1 y2 y3 y4 => K [.p (.agg [.v (.bool y1), .sh y2]), .p (.agg [.v (.bool y3), .sh y4])])
abbrev UyZ (n : Nat) : FS := fT [false, false] UIL (f145 n)
theorem UDj (n : Nat) : FSound Tryz.prog GI 145 (UyZ n) := gd UbF n (Ul8 n) Tryz.func145 (.cons (Ul8 n) UIL (f145 n) (fun K _ _ _ _ => (Jkx (c := Jls Tryz.f145) (by kernel_rfl) (UH5 n) K).trans (by kernel_rfl)) .nil) (by kernel_rfl)
def Ufk : Ann := { loops := [(1, ids [2, 3, 4], ids [2, 4])], cuts := [], frz := [], rm := [.id] }
abbrev Upl (n : Nat) : Env := eC 145 (UyZ n) (eC 122 (UiW n) eN)
theorem Ul6 (n : Nat) : EnvOK Tryz.prog GI (Upl n) := .cons (.cons (.nil) (Uj9 n)) (UDj n)
def Uhy (n : Nat) (l0 : Bool → LP → Bool → LP → Bool → O R) (x1 : Bool) (x2 : LP) (x3 : Bool) (x4 : LP) (x5 : Bool) (k0 : Bool → LP → Bool → O R) : O R :=
  bif (decide (((x4).length : Int) > 0)) then (Uzk n x1 x2 x3 x4 (fun y6 y7 y8 y9 => l0 x3 x4 y8 y9 x5)) else (k0 x1 x2 x5)
def Udc (n : Nat) : Nat → Bool → LP → Bool → LP → Bool → (Bool → LP → Bool → O R) → O R
  | 0, _, _, _, _, _, _ => none
  | m + 1, x1, x2, x3, x4, x5, k0 => Uhy n (fun x1 x2 x3 x4 x5 => Udc n m x1 x2 x3 x4 x5 k0) x1 x2 x3 x4 x5 k0
def Use (n : Nat) (x1 : Bool) (x2 : LP) (x3 : Bool) (x4 : LP) (x5 : Bool) (k0 : Bool → LP → Bool → O R) : O R := Udc n n x1 x2 x3 x4 x5 k0
def UFs (n : Nat) (x1 : Bool) (x2 : LP) (x3 : Bool) (x4 : LP) (k0 : Bool → LP → O R) : O R :=
  Use n x1 x2 x3 x4 false (fun y5 y6 y7 => UmS n false y6 (fun y8 y9 => k0 y8 y9))
abbrev ULh (n : Nat) : Code → Fr → Kc R → O R := evC Tryz.prog (Upl n) Ufk n (22, [])
noncomputable def Uot : Code := Jk (Jls Tryz.f143) [1, 0, 0, 0]
abbrev Ueh : Sl (List SV) := (.c (sBx 55 (cB (cH .n))) (.c (sBx 55 (cB (cH .n))) (.c (sBx 55 (cB (.c sNl .n))) .n)))
abbrev UjV (n m : Nat) (K : Kc R) : Ueh.T (O R) := fun x1 x2 x3 x4 x5 => Udc n m x1 x2 x3 x4 x5 (fun y1 y2 y3 => xL Ufk 1 K (.exit 0) [.bx 55 [vB y1, vH y2], .bx 55 [vB y3, .nl]])
abbrev UxK (n : Nat) (K : Kc R) (l0 : Ueh.T (O R)) : Ueh.T (O R) := fun x1 x2 x3 x4 x5 => Uhy n l0 x1 x2 x3 x4 x5 (fun y1 y2 y3 => xL Ufk 1 K (.exit 0) [.bx 55 [vB y1, vH y2], .bx 55 [vB y3, .nl]])
abbrev UDa (n : Nat) : Orc R := oL Ufk (ULh n) n 1 Uot Ueh (UjV n n) oN
abbrev UBD (n : Nat) : Orc R := oN
abbrev UJe (R : Type) (n : Nat) := JcK (R := R) Tryz.prog (Upl n) Ufk n (22, []) (UDa n) (UBD n)
theorem UzU (n : Nat) : UJe R n (false, 1, Uot) := JkM (lo := UDa n) (cu := UBD n) (pO pN (by kernel_rfl)) Ueh (UjV n n) (JiK (F := UjV n) Ueh (UxK n) (fun K _ _ _ _ _ => rfl) (fun _ _ => rfl) (fun L K _ _ _ _ _ => by show _ = _; kernel_rfl) n) fun _ _ => rfl
theorem UH3 (n : Nat) : Jfb (UJe R n) (JaJ Ufk (Jls Tryz.f143)) := pO (pC (UzU n) pN) (by kernel_rfl)
abbrev UIJ : Sl (List SV) := (.c (sP (JlP (.c Jlm (.c sSh .n)))) (.c (sP (JlP (.c Jlm (.c sSh .n)))) .n))
abbrev f143 (n : Nat) (K : List SV → O R) : UIJ.T (O R) := fun x1 x2 x3 x4 => UFs n x1 x2 x3 x4 (fun y1 y2 => K [.p (.agg [.v (.bool y1), .sh y2])])
abbrev UCR (n : Nat) : FS := fT [false, false] UIJ (f143 n)
theorem UHc (n : Nat) : FSound Tryz.prog GI 143 (UCR n) := gd Ufk n (Ul6 n) Tryz.func143 (.cons (Ul6 n) UIJ (f143 n) (fun K _ _ _ _ => (Jkx (c := Jls Tryz.f143) (by kernel_rfl) (UH3 n) K).trans (by kernel_rfl)) .nil) (by kernel_rfl)
def UcO : Ann := { loops := [(7, ids [1, 3, 4], ids [2, 3])], cuts := [(6, ids [1, 3], ids [2])], frz := [], rm := [.id] }
abbrev Upa (n : Nat) : Env := eN
theorem UlO (n : Nat) : EnvOK Tryz.prog GI (Upa n) := .nil
def UeS (n : Nat) (l0 : Bool → LP → ByteArray → Int → O R) (x1 : Bool) (x2 : LP) (x3 : ByteArray) (x4 : Int) (k0 : ByteArray → O R) : O R :=
  bif (decide (x4 < ((x2).length : Int))) then (bif (inR x4 ((x2).length)) then (Jjf .i64 ((x2).getD ((x4 : Int).toNat) (.v (.bool false))) fun e5 => bif (inR x4 ((x2).length)) then (Jjf .i64 ((x2).getD ((x4 : Int).toNat) (.v (.bool false))) fun e6 => bif (Jfa e5 (IntKind.i64.wrap (e6 + 1)) ((⟨#[48, 49, 50, 51, 52, 53, 54, 55, 56, 57]⟩ : ByteArray)).size) then (Jj6 x3 (ByteArray.extract (⟨#[48, 49, 50, 51, 52, 53, 54, 55, 56, 57]⟩ : ByteArray) (e5 : Int).toNat (IntKind.i64.wrap (e6 + 1) : Int).toNat) fun s7 => l0 x1 x2 s7 (IntKind.i64.wrap (x4 + 1))) else none) else none) else none) else (k0 x3)
def Ub4 (n : Nat) : Nat → Bool → LP → ByteArray → Int → (ByteArray → O R) → O R
  | 0, _, _, _, _, _ => none
  | m + 1, x1, x2, x3, x4, k0 => UeS n (fun x1 x2 x3 x4 => Ub4 n m x1 x2 x3 x4 k0) x1 x2 x3 x4 k0
def Ur5 (n : Nat) (x1 : Bool) (x2 : LP) (x3 : ByteArray) (x4 : Int) (k0 : ByteArray → O R) : O R := Ub4 n n x1 x2 x3 x4 k0
def Uho (n : Nat) (x1 : Bool) (x2 : LP) (x3 : ByteArray) (k0 : ByteArray → O R) : O R :=
  Ur5 n x1 x2 x3 0 (fun y4 => k0 y4)
def UAK (n : Nat) (x1 : Bool) (x2 : LP) (k0 : ByteArray → O R) : O R :=
  bif (((x2).length : Int) == 0) then (k0 ⟨#[48]⟩) else (bif x1 then (Uho n x1 x2 ⟨#[45]⟩ (fun y3 => k0 y3)) else (Uho n x1 x2 ⟨#[]⟩ (fun y4 => k0 y4)))
abbrev UI2 (n : Nat) : Code → Fr → Kc R → O R := evC Tryz.prog (Upa n) UcO n (33, [])
noncomputable def Uo : Code := Jk (Jls Tryz.f112) [1, 1, 1, 1]
abbrev Uky : Sl (List SV) := (.c (sBx 55 (cB (cH .n))) (cS .n))
abbrev UqH (n : Nat) (K : Kc R) : Uky.T (O R) := fun x1 x2 x3 => Uho n x1 x2 x3 (fun y1 => xC UcO 6 K .ret [vS y1])
noncomputable def Uoa : Code := Jk (Jls Tryz.f112) [1, 1, 1, 1, 0, 1, 0, 0]
abbrev Ud9 : Sl (List SV) := (.c (sBx 55 (cB (cH .n))) (cS (cI .n)))
abbrev UjM (n m : Nat) (K : Kc R) : Ud9.T (O R) := fun x1 x2 x3 x4 => Ub4 n m x1 x2 x3 x4 (fun y1 => xL UcO 7 K (.exit 0) [dD, vS y1])
abbrev UxB (n : Nat) (K : Kc R) (l0 : Ud9.T (O R)) : Ud9.T (O R) := fun x1 x2 x3 x4 => UeS n l0 x1 x2 x3 x4 (fun y1 => xL UcO 7 K (.exit 0) [dD, vS y1])
abbrev Uzb (n : Nat) : Orc R := oL UcO (UI2 n) n 7 Uoa Ud9 (UjM n n) oN
abbrev Ux8 (n : Nat) : Orc R := oC UcO (UI2 n) 6 Uo Uky (UqH n) oN
abbrev UFz (R : Type) (n : Nat) := JcK (R := R) Tryz.prog (Upa n) UcO n (33, []) (Uzb n) (Ux8 n)
theorem UzA (n : Nat) : UFz R n (false, 7, Uoa) := JkM (lo := Uzb n) (cu := Ux8 n) (pO pN (by kernel_rfl)) Ud9 (UjM n n) (JiK (F := UjM n) Ud9 (UxB n) (fun K _ _ _ _ => rfl) (fun _ _ => rfl) (fun L K _ _ _ _ => by show _ = _; kernel_rfl) n) fun _ _ => rfl
theorem Uzz (n : Nat) : UFz R n (true, 6, Uo) := Jk3 (lo := Uzb n) (cu := Ux8 n) (pO (pC (UzA n) pN) (by kernel_rfl)) Uky (UqH n) (fun K _ _ _ => by show _ = _; kernel_rfl) fun _ _ => rfl
theorem UHL (n : Nat) : Jfb (UFz R n) (JaJ UcO (Jls Tryz.f112)) := pO (pC (Uzz n) pN) (by kernel_rfl)
abbrev UIr : Sl (List SV) := (.c (sP (JlP (.c Jlm (.c sSh .n)))) .n)
abbrev f112 (n : Nat) (K : List SV → O R) : UIr.T (O R) := fun x1 x2 => UAK n x1 x2 (fun y1 => K [vS y1])
abbrev UCz (n : Nat) : FS := fT [false] UIr (f112 n)
theorem UGV (n : Nat) : FSound Tryz.prog GI 112 (UCz n) := gd UcO n (UlO n) Tryz.func112 (.cons (UlO n) UIr (f112 n) (fun K _ _ => (Jkx (c := Jls Tryz.f112) (by kernel_rfl) (UHL n) K).trans (by kernel_rfl)) .nil) (by kernel_rfl)
def UcQ : Ann := { loops := [(4, [(0, .id), (2, .id), (3, .id), (4, .own 3), (5, .id)], ids [2, 3, 4])], cuts := [(5, ids [0, 2, 3, 4, 5], ids [0, 2, 3, 4, 5])], frz := [], rm := [.id] }
abbrev Uph (n : Nat) : Env := eC 122 (UiW n) eN
theorem UlZ (n : Nat) : EnvOK Tryz.prog GI (Uph n) := .cons (.nil) (Uj9 n)
def UfB (n : Nat) (x1 : ByteArray) (x2 x3 : Bool) (x4 : LP) (x5 : Int) (k0 : ByteArray → Bool → Bool → LP → Int → O R) : O R :=
  k0 x1 x2 x3 x4 (IntKind.i64.wrap (x5 + 1))
def Udb (n : Nat) (l0 : ByteArray → Bool → Bool → LP → Int → O R) (x1 : ByteArray) (x2 x3 : Bool) (x4 : LP) (x5 : Int) (k0 : Bool → Bool → LP → O R) : O R :=
  bif (decide (x5 < ((x1).size : Int))) then (bif (inR x5 (x1).size) then (bif (Jc9 x1 x5 == 45) then (UfB n x1 x2 true x4 x5 (fun y6 y7 y8 y9 y10 => l0 y6 y7 y8 y9 y10)) else (bif (inR x5 (x1).size) then (let v11 := IntKind.u8.wrap ((Jc9 x1 x5) - 48); bif (Jbv ((x4).length + 1) 8) then (UfB n x1 x2 x3 (x4 ++ ([.v (.int .i64 (IntKind.i64.wrap (v11)))] : LP)) x5 (fun y12 y13 y14 y15 y16 => l0 y12 y13 y14 y15 y16)) else none) else none)) else none) else (k0 x2 x3 x4)
def Ubu (n : Nat) : Nat → ByteArray → Bool → Bool → LP → Int → (Bool → Bool → LP → O R) → O R
  | 0, _, _, _, _, _, _ => none
  | m + 1, x1, x2, x3, x4, x5, k0 => Udb n (fun x1 x2 x3 x4 x5 => Ubu n m x1 x2 x3 x4 x5 k0) x1 x2 x3 x4 x5 k0
def Us (n : Nat) (x1 : ByteArray) (x2 x3 : Bool) (x4 : LP) (x5 : Int) (k0 : Bool → Bool → LP → O R) : O R := Ubu n n x1 x2 x3 x4 x5 k0
def Uwc (n : Nat) (x1 : ByteArray) (k0 : Bool → LP → O R) : O R :=
  Us n x1 false false [] 0 (fun y2 y3 y4 => UmS n y3 y4 (fun y5 y6 => k0 y5 y6))
abbrev UI5 (n : Nat) : Code → Fr → Kc R → O R := evC Tryz.prog (Uph n) UcQ n (27, [])
noncomputable def Uom : Code := Jk (Jls Tryz.f125) [1, 1, 1, 0, 1, 0, 0, 1, 1]
abbrev UkG : Sl (List SV) := (cS (.c (sBx 55 (cB (.c sNl .n))) (cB (cO 3 (cI .n)))))
abbrev UqP (n : Nat) (K : Kc R) : UkG.T (O R) := fun x1 x2 x3 x4 x5 => UfB n x1 x2 x3 x4 x5 (fun y1 y2 y3 y4 y5 => xC UcQ 5 K .normal [vS y1, .bx 55 [vB y2, .nl], vB y3, .own 3 y4, vI y5])
noncomputable def Uon : Code := Jk (Jls Tryz.f125) [1, 1, 1, 0, 1, 0, 0]
abbrev Ued : Sl (List SV) := (cS (.c (sBx 55 (cB (.c sNl .n))) (cB (cO 3 (cI .n)))))
abbrev UjR (n m : Nat) (K : Kc R) : Ued.T (O R) := fun x1 x2 x3 x4 x5 => Ubu n m x1 x2 x3 x4 x5 (fun y1 y2 y3 => xL UcQ 4 K (.exit 0) [.bx 55 [vB y1, .nl], vB y2, .own 3 y3])
abbrev UxG (n : Nat) (K : Kc R) (l0 : Ued.T (O R)) : Ued.T (O R) := fun x1 x2 x3 x4 x5 => Udb n l0 x1 x2 x3 x4 x5 (fun y1 y2 y3 => xL UcQ 4 K (.exit 0) [.bx 55 [vB y1, .nl], vB y2, .own 3 y3])
abbrev Uzd (n : Nat) : Orc R := oL UcQ (UI5 n) n 4 Uon Ued (UjR n n) oN
abbrev Uy (n : Nat) : Orc R := oC UcQ (UI5 n) 5 Uom UkG (UqP n) oN
abbrev UFB (R : Type) (n : Nat) := JcK (R := R) Tryz.prog (Uph n) UcQ n (27, []) (Uzd n) (Uy n)
theorem UzN (n : Nat) : UFB R n (true, 5, Uom) := Jk3 (lo := Uzd n) (cu := Uy n) (pO pN (by kernel_rfl)) UkG (UqP n) (fun K _ _ _ _ _ => by show _ = _; kernel_rfl) fun _ _ => rfl
theorem UzO (n : Nat) : UFB R n (false, 4, Uon) := JkM (lo := Uzd n) (cu := Uy n) (pO (pC (UzN n) pN) (by kernel_rfl)) Ued (UjR n n) (JiK (F := UjR n) Ued (UxG n) (fun K _ _ _ _ _ => rfl) (fun _ _ => rfl) (fun L K _ _ _ _ _ => by show _ = _; kernel_rfl) n) fun _ _ => rfl
theorem UHW (n : Nat) : Jfb (UFB R n) (JaJ UcQ (Jls Tryz.f125)) := pO (pC (UzO n) pN) (by kernel_rfl)
abbrev UIC : Sl (List SV) := (cS .n)
abbrev f125 (n : Nat) (K : List SV → O R) : UIC.T (O R) := fun x1 => Uwc n x1 (fun y1 y2 => K [.p (.agg [.v (.bool y1), .sh y2])])
abbrev UyY (n : Nat) : FS := fT [false] UIC (f125 n)
theorem UDi (n : Nat) : FSound Tryz.prog GI 125 (UyY n) := gd UcQ n (UlZ n) Tryz.func125 (.cons (UlZ n) UIC (f125 n) (fun K _ => (Jkx (c := Jls Tryz.f125) (by kernel_rfl) (UHW n) K).trans (by kernel_rfl)) .nil) (by kernel_rfl)
end
end Go.Proofs.YtmgfmlhdnadglaaGreatDoor
set_option linter.unusedVariables false
set_option linter.unusedSimpArgs false
namespace Go.Proofs.YtmgfmlhdnadglaaGreatDoor
open Go Th Go.Proofs
variable {R : Type}
theorem UfX {l : List Nat} {i : Nat} (h : i < l.length) : l = l.take i ++ l.getD i 0 :: l.drop (i + 1) := by
  conv => lhs; rw [← List.take_append_drop i l]
  rw [UcW h]
theorem UwK {l : List Nat} {i : Nat} (d : Nat) (h : i < l.length) : vb (l.set i d) + l.getD i 0 * 10 ^ (l.length - 1 - i) = vb l + d * 10 ^ (l.length - 1 - i) := by
  have e1 : vb l = vb (l.take i) * 10 ^ (l.length - i) + (l.getD i 0 * 10 ^ (l.length - 1 - i) + vb (l.drop (i + 1))) := by
    conv => lhs; rw [UfX h]
    rw [Udm, UcM, List.length_cons, List.length_drop]
    congr 2
    · congr 1; omega
    · congr 2; omega
  have e2 : vb (l.set i d) = vb (l.take i) * 10 ^ (l.length - i) + (d * 10 ^ (l.length - 1 - i) + vb (l.drop (i + 1))) := by
    rw [List.set_eq_take_append_cons_drop, if_pos h, Udm, UcM, List.length_cons, List.length_drop]
    congr 2
    · congr 1; omega
    · congr 2; omega
  omega
theorem UbX {l : List Nat} {i : Nat} (h : i < l.length) : vb (l.take (i + 1)) = 10 * vb (l.take i) + l.getD i 0 := by
  rw [Ube h, Uk1]
theorem UwJ (a : Nat) : Int.tmod (a : Int) 10 = ((a % 10 : Nat) : Int) := Jlr a 10
theorem UwH (a : Nat) : Int.tdiv (a : Int) 10 = ((a / 10 : Nat) : Int) := Jlq a 10
theorem UfZ (n : Nat) (x1 : Bool) (x2 : List PV) (x3 : Bool) (x4 : List PV) (x5 : Bool) (i k : Int) : ∀ (m at_ x : Nat) (o : List Nat), at_ < m → (∀ d ∈ o, d < 10) → at_ < o.length → o.length < 2 ^ 40 → x < 100 → vb o + x * 10 ^ (o.length - at_) < 10 ^ o.length →
    ∃ o' : List Nat, (∀ k0 : Bool → List PV → Bool → List PV → Bool → List PV → Int → Int → Option R, Uci n m x1 x2 x3 x4 x5 (nl .i64 o) i k at_ x k0 = k0 x1 x2 x3 x4 x5 (nl .i64 o') i k) ∧ (∀ d ∈ o', d < 10) ∧ o'.length = o.length ∧ vb o' = vb o + x * 10 ^ (o.length - at_)
  | m + 1, at_, x, o, hm, ho, hat, hl, hx, hv => by
    by_cases h0 : x = 0
    · subst h0
      refine ⟨o, fun k0 => ?_, ho, rfl, by simp⟩
      simp only [Uci, Ue8]
      simp (disch := (first | omega | (simp only [JlL]; omega))) only [↓JlO, JlM, JlN]
    · have hat0 : at_ ≠ 0 := by
        intro e
        subst e
        rw [Nat.sub_zero] at hv
        have : 1 * 10 ^ o.length ≤ x * 10 ^ o.length := Nat.mul_le_mul_right _ (by omega)
        omega
      obtain ⟨p, rfl⟩ : ∃ p, at_ = p + 1 := ⟨at_ - 1, by omega⟩
      have hd := Uac hT2 ho p
      have hs := UwK ((x + o.getD p 0) % 10) (l := o) (i := p) (by omega)
      have hdm := Nat.div_add_mod (x + o.getD p 0) 10
      have e1 : o.length - (p + 1) = o.length - 1 - p := by omega
      have e2 : o.length - p = (o.length - 1 - p) + 1 := by omega
      have key : vb (o.set p ((x + o.getD p 0) % 10)) + (x + o.getD p 0) / 10 * 10 ^ (o.length - p) = vb o + x * 10 ^ (o.length - (p + 1)) := by
        rw [e1, e2, Nat.pow_succ]
        generalize 10 ^ (o.length - 1 - p) = P at *
        generalize o.getD p 0 = y at *
        generalize (x + y) / 10 = q at *
        generalize (x + y) % 10 = r at *
        have : (10 * q + r) * P = (x + y) * P := by rw [hdm]
        clear hv e1 e2
        grind
      obtain ⟨o', q1, q2, q3, q4⟩ := UfZ n x1 x2 x3 x4 x5 i k m p ((x + o.getD p 0) / 10) (o.set p ((x + o.getD p 0) % 10)) (by omega) (Ubi ho (Nat.mod_lt _ (by omega)) _) (by rw [List.length_set]; omega) (by rw [List.length_set]; exact hl) (by omega) (by rw [List.length_set, key]; exact hv)
      rw [List.length_set] at q3 q4
      refine ⟨o', fun k0 => ?_, q2, q3, by rw [q4, key]⟩
      rw [← q1 k0]
      have w1 : ((p + 1 : Nat) : Int) - 1 = (p : Int) := by omega
      have w2 : (x : Int) + ((o.getD p 0 : Nat) : Int) = ((x + o.getD p 0 : Nat) : Int) := by omega
      have w3 : decide ((10 : Int) = 0) = false := rfl
      simp only [Uci, Ue8]
      simp (disch := (first | omega | (simp only [JlL]; omega))) only [↓JlO, JlM, JlN, w1, w2, w3, UwJ, UwH]
theorem Uv8 (n : Nat) (x1 x3 x5 : Bool) (la lb : List Nat) (ha : ∀ d ∈ la, d < 10) (hb : ∀ d ∈ lb, d < 10) (hla : la.length + lb.length < 2 ^ 30) (hn : la.length + lb.length < n) (i : Nat) (hi : i < la.length) :
    ∀ (k m : Nat) (o : List Nat), k < m → k ≤ lb.length → (∀ d ∈ o, d < 10) → o.length = la.length + lb.length → vb o + la.getD i 0 * (vb (lb.take k) * 10 ^ (lb.length - k)) * 10 ^ (la.length - 1 - i) < 10 ^ o.length →
      ∃ o' : List Nat, (∀ k0 : Bool → List PV → Bool → List PV → Bool → List PV → Int → Option R, UdW n m x1 (nl .i64 la) x3 (nl .i64 lb) x5 (nl .i64 o) i ((k : Int) - 1) k0 = k0 x1 (nl .i64 la) x3 (nl .i64 lb) x5 (nl .i64 o') i) ∧ (∀ d ∈ o', d < 10) ∧ o'.length = o.length ∧
        vb o' = vb o + la.getD i 0 * (vb (lb.take k) * 10 ^ (lb.length - k)) * 10 ^ (la.length - 1 - i)
  | 0, m + 1, o, hm, hk, ho, hol, hv => by
    refine ⟨o, fun k0 => ?_, ho, rfl, by rw [List.take_zero, Unb]; simp⟩
    simp only [UdW, Uh6]
    simp (disch := (first | omega | (simp only [JlL]; omega))) only [↓JlO, JlM, JlN]
  | k + 1, m + 1, o, hm, hk, ho, hol, hv => by
    have hx := Uac hT2 ha i
    have hy := Uac hT2 hb k
    have hz := Uac hT2 ho (i + k + 1)
    have hxy : la.getD i 0 * lb.getD k 0 ≤ 9 * 9 := Nat.mul_le_mul (by omega) (by omega)
    obtain ⟨v, hve⟩ : ∃ v, v = o.getD (i + k + 1) 0 + la.getD i 0 * lb.getD k 0 := ⟨_, rfl⟩
    have hs := UwK (v % 10) (l := o) (i := i + k + 1) (by omega)
    have hdm := Nat.div_add_mod v 10
    rw [UbX (by omega : k < lb.length)] at hv ⊢
    have eW : o.length - 1 - (i + k + 1) = (lb.length - (k + 1)) + (la.length - 1 - i) := by omega
    have eW2 : o.length - (i + k + 1) = (lb.length - (k + 1)) + (la.length - 1 - i) + 1 := by omega
    have eW3 : lb.length - k = (lb.length - (k + 1)) + 1 := by omega
    rw [eW, Nat.pow_add] at hs
    have key : vb (o.set (i + k + 1) (v % 10)) + v / 10 * 10 ^ (o.length - (i + k + 1)) = vb o + la.getD i 0 * lb.getD k 0 * (10 ^ (lb.length - (k + 1)) * 10 ^ (la.length - 1 - i)) := by
      rw [eW2, Nat.pow_succ, Nat.pow_add]
      generalize 10 ^ (lb.length - (k + 1)) = P at *
      generalize 10 ^ (la.length - 1 - i) = Q at *
      generalize o.getD (i + k + 1) 0 = z at *
      generalize la.getD i 0 * lb.getD k 0 = xy at *
      have : (10 * (v / 10) + v % 10) * (P * Q) = (z + xy) * (P * Q) := by rw [hdm, hve]
      generalize v / 10 = q at *
      generalize v % 10 = r at *
      clear hv eW eW2 eW3
      grind
    have split : la.getD i 0 * ((10 * vb (lb.take k) + lb.getD k 0) * 10 ^ (lb.length - (k + 1))) * 10 ^ (la.length - 1 - i) = la.getD i 0 * (vb (lb.take k) * 10 ^ (lb.length - k)) * 10 ^ (la.length - 1 - i) + la.getD i 0 * lb.getD k 0 * (10 ^ (lb.length - (k + 1)) * 10 ^ (la.length - 1 - i)) := by
      rw [eW3, Nat.pow_succ]
      clear hv hs key
      grind
    rw [split] at hv ⊢
    obtain ⟨o1, q1, q2, q3, q4⟩ := UfZ (R := R) n x1 (nl .i64 la) x3 (nl .i64 lb) x5 i k n (i + k + 1) (v / 10) (o.set (i + k + 1) (v % 10)) (by omega) (Ubi ho (Nat.mod_lt _ (by omega)) _) (by rw [List.length_set]; omega) (by rw [List.length_set]; omega) (by omega) (by rw [List.length_set, key]; omega)
    rw [List.length_set] at q3 q4
    rw [key] at q4
    obtain ⟨o', s1, s2, s3, s4⟩ := Uv8 n x1 x3 x5 la lb ha hb hla hn i hi k m o1 (by omega) (by omega) q2 (by omega) (by rw [q4, q3]; omega)
    refine ⟨o', fun k0 => ?_, s2, by omega, by rw [s4, q4]; omega⟩
    rw [← s1 k0]
    have w0 : ((k + 1 : Nat) : Int) - 1 = (k : Int) := by omega
    have w1 : (i : Int) + (k : Int) + 1 = ((i + k + 1 : Nat) : Int) := by omega
    have w2 : ((la.getD i 0 : Nat) : Int) * ((lb.getD k 0 : Nat) : Int) = ((la.getD i 0 * lb.getD k 0 : Nat) : Int) := by rw [Int.natCast_mul]
    have w4 : decide ((10 : Int) = 0) = false := rfl
    clear hs key split s4 q4 hv
    generalize la.getD i 0 * lb.getD k 0 = xy at *
    have w3 : ((o.getD (i + k + 1) 0 : Nat) : Int) + (xy : Int) = (v : Int) := by omega
    simp only [UdW, Uh6, Usw]
    simp (disch := (first | omega | (simp only [JlL]; omega))) only [↓JlO, JlM, JlN, w0, w1, w2, w3, w4, UwJ, UwH, q1]
theorem UrS (n : Nat) (x1 x3 x5 : Bool) (la lb : List Nat) (ha : ∀ d ∈ la, d < 10) (hb : ∀ d ∈ lb, d < 10) (hla : la.length + lb.length < 2 ^ 30) (hn : la.length + lb.length < n) :
    ∀ (i m : Nat) (o : List Nat), i < m → i ≤ la.length → (∀ d ∈ o, d < 10) → o.length = la.length + lb.length → vb o + vb (la.take i) * 10 ^ (la.length - i) * vb lb < 10 ^ o.length →
      ∃ o' : List Nat, (∀ k0 : Bool → List PV → Bool → List PV → Bool → List PV → Option R, UdV n m x1 (nl .i64 la) x3 (nl .i64 lb) x5 (nl .i64 o) ((i : Int) - 1) k0 = k0 x1 (nl .i64 la) x3 (nl .i64 lb) x5 (nl .i64 o')) ∧ (∀ d ∈ o', d < 10) ∧ o'.length = o.length ∧
        vb o' = vb o + vb (la.take i) * 10 ^ (la.length - i) * vb lb
  | 0, m + 1, o, hm, hi, ho, hol, hv => by
    refine ⟨o, fun k0 => ?_, ho, rfl, by rw [List.take_zero, Unb]; simp⟩
    simp only [UdV, Uh5]
    simp (disch := (first | omega | (simp only [JlL]; omega))) only [↓JlO, JlM, JlN]
  | i + 1, m + 1, o, hm, hi, ho, hol, hv => by
    rw [UbX (by omega : i < la.length)] at hv ⊢
    have eW3 : la.length - i = (la.length - (i + 1)) + 1 := by omega
    have eW4 : la.length - 1 - i = la.length - (i + 1) := by omega
    have split : (10 * vb (la.take i) + la.getD i 0) * 10 ^ (la.length - (i + 1)) * vb lb = vb (la.take i) * 10 ^ (la.length - i) * vb lb + la.getD i 0 * (vb lb * 10 ^ (lb.length - lb.length)) * 10 ^ (la.length - 1 - i) := by
      rw [eW3, eW4, Nat.pow_succ, Nat.sub_self, Nat.pow_zero]
      clear hv
      grind
    rw [split] at hv ⊢
    obtain ⟨o1, q1, q2, q3, q4⟩ := Uv8 (R := R) n x1 x3 x5 la lb ha hb hla hn i (by omega) lb.length n o (by omega) (Nat.le_refl _) ho hol (by rw [List.take_length]; omega)
    rw [List.take_length] at q4
    obtain ⟨o', s1, s2, s3, s4⟩ := UrS n x1 x3 x5 la lb ha hb hla hn i m o1 (by omega) (by omega) q2 (by omega) (by rw [q4, q3]; omega)
    refine ⟨o', fun k0 => ?_, s2, by omega, by rw [s4, q4]; omega⟩
    rw [← s1 k0]
    have w0 : ((i + 1 : Nat) : Int) - 1 = (i : Int) := by omega
    clear split s4 q4 hv
    simp only [UdV, Uh5, UwD]
    simp (disch := (first | omega | (simp only [JlL]; omega))) only [↓JlO, JlM, JlN, w0, q1]
theorem Ud1 (n : Nat) (x y : Int) (hx : ll x.natAbs ≤ 50000) (hy : ll y.natAbs ≤ 50000) (hn : 200000 ≤ n) (k0 : Bool → List PV → Option R) :
    p89 n (sg x) (II x.natAbs) (sg y) (II y.natAbs) k0 = k0 (sg (x * y)) (II (x * y).natAbs) := by
  obtain ⟨L, hL⟩ : ∃ L, ll x.natAbs + ll y.natAbs = L := ⟨_, rfl⟩
  have hlt : x.natAbs * y.natAbs < 10 ^ L := by rw [← hL, Nat.pow_add]; exact Nat.mul_lt_mul_of_lt_of_lt (Udv.1 (Nat.le_refl _)) (Udv.1 (Nat.le_refl _))
  have hz : vb (List.replicate L 0) = 0 := by unfold vb; rw [List.reverse_replicate, Ujj]
  obtain ⟨o', q1, q2, q3, q4⟩ := UrS (R := R) n (sg x) (sg y) false (DL x.natAbs) (DL y.natAbs) (Uey _) (Uey _) (by rw [Uaa, Uaa]; omega) (by rw [Uaa, Uaa]; omega) (ll x.natAbs) n (List.replicate L 0) (by omega) (by rw [Uaa]; omega) (Ugb hT2 _) (by rw [List.length_replicate, Uaa, Uaa]; omega)
    (by
      rw [List.take_of_length_le (by rw [Uaa]; omega), UfS, UfS, Uaa, Nat.sub_self, hz, List.length_replicate]
      simpa using hlt)
  rw [List.take_of_length_le (by rw [Uaa]; omega), UfS, UfS, Uaa, Nat.sub_self, hz, Nat.pow_zero, Nat.mul_one, Nat.zero_add] at q4
  rw [List.length_replicate] at q3
  have hm := fun k0 => UaD (R := R) n (!(sg x == sg y)) o' q2 (by omega) (by omega) k0
  rw [q4] at hm
  have e3 : (!(sg x == sg y) && !(x.natAbs * y.natAbs == 0)) = sg (x * y) := by
    rw [Bool.eq_iff_iff]
    simp only [sg, Bool.and_eq_true, decide_eq_true_eq, Bool.not_eq_true', beq_eq_false_iff_ne, ne_eq, Nat.mul_eq_zero, decide_eq_decide]
    constructor
    · rintro ⟨h1, h2⟩
      by_cases hx0 : x < 0
      · exact Int.mul_neg_of_neg_of_pos hx0 (by omega)
      · exact Int.mul_neg_of_pos_of_neg (by omega) (by omega)
    · intro h
      refine ⟨fun h1 => ?_, fun h2 => ?_⟩
      · by_cases hx0 : x < 0
        · have := Int.mul_pos_of_neg_of_neg hx0 (h1.1 hx0); omega
        · have := Int.mul_nonneg (by omega : 0 ≤ x) (by omega : 0 ≤ y); omega
      · rcases h2 with h2 | h2
        · rw [show x = 0 from by omega] at h; simp at h
        · rw [show y = 0 from by omega] at h; simp at h
  rw [e3] at hm
  have w1 : (ll x.natAbs : Int) + (ll y.natAbs : Int) = (L : Int) := by omega
  have hrep : List.replicate L (PV.v (.int .i64 0)) = nl .i64 (List.replicate L 0) := Jjk .i64 L
  unfold p89 UwC
  rw [Int.natAbs_mul]
  rw [Uau, Uau]
  unfold II at *
  simp (disch := (first | omega | (simp only [JlL]; omega))) only [↓JlO, JlM, JlN, w1, hrep, q1, hm]
end Go.Proofs.YtmgfmlhdnadglaaGreatDoor
set_option linter.unusedVariables false
set_option maxRecDepth 100000
namespace Go.Proofs.YtmgfmlhdnadglaaGreatDoor
open Go Th Go.Proofs
noncomputable section
variable {R : Type}
def UaI : Ann := { loops := [(5, ids [0, 3, 4], ids [2, 3])], cuts := [(6, ids [0, 3, 4], ids [0, 2, 3, 4])], frz := [], rm := [.id] }
abbrev UiV (n : Nat) : Env := eC 141 (UCQ n) (eC 140 (UCP n) (eC 139 (UCO n) (eC 138 (UCN n) eN)))
theorem UlS (n : Nat) : EnvOK Tryz.prog GI (UiV n) := .cons (.cons (.cons (.cons (.nil) (UG9 n)) (UH n)) (UHa n)) (UHb n)
def UcB (n : Nat) (x1 : LP) (x2 : ByteArray) (x3 : Int) (k0 : LP → ByteArray → Int → O R) : O R :=
  k0 x1 x2 (IntKind.i64.wrap (x3 - 1))
def Ub7 (n : Nat) (l0 : LP → ByteArray → Int → O R) (x1 : LP) (x2 : ByteArray) (x3 : Int) (k0 : ByteArray → O R) : O R :=
  bif (decide (x3 ≥ 0)) then (bif (inR x3 ((x1).length)) then (Jjf .u32 ((x1).getD ((x3 : Int).toNat) (.v (.bool false))) fun e4 => bif (Jk0 (IntKind.i64.wrap (e4))) then (let v5 := IntKind.i64.wrap (((x1).length : Int) - 1); bif (decide (x3 < v5)) then (let v6 := IntKind.i64.wrap (9 - ((JiH (IntKind.i64.wrap (e4))).size : Int)); bif (decide ((0 : Int) ≤ v6) && decide ((v6 : Int) ≤ 9223372036854775807) && Ji0 (((⟨#[48]⟩ : ByteArray)).size * (v6 : Int).toNat)) then (Jj6 (Jlk (⟨#[48]⟩ : ByteArray) v6) (JiH (IntKind.i64.wrap (e4))) fun s7 => bif (Ji0 ((x2).size + (s7).size)) then (UcB n x1 (x2 ++ s7) x3 (fun y8 y9 y10 => l0 y8 y9 y10)) else none) else none) else (bif (Ji0 ((x2).size + (JiH (IntKind.i64.wrap (e4))).size)) then (UcB n x1 (x2 ++ (JiH (IntKind.i64.wrap (e4)))) x3 (fun y11 y12 y13 => l0 y11 y12 y13)) else none)) else none) else none) else (k0 x2)
def Ua2 (n : Nat) : Nat → LP → ByteArray → Int → (ByteArray → O R) → O R
  | 0, _, _, _, _ => none
  | m + 1, x1, x2, x3, k0 => Ub7 n (fun x1 x2 x3 => Ua2 n m x1 x2 x3 k0) x1 x2 x3 k0
def Uhv (n : Nat) (l0 : LP → Int → O R) (l1 : LP → ByteArray → Int → O R) (x1 : LP) (x2 : Int) (k0 : ByteArray → O R) (k1 : O R) : O R :=
  bif (decide (x2 ≥ 0)) then (bif (inR x2 ((x1).length)) then (Jjf .u32 ((x1).getD ((x2 : Int).toNat) (.v (.bool false))) fun e3 => bif (Jk0 (IntKind.i64.wrap (e3))) then (let v4 := IntKind.i64.wrap (((x1).length : Int) - 1); bif (decide (x2 < v4)) then (let v5 := IntKind.i64.wrap (9 - ((JiH (IntKind.i64.wrap (e3))).size : Int)); bif (decide ((0 : Int) ≤ v5) && decide ((v5 : Int) ≤ 9223372036854775807) && Ji0 (((⟨#[48]⟩ : ByteArray)).size * (v5 : Int).toNat)) then (Jj6 (Jlk (⟨#[48]⟩ : ByteArray) v5) (JiH (IntKind.i64.wrap (e3))) fun s6 => bif (Ji0 ((ByteArray.empty).size + (s6).size)) then (UcB n x1 (ByteArray.empty ++ s6) x2 (fun y7 y8 y9 => l1 y7 y8 y9)) else none) else none) else (bif (Ji0 ((ByteArray.empty).size + (JiH (IntKind.i64.wrap (e3))).size)) then (UcB n x1 (ByteArray.empty ++ (JiH (IntKind.i64.wrap (e3)))) x2 (fun y10 y11 y12 => l1 y10 y11 y12)) else none)) else none) else none) else (k1)
def UeV (n : Nat) : Nat → LP → Int → (ByteArray → O R) → (O R) → O R
  | 0, _, _, _, _ => none
  | m + 1, x1, x2, k0, k1 => Uhv n (fun x1 x2 => UeV n m x1 x2 k0 k1) (fun x1 x2 x3 => Ua2 n m x1 x2 x3 k0) x1 x2 k0 k1
def Ur8 (n : Nat) (x1 : LP) (x2 : Int) (k0 : ByteArray → O R) (k1 : O R) : O R := UeV n n x1 x2 k0 k1
def UDq (n : Nat) (x1 : LP) (k0 : ByteArray → O R) : O R :=
  bif (((x1).length : Int) == 0) then (k0 ⟨#[48]⟩) else (let v2 := IntKind.i64.wrap (((x1).length : Int) - 1); Ur8 n x1 v2 (fun y3 => k0 y3) (k0 ByteArray.empty))
abbrev UI3 (n : Nat) : Code → Fr → Kc R → O R := evC Tryz.prog (UiV n) UaI n (36, [])
noncomputable def Uoi : Code := Jk (Jls Tryz.f116) [1, 1, 1, 0, 1, 0, 0, 1, 1]
abbrev UkE : Sl (List SV) := (cH (.c (sOb 181 5) (cI .n)))
abbrev UqN (n : Nat) (K : Kc R) : UkE.T (O R) := fun x1 x2 x3 => UcB n x1 x2 x3 (fun y1 y2 y3 => xC UaI 6 K .normal [vH y1, dD, .ob 181 5 y2, vI y3])
noncomputable def Ufn : Code := Jk (Jls Tryz.f116) [1, 1, 1, 0, 1, 0, 0]
abbrev UaZ : Sl (List SV) := (cH (.c (sOb 181 5) (cI .n)))
abbrev Ubz : Sl (List SV) := (cH (.c (sBx 181 (.c (sP Jln) (.c sNl .n))) (cI .n)))
abbrev UcX (n m : Nat) (K : Kc R) : UaZ.T (O R) := fun x1 x2 x3 => Ua2 n m x1 x2 x3 (fun y1 => xL UaI 5 K (.exit 0) [dD, .ob 181 5 y1])
abbrev Utl (n : Nat) (K : Kc R) (l0 : UaZ.T (O R)) : UaZ.T (O R) := fun x1 x2 x3 => Ub7 n l0 x1 x2 x3 (fun y1 => xL UaI 5 K (.exit 0) [dD, .ob 181 5 y1])
abbrev UeE (n m : Nat) (K : Kc R) : Ubz.T (O R) := fun x1 x2 => UeV n m x1 x2 (fun y1 => xL UaI 5 K (.exit 0) [dD, .ob 181 5 y1]) (xL UaI 5 K (.exit 0) [dD, .bx 181 [.p (.v (.pointer none)), .nl]])
abbrev Utm (n : Nat) (K : Kc R) (l0 : Ubz.T (O R)) (l1 : UaZ.T (O R)) : Ubz.T (O R) := fun x1 x2 => Uhv n l0 l1 x1 x2 (fun y1 => xL UaI 5 K (.exit 0) [dD, .ob 181 5 y1]) (xL UaI 5 K (.exit 0) [dD, .bx 181 [.p (.v (.pointer none)), .nl]])
abbrev Unr (n : Nat) : Orc R := fun i vs K => JfQ (Nat.beq i 5) (Jjm (UaZ.ap vs (UcX n n K)) (Jjm (Ubz.ap vs (UeE n n K)) (JcE UaI 5 (UI3 n Ufn) n vs K))) (oN i vs K)
abbrev Unk (n : Nat) : Orc R := oC UaI (UI3 n) 6 Uoi UkE (UqN n) oN
abbrev UEV (R : Type) (n : Nat) := JcK (R := R) Tryz.prog (UiV n) UaI n (36, []) (Unr n) (Unk n)
theorem UzI (n : Nat) : UEV R n (true, 6, Uoi) := Jk3 (lo := Unr n) (cu := Unk n) (pO pN (by kernel_rfl)) UkE (UqN n) (fun K _ _ _ => by show _ = _; kernel_rfl) fun _ _ => rfl
theorem Um0 (n : Nat) : Jfb (UEV R n) (JaJ UaI Ufn) := pO (pC (UzI n) pN) (by kernel_rfl)
theorem UlC (n : Nat) : ∀ m (K : Kc R), UaZ.all (fun vs r => JcE UaI 5 (JcX Tryz.prog (UiV n) UaI (36, []) (Unr n) (Unk n) Ufn) m vs K = r) (UcX n m K) := JiK (F := UcX n) UaZ (Utl n) (fun K _ _ _ => rfl) (fun _ _ => rfl) (fun L K _ _ _ => by show _ = _; kernel_rfl)
theorem UtA (n : Nat) : ∀ m (K : Kc R), Ubz.all (fun vs r => JcE UaI 5 (JcX Tryz.prog (UiV n) UaI (36, []) (Unr n) (Unk n) Ufn) m vs K = r) (UeE n m K) := JhC (F1 := UcX n) (F := UeE n) Ubz UaZ (Utm n) (fun K _ _ => rfl) (fun _ _ => rfl) (UlC n) (fun L K _ _ => by show _ = _; kernel_rfl)
theorem UzJ (n : Nat) : UEV R n (false, 5, Ufn) := JkM (lo := Unr n) (cu := Unk n) (Um0 n) UaZ (UcX n n) (UlC n n) (JkM (lo := Unr n) (cu := Unk n) (Um0 n) Ubz (UeE n n) (UtA n n) fun _ _ => rfl)
theorem UHP (n : Nat) : Jfb (UEV R n) (JaJ UaI (Jls Tryz.f116)) := pO (pC (UzJ n) pN) (by kernel_rfl)
abbrev UIv : Sl (List SV) := (cH .n)
abbrev f116 (n : Nat) (K : List SV → O R) : UIv.T (O R) := fun x1 => UDq n x1 (fun y1 => K [vS y1])
abbrev UCC (n : Nat) : FS := fT [false] UIv (f116 n)
theorem UGY (n : Nat) : FSound Tryz.prog GI 116 (UCC n) := gd UaI n (UlS n) Tryz.func116 (.cons (UlS n) UIv (f116 n) (fun K _ => (Jkx (c := Jls Tryz.f116) (by kernel_rfl) (UHP n) K).trans (by kernel_rfl)) .nil) (by kernel_rfl)
def UcU : Ann := { loops := [], cuts := [(5, ids [1, 4, 24], ids [1, 2, 3]), (7, ids [1], ids [2, 3]), (10, ids [1, 5, 6], ids [2, 3]), (12, ids [5, 6], ids [2, 3]), (14, ids [5], ids [2, 3])], frz := [], rm := [.id, .id] }
abbrev UyK (n : Nat) : Env := eC 116 (UCC n) (eC 115 (UyV n) (eC 100 (UyT n) eN))
theorem Uqn (n : Nat) : EnvOK Tryz.prog GI (UyK n) := .cons (.cons (.cons (.nil) (UDd n)) (UDf n)) (UGY n)
def Uf8 (n : Nat) (x1 : Bool) (x2 x3 x4 : LP) (x5 : Bool) (k0 : Bool → LP → LP → O R) : O R :=
  bif x5 then (UAL n x2 x4 (fun y6 y7 => UAL n x3 x4 (fun y8 y9 => k0 x1 y6 y8))) else (k0 x1 x2 x3)
def Uh3 (n : Nat) (x1 : ByteArray) (k0 : ByteArray → Int → O R) : O R :=
  k0 x1 0
def Uh2 (n : Nat) (x1 x2 : ByteArray) (k0 : ByteArray → Int → O R) : O R :=
  bif (!eqS x2 (⟨#[49]⟩ : ByteArray)) then (Jj6 (⟨#[47]⟩ : ByteArray) x2 fun s3 => Jj6 x1 s3 fun s4 => Uh3 n s4 (fun y5 y6 => k0 y5 y6)) else (Uh3 n x1 (fun y7 y8 => k0 y7 y8))
def Ukn (n : Nat) (x1 : Bool) (x2 x3 : LP) (x4 x5 : ByteArray) (k0 : ByteArray → Int → O R) : O R :=
  bif x1 then (Jj6 (⟨#[45]⟩ : ByteArray) x4 fun s6 => Uh2 n s6 x5 (fun y7 y8 => k0 y7 y8)) else (Uh2 n x4 x5 (fun y9 y10 => k0 y9 y10))
def Ui2 (n : Nat) (x1 : Bool) (x2 x3 : LP) (k0 : ByteArray → Int → O R) : O R :=
  UDq n x2 (fun y4 => UDq n x3 (fun y5 => bif (decide (((y4).size : Int) > 400)) then (k0 ⟨#[]⟩ 5) else (bif (bif false then true else (decide (((y5).size : Int) > 400))) then (k0 ⟨#[]⟩ 5) else (Ukn n x1 x2 x3 y4 y5 (fun y6 y7 => k0 y6 y7)))))
def p79 (n : Nat) (x1 : Bool) (x2 x3 : LP) (k0 : ByteArray → Int → O R) : O R :=
  bif (((x2).length : Int) == 0) then (k0 ⟨#[48]⟩ 0) else (UDo n x2 x3 (fun y4 => bif (decide (((y4).length : Int) > 1)) then (Uf8 n x1 x2 x3 y4 true (fun y5 y6 y7 => Ui2 n y5 y6 y7 (fun y8 y9 => k0 y8 y9))) else (bif (inR 0 ((y4).length)) then (Jjf .u32 ((y4).getD ((0 : Int).toNat) (.v (.bool false))) fun e10 => Uf8 n x1 x2 x3 y4 (bif false then true else (decide (e10 > 1))) (fun y11 y12 y13 => Ui2 n y11 y12 y13 (fun y14 y15 => k0 y14 y15))) else none)))
abbrev E79 (n : Nat) : Code → Fr → Kc R → O R := evC Tryz.prog (UyK n) UcU n (66, [])
noncomputable def Uvc : Code := Jk (Jls Tryz.f79) [1, 1, 0, 1, 1]
abbrev UsZ : Sl (List SV) := (.c (sBx 99 (cB (cH (cH .n)))) (cH (cB .n)))
abbrev UvP (n : Nat) (K : Kc R) : UsZ.T (O R) := fun x1 x2 x3 x4 x5 => Uf8 n x1 x2 x3 x4 x5 (fun y1 y2 y3 => xC UcU 5 K .normal [.bx 99 [vB y1, vH y2, vH y3], dD, dD])
noncomputable def Uvd : Code := Jk (Jls Tryz.f79) [1, 1, 1]
abbrev Us0 : Sl (List SV) := (.c (sBx 99 (cB (cH (cH .n)))) .n)
abbrev UvQ (n : Nat) (K : Kc R) : Us0.T (O R) := fun x1 x2 x3 => Ui2 n x1 x2 x3 (fun y1 y2 => xC UcU 7 K .ret [vS y1, vI y2])
noncomputable def UoM : Code := Jk (Jls Tryz.f79) [1, 1, 1, 1, 1]
abbrev UkW : Sl (List SV) := (.c (sBx 99 (cB (cH (cH .n)))) (cS (cS .n)))
abbrev Urt (n : Nat) (K : Kc R) : UkW.T (O R) := fun x1 x2 x3 x4 x5 => Ukn n x1 x2 x3 x4 x5 (fun y1 y2 => xC UcU 10 K .ret [vS y1, vI y2])
noncomputable def UoN : Code := Jk (Jls Tryz.f79) [1, 1, 1, 1, 1, 1]
abbrev UkX : Sl (List SV) := (cS (cS .n))
abbrev Uru (n : Nat) (K : Kc R) : UkX.T (O R) := fun x1 x2 => Uh2 n x1 x2 (fun y1 y2 => xC UcU 12 K .ret [vS y1, vI y2])
noncomputable def UoO : Code := Jk (Jls Tryz.f79) [1, 1, 1, 1, 1, 1, 1]
abbrev UkY : Sl (List SV) := (cS .n)
abbrev Urv (n : Nat) (K : Kc R) : UkY.T (O R) := fun x1 => Uh3 n x1 (fun y1 y2 => xC UcU 14 K .ret [vS y1, vI y2])
abbrev UAF (n : Nat) : Orc R := oN
abbrev UAB (n : Nat) : Orc R := oC UcU (E79 n) 14 UoO UkY (Urv n) (oC UcU (E79 n) 12 UoN UkX (Uru n) (oC UcU (E79 n) 10 UoM UkW (Urt n) (oC UcU (E79 n) 7 Uvd Us0 (UvQ n) (oC UcU (E79 n) 5 Uvc UsZ (UvP n) oN))))
abbrev K79 (R : Type) (n : Nat) := JcK (R := R) Tryz.prog (UyK n) UcU n (66, []) (UAF n) (UAB n)
theorem UEl (n : Nat) : K79 R n (true, 5, Uvc) := Jk3 (lo := UAF n) (cu := UAB n) (pO pN (by kernel_rfl)) UsZ (UvP n) (fun K _ _ _ _ _ => by show _ = _; kernel_rfl) fun _ _ => rfl
theorem UAe (n : Nat) : K79 R n (true, 14, UoO) := Jk3 (lo := UAF n) (cu := UAB n) (pO pN (by kernel_rfl)) UkY (Urv n) (fun K _ => by show _ = _; kernel_rfl) fun _ _ => rfl
theorem UAd (n : Nat) : K79 R n (true, 12, UoN) := Jk3 (lo := UAF n) (cu := UAB n) (pO (pC (UAe n) pN) (by kernel_rfl)) UkX (Uru n) (fun K _ _ => by show _ = _; kernel_rfl) fun _ _ => rfl
theorem UAc (n : Nat) : K79 R n (true, 10, UoM) := Jk3 (lo := UAF n) (cu := UAB n) (pO (pC (UAd n) pN) (by kernel_rfl)) UkW (Urt n) (fun K _ _ _ _ _ => by show _ = _; kernel_rfl) fun _ _ => rfl
theorem UEm (n : Nat) : K79 R n (true, 7, Uvd) := Jk3 (lo := UAF n) (cu := UAB n) (pO (pC (UAc n) pN) (by kernel_rfl)) Us0 (UvQ n) (fun K _ _ _ => by show _ = _; kernel_rfl) fun _ _ => rfl
theorem UOu (n : Nat) : Jfb (K79 R n) (JaJ UcU (Jls Tryz.f79)) := pO (pC (UEl n) (pC (UEm n) pN)) (by kernel_rfl)
abbrev t79 : Sl (List SV) := (.c (sP (JlP (.c Jlm (.c sSh (.c sSh .n))))) .n)
abbrev f79 (n : Nat) (K : List SV → O R) : t79.T (O R) := fun x1 x2 x3 => p79 n x1 x2 x3 (fun y1 y2 => K [vS y1, vI y2])
abbrev UGi (n : Nat) : FS := fT [false] t79 (f79 n)
theorem UKY (n : Nat) : FSound Tryz.prog GI 79 (UGi n) := gd UcU n (Uqn n) Tryz.func79 (.cons (Uqn n) t79 (f79 n) (fun K _ _ _ => (Jkx (c := Jls Tryz.f79) (by kernel_rfl) (UOu n) K).trans (by kernel_rfl)) .nil) (by kernel_rfl)
end
end Go.Proofs.YtmgfmlhdnadglaaGreatDoor
