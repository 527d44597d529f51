/- Proved: what the evaluator of pure values says of a function's code, its calls keep (part 1; no further conditions). -/
import Derived.WalkKit
import Derived.Laws.AppendOwn
import Derived.Laws.OwnMore
import Derived.Laws.MakeOwn
import Derived.Laws.Tables
import Derived.Orders
import Derived.LoopN
import Derived.KernelRfl
import Derived.Lib.FrozenHead
import Derived.Laws.BytesString
import Derived.Laws.IdiomStrings

set_option linter.unusedVariables false
namespace Go.Proofs.YtfbahcfojiaeaaaGreatDoor.Th
open Go
inductive PV where
  | v (x : Value)
  | sh (es : List PV)
  | agg (cs : List PV)
  | clo (f : FuncId) (caps : List PV)
  | fb (cs : List PV)
  deriving Inhabited
def cellsOf : PV → List PV
  | .agg cs => cs
  | x => [x]
def PV.leaf : PV → Bool
  | .v x => x.oneCell'
  | .agg _ => false
  | _ => true
def leafs : List PV → Bool
  | [] => true
  | x :: r => x.leaf && leafs r
inductive SV where
  | dead
  | nl
  | p (x : PV)
  | own (T : TypeId) (es : List PV)
  | bx (T : TypeId) (cs : List SV)
  | tup (l : List SV)
  | ob (T e : TypeId) (bs : ByteArray)
  deriving Inhabited
inductive Ref where
  | o (s : Nat) (j : Option Nat)
  | b (s off : Nat)
  | e (s : Nat) (j : Option Nat) (T : TypeId) (i off : Nat)
def Ref.root : Ref → Nat
  | .o s _ => s
  | .b s _ => s
  | .e s _ _ _ _ => s
def Ref.cell : Ref → Bool
  | .o _ (some _) => true
  | .e _ (some _) _ _ _ => true
  | _ => false
inductive RV where
  | bad
  | nl
  | pv (x : PV)
  | own (s : Nat) (cx : Option (Nat × TypeId × List SV)) (T : TypeId) (es : List PV)
  | box (s off : Nat) (T : TypeId) (cs : List SV)
  | el (s : Nat) (cx : Option (Nat × TypeId × List SV)) (T : TypeId) (es : List PV) (i off : Nat)
  | tup (s : Nat) (l : List SV)
  | ob (s : Nat) (T e : TypeId) (bs : ByteArray)
abbrev Fr := Nat → SV
structure St where
  fr : Fr
  ral : List (Nat × Ref)
def rfind : List (Nat × Ref) → Nat → Option Ref
  | [], _ => none
  | (u, r) :: l, t => bif Nat.beq u t then some r else rfind l t
def ownAt (s : Nat) (cx : Option (Nat × TypeId × List SV)) : SV → RV
  | .own T es => .own s cx T es
  | .p x => .pv x
  | .nl => .nl
  | _ => .bad
def elAt (s : Nat) (cx : Option (Nat × TypeId × List SV)) (T : TypeId) (i off : Nat) : SV → RV
  | .own T' es => bif Nat.beq T' T then .el s cx T es i off else .bad
  | _ => .bad
def deref (fr : Fr) : Ref → RV
  | .o s none => ownAt s none (fr s)
  | .o s (some j) => match fr s with
    | .bx T cs => ownAt s (some (j, T, cs)) (cs.getD j .dead)
    | _ => .bad
  | .b s off => match fr s with
    | .bx T cs => .box s off T cs
    | .ob T e bs => bif Nat.beq off 0 then .ob s T e bs else .bad
    | _ => .bad
  | .e s none T i off => elAt s none T i off (fr s)
  | .e s (some j) T i off => match fr s with
    | .bx Tb cs => elAt s (some (j, Tb, cs)) T i off (cs.getD j .dead)
    | _ => .bad
def selfRV (t : Nat) : SV → RV
  | .dead => .bad
  | .nl => .nl
  | .p x => .pv x
  | .own T es => .own t none T es
  | .bx T cs => .box t 0 T cs
  | .tup l => .tup t l
  | .ob T e bs => .ob t T e bs
def look (st : St) (t : Nat) : RV :=
  match rfind st.ral t with
  | some r => deref st.fr r
  | none => selfRV t (st.fr t)
def cpv : Value → PV
  | .slice none 0 0 => .sh []
  | x => .v x
def constRV : Value → RV
  | .slice none 0 0 => .nl
  | .agg cs => bif leafs (cs.toList.map cpv) then .pv (.agg (cs.toList.map cpv)) else .bad
  | x => .pv (.v x)
def opd (st : St) : Operand → RV
  | .tmp t => look st t
  | .const x => constRV x
  | .func f => .pv (.v (.func (.func f) #[] #[]))
  | .global _ => .bad
structure Out where
  dst : SV
  ref : Option Ref
  upd : List (Nat × SV)
  drop : List Nat
def upd1 (fr : Fr) (i : Nat) (x : SV) : Fr := fun j => bif Nat.beq j i then x else fr j
def updAll (fr : Fr) : List (Nat × SV) → Fr
  | [] => fr
  | (i, x) :: l => updAll (upd1 fr i x) l
def memN (l : List Nat) (s : Nat) : Bool :=
  match l with
  | [] => false
  | x :: r => bif Nat.beq x s then true else memN r s
def keepRef (d : Option Nat) (drop : List Nat) (t : Nat) (r : Ref) : Bool :=
  (match d with | some d => !(Nat.beq t d) && !(Nat.beq r.root d) | none => true) && !(r.cell && memN drop r.root)
def keepRefs (d : Option Nat) (drop : List Nat) : List (Nat × Ref) → List (Nat × Ref)
  | [] => []
  | (t, r) :: l => bif keepRef d drop t r then (t, r) :: keepRefs d drop l else keepRefs d drop l
def St.put (st : St) (d : Option Nat) (o : Out) : St :=
  { fr := match d with
      | some d => upd1 (updAll st.fr o.upd) d o.dst
      | none => updAll st.fr o.upd
    ral := match d, o.ref with
      | some d, some r => (d, r) :: keepRefs (some d) o.drop st.ral
      | d, _ => keepRefs d o.drop st.ral }
def Out.fits (N : Nat × List Nat) (d : Option Nat) (o : Out) : Bool :=
  match d with
  | some d => Nat.blt d N.1 && !(memN N.2 d) && (match o.ref with | some r => !(Nat.beq r.root d) | none => true)
  | none => (match o.ref with | some _ => false | none => true)
def setPl (s : Nat) (cx : Option (Nat × TypeId × List SV)) (x : SV) : Nat × SV :=
  match cx with
  | none => (s, x)
  | some (j, T, cs) => (s, .bx T (cs.set j x))
variable {R : Type}
def ikEq : IntKind → IntKind → Bool
  | .i8, .i8 | .i16, .i16 | .i32, .i32 | .i64, .i64 | .u8, .u8 | .u16, .u16 | .u32, .u32 | .u64, .u64 => true
  | _, _ => false
def getI (k : IntKind) (e : PV) (K : Int → Option R) : Option R :=
  match e with
  | .v (.int k' x) => bif ikEq k k' then K x else none
  | _ => none
def getB (e : PV) (K : Bool → Option R) : Option R :=
  match e with
  | .v (.bool x) => K x
  | _ => none
def getS (e : PV) (K : ByteArray → Option R) : Option R :=
  match e with
  | .v (.string x) => K x
  | _ => none
def getL (e : PV) (K : List PV → Option R) : Option R :=
  match e with
  | .sh x => K x
  | _ => none
def unagg (e : PV) (K : List PV → Option R) : Option R :=
  match e with
  | .agg x => K x
  | _ => none
def uncons (cs : List PV) (K : PV → List PV → Option R) : Option R :=
  match cs with
  | x :: r => K x r
  | [] => none
def unnil (cs : List PV) (K : Option R) : Option R :=
  match cs with
  | [] => K
  | _ => none
inductive CK where
  | i (k : IntKind) | b | s | sl | o
def chk1 (c : CK) (e : PV) (K : PV → Option R) : Option R :=
  match c with
  | .i k => getI k e fun x => K (.v (.int k x))
  | .b => getB e fun x => K (.v (.bool x))
  | .s => getS e fun x => K (.v (.string x))
  | .sl => getL e fun x => K (.sh x)
  | .o => bif e.leaf then K e else none
def chkL : List CK → List PV → (List PV → Option R) → Option R
  | [], cs, K => unnil cs (K [])
  | c :: r, cs, K => uncons cs fun e cs => chk1 c e fun y => chkL r cs fun ys => K (y :: ys)
def chkE (ag : Bool) (ks : List CK) (e : PV) (K : List PV → Option R) : Option R :=
  match ag with
  | true => unagg e fun cs => chkL ks cs K
  | false => match ks with
    | [c] => chk1 c e fun y => K [y]
    | _ => none
def isAggT (P : Program) (T : TypeId) : Bool :=
  match P.underlying T with
  | some (.struct _) => true
  | some (.array _ _) => true
  | _ => false
def knownT (P : Program) (T : TypeId) : Bool :=
  match P.underlying T with
  | some _ => true
  | none => false
def cks (P : Program) : Nat → TypeId → List CK
  | 0, _ => []
  | n + 1, T =>
    match P.underlying T with
    | some (.int k) => [.i k]
    | some .bool => [.b]
    | some .string => [.s]
    | some (.slice _) => [.sl]
    | some (.struct fs) => fs.toList.flatMap fun f => cks P n f.type
    | some (.array m e) => (List.replicate m (cks P n e)).flatten
    | _ => [.o]
def chkT (P : Program) (T : TypeId) (e : PV) (K : List PV → Option R) : Option R :=
  chkE (isAggT P T) (cks P 20 T) e K
def mkE (ag : Bool) (ys : List PV) : PV :=
  match ag with
  | true => .agg ys
  | false => ys.headD (.v (.bool false))
def sizeT (P : Program) (T : TypeId) : Option Nat := (P.info? T).map (·.size)
def foff (P : Program) (S : TypeId) (f : Nat) : Option (Nat × TypeId) :=
  match P.underlying S with
  | some (.struct fs) => (fs[f]?).map fun x => (x.offset, x.type)
  | _ => none
def elemT (P : Program) (T : TypeId) : Option TypeId :=
  match P.underlying T with
  | some (.slice e) => some e
  | _ => none
def frz : SV → Option PV
  | .p x => some x
  | .nl => some (.sh [])
  | .own _ es => some (.sh es)
  | _ => none
def frzL : List SV → Option (List PV)
  | [] => some []
  | x :: r => match frz x, frzL r with
    | some y, some ys => some (y :: ys)
    | _, _ => none
def anyOwn : List SV → Bool
  | [] => false
  | .own _ _ :: _ => true
  | _ :: r => anyOwn r
def splice (cs : List SV) (off : Nat) (ys : List PV) : List SV := cs.take off ++ ys.map .p ++ cs.drop (off + ys.length)
def spliceP (cs : List PV) (off : Nat) (ys : List PV) : List PV := cs.take off ++ ys ++ cs.drop (off + ys.length)
def zsv : Value → SV
  | .slice none 0 0 => .nl
  | x => .p (.v x)
def zeroT (P : Program) (T : TypeId) : Option (List Value) :=
  match P.info? T with
  | some i => match i.zero with
    | some z => bif Nat.beq z.cells.size i.size then some z.cells.toList else none
    | none => none
  | none => none
def oneCells : List Value → Bool
  | [] => true
  | x :: r => x.oneCell' && oneCells r
def zeroE (P : Program) (T : TypeId) : Option PV :=
  match zeroT P T with
  | some zs => bif oneCells zs && Nat.blt 0 zs.length && (isAggT P T || Nat.beq zs.length 1) then some (mkE (isAggT P T) (zs.map cpv)) else none
  | none => none
def ibits (op : BinOp) (k : IntKind) (a b : Int) : Int :=
  match op with
  | .and => k.wrap (BitVec.ofInt k.bits a &&& BitVec.ofInt k.bits b).toNat
  | .or => k.wrap (BitVec.ofInt k.bits a ||| BitVec.ofInt k.bits b).toNat
  | .xor => k.wrap (BitVec.ofInt k.bits a ^^^ BitVec.ofInt k.bits b).toNat
  | _ => k.wrap (BitVec.ofInt k.bits a &&& ~~~(BitVec.ofInt k.bits b)).toNat
def binI (op : BinOp) (k : IntKind) (a b : Int) (K : PV → Option R) : Option R :=
  match op with
  | .add => K (.v (.int k (k.wrap (a + b))))
  | .sub => K (.v (.int k (k.wrap (a - b))))
  | .mul => K (.v (.int k (k.wrap (a * b))))
  | .quo => bif decide (b = 0) then none else K (.v (.int k (k.wrap (a.tdiv b))))
  | .rem => bif decide (b = 0) then none else K (.v (.int k (a.tmod b)))
  | .and => K (.v (.int k (ibits .and k a b)))
  | .or => K (.v (.int k (ibits .or k a b)))
  | .xor => K (.v (.int k (ibits .xor k a b)))
  | .andNot => K (.v (.int k (ibits .andNot k a b)))
  | .eql => K (.v (.bool (a == b)))
  | .neq => K (.v (.bool (a != b)))
  | .lss => K (.v (.bool (decide (a < b))))
  | .leq => K (.v (.bool (decide (a ≤ b))))
  | .gtr => K (.v (.bool (decide (a > b))))
  | .geq => K (.v (.bool (decide (a ≥ b))))
  | _ => none
def leN : Nat → Nat → Bool
  | 0, _ => true
  | n + 1, m => match m with
    | 0 => false
    | m + 1 => leN n m
def catS (a b : ByteArray) (K : ByteArray → Option R) : Option R :=
  bif leN (a.size + b.size) 9223372036854775807 then K (a ++ b) else none
def eqS (a b : ByteArray) : Bool := a.data.toList == b.data.toList
def ltS (a b : ByteArray) : Bool := Op.bytesLess a.data.toList b.data.toList
def binS (op : BinOp) (a b : ByteArray) (K : PV → Option R) : Option R :=
  match op with
  | .add => catS a b fun c => K (.v (.string c))
  | .eql => K (.v (.bool (eqS a b)))
  | .neq => K (.v (.bool (!eqS a b)))
  | .lss => K (.v (.bool (ltS a b)))
  | .leq => K (.v (.bool (ltS a b || eqS a b)))
  | .gtr => K (.v (.bool (!(ltS a b || eqS a b))))
  | .geq => K (.v (.bool (!ltS a b)))
  | _ => none
def shI (op : BinOp) (k : IntKind) (a b : Int) (K : PV → Option R) : Option R :=
  match op with
  | .shl => bif decide (b < 0) then none else K (.v (.int k (k.wrap (a * 2 ^ (min b.toNat k.bits)))))
  | .shr => bif decide (b < 0) then none else K (.v (.int k (a.fdiv (2 ^ (min b.toNat k.bits)))))
  | _ => none
def isShift : BinOp → Bool
  | .shl => true
  | .shr => true
  | _ => false
def boolT (P : Program) (T : TypeId) : Bool :=
  match P.underlying T with
  | some .bool => true
  | _ => false
def binK (P : Program) (op : BinOp) (T : TypeId) (x y : PV) (K : PV → Option R) : Option R :=
  match x, y with
  | .v (.int k a), .v (.int k' b) => bif isShift op then shI op k a b K else bif ikEq k k' then binI op k a b K else none
  | .v (.string a), .v (.string b) => binS op a b K
  | .v (.bool a), .v (.bool b) => bif boolT P T then (match op with
    | .eql => K (.v (.bool (a == b)))
    | .neq => K (.v (.bool (!(a == b))))
    | _ => none) else none
  | _, _ => none
def byteAt (s : ByteArray) (i : Int) : Int := ((s.data.toList.getD i.toNat 0).toNat : Int)
def isU8 : PV → Bool
  | .v (.int .u8 _) => true
  | _ => false
def u8n : PV → UInt8
  | .v (.int .u8 n) => UInt8.ofNat n.toNat
  | _ => 0
def allU8 : List PV → Bool
  | [] => true
  | x :: r => isU8 x && allU8 r
def strOf (es : List PV) : ByteArray := ⟨(es.map u8n).toArray⟩
def bytesOf (s : ByteArray) : List PV := s.data.toList.map fun b => .v (.int .u8 b.toNat)
structure FS where
  om : List Bool
  run : {R : Type} → List SV → (List SV → Option R) → Option R
abbrev Env := Nat → Option FS
def argOf (m : Bool) : RV → Option (SV × List (Nat × SV) × List Nat)
  | .pv x => some (.p x, [], [])
  | .nl => bif m then some (.nl, [], []) else some (.p (.sh []), [], [])
  | .own s cx T es => bif m then some (.own T es, [setPl s cx .dead], []) else some (.p (.sh es), [setPl s cx (.p (.sh es))], [])
  | .box s off T cs => bif m then (bif Nat.beq off 0 then some (.bx T cs, [], [s]) else none)
      else match frzL cs with
        | some ys => some (.p (.fb (ys.drop off)), [(s, .p (.fb ys))], [])
        | none => none
  | .ob s T e bs => bif m then some (.ob T e bs, [], [s]) else none
  | _ => none
def argsOf : List Bool → List RV → Option (List SV × List (Nat × SV) × List Nat)
  | _, [] => some ([], [], [])
  | ms, r :: rs => match argOf (ms.headD false) r, argsOf ms.tail rs with
    | some (a, u, b), some (avs, us, bs) => some (a :: avs, u ++ us, b ++ bs)
    | _, _ => none
def distinct : List Nat → Bool
  | [] => true
  | x :: r => !(memN r x) && distinct r
def tupOf : List SV → SV
  | [x] => x
  | l => .tup l
def zipB : List Nat → List SV → List (Nat × SV)
  | s :: ss, x :: xs => (s, x) :: zipB ss xs
  | _, _ => []
def callK (fs : FS) (args : List RV) (K : Out → Option R) : Option R :=
  match argsOf fs.om args with
  | some (avs, us, bs) =>
    bif distinct (us.map (·.1) ++ bs) then
      fs.run avs fun res =>
        let n := res.length - bs.length
        K ⟨tupOf (res.take n), none, us ++ zipB bs (res.drop n), bs⟩
    else none
  | none => none
def moveK (r : RV) (K : Out → Option R) : Option R :=
  match r with
  | .pv y => K ⟨.p y, none, [], []⟩
  | .nl => K ⟨.nl, none, [], []⟩
  | .own s cx _ _ => K ⟨.dead, some (.o s (cx.map (·.1))), [], []⟩
  | .box s off _ _ => K ⟨.dead, some (.b s off), [], []⟩
  | .ob s _ _ _ => K ⟨.dead, some (.b s 0), [], []⟩
  | .el s cx T _ i off => K ⟨.dead, some (.e s (cx.map (·.1)) T i off), [], []⟩
  | .tup s l => K ⟨.tup l, none, [(s, .dead)], []⟩
  | .bad => none
def directTmp (x : Operand) (s : Nat) : Bool :=
  match x with
  | .tmp t => Nat.beq t s
  | _ => false
def isDirect (x : Operand) (s : Nat) (cx : Option (Nat × TypeId × List SV)) : Bool :=
  match cx with
  | none => directTmp x s
  | some _ => false
def valOf (x : Operand) (r : RV) : Option (PV × List (Nat × SV)) :=
  match r with
  | .pv y => some (y, [])
  | .nl => some (.sh [], [])
  | .own s cx _ es => some (.sh es, [setPl s cx (.p (.sh es))])
  | _ => none
def valsOf : List (Operand × RV) → Option (List PV × List (Nat × SV))
  | [] => some ([], [])
  | (x, r) :: l => match valOf x r, valsOf l with
    | some (y, u), some (ys, us) => some (y :: ys, u ++ us)
    | _, _ => none
def fillS (P : Program) (S : TypeId) : List (Nat × PV) → List PV → Option (List PV)
  | [], cs => some cs
  | (f, y) :: l, cs => match foff P S f with
    | some (o, T) => match sizeT P T with
      | some n => bif Nat.beq (cellsOf y).length n && Nat.ble (o + n) cs.length && leafs (cellsOf y) then fillS P S l (spliceP cs o (cellsOf y)) else none
      | none => none
    | none => none
def setAll : List (Nat × PV) → List PV → List PV
  | [], es => es
  | (i, y) :: l, es => setAll l (es.set i y)
def okElems (n : Nat) (len : Nat) : List (Nat × PV) → Bool
  | [] => true
  | (i, y) :: l => Nat.blt i len && Nat.beq (cellsOf y).length n && leafs (cellsOf y) && okElems n len l
def inR (i : Int) (n : Nat) : Bool := decide (0 ≤ i) && decide (i < (n : Int))
def cutR (lo hi : Int) (n : Nat) : Bool := decide (0 ≤ lo) && decide (lo ≤ hi) && decide (hi ≤ (n : Int))
def intOpd (x : Option RV) (dflt : Int) : Option Int :=
  match x with
  | none => some dflt
  | some (.pv (.v (.int _ n))) => some n
  | _ => none
def lenOK (n bytes : Nat) : Bool := decide (n * bytes ≤ 140737488355328) && decide (n ≤ 140737488355328)
def hdSz (n : Nat) : List PV → Bool
  | [] => true
  | e :: _ => Nat.beq (cellsOf e).length n
def hasSize (P : Program) (T : TypeId) : Bool :=
  match sizeT P T with
  | some _ => true
  | none => false
def hasZero (P : Program) (T : TypeId) : Bool :=
  match zeroT P T with
  | some _ => true
  | none => false
def posT (P : Program) (T : TypeId) : Bool :=
  match sizeT P T with
  | some n => Nat.blt 0 n
  | none => false
def allInfo (P : Program) : List Field → Bool
  | [] => true
  | f :: l => (match P.info? f.type with | some _ => true | none => false) && allInfo P l
def bytesT (P : Program) (T : TypeId) : Option Nat := (P.info? T).map (·.bytes)
def out (x : SV) : Out := ⟨x, none, [], []⟩
def outP (x : PV) : Out := ⟨.p x, none, [], []⟩
def outR (r : Ref) : Out := ⟨.dead, some r, [], []⟩
def load1K (P : Program) (r : RV) (K : Out → Option R) : Option R :=
  match r with
  | .box s off _ cs => bif Nat.blt off cs.length then (match cs.getD off .dead with
      | .p y => K (outP y)
      | .nl => K (out .nl)
      | .own _ _ => K (outR (.o s (some off)))
      | _ => none) else none
  | .el _ _ T' es i off => chkT P T' (es.getD i (.v (.bool false))) fun ys => bif Nat.blt off ys.length then K (outP (ys.getD off (.v (.bool false)))) else none
  | .pv (.fb cs) => uncons cs fun y _ => K (outP y)
  | _ => none
def loadNK (P : Program) (n : Nat) (r : RV) (K : Out → Option R) : Option R :=
  match r with
  | .box s off Tb cs => bif Nat.ble (off + n) cs.length then (match frzL ((cs.drop off).take n) with
      | some ys => K ⟨.p (.agg ys), none, (bif anyOwn ((cs.drop off).take n) then [(s, .bx Tb (splice cs off ys))] else []), []⟩
      | none => none) else none
  | .el _ _ T' es i off => chkT P T' (es.getD i (.v (.bool false))) fun ys => bif Nat.ble (off + n) ys.length then K (outP (.agg ((ys.drop off).take n))) else none
  | .pv (.fb cs) => bif Nat.ble n cs.length then K (outP (.agg (cs.take n))) else none
  | _ => none
def store1K (P : Program) (r : RV) (x : Operand) (y : RV) (K : Out → Option R) : Option R :=
  match r with
  | .box s off Tb cs => bif Nat.blt off cs.length then (match y with
      | .pv z => bif z.leaf then K ⟨.dead, none, [(s, .bx Tb (cs.set off (.p z)))], [s]⟩ else none
      | .nl => K ⟨.dead, none, [(s, .bx Tb (cs.set off .nl))], [s]⟩
      | .own s2 cx2 T2 es2 => bif Nat.beq s2 s then none else bif isDirect x s2 cx2
          then K ⟨.dead, none, [(s, .bx Tb (cs.set off (.own T2 es2))), (s2, .dead)], [s]⟩
          else K ⟨.dead, none, [(s, .bx Tb (cs.set off (.p (.sh es2)))), setPl s2 cx2 (.p (.sh es2))], [s]⟩
      | _ => none) else none
  | .el s cx T' es i off => match y with
      | .pv z => bif z.leaf then chkT P T' (es.getD i (.v (.bool false))) (fun ys => bif Nat.blt off ys.length
          then K ⟨.dead, none, [setPl s cx (.own T' (es.set i (mkE (isAggT P T') (ys.set off z))))], []⟩ else none) else none
      | .nl => chkT P T' (es.getD i (.v (.bool false))) fun ys => bif Nat.blt off ys.length
          then K ⟨.dead, none, [setPl s cx (.own T' (es.set i (mkE (isAggT P T') (ys.set off (.sh [])))))], []⟩ else none
      | .own s2 cx2 _ es2 => bif Nat.beq s2 s then none else chkT P T' (es.getD i (.v (.bool false))) fun ys => bif Nat.blt off ys.length
          then K ⟨.dead, none, [setPl s cx (.own T' (es.set i (mkE (isAggT P T') (ys.set off (.sh es2))))), setPl s2 cx2 (.p (.sh es2))], []⟩ else none
      | _ => none
  | _ => none
def storeNK (P : Program) (n : Nat) (r : RV) (y : RV) (K : Out → Option R) : Option R :=
  match y with
  | .pv (.agg zs) => bif Nat.beq zs.length n && leafs zs then (match r with
      | .box s off Tb cs => bif Nat.ble (off + n) cs.length then K ⟨.dead, none, [(s, .bx Tb (splice cs off zs))], [s]⟩ else none
      | .el s cx T' es i off => chkT P T' (es.getD i (.v (.bool false))) fun ys => bif Nat.ble (off + n) ys.length
          then K ⟨.dead, none, [setPl s cx (.own T' (es.set i (mkE (isAggT P T') (spliceP ys off zs))))], []⟩ else none
      | _ => none) else none
  | _ => none
def appendK (n bytes : Nat) (E : TypeId) (s x : RV) (K : Out → Option R) : Option R :=
  match s with
  | .own s1 cx T es => bif Nat.beq T E then (match x with
      | .nl => K ⟨.own T es, none, [setPl s1 cx .dead], []⟩
      | .pv (.sh es2) => bif hdSz n es2 && lenOK (es.length + es2.length) bytes then K ⟨.own T (es ++ es2), none, [setPl s1 cx .dead], []⟩ else none
      | .own s2 _ T2 es2 => bif Nat.beq T2 E && !(Nat.beq s1 s2) && lenOK (es.length + es2.length) bytes then K ⟨.own T (es ++ es2), none, [setPl s1 cx .dead], []⟩ else none
      | _ => none) else none
  | .nl => (match x with
      | .nl => K (out .nl)
      | .pv (.sh es2) => bif hdSz n es2 && lenOK es2.length bytes then K (out (.own E es2)) else none
      | .own _ _ T2 es2 => bif Nat.beq T2 E && lenOK es2.length bytes then K (out (.own E es2)) else none
      | _ => none)
  | _ => none
def lenK (x : RV) (K : Out → Option R) : Option R :=
  match x with
  | .pv (.v (.string s)) => K (outP (.v (.int .i64 (s.size : Int))))
  | .pv (.sh es) => K (outP (.v (.int .i64 (es.length : Int))))
  | .own _ _ _ es => K (outP (.v (.int .i64 (es.length : Int))))
  | .nl => K (outP (.v (.int .i64 0)))
  | _ => none
def isStr (P : Program) (T : TypeId) : Bool :=
  match P.underlying T with
  | some .string => true
  | _ => false
def isSlice (P : Program) (T : TypeId) : Bool :=
  match elemT P T with
  | some _ => true
  | none => false
def lenT (P : Program) (tys : List TypeId) (x : RV) : Bool :=
  match tys with
  | t :: _ => (match x with
      | .pv (.v (.string _)) => isStr P t
      | _ => isSlice P t)
  | [] => false
def minI (a b : Int) : Int := if b < a then b else a
def maxI (a b : Int) : Int := if a < b then b else a
def builtinK (P : Program) (b : Builtin) (tys : List TypeId) (args : List RV) (K : Out → Option R) : Option R :=
  match b, args with
  | .len, [x] => bif lenT P tys x then lenK x K else none
  | .append, [s, x] => (match tys with
      | [t, t2] => bif Nat.beq t t2 then (match elemT P t with
          | some E => (match sizeT P E, bytesT P E with
              | some n, some bytes => bif Nat.blt 0 n && hasZero P E then appendK n bytes E s x K else none
              | _, _ => none)
          | none => none) else none
      | _ => none)
  | .min, [.pv (.v (.int k a)), .pv (.v (.int k' b))] => bif ikEq k k' then K (outP (.v (.int k (minI a b)))) else none
  | .min, [.pv (.v (.int k a)), .pv (.v (.int k' b)), .pv (.v (.int k'' c))] => bif ikEq k k' && ikEq k k'' then K (outP (.v (.int k (minI (minI a b) c)))) else none
  | .max, [.pv (.v (.int k a)), .pv (.v (.int k' b))] => bif ikEq k k' then K (outP (.v (.int k (maxI a b)))) else none
  | _, _ => none
def unK (op : UnOp) (x : PV) (K : PV → Option R) : Option R :=
  match op, x with
  | .neg, .v (.int k n) => K (.v (.int k (k.wrap (0 - n))))
  | .not, .v (.bool b) => K (.v (.bool (!b)))
  | .xor, .v (.int k n) => K (.v (.int k (ibits .xor k (if k.signed then -1 else k.max) n)))
  | _, _ => none
def bytesK (P : Program) (src : TypeId) (es : List PV) (K : Out → Option R) : Option R :=
  match elemT P src with
  | some e => (match P.underlying e with
      | some (.int .u8) => bif allU8 es then K (outP (.v (.string (strOf es)))) else none
      | _ => none)
  | none => none
def isU8s (P : Program) (T : TypeId) : Bool :=
  match elemT P T with
  | some e => (match P.underlying e with
      | some (.int .u8) => true
      | _ => false)
  | none => false
def convK (P : Program) (src dst : TypeId) (x : RV) (K : Out → Option R) : Option R :=
  bif !(knownT P src) then none else
  match P.underlying dst, x with
  | some (.int k), .pv (.v (.int _ n)) => K (outP (.v (.int k (k.wrap n))))
  | some .string, .pv (.v (.string s)) => K (outP (.v (.string s)))
  | some .string, .pv (.sh es) => bytesK P src es K
  | some .string, .own _ _ _ es => bytesK P src es K
  | some .string, .nl => bytesK P src [] K
  | some (.slice _), .pv (.v (.string s)) => bif isStr P src && isU8s P dst && lenOK s.size 1 then K (outP (.sh (bytesOf s))) else none
  | _, _ => none
def sliceK (P : Program) (T : TypeId) (x : RV) (lo hi : Option RV) (K : Out → Option R) : Option R :=
  match P.underlying T, x with
  | some .string, .pv (.v (.string s)) => (match intOpd lo 0, intOpd hi (s.size : Int) with
      | some l, some h => bif cutR l h s.size then K (outP (.v (.string (s.extract l.toNat h.toNat)))) else none
      | _, _ => none)
  | some (.slice E), .pv (.sh es) => (match sizeT P E, intOpd lo 0, intOpd hi (es.length : Int) with
      | some n, some l, some h => bif hdSz n es && cutR l h es.length then K (outP (.sh ((es.take h.toNat).drop l.toNat))) else none
      | _, _, _ => none)
  | some (.slice E), .own s cx T' es => (match sizeT P E, intOpd lo 0, intOpd hi (es.length : Int) with
      | some n, some l, some h => bif Nat.beq T' E && cutR l h es.length then K ⟨.p (.sh ((es.take h.toNat).drop l.toNat)), none, [setPl s cx (.p (.sh es))], []⟩ else none
      | _, _, _ => none)
  | some (.slice E), .nl => bif hasSize P E then (match intOpd lo 0, intOpd hi 0 with
      | some l, some h => bif cutR l h 0 then K (out .nl) else none
      | _, _ => none) else none
  | _, _ => none
def noneB {α : Type} : Option α → Bool
  | none => true
  | some _ => false
def indexAddrK (P : Program) (T : TypeId) (x i : RV) (K : Out → Option R) : Option R :=
  match elemT P T, i with
  | some E, .pv (.v (.int _ i)) => (match sizeT P E with
      | some n => (match x with
          | .own s cx T' es => bif Nat.beq T' E then (bif inR i es.length then K (outR (.e s (cx.map (·.1)) T' i.toNat 0)) else none) else none
          | .pv (.sh es) => bif inR i es.length then chkT P E (es.getD i.toNat (.v (.bool false))) (fun ys => bif Nat.beq ys.length n then K (outP (.fb ys)) else none) else none
          | _ => none)
      | none => none)
  | _, _ => none
def opK (P : Program) (env : Env) (o : Op) (ty : TypeId) (ρ : Operand → RV) (K : Out → Option R) : Option R :=
  match o with
  | .move x => moveK (ρ x) K
  | .assign x => (match ρ x with
      | .own s cx T es => bif isDirect x s cx then K ⟨.own T es, none, [(s, .dead)], []⟩ else K ⟨.p (.sh es), none, [setPl s cx (.p (.sh es))], []⟩
      | .pv y => K (outP y)
      | .nl => K (out .nl)
      | .tup s l => K ⟨.tup l, none, [(s, .dead)], []⟩
      | _ => none)
  | .pick c a b => (match ρ c with
      | .pv (.v (.bool t)) => (match ρ a, ρ b with
          | .pv (.v (.bool x)), .pv (.v (.bool y)) => K (outP (.v (.bool (bif t then x else y))))
          | ra, rb => bif t then moveK ra K else moveK rb K)
      | _ => none)
  | .alloc T => (match zeroT P T with
      | some zs => bif oneCells zs then K (out (.bx T (zs.map zsv))) else none
      | none => none)
  | .box T x => (match sizeT P T with
      | some n => (match ρ x with
          | .pv y => bif Nat.beq (cellsOf y).length n && leafs (cellsOf y) then K (out (.bx T ((cellsOf y).map .p))) else none
          | .nl => bif Nat.beq n 1 then K (out (.bx T [.nl])) else none
          | .own s cx T2 es => bif Nat.beq n 1 then (bif isDirect x s cx then K ⟨.bx T [.own T2 es], none, [(s, .dead)], []⟩ else K ⟨.bx T [.p (.sh es)], none, [setPl s cx (.p (.sh es))], []⟩) else none
          | _ => none)
      | none => none)
  | .build T parts => (match P.underlying T, zeroT P T, valsOf (parts.toList.map fun q => (q.2, ρ q.2)) with
      | some (.struct fs), some zs, some (ys, us) => bif distinct (us.map (·.1)) && oneCells zs && allInfo P fs.toList then (match fillS P T ((parts.toList.map (·.1)).zip ys) (zs.map cpv) with
          | some cs => K ⟨.p (.agg cs), none, us, []⟩
          | none => none) else none
      | _, _, _ => none)
  | .buildSlice T len parts => (match elemT P T, valsOf (parts.toList.map fun q => (q.2, ρ q.2)) with
      | some E, some (ys, us) => (match zeroE P E, sizeT P E with
          | some ze, some n => bif distinct (us.map (·.1)) && Nat.ble (len * n) 1000 && okElems n len ((parts.toList.map (·.1)).zip ys)
              then K ⟨.own E (setAll ((parts.toList.map (·.1)).zip ys) (List.replicate len ze)), none, us, []⟩ else none
          | _, _ => none)
      | _, _ => none)
  | .load T x => bif !(knownT P T) then none else bif isAggT P T then (match sizeT P T with
      | some n => loadNK P n (ρ x) K
      | none => none) else load1K P (ρ x) K
  | .store T x y => bif isAggT P T then (match sizeT P T with
      | some n => storeNK P n (ρ x) (ρ y) K
      | none => none) else (match sizeT P T with
      | some n => bif Nat.beq n 1 then store1K P (ρ x) y (ρ y) K else none
      | none => none)
  | .nilCheck x => (match ρ x with
      | .box s off Tb cs => moveK (.box s off Tb cs) K
      | .ob s T e bs => moveK (.ob s T e bs) K
      | .el s cx T es i off => moveK (.el s cx T es i off) K
      | .pv (.fb cs) => K (outP (.fb cs))
      | .pv (.clo f cs) => K (outP (.clo f cs))
      | .pv (.v (.func (.func f) a b)) => K (outP (.v (.func (.func f) a b)))
      | _ => none)
  | .binOp op T x y _ => (match ρ x, ρ y with
      | .pv a, .pv b => binK P op T a b fun z => K (outP z)
      | _, _ => none)
  | .unOp op _ x => (match ρ x with
      | .pv a => unK op a fun z => K (outP z)
      | _ => none)
  | .convert s d x => convK P s d (ρ x) K
  | .makeFunc (.func f) first caps => (match first.toList, valsOf (caps.toList.map fun q => (q, ρ q)) with
      | [], some (ys, us) => bif distinct (us.map (·.1)) then K ⟨.p (.clo f ys), none, us, []⟩ else none
      | _, _ => none)
  | .makeSlice T l c => (match elemT P T, ρ l, ρ c with
      | some E, .pv (.v (.int _ l)), .pv (.v (.int _ c)) => (match zeroE P E, bytesT P E with
          | some ze, some bytes => bif decide (0 ≤ l) && decide (l ≤ c) && lenOK c.toNat bytes then K (out (.own E (List.replicate l.toNat ze))) else none
          | _, _ => none)
      | _, _, _ => none)
  | .slice T x lo hi mx => bif noneB mx then sliceK P T (ρ x) (lo.map ρ) (hi.map ρ) K else none
  | .fieldAddr S x f => (match foff P S f with
      | some (o, fT) => bif posT P fT then (match ρ x with
          | .box s off _ _ => K (outR (.b s (off + o)))
          | .el s cx T _ i off => K (outR (.e s (cx.map (·.1)) T i (off + o)))
          | .pv (.fb cs) => K (outP (.fb (cs.drop o)))
          | _ => none) else none
      | none => none)
  | .field S x f => (match foff P S f, ρ x with
      | some (o, T), .pv (.agg cs) => bif !(knownT P T) then none else (match sizeT P T with
          | some n => bif isAggT P T then (bif Nat.ble (o + n) cs.length then K (outP (.agg ((cs.drop o).take n))) else none)
              else (bif Nat.blt o cs.length then K (outP (cs.getD o (.v (.bool false)))) else none)
          | none => none)
      | _, _ => none)
  | .indexAddr T x i => indexAddrK P T (ρ x) (ρ i) K
  | .index T x i => (match P.underlying T, ρ x, ρ i with
      | some .string, .pv (.v (.string s)), .pv (.v (.int _ i)) => bif inR i s.size then K (outP (.v (.int .u8 (byteAt s i)))) else none
      | _, _, _ => none)
  | .extract x i => (match ρ x with
      | .tup s l => (match l.getD i .dead with
          | .p y => K (outP y)
          | .nl => K (out .nl)
          | .own T es => K ⟨.own T es, none, [(s, .tup (l.set i .dead))], []⟩
          | .bx T cs => K ⟨.bx T cs, none, [(s, .tup (l.set i .dead))], []⟩
          | .ob T e bs => K ⟨.ob T e bs, none, [(s, .tup (l.set i .dead))], []⟩
          | _ => none)
      | _ => none)
  | .call c => (match c.callee with
      | .builtin b => builtinK P b c.argTypes.toList (c.args.toList.map ρ) K
      | .value f => (match ρ f with
          | .pv (.v (.func (.func g) fi ca)) => (match fi.toList, ca.toList, env g with
              | [], [], some fs => callK fs (c.args.toList.map ρ) K
              | _, _, _ => none)
          | .pv (.clo g caps) => (match env g with
              | some fs => callK fs (c.args.toList.map ρ ++ caps.map RV.pv) K
              | none => none)
          | _ => none)
      | _ => none)
  | _ => none
end Go.Proofs.YtfbahcfojiaeaaaGreatDoor.Th


set_option linter.unusedVariables false
namespace Go.Proofs.YtfbahcfojiaeaaaGreatDoor.Th
open Go
variable {R : Type}
inductive Ex where
  | normal
  | exit (id : Nat)
  | ret
abbrev Kc (R : Type) := Ex → Fr → Option R
inductive Co where
  | id
  | own (T : TypeId)
  | sh
def coe (c : Co) (x : SV) : SV :=
  match c with
  | .id => x
  | .own T => match x with
    | .nl => .own T []
    | y => y
  | .sh => match x with
    | .nl => .p (.sh [])
    | .own _ es => .p (.sh es)
    | y => y
def lk : List (Nat × Co) → List SV → Fr
  | (s, _) :: l, x :: xs => fun j => bif Nat.beq j s then x else lk l xs j
  | _, _ => fun _ => .dead
def snap : List (Nat × Co) → Fr → List SV
  | [], _ => []
  | (s, c) :: l, fr => coe c (fr s) :: snap l fr
abbrev Lv := List (Nat × Co)
structure Ann where
  loops : List (Nat × Lv × Lv)
  cuts : List (Nat × Lv × Lv)
  frz : List Nat
  rm : List Co
def findA : List (Nat × Lv × Lv) → Nat → Option (Lv × Lv)
  | [], _ => none
  | (k, x) :: l, n => bif Nat.beq k n then some x else findA l n
def firstId : Code → Option Nat
  | .region id _ _ => some id
  | .seq a b => match firstId a with
    | some i => some i
    | none => firstId b
  | .cond _ a b => match firstId a with
    | some i => some i
    | none => firstId b
  | .block _ a => firstId a
  | .loop a => firstId a
  | _ => none
def annOf (l : List (Nat × Lv × Lv)) (c : Code) : Option (Lv × Lv) :=
  match firstId c with
  | some i => findA l i
  | none => none
def freezeK (r : RV) (K : Out → Option R) : Option R :=
  match valOf (.tmp 0) r with
  | some (y, us) => K ⟨.p y, none, us, []⟩
  | none => none
def opF (P : Program) (env : Env) (fz : List Nat) (o : Oper) (ρ : Operand → RV) (K : Out → Option R) : Option R :=
  match o.op with
  | .move x => (match o.dst with
    | some d => bif memN fz d then freezeK (ρ x) K else moveK (ρ x) K
    | none => moveK (ρ x) K)
  | op => opK P env op o.type ρ K
def skipOut : Out := ⟨.p (.v (.tuple #[])), none, [], []⟩
def goO (P : Program) (env : Env) (fz : List Nat) (N : Nat × List Nat) (o : Oper) (st : St) (K : St → Out → Option R) : Option R :=
  opF P env fz o (opd st) fun r => bif r.fits N o.dst then K st r else none
def skO (N : Nat × List Nat) (o : Oper) (st : St) (K : St → Out → Option R) : Option R :=
  bif skipOut.fits N o.dst then K st skipOut else none
def setB (st : St) (d : Nat) (b : Bool) : St := { st with fr := upd1 st.fr d (.p (.v (.bool b))) }
def operO (P : Program) (env : Env) (fz : List Nat) (N : Nat × List Nat) (ops : List Oper) (o : Oper) (st : St) (K : St → Out → Option R) : Option R :=
  match o.guard with
  | none => goO P env fz N o st K
  | some (j, want) => match (ops[j]?).bind (·.dst) with
    | none => none
    | some d => match rfind st.ral d with
      | some _ => none
      | none => match st.fr d with
        | .p (.v (.bool t)) =>
          bif t then (bif want then goO P env fz N o (setB st d true) K else skO N o (setB st d true) K)
          else (bif want then skO N o (setB st d false) K else goO P env fz N o (setB st d false) K)
        | .p (.v (.tuple _)) => skO N o st K
        | _ => none
def opsE (P : Program) (env : Env) (fz : List Nat) (N : Nat × List Nat) (ops : List Oper) : List Oper → St → (St → Option R) → Option R
  | [], st, K => K st
  | o :: r, st, K => operO P env fz N ops o st fun st' out => opsE P env fz N ops r (st'.put o.dst out) K
structure Fp where
  rd : List Nat
  wr : List Nat
  calm : Bool
def rdOp (st : St) : Operand → List Nat
  | .tmp t => match rfind st.ral t with
    | some r => [t, r.root]
    | none => [t]
  | _ => []
def rdOps (st : St) : List Operand → List Nat
  | [] => []
  | x :: l => rdOp st x ++ rdOps st l
def gdOf (ops : List Oper) (o : Oper) : List Nat :=
  match o.guard with
  | some (j, _) => match (ops[j]?).bind (·.dst) with
    | some d => [d]
    | none => []
  | none => []
def allKeep (d : Option Nat) (drop : List Nat) : List (Nat × Ref) → Bool
  | [] => true
  | (t, r) :: l => keepRef d drop t r && allKeep d drop l
def fpOf (ops : List Oper) (o : Oper) (st : St) (r : Out) : Fp :=
  { rd := gdOf ops o ++ rdOps st o.op.operands.toList ++ (match r.ref with | some q => [q.root] | none => [])
    wr := o.dst.toList ++ r.upd.map (·.1) ++ r.drop
    calm := allKeep o.dst r.drop st.ral }
def interN : List Nat → List Nat → Bool
  | [], _ => false
  | x :: r, b => memN b x || interN r b
def clash (a b : Fp) : Bool := interN a.wr b.wr || interN a.wr b.rd || interN a.rd b.wr
def preds (o : Oper) : List Nat := (o.after.toList.filter fun e => Region.binds .any e).map (·.on)
def befs : List Oper → List (List Nat) → List (List Nat)
  | [], acc => acc
  | o :: r, acc => befs r (acc ++ [preds o ++ (preds o).flatMap fun i => acc.getD i []])
def allLt (i : Nat) : List Nat → Bool
  | [] => true
  | x :: r => Nat.blt x i && allLt i r
def edgesBack : Nat → List Oper → Bool
  | _, [] => true
  | i, o :: r => allLt i (preds o) && edgesBack (i + 1) r
def okWith (fj : Fp) (bj : List Nat) : Nat → List Fp → Bool
  | _, [] => true
  | i, f :: r => (memN bj i || !(clash f fj)) && okWith fj bj (i + 1) r
def okPairs : List Fp → List (List Nat) → List Fp → Bool
  | ahead, b :: bs, f :: fs => f.calm && okWith f b 0 ahead && okPairs (ahead ++ [f]) bs fs
  | _, _, [] => true
  | _, [], _ :: _ => false
def okDraw (ops : List Oper) (tr : List Fp) : Bool := edgesBack 0 ops && okPairs [] (befs ops []) tr
def opsD (P : Program) (env : Env) (fz : List Nat) (N : Nat × List Nat) (ops : List Oper) : List Oper → St → List Fp → (St → List Fp → Option R) → Option R
  | [], st, tr, K => K st tr
  | o :: r, st, tr, K => operO P env fz N ops o st fun st' out => opsD P env fz N ops r (st'.put o.dst out) (tr ++ [fpOf ops o st' out]) K
def regE (P : Program) (env : Env) (fz : List Nat) (N : Nat × List Nat) (ops : List Oper) (draw : Bool) (fr : Fr) (K : Fr → Option R) : Option R :=
  bif draw then (bif P.follows .mixedOrders then opsD P env fz N ops ops ⟨fr, []⟩ [] fun st tr => bif okDraw ops tr then K st.fr else none else none)
  else opsE P env fz N ops ops ⟨fr, []⟩ fun st => K st.fr
def evLoop (f : Fr → Kc R → Option R) (live out : Lv) : Nat → List SV → Kc R → Option R
  | 0, _, _ => none
  | n + 1, vs, K => f (lk live vs) fun e fr => match e with
    | .normal => evLoop f live out n (snap live fr) K
    | .exit i => K (.exit i) (lk out (snap out fr))
    | .ret => K .ret (lk out (snap out fr))
def evCut (f : Fr → Kc R → Option R) (live out : Lv) (vs : List SV) (K : Kc R) : Option R :=
  f (lk live vs) fun e fr => K e (lk out (snap out fr))
def evC (P : Program) (env : Env) (ann : Ann) (n : Nat) (N : Nat × List Nat) : Code → Fr → Kc R → Option R
  | .skip, fr, K => K .normal fr
  | .region _ ops draw, fr, K => regE P env ann.frz N ops.toList draw fr fun fr' => K .normal fr'
  | .seq a b, fr, K => evC P env ann n N a fr fun e fr' => match e with
    | .normal => (match annOf ann.cuts b with
        | some (live, out) => evCut (fun f k => evC P env ann n N b f k) live out (snap live fr') K
        | none => evC P env ann n N b fr' K)
    | .exit i => K (.exit i) fr'
    | .ret => K .ret fr'
  | .cond c a b, fr, K => (match opd ⟨fr, []⟩ c with
    | .pv (.v (.bool t)) => bif t then evC P env ann n N a fr K else evC P env ann n N b fr K
    | _ => none)
  | .block id a, fr, K => evC P env ann n N a fr fun e fr' => match e with
    | .exit i => bif Nat.beq i id then K .normal fr' else K (.exit i) fr'
    | .normal => K .normal fr'
    | .ret => K .ret fr'
  | .loop a, fr, K => (match annOf ann.loops a with
    | some (live, out) => evLoop (fun f k => evC P env ann n N a f k) live out n (snap live fr) K
    | none => none)
  | .exit i, fr, K => K (.exit i) fr
  | .ret, fr, K => K .ret fr
  | _, _, _ => none
def argFr (args : List SV) : Fr := fun j => args.getD j .dead
def resOf (P : Program) (c : Co) (fr : Fr) : ResultVar → Option SV
  | .tmp t => match coe c (fr t) with
    | .p y => some (.p y)
    | .own T es => some (.own T es)
    | .bx T cs => some (.bx T cs)
    | .ob T e bs => some (.ob T e bs)
    | _ => none
  | .cell t _ => match fr t with
    | .p y => some (.p y)
    | _ => none
def cellOut (P : Program) (T : TypeId) (t : Nat) (x : SV) : Option Out :=
  match x with
  | .bx Tb cs => bif knownT P T then (bif isAggT P T then (match sizeT P T with
      | some n => loadNK P n (.box t 0 Tb cs) some
      | none => none) else load1K P (.box t 0 Tb cs) some) else none
  | _ => none
def noRef : Out → Bool
  | ⟨_, none, _, _⟩ => true
  | _ => false
def resCells (P : Program) (N : Nat × List Nat) : List ResultVar → Fr → Option Fr
  | [], fr => some fr
  | .tmp _ :: r, fr => resCells P N r fr
  | .cell t T :: r, fr => match cellOut P T t (fr t) with
    | some o => bif o.fits N (some t) && noRef o then resCells P N r (St.put ⟨fr, []⟩ (some t) o).fr else none
    | none => none
def resL (P : Program) (fr : Fr) : List Co → List ResultVar → Option (List SV)
  | _, [] => some []
  | cs, x :: r => match resOf P (cs.headD .sh) fr x, resL P fr cs.tail r with
    | some y, some ys => some (y :: ys)
    | _, _ => none
def resTmps : List ResultVar → List Nat
  | [] => []
  | .tmp t :: r => t :: resTmps r
  | .cell t _ :: r => t :: resTmps r
def backIx : Nat → List SV → List Nat
  | _, [] => []
  | i, .bx _ _ :: r => i :: backIx (i + 1) r
  | i, .ob _ _ _ :: r => i :: backIx (i + 1) r
  | i, _ :: r => backIx (i + 1) r
def backs (fr : Fr) : List Nat → Option (List SV)
  | [] => some []
  | i :: r => match fr i, backs fr r with
    | .bx T cs, some l => some (.bx T cs :: l)
    | .ob T e bs, some l => some (.ob T e bs :: l)
    | _, _ => none
def finK (P : Program) (ann : Ann) (fn : Func) (args : List SV) (fr : Fr) (K : List SV → Option R) : Option R :=
  match resCells P (fn.ntmps, backIx 0 args) fn.results.toList fr with
  | none => none
  | some fr => match resL P fr ann.rm fn.results.toList, backs fr (backIx 0 args) with
    | some rs, some bs => bif distinct (resTmps fn.results.toList ++ backIx 0 args) && Nat.ble rs.length 4 then K (rs ++ bs) else none
    | _, _ => none
def evFn (P : Program) (env : Env) (ann : Ann) (n : Nat) (fn : Func) (args : List SV) (K : List SV → Option R) : Option R :=
  match fn.body with
  | some c => bif Nat.ble args.length fn.ntmps then evC P env ann n (fn.ntmps, backIx 0 args) c (argFr args) fun e fr => match e with
      | .exit _ => none
      | .normal => finK P ann fn args fr K
      | .ret => finK P ann fn args fr K
    else none
  | none => none
def subC : Code → List Nat → Code
  | c, [] => c
  | .seq a b, i :: l => bif Nat.beq i 0 then subC a l else subC b l
  | .cond _ a b, i :: l => bif Nat.beq i 0 then subC a l else subC b l
  | .block _ a, _ :: l => subC a l
  | .loop a, _ :: l => subC a l
  | c, _ => c
def bodyOf (fn : Func) : Code := fn.body.getD .skip
end Go.Proofs.YtfbahcfojiaeaaaGreatDoor.Th


set_option linter.unusedVariables false
set_option linter.unusedSimpArgs false
namespace Go.Proofs.YtfbahcfojiaeaaaGreatDoor.Th
open Go
def DetK {α : Type} (f : (R : Type) → (α → Option R) → Option R) : Prop := (∀ (R : Type) (K : α → Option R), f R K = none) ∨ ∃ a, ∀ (R : Type) (K : α → Option R), f R K = K a
section
variable {α β : Type}
theorem det_none : DetK (fun R (K : α → Option R) => none) := .inl fun _ _ => rfl
theorem det_pure (a : α) : DetK (fun R (K : α → Option R) => K a) := .inr ⟨a, fun _ _ => rfl⟩
theorem det_bif {c : Bool} {f g : (R : Type) → (α → Option R) → Option R} (hf : DetK f) (hg : DetK g) : DetK (fun R K => bif c then f R K else g R K) := by cases c; exact hg; exact hf
theorem det_bind {f : (R : Type) → (α → Option R) → Option R} {g : α → (R : Type) → (β → Option R) → Option R} (hf : DetK f) (hg : ∀ a, DetK (g a)) : DetK (fun R K => f R fun a => g a R K) := by
  rcases hf with hf | ⟨a, hf⟩
  · exact .inl fun R K => hf R _
  · rcases hg a with h | ⟨b, h⟩
    · exact .inl fun R K => (hf R _).trans (h R K)
    · exact .inr ⟨b, fun R K => (hf R _).trans (h R K)⟩
theorem DetK.some {f : (R : Type) → (α → Option R) → Option R} (h : DetK f) {R : Type} {K : α → Option R} {res : R} (hk : f R K = some res) : ∃ a, K a = some res ∧ ∀ (R' : Type) (K' : α → Option R'), f R' K' = K' a := by
  rcases h with h | ⟨a, h⟩
  · rw [h] at hk; cases hk
  · exact ⟨a, (h R K).symm.trans hk, h⟩
theorem det_of {f : (R : Type) → (α → Option R) → Option R} (go : ∀ (R : Type) (K : α → Option R) (res : R), f R K = some res → ∃ a, ∀ (R' : Type) (K' : α → Option R'), f R' K' = K' a) : DetK f := by
  cases hq : f α (fun a => some a) with
  | none =>
    refine .inl fun R K => ?_
    cases h : f R K with
    | none => first | rfl | exact h
    | some r => obtain ⟨a, q⟩ := go R K r h; rw [q] at hq; cases hq
  | some r => obtain ⟨a, q⟩ := go _ _ r hq; exact .inr ⟨a, q⟩
theorem det_getI (k : IntKind) (e : PV) : DetK (fun R K => @getI R k e K) := by
  rcases e with x | _ | _ | _ | _ <;> first | exact det_none | skip
  cases x <;> first | exact det_none | exact det_bif (det_pure _) det_none
theorem det_getB (e : PV) : DetK (fun R K => @getB R e K) := by
  rcases e with x | _ | _ | _ | _ <;> first | exact det_none | skip
  cases x <;> first | exact det_none | exact det_pure _
theorem det_getS (e : PV) : DetK (fun R K => @getS R e K) := by
  rcases e with x | _ | _ | _ | _ <;> first | exact det_none | skip
  cases x <;> first | exact det_none | exact det_pure _
theorem det_getL (e : PV) : DetK (fun R K => @getL R e K) := by cases e <;> first | exact det_none | exact det_pure _
theorem det_unagg (e : PV) : DetK (fun R K => @unagg R e K) := by cases e <;> first | exact det_none | exact det_pure _
theorem det_chk1 (c : CK) (e : PV) : DetK (fun R K => @chk1 R c e K) := by
  cases c with
  | i k => exact det_bind (f := fun R K => getI k e K) (g := fun x R K => K (PV.v (Value.int k x))) (det_getI k e) fun x => det_pure _
  | b => exact det_bind (f := fun R K => getB e K) (g := fun x R K => K (PV.v (Value.bool x))) (det_getB e) fun x => det_pure _
  | s => exact det_bind (f := fun R K => getS e K) (g := fun x R K => K (PV.v (Value.string x))) (det_getS e) fun x => det_pure _
  | sl => exact det_bind (f := fun R K => getL e K) (g := fun x R K => K (PV.sh x)) (det_getL e) fun x => det_pure _
  | o => exact det_bif (det_pure _) det_none
theorem det_chkL : ∀ (ks : List CK) (cs : List PV), DetK (fun R K => @chkL R ks cs K)
  | [], [] => det_pure _
  | [], _ :: _ => det_none
  | _ :: _, [] => det_none
  | c :: r, x :: cs => det_bind (f := fun R K => chk1 c x K) (g := fun y R K => chkL r cs fun ys => K (y :: ys)) (det_chk1 c x) fun y => det_bind (f := fun R K => chkL r cs K) (g := fun ys R K => K (y :: ys)) (det_chkL r cs) fun ys => det_pure _
theorem det_chkE (ag : Bool) (ks : List CK) (e : PV) : DetK (fun R K => @chkE R ag ks e K) := by
  cases ag with
  | true => exact det_bind (f := fun R K => unagg e K) (g := fun cs R K => chkL ks cs K) (det_unagg e) fun cs => det_chkL ks cs
  | false =>
    match ks with
    | [] => exact det_none
    | [c] => exact det_bind (f := fun R K => chk1 c e K) (g := fun y R K => K [y]) (det_chk1 c e) fun y => det_pure _
    | _ :: _ :: _ => exact det_none
theorem det_chkT (P : Program) (T : TypeId) (e : PV) : DetK (fun R K => @chkT R P T e K) := det_chkE _ _ e
theorem det_chkb (P : Program) (T : TypeId) (e : PV) (c : List PV → Bool) (o : List PV → Out) : DetK (fun R (K : Out → Option R) => chkT P T e fun ys => bif c ys then K (o ys) else none) :=
  det_bind (f := fun R K => chkT P T e K) (g := fun ys R K => bif c ys then K (o ys) else none) (det_chkT P T e) fun ys => det_bif (det_pure _) det_none
theorem det_moveK (r : RV) : DetK (fun R K => @moveK R r K) := by cases r <;> first | exact det_none | exact det_pure _
theorem det_binI (op : BinOp) (k : IntKind) (a b : Int) : DetK (fun R K => @binI R op k a b K) := by
  cases op <;> first | exact det_none | exact det_pure _ | exact det_bif det_none (det_pure _)
theorem det_shI (op : BinOp) (k : IntKind) (a b : Int) : DetK (fun R K => @shI R op k a b K) := by
  cases op <;> first | exact det_none | exact det_bif det_none (det_pure _)
theorem det_catS (a b : ByteArray) : DetK (fun R K => @catS R a b K) := det_bif (det_pure _) det_none
theorem det_binS (op : BinOp) (a b : ByteArray) : DetK (fun R K => @binS R op a b K) := by
  cases op <;> first | exact det_none | exact det_pure _ | exact det_bind (f := fun R K => catS a b K) (g := fun c R K => K (PV.v (Value.string c))) (det_catS a b) fun c => det_pure _
theorem det_binK (P : Program) (op : BinOp) (T : TypeId) (x y : PV) : DetK (fun R K => @binK R P op T x y K) := by
  rcases x with x | _ | _ | _ | _ <;> first | exact det_none | skip
  cases x <;> first | exact det_none | skip
  all_goals
    rcases y with y | _ | _ | _ | _ <;> first | exact det_none | skip
    cases y <;> first
      | exact det_none
      | exact det_bif (det_shI _ _ _ _) (det_bif (det_binI _ _ _ _) det_none)
      | exact det_binS _ _ _
      | (refine det_bif ?_ det_none; cases op <;> first | exact det_none | exact det_pure _)
theorem det_load1K (P : Program) (r : RV) : DetK (fun R K => @load1K R P r K) := by
  cases r with
  | box s off T cs =>
    refine det_bif ?_ det_none
    generalize cs.getD off .dead = y
    cases y <;> first | exact det_none | exact det_pure _
  | el s cx T es i off => exact det_chkb _ _ _ _ _
  | pv x =>
    cases x <;> first | exact det_none | skip
    rename_i cs
    cases cs <;> first | exact det_none | exact det_pure _
  | _ => exact det_none
theorem det_loadNK (P : Program) (n : Nat) (r : RV) : DetK (fun R K => @loadNK R P n r K) := by
  cases r with
  | box s off T cs =>
    refine det_bif ?_ det_none
    generalize frzL ((cs.drop off).take n) = y
    cases y <;> first | exact det_none | exact det_pure _
  | el s cx T es i off => exact det_chkb _ _ _ _ _
  | pv x =>
    cases x <;> first | exact det_none | exact det_bif (det_pure _) det_none
  | _ => exact det_none
theorem det_store1K (P : Program) (r : RV) (x : Operand) (y : RV) : DetK (fun R K => @store1K R P r x y K) := by
  cases r with
  | box s off T cs =>
    refine det_bif ?_ det_none
    cases y <;> first | exact det_none | exact det_pure _ | exact det_bif (det_pure _) det_none | exact det_bif det_none (det_bif (det_pure _) (det_pure _))
  | el s cx T es i off =>
    cases y <;> first
      | exact det_none
      | exact det_chkb _ _ _ _ _
      | exact det_bif (det_chkb _ _ _ _ _) det_none
      | exact det_bif det_none (det_chkb _ _ _ _ _)
  | _ => cases y <;> exact det_none
theorem det_storeNK (P : Program) (n : Nat) (r y : RV) : DetK (fun R K => @storeNK R P n r y K) := by
  cases y with
  | pv y =>
    cases y with
    | agg zs =>
      refine det_bif ?_ det_none
      cases r <;> first
        | exact det_none
        | exact det_bif (det_pure _) det_none
        | exact det_chkb _ _ _ _ _
    | _ => exact det_none
  | _ => exact det_none
theorem det_appendK (n bytes : Nat) (E : TypeId) (s x : RV) : DetK (fun R K => @appendK R n bytes E s x K) := by
  cases s with
  | own s1 cx T es =>
    refine det_bif ?_ det_none
    cases x <;> first | exact det_none | exact det_pure _ | exact det_bif (det_pure _) det_none | skip
    rename_i y
    cases y <;> first | exact det_none | exact det_bif (det_pure _) det_none
  | nl =>
    cases x <;> first | exact det_none | exact det_pure _ | exact det_bif (det_pure _) det_none | skip
    rename_i y
    cases y <;> first | exact det_none | exact det_bif (det_pure _) det_none
  | _ => exact det_none
theorem det_lenK (x : RV) : DetK (fun R K => @lenK R x K) := by
  cases x <;> first | exact det_none | exact det_pure _ | skip
  rename_i y
  rcases y with y | _ | _ | _ | _ <;> first | exact det_none | exact det_pure _ | skip
  cases y <;> first | exact det_none | exact det_pure _
theorem det_builtinK (P : Program) (b : Builtin) (tys : List TypeId) (args : List RV) : DetK (fun R K => @builtinK R P b tys args K) := by
  have go : ∀ (R : Type) (K : Out → Option R) (res : R), builtinK P b tys args K = some res → ∃ a, ∀ (R' : Type) (K' : Out → Option R'), builtinK P b tys args K' = K' a := by
    intro R K res h
    unfold builtinK at h
    split at h
    · cases hc : lenT P tys ‹RV› with
      | false => rw [hc] at h; cases h
      | true =>
        rw [hc, cond_true] at h
        obtain ⟨a, _, q⟩ := (det_lenK _).some h
        exact ⟨a, fun R' K' => by unfold builtinK; simp only [hc, cond_true]; exact q R' K'⟩
    · split at h
      · rename_i t t2
        cases hc : Nat.beq t t2 with
        | false => rw [hc] at h; cases h
        | true =>
          rw [hc, cond_true] at h
          split at h
          · rename_i E hE
            split at h
            · rename_i n bytes h1 h2
              cases hd : (Nat.blt 0 n && hasZero P E) with
              | false => rw [hd] at h; cases h
              | true =>
                rw [hd, cond_true] at h
                obtain ⟨a, _, q⟩ := (det_appendK _ _ _ _ _).some h
                exact ⟨a, fun R' K' => by unfold builtinK; simp only [hc, hE, h1, h2, hd, cond_true]; exact q R' K'⟩
            · cases h
          · cases h
      · cases h
    · rename_i k a k' b
      cases hc : ikEq k k' with
      | false => rw [hc] at h; cases h
      | true => exact ⟨_, fun R' K' => by unfold builtinK; simp only [hc, cond_true]; rfl⟩
    · rename_i k a k' b k'' c
      cases hc : (ikEq k k' && ikEq k k'') with
      | false => rw [hc] at h; cases h
      | true => exact ⟨_, fun R' K' => by unfold builtinK; simp only [hc, cond_true]; rfl⟩
    · rename_i k a k' b
      cases hc : ikEq k k' with
      | false => rw [hc] at h; cases h
      | true => exact ⟨_, fun R' K' => by unfold builtinK; simp only [hc, cond_true]; rfl⟩
    · cases h
  exact det_of go
theorem det_unK (op : UnOp) (x : PV) : DetK (fun R K => @unK R op x K) := by
  cases op <;> (rcases x with x | _ | _ | _ | _ <;> first | exact det_none | (cases x <;> first | exact det_none | exact det_pure _))
theorem det_bytesK (P : Program) (src : TypeId) (es : List PV) : DetK (fun R K => @bytesK R P src es K) := by
  unfold bytesK
  cases h : elemT P src with
  | none => exact det_none
  | some e =>
    simp only []
    generalize P.underlying e = u
    rcases u with _ | u
    · exact det_none
    · cases u <;> first | exact det_none | skip
      rename_i k
      cases k <;> first | exact det_none | exact det_bif (det_pure _) det_none
theorem det_convK (P : Program) (src dst : TypeId) (x : RV) : DetK (fun R K => @convK R P src dst x K) := by
  unfold convK
  refine det_bif det_none ?_
  generalize P.underlying dst = u
  rcases u with _ | u
  · exact det_none
  cases u <;> first
    | exact det_none
    | (cases x <;> first
        | exact det_none
        | exact det_bytesK _ _ _
        | (rename_i y; rcases y with y | _ | _ | _ | _ <;> first
            | exact det_none
            | exact det_bytesK _ _ _
            | (cases y <;> first | exact det_none | exact det_pure _ | exact det_bif (det_pure _) det_none)))
theorem det_sliceK (P : Program) (T : TypeId) (x : RV) (lo hi : Option RV) : DetK (fun R K => @sliceK R P T x lo hi K) := by
  unfold sliceK
  generalize P.underlying T = u
  rcases u with _ | u
  · exact det_none
  cases u <;> first | exact det_none | skip
  · cases x <;> first | exact det_none | skip
    rename_i y
    rcases y with y | _ | _ | _ | _ <;> first | exact det_none | skip
    cases y <;> first | exact det_none | skip
    rename_i s
    simp only []
    generalize intOpd lo 0 = l
    generalize intOpd hi (s.size : Int) = h
    cases l <;> cases h <;> first | exact det_none | exact det_bif (det_pure _) det_none
  · rename_i E
    cases x <;> first | exact det_none | skip
    · refine det_bif ?_ det_none
      generalize intOpd lo 0 = l
      generalize intOpd hi 0 = h
      cases l <;> cases h <;> first | exact det_none | exact det_bif (det_pure _) det_none
    · rename_i y
      cases y <;> first | exact det_none | skip
      rename_i es
      simp only []
      generalize sizeT P E = n
      generalize intOpd lo 0 = l
      generalize intOpd hi (es.length : Int) = h
      cases n <;> cases l <;> cases h <;> first | exact det_none | exact det_bif (det_pure _) det_none
    · rename_i s cx T' es
      simp only []
      generalize sizeT P E = n
      generalize intOpd lo 0 = l
      generalize intOpd hi (es.length : Int) = h
      cases n <;> cases l <;> cases h <;> first | exact det_none | exact det_bif (det_pure _) det_none
theorem det_indexAddrK (P : Program) (T : TypeId) (x i : RV) : DetK (fun R K => @indexAddrK R P T x i K) := by
  unfold indexAddrK
  generalize elemT P T = e
  cases e <;> cases i <;> first | exact det_none | skip
  rename_i E y
  rcases y with y | _ | _ | _ | _ <;> first | exact det_none | skip
  cases y <;> first | exact det_none | skip
  simp only []
  generalize sizeT P E = n
  cases n <;> first | exact det_none | skip
  cases x <;> first | exact det_none | exact det_bif (det_bif (det_pure _) det_none) det_none | skip
  rename_i y
  cases y <;> first | exact det_none | exact det_bif (det_chkb _ _ _ _ _) det_none
def EnvDet (env : Env) : Prop := ∀ g fs, env g = some fs → ∀ args, DetK (fun R K => @FS.run fs R args K)
theorem det_callK {fs : FS} (hd : ∀ args, DetK (fun R K => @FS.run fs R args K)) (args : List RV) : DetK (fun R K => @callK R fs args K) := by
  unfold callK
  generalize argsOf fs.om args = q
  rcases q with _ | ⟨avs, us, bs⟩
  · exact det_none
  exact det_bif (det_bind (f := fun R K => @FS.run fs R avs K) (g := fun res R K => K (Out.mk (tupOf (res.take (res.length - bs.length))) none (us ++ zipB bs (res.drop (res.length - bs.length))) bs)) (hd avs) fun res => det_pure _) det_none
theorem det_opK (P : Program) {env : Env} (henv : EnvDet env) (o : Op) (ty : TypeId) (ρ : Operand → RV) : DetK (fun R K => @opK R P env o ty ρ K) := by
  cases o with
  | move x => exact det_moveK _
  | assign x =>
    simp only [opK]
    generalize ρ x = r
    cases r <;> first | exact det_none | exact det_pure _ | exact det_bif (det_pure _) (det_pure _)
  | pick c a b =>
    simp only [opK]
    generalize ρ c = rc
    generalize ρ a = ra
    generalize ρ b = rb
    rcases rc with _ | _ | y | _ | _ | _ | _ | _ <;> first | exact det_none | skip
    rcases y with y | _ | _ | _ | _ <;> first | exact det_none | skip
    cases y <;> first | exact det_none | skip
    rename_i t
    refine det_of fun R K res h => ?_
    simp only [] at h
    split at h
    · exact ⟨_, fun R' K' => rfl⟩
    · cases t with
      | true =>
        rw [cond_true] at h
        obtain ⟨q, _, hq⟩ := (det_moveK _).some h
        exact ⟨q, fun R' K' => hq R' K'⟩
      | false =>
        rw [cond_false] at h
        obtain ⟨q, _, hq⟩ := (det_moveK _).some h
        exact ⟨q, fun R' K' => hq R' K'⟩
  | alloc T =>
    simp only [opK]
    generalize zeroT P T = z
    cases z <;> first | exact det_none | exact det_bif (det_pure _) det_none
  | box T x =>
    simp only [opK]
    generalize sizeT P T = n
    generalize ρ x = r
    cases n <;> cases r <;> first | exact det_none | exact det_bif (det_pure _) det_none | exact det_bif (det_bif (det_pure _) (det_pure _)) det_none
  | build T parts =>
    simp only [opK]
    generalize P.underlying T = u
    generalize zeroT P T = z
    generalize valsOf (parts.toList.map fun q => (q.2, ρ q.2)) = v
    rcases u with _ | u
    · exact det_none
    cases u <;> first | exact det_none | skip
    rcases z with _ | z <;> rcases v with _ | ⟨ys, us⟩ <;> first | exact det_none | skip
    refine det_bif ?_ det_none
    generalize fillS P T _ _ = f
    cases f <;> first | exact det_none | exact det_pure _
  | buildSlice T len parts =>
    simp only [opK]
    generalize elemT P T = u
    generalize valsOf (parts.toList.map fun q => (q.2, ρ q.2)) = v
    rcases u with _ | E <;> rcases v with _ | ⟨ys, us⟩ <;> first | exact det_none | skip
    simp only []
    generalize zeroE P E = z
    generalize sizeT P E = n
    cases z <;> cases n <;> first | exact det_none | exact det_bif (det_pure _) det_none
  | load T x =>
    simp only [opK]
    refine det_bif det_none (det_bif ?_ (det_load1K _ _))
    generalize sizeT P T = n
    cases n <;> first | exact det_none | exact det_loadNK _ _ _
  | store T x y =>
    simp only [opK]
    refine det_bif ?_ ?_
    · generalize sizeT P T = n
      cases n <;> first | exact det_none | exact det_storeNK _ _ _ _
    · generalize sizeT P T = n
      cases n <;> first | exact det_none | exact det_bif (det_store1K _ _ _ _) det_none
  | nilCheck x =>
    simp only [opK]
    generalize ρ x = r
    cases r <;> first | exact det_none | exact det_moveK _ | skip
    rename_i y
    rcases y with y | _ | _ | _ | _ <;> first | exact det_none | exact det_pure _ | skip
    cases y <;> first | exact det_none | skip
    rename_i f a b
    cases f <;> first | exact det_none | exact det_pure _
  | binOp op T x y yT =>
    simp only [opK]
    generalize ρ x = rx
    generalize ρ y = ry
    cases rx <;> cases ry <;> first | exact det_none | exact det_bind (f := fun R K => binK P op T _ _ K) (g := fun z R K => K (outP z)) (det_binK _ _ _ _ _) fun z => det_pure _
  | unOp op T x =>
    simp only [opK]
    generalize ρ x = rx
    cases rx <;> first | exact det_none | exact det_bind (f := fun R K => unK op _ K) (g := fun z R K => K (outP z)) (det_unK _ _) fun z => det_pure _
  | convert s d x => exact det_convK _ _ _ _
  | makeFunc f first caps =>
    cases f <;> first | exact det_none | skip
    simp only [opK]
    generalize first.toList = l
    generalize valsOf (caps.toList.map fun q => (q, ρ q)) = v
    rcases l with _ | ⟨_, _⟩ <;> rcases v with _ | ⟨ys, us⟩ <;> first | exact det_none | exact det_bif (det_pure _) det_none
  | makeSlice T l c =>
    simp only [opK]
    generalize elemT P T = u
    generalize ρ l = rl
    generalize ρ c = rc
    rcases u with _ | E <;> first | exact det_none | skip
    rcases rl with _ | _ | y | _ | _ | _ | _ | _ <;> first | exact det_none | skip
    rcases y with y | _ | _ | _ | _ <;> first | exact det_none | skip
    cases y <;> first | exact det_none | skip
    rcases rc with _ | _ | y | _ | _ | _ | _ | _ <;> first | exact det_none | skip
    rcases y with y | _ | _ | _ | _ <;> first | exact det_none | skip
    cases y <;> first | exact det_none | skip
    simp only []
    generalize zeroE P E = z
    generalize bytesT P E = n
    cases z <;> cases n <;> first | exact det_none | exact det_bif (det_pure _) det_none
  | slice T x lo hi mx => exact det_bif (det_sliceK _ _ _ _ _) det_none
  | fieldAddr S x f =>
    simp only [opK]
    generalize foff P S f = q
    generalize ρ x = r
    rcases q with _ | ⟨o, fT⟩
    · exact det_none
    refine det_bif ?_ det_none
    cases r <;> first | exact det_none | exact det_pure _ | skip
    rename_i y
    cases y <;> first | exact det_none | exact det_pure _
  | field S x f =>
    simp only [opK]
    generalize foff P S f = q
    generalize ρ x = r
    rcases q with _ | ⟨o, T⟩
    · exact det_none
    cases r <;> first | exact det_none | skip
    rename_i y
    cases y <;> first | exact det_none | skip
    refine det_bif det_none ?_
    generalize sizeT P T = n
    cases n <;> first | exact det_none | exact det_bif (det_bif (det_pure _) det_none) (det_bif (det_pure _) det_none)
  | indexAddr T x i => exact det_indexAddrK _ _ _ _
  | index T x i =>
    simp only [opK]
    generalize P.underlying T = u
    generalize ρ x = rx
    generalize ρ i = ri
    rcases u with _ | u
    · exact det_none
    cases u <;> first | exact det_none | skip
    rcases rx with _ | _ | y | _ | _ | _ | _ | _ <;> first | exact det_none | skip
    rcases y with y | _ | _ | _ | _ <;> first | exact det_none | skip
    cases y <;> first | exact det_none | skip
    rcases ri with _ | _ | y | _ | _ | _ | _ | _ <;> first | exact det_none | skip
    rcases y with y | _ | _ | _ | _ <;> first | exact det_none | skip
    cases y <;> first | exact det_none | exact det_bif (det_pure _) det_none
  | extract x i =>
    simp only [opK]
    generalize ρ x = r
    cases r <;> first | exact det_none | skip
    rename_i s l
    simp only []
    generalize l.getD i .dead = y
    cases y <;> first | exact det_none | exact det_pure _
  | call c =>
    obtain ⟨callee, args, tys⟩ := c
    simp only [opK]
    cases callee <;> first | exact det_none | exact det_builtinK _ _ _ _ | skip
    rename_i f
    simp only []
    generalize ρ f = r
    rcases r with _ | _ | y | _ | _ | _ | _ | _ <;> first | exact det_none | skip
    rcases y with y | _ | _ | _ | _ <;> first | exact det_none | skip
    · cases y <;> first | exact det_none | skip
      rename_i fn fi ca
      cases fn <;> first | exact det_none | skip
      rename_i g
      simp only []
      generalize fi.toList = l1
      generalize ca.toList = l2
      cases he : env g <;> cases l1 <;> cases l2 <;> first | exact det_none | exact det_callK (henv _ _ he) _
    · rename_i g caps
      simp only []
      cases he : env g <;> first | exact det_none | exact det_callK (henv _ _ he) _
  | _ => exact det_none
theorem det_opF (P : Program) {env : Env} (henv : EnvDet env) (fz : List Nat) (o : Oper) (ρ : Operand → RV) : DetK (fun R K => @opF R P env fz o ρ K) := by
  have h := det_opK P henv o.op o.type ρ
  unfold opF
  generalize o.op = op at h ⊢
  cases op <;> first | exact h | skip
  rename_i x
  simp only []
  generalize o.dst = d
  cases d with
  | none => exact det_moveK _
  | some d =>
    refine det_bif ?_ (det_moveK _)
    unfold freezeK
    generalize valOf (.tmp 0) (ρ x) = v
    rcases v with _ | ⟨y, us⟩ <;> first | exact det_none | exact det_pure _
end
end Go.Proofs.YtfbahcfojiaeaaaGreatDoor.Th


set_option linter.unusedVariables false
set_option linter.unusedSimpArgs false
namespace Go.Proofs.YtfbahcfojiaeaaaGreatDoor.Th
open Go
theorem valsOf_congr {ρ ρ' : Operand → RV} : ∀ {l : List Operand}, (∀ x ∈ l, ρ x = ρ' x) → (l.map fun q => (q, ρ q)) = (l.map fun q => (q, ρ' q))
  | [], _ => rfl
  | x :: l, h => by rw [List.map_cons, List.map_cons, h x (List.mem_cons_self ..), valsOf_congr fun y hy => h y (List.mem_cons_of_mem _ hy)]
theorem map_congr' {ρ ρ' : Operand → RV} {l : List Operand} (h : ∀ x ∈ l, ρ x = ρ' x) : l.map ρ = l.map ρ' := List.map_congr_left h
theorem opK_congr {R : Type} (P : Program) (env : Env) (o : Op) (ty : TypeId) {ρ ρ' : Operand → RV} (h : ∀ x ∈ o.operands.toList, ρ x = ρ' x) (K : Out → Option R) : opK P env o ty ρ K = opK P env o ty ρ' K := by
  cases o with
  | call c =>
    obtain ⟨callee, args, tys⟩ := c
    simp only [Op.operands, Call.operands] at h
    have hargs : args.toList.map ρ = args.toList.map ρ' := map_congr' fun x hx => h x (by simp [hx])
    cases callee with
    | value f =>
      have hf : ρ f = ρ' f := h f (by simp)
      simp only [opK, hf, hargs]
    | builtin b => simp only [opK, hargs]
    | _ => rfl
  | build T parts =>
    have : (parts.toList.map fun q => (q.2, ρ q.2)) = (parts.toList.map fun q => (q.2, ρ' q.2)) :=
      List.map_congr_left fun q hq => by rw [h q.2 (by simp only [Op.operands]; exact List.mem_map.2 ⟨q, hq, rfl⟩)]
    simp only [opK, this]
  | buildSlice T n parts =>
    have : (parts.toList.map fun q => (q.2, ρ q.2)) = (parts.toList.map fun q => (q.2, ρ' q.2)) :=
      List.map_congr_left fun q hq => by rw [h q.2 (by simp only [Op.operands]; exact List.mem_map.2 ⟨q, hq, rfl⟩)]
    simp only [opK, this]
  | makeFunc f first caps =>
    have : (caps.toList.map fun q => (q, ρ q)) = (caps.toList.map fun q => (q, ρ' q)) := valsOf_congr fun x hx => h x (by simp [Op.operands, hx])
    cases f <;> simp only [opK, this]
  | slice T x lo hi mx =>
    have hx : ρ x = ρ' x := h x (by simp [Op.operands])
    have hlo : lo.map ρ = lo.map ρ' := by
      cases lo with
      | none => rfl
      | some y => simp only [Option.map_some]; rw [h y (by simp [Op.operands])]
    have hhi : hi.map ρ = hi.map ρ' := by
      cases hi with
      | none => rfl
      | some y => simp only [Option.map_some]; rw [h y (by simp [Op.operands])]
    simp only [opK, hx, hlo, hhi]
  | pick c a b =>
    have h1 : ρ c = ρ' c := h c (by simp [Op.operands])
    have h2 : ρ a = ρ' a := h a (by simp [Op.operands])
    have h3 : ρ b = ρ' b := h b (by simp [Op.operands])
    simp only [opK, h1, h2, h3]
  | store T a v =>
    have h1 : ρ a = ρ' a := h a (by simp [Op.operands])
    have h2 : ρ v = ρ' v := h v (by simp [Op.operands])
    simp only [opK, h1, h2]
  | binOp op T a v yT =>
    have h1 : ρ a = ρ' a := h a (by simp [Op.operands])
    have h2 : ρ v = ρ' v := h v (by simp [Op.operands])
    simp only [opK, h1, h2]
  | makeSlice T a v =>
    have h1 : ρ a = ρ' a := h a (by simp [Op.operands])
    have h2 : ρ v = ρ' v := h v (by simp [Op.operands])
    simp only [opK, h1, h2]
  | indexAddr T a v =>
    have h1 : ρ a = ρ' a := h a (by simp [Op.operands])
    have h2 : ρ v = ρ' v := h v (by simp [Op.operands])
    simp only [opK, h1, h2]
  | index T a v =>
    have h1 : ρ a = ρ' a := h a (by simp [Op.operands])
    have h2 : ρ v = ρ' v := h v (by simp [Op.operands])
    simp only [opK, h1, h2]
  | move x => have hx : ρ x = ρ' x := h x (by simp [Op.operands]); simp only [opK, hx]
  | assign x => have hx : ρ x = ρ' x := h x (by simp [Op.operands]); simp only [opK, hx]
  | box T x => have hx : ρ x = ρ' x := h x (by simp [Op.operands]); simp only [opK, hx]
  | load T x => have hx : ρ x = ρ' x := h x (by simp [Op.operands]); simp only [opK, hx]
  | nilCheck x => have hx : ρ x = ρ' x := h x (by simp [Op.operands]); simp only [opK, hx]
  | unOp op T x => have hx : ρ x = ρ' x := h x (by simp [Op.operands]); simp only [opK, hx]
  | convert s d x => have hx : ρ x = ρ' x := h x (by simp [Op.operands]); simp only [opK, hx]
  | fieldAddr S x f => have hx : ρ x = ρ' x := h x (by simp [Op.operands]); simp only [opK, hx]
  | field S x f => have hx : ρ x = ρ' x := h x (by simp [Op.operands]); simp only [opK, hx]
  | extract x i => have hx : ρ x = ρ' x := h x (by simp [Op.operands]); simp only [opK, hx]
  | alloc T => rfl
  | _ => rfl
theorem opF_congr {R : Type} (P : Program) (env : Env) (fz : List Nat) (o : Oper) {ρ ρ' : Operand → RV} (h : ∀ x ∈ o.op.operands.toList, ρ x = ρ' x) (K : Out → Option R) : opF P env fz o ρ K = opF P env fz o ρ' K := by
  have hk := opK_congr P env o.op o.type h K
  unfold opF
  generalize o.op = op at h hk ⊢
  cases op <;> first | exact hk | skip
  rename_i x
  have hx : ρ x = ρ' x := h x (by simp [Op.operands])
  simp only [hx]
end Go.Proofs.YtfbahcfojiaeaaaGreatDoor.Th


set_option linter.unusedVariables false
set_option linter.unusedSimpArgs false
namespace Go.Proofs.YtfbahcfojiaeaaaGreatDoor.Th
open Go
theorem memN_mem {l : List Nat} {s : Nat} : memN l s = true ↔ s ∈ l := by
  induction l with
  | nil => simp [memN]
  | cons x l ih =>
    simp only [memN, List.mem_cons]
    cases h : Nat.beq x s with
    | true => simp only [cond_true, true_iff]; exact .inl (Nat.eq_of_beq_eq_true h).symm
    | false =>
      simp only [cond_false, ih]
      constructor
      · exact .inr
      · rintro (rfl | q)
        · rw [Nat.beq_refl] at h; cases h
        · exact q
theorem beqT' (n : Nat) : Nat.beq n n = true := Nat.beq_refl n
theorem beqF' {a b : Nat} (h : a ≠ b) : Nat.beq a b = false := by
  cases hq : Nat.beq a b with
  | false => rfl
  | true => exact absurd (Nat.eq_of_beq_eq_true hq) h
theorem interN_mem : ∀ {a b : List Nat}, interN a b = false → ∀ x ∈ a, x ∉ b
  | [], b, _, x, hx => by cases hx
  | y :: a, b, h, x, hx => by
    simp only [interN, Bool.or_eq_false_iff] at h
    rcases List.mem_cons.1 hx with rfl | hx
    · intro q; rw [memN_mem.2 q] at h; cases h.1
    · exact interN_mem h.2 x hx
structure NoClash (a b : Fp) : Prop where
  ww : ∀ x ∈ a.wr, x ∉ b.wr
  wr : ∀ x ∈ a.wr, x ∉ b.rd
  rw : ∀ x ∈ a.rd, x ∉ b.wr
theorem noClash {a b : Fp} (h : clash a b = false) : NoClash a b := by
  simp only [clash, Bool.or_eq_false_iff] at h
  exact ⟨interN_mem h.1.1, interN_mem h.1.2, interN_mem h.2⟩
theorem upd1_at (fr : Fr) (i : Nat) (x : SV) : upd1 fr i x i = x := by simp only [upd1, beqT', cond_true]
theorem upd1_ne (fr : Fr) {i j : Nat} (x : SV) (h : j ≠ i) : upd1 fr i x j = fr j := by simp only [upd1, beqF' h, cond_false]
theorem updAll_ne : ∀ (l : List (Nat × SV)) (fr : Fr) (j : Nat), j ∉ l.map (·.1) → updAll fr l j = fr j
  | [], fr, j, _ => rfl
  | (i, x) :: l, fr, j, h => by
    simp only [List.map_cons, List.mem_cons, not_or] at h
    rw [updAll, updAll_ne l _ j h.2, upd1_ne _ _ h.1]
theorem updAll_in : ∀ (l : List (Nat × SV)) (fr fr' : Fr) (j : Nat), j ∈ l.map (·.1) → updAll fr l j = updAll fr' l j
  | [], fr, fr', j, h => by cases h
  | (i, x) :: l, fr, fr', j, h => by
    rw [updAll, updAll]
    by_cases hj : j ∈ l.map (·.1)
    · exact updAll_in l _ _ j hj
    · rw [updAll_ne l _ j hj, updAll_ne l _ j hj]
      have : j = i := by
        rcases List.mem_cons.1 h with q | q
        · exact q
        · exact absurd q hj
      rw [this, upd1_at, upd1_at]
def wrOf (d : Option Nat) (r : Out) : List Nat := d.toList ++ r.upd.map (·.1) ++ r.drop
theorem put_fr_ne {st : St} {d : Option Nat} {r : Out} {j : Nat} (h : j ∉ wrOf d r) : (st.put d r).fr j = st.fr j := by
  simp only [wrOf, List.mem_append, not_or] at h
  cases d with
  | none => exact updAll_ne _ _ _ h.1.2
  | some d =>
    simp only [St.put]
    rw [upd1_ne _ _ (by simpa using h.1.1), updAll_ne _ _ _ h.1.2]
theorem put_fr_in {st st' : St} {d : Option Nat} {r : Out} {j : Nat} (h : j ∈ d.toList ++ r.upd.map (·.1)) : (st.put d r).fr j = (st'.put d r).fr j := by
  rw [List.mem_append] at h
  cases d with
  | none => exact updAll_in _ _ _ _ (by simpa using h)
  | some d =>
    simp only [St.put]
    by_cases hj : j = d
    · rw [hj, upd1_at, upd1_at]
    · rw [upd1_ne _ _ hj, upd1_ne _ _ hj]
      exact updAll_in _ _ _ _ (h.resolve_left (by simpa using hj))
theorem allKeep_mem {d : Option Nat} {drop : List Nat} : ∀ {l : List (Nat × Ref)}, allKeep d drop l = true ↔ ∀ x ∈ l, keepRef d drop x.1 x.2 = true
  | [] => by simp [allKeep]
  | (t, r) :: l => by simp only [allKeep, Bool.and_eq_true, List.mem_cons, allKeep_mem, forall_eq_or_imp]
theorem keepRefs_all {d : Option Nat} {drop : List Nat} : ∀ {l : List (Nat × Ref)}, allKeep d drop l = true → keepRefs d drop l = l
  | [], _ => rfl
  | (t, r) :: l, h => by
    simp only [allKeep, Bool.and_eq_true] at h
    rw [keepRefs, h.1, cond_true, keepRefs_all h.2]
def addRef (d : Option Nat) (r : Out) (l : List (Nat × Ref)) : List (Nat × Ref) := match d, r.ref with
  | some d, some q => (d, q) :: l
  | _, _ => l
theorem put_ral {st : St} {d : Option Nat} {r : Out} (h : allKeep d r.drop st.ral = true) : (st.put d r).ral = addRef d r st.ral := by
  simp only [St.put, addRef]
  cases d with
  | none => simp only [keepRefs_all h]
  | some d =>
    cases hq : r.ref with
    | none => simp only [keepRefs_all h]
    | some q => simp only [keepRefs_all h]
theorem rfind_add {d : Option Nat} {r : Out} {l : List (Nat × Ref)} {t : Nat} (h : t ∉ d.toList) : rfind (addRef d r l) t = rfind l t := by
  unfold addRef
  cases d with
  | none => rfl
  | some d =>
    cases r.ref with
    | none => rfl
    | some q =>
      have : d ≠ t := by rintro rfl; exact h (by simp)
      simp only [rfind, beqF' this, cond_false]
structure Eqv (s s' : St) : Prop where
  fr : s.fr = s'.fr
  rf : ∀ t, rfind s.ral t = rfind s'.ral t
  mem : ∀ x, x ∈ s.ral ↔ x ∈ s'.ral
theorem Eqv.refl (s : St) : Eqv s s := ⟨rfl, fun _ => rfl, fun _ => Iff.rfl⟩
theorem Eqv.trans {a b c : St} (h : Eqv a b) (g : Eqv b c) : Eqv a c := ⟨h.fr.trans g.fr, fun t => (h.rf t).trans (g.rf t), fun x => (h.mem x).trans (g.mem x)⟩
theorem Eqv.look {s s' : St} (h : Eqv s s') (t : Nat) : look s t = look s' t := by unfold Th.look; rw [h.rf t, h.fr]
theorem Eqv.opd {s s' : St} (h : Eqv s s') (x : Operand) : opd s x = opd s' x := by cases x <;> simp only [Th.opd, h.look]
theorem Eqv.rdOps {s s' : St} (h : Eqv s s') : ∀ l, rdOps s l = rdOps s' l
  | [] => rfl
  | x :: l => by simp only [Th.rdOps, h.rdOps l]; cases x <;> simp only [rdOp, h.rf]
theorem Eqv.keep {s s' : St} (h : Eqv s s') {d : Option Nat} {drop : List Nat} : allKeep d drop s.ral = allKeep d drop s'.ral := by
  rw [Bool.eq_iff_iff, allKeep_mem, allKeep_mem]
  exact ⟨fun q x hx => q x ((h.mem x).2 hx), fun q x hx => q x ((h.mem x).1 hx)⟩
theorem Eqv.fp {s s' : St} (h : Eqv s s') (ops : List Oper) (o : Oper) (r : Out) : fpOf ops o s r = fpOf ops o s' r := by simp only [fpOf, h.rdOps, h.keep]
theorem Eqv.put {s s' : St} (h : Eqv s s') {d : Option Nat} {r : Out} (hk : allKeep d r.drop s.ral = true) : Eqv (s.put d r) (s'.put d r) := by
  have hk' : allKeep d r.drop s'.ral = true := by rw [← h.keep]; exact hk
  refine ⟨?_, fun t => ?_, fun x => ?_⟩
  · simp only [St.put, h.fr]
  · rw [put_ral hk, put_ral hk']
    unfold addRef
    cases d with
    | none => exact h.rf t
    | some d =>
      cases r.ref with
      | none => exact h.rf t
      | some q => simp only [rfind, h.rf t]
  · rw [put_ral hk, put_ral hk']
    unfold addRef
    cases d with
    | none => exact h.mem x
    | some d =>
      cases r.ref with
      | none => exact h.mem x
      | some q => simp only [List.mem_cons, h.mem x]
section
variable (P : Program) (env : Env) (fz : List Nat) (N : Nat × List Nat) (ops : List Oper)
def Step (o : Oper) (st : St) (r : Out) : Prop := ∀ (R : Type) (K : St → Out → Option R), operO P env fz N ops o st K = K st r
variable {P env fz N ops}
theorem setB_id {st : St} {d : Nat} {t : Bool} (h : st.fr d = .p (.v (.bool t))) : setB st d t = st := by
  cases st with
  | mk fr ral =>
    simp only [setB]
    congr 1
    funext j
    by_cases hj : j = d
    · subst hj; rw [upd1_at]; exact h.symm
    · rw [upd1_ne _ _ hj]
theorem goO_det (henv : EnvDet env) {o : Oper} {st : St} {R : Type} {K : St → Out → Option R} {res : R} (h : goO P env fz N o st K = some res) :
    ∃ r, K st r = some res ∧ ∀ (R' : Type) (K' : St → Out → Option R'), goO P env fz N o st K' = K' st r := by
  unfold goO at h
  obtain ⟨r, h1, h2⟩ := (det_opF P henv fz o (opd st)).some h
  cases hf : r.fits N o.dst with
  | false => rw [hf] at h1; cases h1
  | true =>
    rw [hf, cond_true] at h1
    exact ⟨r, h1, fun R' K' => by unfold goO; rw [h2, hf, cond_true]⟩
theorem skO_det {o : Oper} {st : St} {R : Type} {K : St → Out → Option R} {res : R} (h : skO N o st K = some res) :
    ∃ r, K st r = some res ∧ ∀ (R' : Type) (K' : St → Out → Option R'), skO N o st K' = K' st r := by
  unfold skO at h
  cases hf : skipOut.fits N o.dst with
  | false => rw [hf] at h; cases h
  | true =>
    rw [hf, cond_true] at h
    exact ⟨_, h, fun R' K' => by unfold skO; rw [hf, cond_true]⟩
theorem step_of (henv : EnvDet env) {o : Oper} {st : St} {R : Type} {K : St → Out → Option R} {res : R} (h : operO P env fz N ops o st K = some res) : ∃ r, K st r = some res ∧ Step P env fz N ops o st r := by
  unfold operO at h
  split at h
  · rename_i hg
    obtain ⟨r, h1, h2⟩ := goO_det henv h
    exact ⟨r, h1, fun R' K' => by unfold operO; rw [hg]; exact h2 R' K'⟩
  · rename_i j want hg
    split at h
    · cases h
    · rename_i d hd
      split at h
      · cases h
      · rename_i hr
        split at h
        · rename_i t ht
          cases t with
          | true =>
            rw [cond_true, setB_id ht] at h
            cases want with
            | true =>
              rw [cond_true] at h
              obtain ⟨r, h1, h2⟩ := goO_det henv h
              exact ⟨r, h1, fun R' K' => by unfold operO; rw [hg]; simp only [hd, hr, ht, cond_true]; rw [setB_id ht]; exact h2 R' K'⟩
            | false =>
              rw [cond_false] at h
              obtain ⟨r, h1, h2⟩ := skO_det h
              exact ⟨r, h1, fun R' K' => by unfold operO; rw [hg]; simp only [hd, hr, ht, cond_true, cond_false]; rw [setB_id ht]; exact h2 R' K'⟩
          | false =>
            rw [cond_false, setB_id ht] at h
            cases want with
            | true =>
              rw [cond_true] at h
              obtain ⟨r, h1, h2⟩ := skO_det h
              exact ⟨r, h1, fun R' K' => by unfold operO; rw [hg]; simp only [hd, hr, ht, cond_true, cond_false]; rw [setB_id ht]; exact h2 R' K'⟩
            | false =>
              rw [cond_false] at h
              obtain ⟨r, h1, h2⟩ := goO_det henv h
              exact ⟨r, h1, fun R' K' => by unfold operO; rw [hg]; simp only [hd, hr, ht, cond_false]; rw [setB_id ht]; exact h2 R' K'⟩
        · rename_i c ht
          obtain ⟨r, h1, h2⟩ := skO_det h
          exact ⟨r, h1, fun R' K' => by unfold operO; rw [hg]; simp only [hd, hr, ht]; exact h2 R' K'⟩
        · cases h
theorem operO_congr {o : Oper} {st st' : St} (hgd : ∀ d ∈ gdOf ops o, rfind st.ral d = rfind st'.ral d ∧ st.fr d = st'.fr d) (hop : ∀ x ∈ o.op.operands.toList, opd st x = opd st' x) {r : Out}
    (h : Step P env fz N ops o st r) : Step P env fz N ops o st' r := by
  have hgo : ∀ (R : Type) (K : Out → Option R), goO P env fz N o st (fun _ r => K r) = goO P env fz N o st' (fun _ r => K r) := fun R K => by
    unfold goO; exact opF_congr P env fz o hop _
  intro R K
  have h0 : operO P env fz N ops o st (fun _ r => K st' r) = K st' r := h R fun _ r => K st' r
  rw [← h0]
  unfold operO
  split
  · exact (hgo R fun r => K st' r).symm
  · rename_i j want hg
    simp only [gdOf, hg] at hgd
    split
    · rfl
    · rename_i d hd
      simp only [hd, List.mem_singleton, forall_eq] at hgd
      rw [hgd.1]
      split
      · rfl
      · rw [hgd.2]
        split
        · rename_i t ht
          have e1 : goO P env fz N o st' K = goO P env fz N o st (fun _ r => K st' r) := (hgo R fun r => K st' r).symm
          have e2 : skO N o st' K = skO N o st (fun _ r => K st' r) := rfl
          have ht2 : st.fr d = .p (.v (.bool t)) := hgd.2.trans ht
          cases t <;> cases want <;> simp only [cond_true, cond_false] <;> rw [setB_id ht, setB_id ht2] <;> first | exact e1 | exact e2
        · rfl
        · rfl
end
end Go.Proofs.YtfbahcfojiaeaaaGreatDoor.Th


set_option linter.unusedVariables false
set_option linter.unusedSimpArgs false
namespace Go.Proofs.YtfbahcfojiaeaaaGreatDoor.Th
open Go
section
variable {P : Program} {env : Env} {fz : List Nat} {N : Nat × List Nat} {ops : List Oper}
theorem fp_wr {o : Oper} {st : St} {r : Out} : (fpOf ops o st r).wr = wrOf o.dst r := rfl
theorem rd_op {st : St} : ∀ {l : List Operand} {t : Nat}, Operand.tmp t ∈ l → t ∈ rdOps st l ∧ ∀ q, rfind st.ral t = some q → q.root ∈ rdOps st l
  | x :: l, t, h => by
    rcases List.mem_cons.1 h with rfl | h
    · simp only [rdOps, rdOp]
      cases hq : rfind st.ral t with
      | none => exact ⟨by simp, fun q e => by cases e⟩
      | some q => exact ⟨by simp, fun q' e => by cases e; simp⟩
    · obtain ⟨h1, h2⟩ := rd_op h
      exact ⟨List.mem_append_right _ h1, fun q e => List.mem_append_right _ (h2 q e)⟩
theorem look_back {st : St} {d : Option Nat} {r : Out} (hk : allKeep d r.drop st.ral = true) {t : Nat} (ht : t ∉ wrOf d r) (hr : ∀ q, rfind st.ral t = some q → q.root ∉ wrOf d r) : look (st.put d r) t = look st t := by
  have hf : rfind (st.put d r).ral t = rfind st.ral t := by
    rw [put_ral hk]
    exact rfind_add fun q => ht (by unfold wrOf; simp only [List.mem_append]; exact .inl (.inl q))
  unfold look
  rw [hf]
  cases hq : rfind st.ral t with
  | none => simp only [put_fr_ne ht]
  | some q =>
    have := put_fr_ne (st := st) (hr q hq)
    cases q with
    | o s j => cases j <;> simp only [deref, Ref.root] at this ⊢ <;> rw [this]
    | b s off => simp only [deref, Ref.root] at this ⊢; rw [this]
    | e s j T i off => cases j <;> simp only [deref, Ref.root] at this ⊢ <;> rw [this]
theorem rdOps_back {st : St} {d : Option Nat} {r : Out} (hk : allKeep d r.drop st.ral = true) : ∀ {l : List Operand}, (∀ t, Operand.tmp t ∈ l → t ∉ wrOf d r) → rdOps (st.put d r) l = rdOps st l
  | [], _ => rfl
  | x :: l, h => by
    rw [rdOps, rdOps, rdOps_back hk fun t ht => h t (List.mem_cons_of_mem _ ht)]
    congr 1
    cases x with
    | tmp t =>
      have : rfind (st.put d r).ral t = rfind st.ral t := by
        rw [put_ral hk]
        exact rfind_add fun q => h t (List.mem_cons_self ..) (by unfold wrOf; simp only [List.mem_append]; exact .inl (.inl q))
      simp only [rdOp, this]
    | _ => rfl
theorem step_move {o : Oper} {st : St} {d : Option Nat} {ra r : Out} (hk : allKeep d ra.drop st.ral = true)
    (hrd : ∀ t, (t ∈ gdOf ops o ∨ Operand.tmp t ∈ o.op.operands.toList) → t ∉ wrOf d ra) (hroot : ∀ t q, (t ∈ gdOf ops o ∨ Operand.tmp t ∈ o.op.operands.toList) → rfind st.ral t = some q → q.root ∉ wrOf d ra) :
    Step P env fz N ops o (st.put d ra) r ↔ Step P env fz N ops o st r := by
  have hg : ∀ t ∈ gdOf ops o, rfind (st.put d ra).ral t = rfind st.ral t ∧ (st.put d ra).fr t = st.fr t := fun t ht => by
    refine ⟨?_, put_fr_ne (hrd t (.inl ht))⟩
    rw [put_ral hk]
    exact rfind_add fun q => hrd t (.inl ht) (by unfold wrOf; simp only [List.mem_append]; exact .inl (.inl q))
  have ho : ∀ x ∈ o.op.operands.toList, opd (st.put d ra) x = opd st x := fun x hx => by
    cases x with
    | tmp t => exact look_back hk (hrd t (.inr hx)) fun q e => hroot t q (.inr hx) e
    | _ => rfl
  exact ⟨fun h => operO_congr hg ho h, fun h => operO_congr (fun t ht => ⟨(hg t ht).1.symm, (hg t ht).2.symm⟩) (fun x hx => (ho x hx).symm) h⟩
theorem keepRef_free {d : Option Nat} {drop : List Nat} {t : Nat} {q : Ref} (h1 : t ∉ d.toList) (h2 : q.root ∉ d.toList) (h3 : q.root ∉ drop) : keepRef d drop t q = true := by
  unfold keepRef
  have : memN drop q.root = false := by
    cases h : memN drop q.root with
    | false => rfl
    | true => exact absurd (memN_mem.1 h) h3
  rw [this]
  cases d with
  | none => simp
  | some d =>
    have e1 : Nat.beq t d = false := beqF' (by rintro rfl; exact h1 (by simp))
    have e2 : Nat.beq q.root d = false := beqF' (by intro e; exact h2 (by simp [e]))
    simp [e1, e2]
theorem swap {a b : Oper} {st : St} {ra rb : Out} (h1 : Step P env fz N ops a st ra) (k1 : (fpOf ops a st ra).calm = true) (h2 : Step P env fz N ops b (st.put a.dst ra) rb) (k2 : (fpOf ops b (st.put a.dst ra) rb).calm = true)
    (hn : NoClash (fpOf ops a st ra) (fpOf ops b (st.put a.dst ra) rb)) :
    Step P env fz N ops b st rb ∧ fpOf ops b st rb = fpOf ops b (st.put a.dst ra) rb ∧ Step P env fz N ops a (st.put b.dst rb) ra ∧ fpOf ops a (st.put b.dst rb) ra = fpOf ops a st ra ∧
      Eqv ((st.put a.dst ra).put b.dst rb) ((st.put b.dst rb).put a.dst ra) := by
  have ka : allKeep a.dst ra.drop st.ral = true := k1
  have kb1 : allKeep b.dst rb.drop (st.put a.dst ra).ral = true := k2
  have hral : (st.put a.dst ra).ral = addRef a.dst ra st.ral := put_ral ka
  have bt : ∀ t, (t ∈ gdOf ops b ∨ Operand.tmp t ∈ b.op.operands.toList) → t ∉ wrOf a.dst ra := fun t ht q => by
    refine hn.wr t q ?_
    simp only [fpOf, List.mem_append]
    rcases ht with ht | ht
    · exact .inl (.inl ht)
    · exact .inl (.inr (rd_op ht).1)
  have hrf : ∀ t, t ∉ wrOf a.dst ra → rfind (st.put a.dst ra).ral t = rfind st.ral t := fun t ht => by
    rw [hral]; exact rfind_add fun q => ht (by unfold wrOf; simp only [List.mem_append]; exact .inl (.inl q))
  have gdNone : ∀ {o : Oper} {s : St} {r : Out}, Step P env fz N ops o s r → ∀ t ∈ gdOf ops o, rfind s.ral t = none := fun {o s r} hs t ht => by
    have h0 := hs Unit fun _ _ => some ()
    unfold gdOf at ht
    split at ht
    · rename_i j want hg
      split at ht
      · rename_i d hd
        simp only [List.mem_singleton] at ht
        subst ht
        unfold operO at h0
        rw [hg] at h0
        simp only [hd] at h0
        cases hq : rfind s.ral t with
        | none => rfl
        | some q => rw [hq] at h0; cases h0
      · cases ht
    · cases ht
  have bq : ∀ t q, (t ∈ gdOf ops b ∨ Operand.tmp t ∈ b.op.operands.toList) → rfind st.ral t = some q → q.root ∉ wrOf a.dst ra := fun t q ht hq hx => by
    rcases ht with ht | ht
    · have := gdNone h2 t ht
      rw [hrf t (bt t (.inl ht)), hq] at this
      cases this
    · refine hn.wr q.root hx ?_
      simp only [fpOf, List.mem_append]
      exact .inl (.inr ((rd_op ht).2 q (by rw [hrf t (bt t (.inr ht))]; exact hq)))
  have sb : Step P env fz N ops b st rb := (step_move ka bt bq).1 h2
  have kb : allKeep b.dst rb.drop st.ral = true := by
    rw [allKeep_mem] at kb1 ⊢
    intro x hx
    refine kb1 x ?_
    rw [hral]; unfold addRef
    cases a.dst with
    | none => exact hx
    | some d => cases ra.ref with
      | none => exact hx
      | some q => exact List.mem_cons_of_mem _ hx
  have efb : fpOf ops b st rb = fpOf ops b (st.put a.dst ra) rb := by
    simp only [fpOf]
    rw [rdOps_back ka fun t ht => bt t (.inr ht), kb, kb1]
  have at_ : ∀ t, (t ∈ gdOf ops a ∨ Operand.tmp t ∈ a.op.operands.toList) → t ∉ wrOf b.dst rb := fun t ht => by
    refine hn.rw t ?_
    simp only [fpOf, List.mem_append]
    rcases ht with ht | ht
    · exact .inl (.inl ht)
    · exact .inl (.inr (rd_op ht).1)
  have aq : ∀ t q, (t ∈ gdOf ops a ∨ Operand.tmp t ∈ a.op.operands.toList) → rfind st.ral t = some q → q.root ∉ wrOf b.dst rb := fun t q ht hq => by
    rcases ht with ht | ht
    · rw [gdNone h1 t ht] at hq; cases hq
    · refine hn.rw q.root ?_
      simp only [fpOf, List.mem_append]
      exact .inl (.inr ((rd_op ht).2 q hq))
  have sa : Step P env fz N ops a (st.put b.dst rb) ra := (step_move kb at_ aq).2 h1
  have ka2 : allKeep a.dst ra.drop (st.put b.dst rb).ral = true := by
    rw [put_ral kb, allKeep_mem]
    rw [allKeep_mem] at ka
    unfold addRef
    intro x hx
    cases hd : b.dst with
    | none => rw [hd] at hx; exact ka x hx
    | some d =>
      cases hq : rb.ref with
      | none => rw [hd, hq] at hx; exact ka x hx
      | some q =>
        rw [hd, hq] at hx
        rcases List.mem_cons.1 hx with rfl | hx
        · have hdw : d ∈ wrOf b.dst rb := by simp [wrOf, hd]
          have hroot : q.root ∉ wrOf a.dst ra := fun hx => hn.wr q.root hx (by simp only [fpOf, hq, List.mem_append]; exact .inr (by simp))
          simp only [wrOf, List.mem_append, not_or] at hroot
          refine keepRef_free (fun hx => ?_) hroot.1.1 hroot.2
          exact hn.ww d (by rw [fp_wr]; simp only [wrOf, List.mem_append]; exact .inl (.inl hx)) (by rw [fp_wr]; exact hdw)
        · exact ka x hx
  have efa : fpOf ops a (st.put b.dst rb) ra = fpOf ops a st ra := by
    simp only [fpOf]
    rw [rdOps_back kb fun t ht => at_ t (.inr ht), ka, ka2]
  refine ⟨sb, efb, sa, efa, ?_⟩
  have ww : ∀ x ∈ wrOf a.dst ra, x ∉ wrOf b.dst rb := hn.ww
  refine ⟨?_, ?_, ?_⟩
  · funext j
    by_cases hb : j ∈ wrOf b.dst rb
    · have ha : j ∉ wrOf a.dst ra := fun q => ww j q hb
      rw [put_fr_ne (st := st.put b.dst rb) ha]
      by_cases hb2 : j ∈ b.dst.toList ++ rb.upd.map (·.1)
      · exact put_fr_in hb2
      · -- a slot that is dropped alone
        have : ∀ s : St, (s.put b.dst rb).fr j = s.fr j := fun s => by
          rw [List.mem_append, not_or] at hb2
          cases hd : b.dst with
          | none => exact updAll_ne _ _ _ hb2.2
          | some d =>
            simp only [St.put]
            rw [upd1_ne _ _ (by rw [hd] at hb2; simpa using hb2.1), updAll_ne _ _ _ hb2.2]
        rw [this, this, put_fr_ne ha]
    · rw [put_fr_ne (st := st.put a.dst ra) hb]
      by_cases ha2 : j ∈ a.dst.toList ++ ra.upd.map (·.1)
      · exact put_fr_in ha2
      · have : ∀ s : St, (s.put a.dst ra).fr j = s.fr j := fun s => by
          rw [List.mem_append, not_or] at ha2
          cases hd : a.dst with
          | none => exact updAll_ne _ _ _ ha2.2
          | some d =>
            simp only [St.put]
            rw [upd1_ne _ _ (by rw [hd] at ha2; simpa using ha2.1), updAll_ne _ _ _ ha2.2]
        rw [this, this, put_fr_ne hb]
  · intro t
    rw [put_ral kb1, put_ral ka2, hral, put_ral kb]
    have hne : ∀ d d', a.dst = some d → b.dst = some d' → d ≠ d' := fun d d' e1 e2 e => by
      subst e
      exact ww d (by simp [wrOf, e1]) (by simp [wrOf, e2])
    unfold addRef
    cases hda : a.dst with
    | none => rfl
    | some d =>
      cases hqa : ra.ref with
      | none => rfl
      | some q =>
        cases hdb : b.dst with
        | none => rfl
        | some d' =>
          cases hqb : rb.ref with
          | none => rfl
          | some q' =>
            have := hne d d' hda hdb
            simp only [rfind]
            by_cases e1 : d = t
            · subst e1
              rw [beqT', beqF' (Ne.symm this)]
              rfl
            · rw [beqF' e1]
              rfl
  · intro x
    rw [put_ral kb1, put_ral ka2, hral, put_ral kb]
    unfold addRef
    cases a.dst <;> cases ra.ref <;> cases b.dst <;> cases rb.ref <;> first | exact Iff.rfl | (simp only [List.mem_cons]; constructor <;> (rintro (h | h | h) <;> simp [h]))
structure Ev where
  i : Nat
  o : Oper
  r : Out
  f : Fp
variable (P env fz N ops)
inductive Runs : List Ev → St → St → Prop
  | nil (st : St) : Runs [] st st
  | cons {i : Nat} {o : Oper} {r : Out} {f : Fp} {l : List Ev} {st s' : St} : Step P env fz N ops o st r → f.calm = true → f = fpOf ops o st r → Runs l (st.put o.dst r) s' → Runs (⟨i, o, r, f⟩ :: l) st s'
variable {P env fz N ops}
theorem Runs.eqv {l : List Ev} {st s' : St} (h : Runs P env fz N ops l st s') : ∀ {st2 : St}, Eqv st st2 → ∃ s2, Runs P env fz N ops l st2 s2 ∧ Eqv s' s2 := by
  induction h with
  | nil st => intro st2 e; exact ⟨st2, .nil _, e⟩
  | @cons i o r f l st s' h1 h2 h3 h4 ih =>
    intro st2 e
    have hk : allKeep o.dst r.drop st.ral = true := by rw [h3] at h2; exact h2
    obtain ⟨s2, q1, q2⟩ := ih (e.put hk)
    refine ⟨s2, .cons ?_ h2 (by rw [h3, e.fp]) q1, q2⟩
    exact operO_congr (fun d _ => ⟨e.rf d, by rw [e.fr]⟩) (fun x _ => e.opd x) h1
theorem Runs.front {y : Ev} {l : List Ev} : ∀ {pre : List Ev} {st s' : St}, Runs P env fz N ops (pre ++ y :: l) st s' → (∀ x ∈ pre, NoClash x.f y.f) → ∃ s2, Runs P env fz N ops (y :: (pre ++ l)) st s2 ∧ Eqv s' s2
  | [], st, s', h, _ => ⟨s', h, .refl _⟩
  | x :: pre, st, s', h, hn => by
    cases h with
    | @cons i a ra f _ _ _ h1 h2 h3 h4 =>
      obtain ⟨s2, q1, q2⟩ := Runs.front h4 fun x hx => hn x (List.mem_cons_of_mem _ hx)
      cases q1 with
      | @cons j b rb g _ _ _ k1 k2 k3 k4 =>
        have hnc : NoClash f g := hn ⟨i, a, ra, f⟩ (List.mem_cons_self ..)
        obtain ⟨e1, e2, e3, e4, e5⟩ := swap h1 (by rw [← h3]; exact h2) k1 (by rw [← k3]; exact k2) (by rw [← h3, ← k3]; exact hnc)
        obtain ⟨s3, r1, r2⟩ := k4.eqv e5
        exact ⟨s3, .cons e1 k2 (by rw [k3, e2]) (.cons e3 h2 (by rw [h3, e4]) r1), q2.trans r2⟩
end
end Go.Proofs.YtfbahcfojiaeaaaGreatDoor.Th


set_option linter.unusedVariables false
set_option linter.unusedSimpArgs false
namespace Go.Proofs.YtfbahcfojiaeaaaGreatDoor.Th
open Go
section
variable {P : Program} {env : Env} {fz : List Nat} {N : Nat × List Nat} {ops : List Oper}
theorem det_operO (henv : EnvDet env) (o : Oper) (st : St) : DetK (fun R (K : Out → Option R) => operO P env fz N ops o st fun _ r => K r) :=
  det_of fun R K res h => by
    obtain ⟨r, _, h2⟩ := step_of henv h
    exact ⟨r, fun R' K' => h2 R' fun _ r => K' r⟩
theorem operO_K (henv : EnvDet env) {o : Oper} {st : St} {R : Type} (K : St → Out → Option R) : operO P env fz N ops o st K = operO P env fz N ops o st fun _ r => K st r := by
  cases h : operO P env fz N ops o st K with
  | some res =>
    obtain ⟨r, h1, h2⟩ := step_of henv h
    rw [h2 R fun _ r => K st r, h1]
  | none =>
    cases h' : operO P env fz N ops o st (fun _ r => K st r) with
    | none => rfl
    | some res =>
      obtain ⟨r, h1, h2⟩ := step_of henv h'
      rw [h2 R K] at h
      have h1 : K st r = some res := h1
      rw [h1] at h; cases h
theorem det_opsE (henv : EnvDet env) : ∀ (l : List Oper) (st : St), DetK (fun R K => @opsE R P env fz N ops l st K)
  | [], st => det_pure st
  | o :: l, st => by
    have : (fun (R : Type) (K : St → Option R) => opsE P env fz N ops (o :: l) st K) = fun R K => operO P env fz N ops o st fun _ r => opsE P env fz N ops l (st.put o.dst r) K := by
      funext R K
      simp only [opsE]
      rw [operO_K henv]
    rw [this]
    exact det_bind (f := fun R (K : Out → Option R) => operO P env fz N ops o st fun _ r => K r) (g := fun r R K => opsE P env fz N ops l (st.put o.dst r) K) (det_operO henv o st) fun r => det_opsE henv l _
theorem det_opsD (henv : EnvDet env) : ∀ (l : List Oper) (st : St) (tr : List Fp), DetK (fun R (K : St × List Fp → Option R) => @opsD R P env fz N ops l st tr fun s t => K (s, t))
  | [], st, tr => det_pure (st, tr)
  | o :: l, st, tr => by
    have : (fun (R : Type) (K : St × List Fp → Option R) => opsD P env fz N ops (o :: l) st tr fun s t => K (s, t)) = fun R K => operO P env fz N ops o st fun _ r => opsD P env fz N ops l (st.put o.dst r) (tr ++ [fpOf ops o st r]) fun s t => K (s, t) := by
      funext R K
      simp only [opsD]
      rw [operO_K henv]
    rw [this]
    exact det_bind (f := fun R (K : Out → Option R) => operO P env fz N ops o st fun _ r => K r) (g := fun r R K => opsD P env fz N ops l (st.put o.dst r) (tr ++ [fpOf ops o st r]) fun s t => K (s, t)) (det_operO henv o st) fun r => det_opsD henv l _ _
theorem det_regE (henv : EnvDet env) (draw : Bool) (fr : Fr) : DetK (fun R K => @regE R P env fz N ops draw fr K) := by
  unfold regE
  refine det_bif (det_bif ?_ det_none) ?_
  · exact det_bind (f := fun R (K : St × List Fp → Option R) => opsD P env fz N ops ops ⟨fr, []⟩ [] fun s t => K (s, t)) (g := fun x R K => bif okDraw ops x.2 then K x.1.fr else none) (det_opsD henv ops _ _) fun x => det_bif (det_pure _) det_none
  · exact det_bind (f := fun R K => opsE P env fz N ops ops ⟨fr, []⟩ K) (g := fun s R K => K s.fr) (det_opsE henv ops _) fun s => det_pure _
def DetC (f : (R : Type) → Kc R → Option R) : Prop := DetK (fun R (K : Ex × Fr → Option R) => f R fun e fr => K (e, fr))
theorem detC_pure (e : Ex) (fr : Fr) : DetC (fun R K => K e fr) := det_pure (e, fr)
theorem detC_none : DetC (fun R K => none) := det_none
theorem detC_bind {f : (R : Type) → Kc R → Option R} {g : Ex → Fr → (R : Type) → Kc R → Option R} (hf : DetC f) (hg : ∀ e fr, DetC (g e fr)) : DetC (fun R K => f R fun e fr => g e fr R K) :=
  det_bind (f := fun R (K : Ex × Fr → Option R) => f R fun e fr => K (e, fr)) (g := fun x R (K : Ex × Fr → Option R) => g x.1 x.2 R fun e fr => K (e, fr)) hf fun x => hg x.1 x.2
theorem detC_bif {c : Bool} {f g : (R : Type) → Kc R → Option R} (hf : DetC f) (hg : DetC g) : DetC (fun R K => bif c then f R K else g R K) := by cases c; exact hg; exact hf
theorem det_evLoop {f : (R : Type) → Fr → Kc R → Option R} (hf : ∀ fr, DetC (fun R K => f R fr K)) (live out : Lv) : ∀ (n : Nat) (vs : List SV), DetC (fun R K => evLoop (f R) live out n vs K)
  | 0, vs => detC_none
  | n + 1, vs => detC_bind (f := fun R K => f R (lk live vs) K) (g := fun e fr R K => match e with
    | .normal => evLoop (f R) live out n (snap live fr) K
    | .exit i => K (.exit i) (lk out (snap out fr))
    | .ret => K .ret (lk out (snap out fr))) (hf _) fun e fr => by
      cases e with
      | normal => exact det_evLoop hf live out n _
      | exit i => exact detC_pure _ _
      | ret => exact detC_pure _ _
theorem det_evC (henv : EnvDet env) (ann : Ann) (n : Nat) : ∀ (c : Code) (fr : Fr), DetC (fun R K => @evC R P env ann n N c fr K) := by
  intro c
  induction c with
  | skip => intro fr; exact detC_pure _ _
  | exit i => intro fr; exact detC_pure _ _
  | ret => intro fr; exact detC_pure _ _
  | region id ops draw =>
    intro fr
    exact det_bind (f := fun R K => regE P env ann.frz N ops.toList draw fr K) (g := fun fr' R (K : Ex × Fr → Option R) => K (.normal, fr')) (det_regE henv draw fr) fun fr' => det_pure _
  | seq a b iha ihb =>
    intro fr
    refine detC_bind (f := fun R K => evC P env ann n N a fr K) (g := fun e fr' R K => match e with
      | .normal => (match annOf ann.cuts b with
          | some (live, out) => evCut (fun f k => evC P env ann n N b f k) live out (snap live fr') K
          | none => evC P env ann n N b fr' K)
      | .exit i => K (.exit i) fr'
      | .ret => K .ret fr') (iha fr) fun e fr' => ?_
    cases e with
    | normal =>
      simp only []
      generalize annOf ann.cuts b = q
      rcases q with _ | ⟨live, out⟩
      · exact ihb fr'
      · exact detC_bind (f := fun R K => evC P env ann n N b (lk live (snap live fr')) K) (g := fun e fr R K => K e (lk out (snap out fr))) (ihb _) fun e fr => detC_pure _ _
    | exit i => exact detC_pure _ _
    | ret => exact detC_pure _ _
  | cond c a b iha ihb =>
    intro fr
    unfold evC
    generalize opd ⟨fr, []⟩ c = r
    rcases r with _ | _ | y | _ | _ | _ | _ | _ <;> first | exact detC_none | skip
    rcases y with y | _ | _ | _ | _ <;> first | exact detC_none | skip
    cases y <;> first | exact detC_none | exact detC_bif (iha fr) (ihb fr)
  | block id a ih =>
    intro fr
    refine detC_bind (f := fun R K => evC P env ann n N a fr K) (g := fun e fr' R K => match e with
      | .exit i => bif Nat.beq i id then K .normal fr' else K (.exit i) fr'
      | .normal => K .normal fr'
      | .ret => K .ret fr') (ih fr) fun e fr' => ?_
    cases e with
    | normal => exact detC_pure _ _
    | exit i => exact detC_bif (detC_pure _ _) (detC_pure _ _)
    | ret => exact detC_pure _ _
  | loop a ih =>
    intro fr
    unfold evC
    generalize annOf ann.loops a = q
    rcases q with _ | ⟨live, out⟩
    · exact detC_none
    · exact det_evLoop (f := fun R f k => evC P env ann n N a f k) ih live out n _
  | _ => intro fr; exact detC_none
theorem det_finK (ann : Ann) (fn : Func) (args : List SV) (fr : Fr) : DetK (fun R K => @finK R P ann fn args fr K) := by
  unfold finK
  generalize resCells P (fn.ntmps, backIx 0 args) fn.results.toList fr = q
  rcases q with _ | fr
  · exact det_none
  simp only []
  generalize resL P fr ann.rm fn.results.toList = a
  generalize backs fr (backIx 0 args) = b
  cases a <;> cases b <;> first | exact det_none | exact det_bif (det_pure _) det_none
theorem det_evFn (henv : EnvDet env) (ann : Ann) (n : Nat) (fn : Func) (args : List SV) : DetK (fun R K => @evFn R P env ann n fn args K) := by
  unfold evFn
  generalize fn.body = c
  rcases c with _ | c
  · exact det_none
  refine det_bif ?_ det_none
  refine det_bind (f := fun R (K : Ex × Fr → Option R) => evC P env ann n (fn.ntmps, backIx 0 args) c (argFr args) fun e fr => K (e, fr)) (g := fun x R K => match x.1 with
      | .exit _ => none
      | .normal => finK P ann fn args x.2 K
      | .ret => finK P ann fn args x.2 K) (det_evC henv ann n c _) fun x => ?_
  rcases x with ⟨e, fr⟩
  cases e with
  | exit i => exact det_none
  | normal => exact det_finK ann fn args fr
  | ret => exact det_finK ann fn args fr
end
end Go.Proofs.YtfbahcfojiaeaaaGreatDoor.Th


set_option linter.unusedVariables false
namespace Go.Proofs.YtfbahcfojiaeaaaGreatDoor.Th
open Go
def flat (es : List PV) : List PV := es.flatMap cellsOf
theorem beqF {a b : Nat} (h : a ≠ b) : Nat.beq a b = false := by
  cases hb : Nat.beq a b with
  | false => rfl
  | true => exact absurd (Nat.eq_of_beq_eq_true hb) h
theorem beqT (a : Nat) : Nat.beq a a = true := Nat.beq_refl a
theorem neB {a b : Nat} (h : Nat.beq a b = false) : a ≠ b := fun e => by rw [e, beqT] at h; cases h
theorem eqB {a b : Nat} (h : Nat.beq a b = true) : a = b := Nat.eq_of_beq_eq_true h
def CellsAt (F : Nat → Prop) (w : World) (a : Option Addr) (xs : List Value) : Prop :=
  xs = [] ∨ ∃ b off, a = some ⟨b, off, none⟩ ∧ F b ∧ ∀ j x, xs[j]? = some x → w.cell? ⟨b, off + j, none⟩ = some x
mutual
inductive RP (F : Nat → Prop) (w : World) : PV → Value → Prop
  | v (x : Value) : RP F w (.v x) x
  | agg {cs : List PV} {vs : List Value} : RPs F w cs vs → leafs cs = true → RP F w (.agg cs) (.agg vs.toArray)
  | sh {es : List PV} {xs : List Value} {a : Option Addr} {n cap sz : Nat} : RPs F w (flat es) xs → (∀ e ∈ es, (cellsOf e).length = sz ∧ leafs (cellsOf e) = true) → 0 < sz →
      CellsAt F w a xs → n = es.length → n ≤ cap → cap ≤ maxLen → RP F w (.sh es) (.slice a n cap)
  | clo {f : FuncId} {caps : List PV} {vs : List Value} : RPs F w caps vs → RP F w (.clo f caps) (.func (.func f) #[] vs.toArray)
  | fb {cs : List PV} {xs : List Value} {b off : Nat} : RPs F w cs xs → leafs cs = true → CellsAt F w (some ⟨b, off, none⟩) xs → RP F w (.fb cs) (.pointer (some ⟨b, off, none⟩))
inductive RPs (F : Nat → Prop) (w : World) : List PV → List Value → Prop
  | nil : RPs F w [] []
  | cons {x : PV} {c : Value} {l : List PV} {cs : List Value} : RP F w x c → RPs F w l cs → RPs F w (x :: l) (c :: cs)
end
mutual
inductive RS (P : Program) (F : Nat → Prop) (w : World) : SV → Value → List Nat → Prop
  | dead (c : Value) : RS P F w .dead c []
  | nl : RS P F w .nl (.slice none 0 0) []
  | p {x : PV} {c : Value} : RP F w x c → RS P F w (.p x) c []
  | own {T : TypeId} {es : List PV} {c : Value} {xs : List Value} {i : TypeInfo} {z : Value} : P.info? T = some i → i.zero = some z → z.cells.size = i.size → 0 < i.size →
      w.ownsRow 0 T i.size c es.length xs → RPs F w (flat es) xs → (∀ e ∈ es, (cellsOf e).length = i.size ∧ leafs (cellsOf e) = true) → RS P F w (.own T es) c c.ownBlock.toList
  | bx {T : TypeId} {cs : List SV} {b : Nat} {cur : Array Value} {B : List Nat} : w.heap[b]? = some (.cells cur T (0, 0)) → RSs P F w cs cur.toList B → (∀ x ∈ cur.toList, x.oneCell' = true) →
      RS P F w (.bx T cs) (.pointer (some ⟨b, 0, none⟩)) (b :: B)
  | tup {l : List SV} {vs : List Value} {B : List Nat} : RSs P F w l vs B → RS P F w (.tup l) (.tuple vs.toArray) B
  | ob {T e : TypeId} {bs : ByteArray} {b : Nat} {p v : Value} : w.heap[b]? = some (.cells #[p, v] T (0, 0)) → (p = .pointer none ∨ p = .pointer (some ⟨b, 0, none⟩)) →
      w.ownsRowF 0 e 1 v bs.size (Lib.byteCells bs.data.toList) → v.ownBlock ≠ some b → RS P F w (.ob T e bs) (.pointer (some ⟨b, 0, none⟩)) (b :: v.ownBlock.toList)
inductive RSs (P : Program) (F : Nat → Prop) (w : World) : List SV → List Value → List Nat → Prop
  | nil : RSs P F w [] [] []
  | cons {x : SV} {c : Value} {l : List SV} {cs : List Value} {B Bs : List Nat} : RS P F w x c B → RSs P F w l cs Bs → RSs P F w (x :: l) (c :: cs) (B ++ Bs)
end
theorem cell_congr {w w' : World} {b off : Nat} (h : w'.heap[b]? = w.heap[b]?) : w'.cell? ⟨b, off, none⟩ = w.cell? ⟨b, off, none⟩ :=
  World.cell?_of_block (w := w) (w' := w') (a := ⟨b, off, none⟩) h
theorem CellsAt.mono {F F' : Nat → Prop} {w w' : World} {a : Option Addr} {xs : List Value} (h : CellsAt F w a xs) (hF : ∀ b, F b → F' b)
    (hw : ∀ b, F b → w'.heap[b]? = w.heap[b]?) : CellsAt F' w' a xs := by
  rcases h with h | ⟨b, off, ha, hb, hc⟩
  · exact .inl h
  · exact .inr ⟨b, off, ha, hF b hb, fun j x hj => by rw [cell_congr (hw b hb)]; exact hc j x hj⟩
section
variable {F F' : Nat → Prop} {w w' : World}
theorem RP.mono {x : PV} {c : Value} (h : RP F w x c) (hF : ∀ b, F b → F' b) (hw : ∀ b, F b → w'.heap[b]? = w.heap[b]?) : RP F' w' x c := by
  refine RP.rec (motive_1 := fun x c _ => RP F' w' x c) (motive_2 := fun l cs _ => RPs F' w' l cs) ?_ ?_ ?_ ?_ ?_ ?_ ?_ h
  · intro x; exact .v x
  · intro cs vs _ hl ih; exact .agg ih hl
  · intro es xs a n cap sz _ h1 h2 h3 h4 h5 h6 ih; exact .sh ih h1 h2 (h3.mono hF hw) h4 h5 h6
  · intro f caps vs _ ih; exact .clo ih
  · intro cs xs b off _ hl hc ih; exact .fb ih hl (hc.mono hF hw)
  · exact .nil
  · intro x c l cs _ _ i1 i2; exact .cons i1 i2
theorem RPs.mono {x : List PV} {c : List Value} (h : RPs F w x c) (hF : ∀ b, F b → F' b) (hw : ∀ b, F b → w'.heap[b]? = w.heap[b]?) : RPs F' w' x c := by
  induction x generalizing c with
  | nil => cases h; exact .nil
  | cons x l ih => cases h with | cons h1 h2 => exact .cons (h1.mono hF hw) (ih h2)
end
theorem owns_congr {w w' : World} {T : TypeId} {size : Nat} {c : Value} {n : Nat} {xs : List Value} (h : w.ownsRow 0 T size c n xs)
    (hw : ∀ b, b ∈ c.ownBlock.toList → w'.heap[b]? = w.heap[b]?) : w'.ownsRow 0 T size c n xs := by
  refine ⟨h.1, ?_⟩
  rcases h.2 with hn | ⟨g, cap, cur, rfl, hb, hg, rest⟩
  · exact .inl hn
  · exact .inr ⟨g, cap, cur, rfl, hb, by rw [hw g (by simp [Value.ownBlock])]; exact hg, rest⟩
theorem ownsF_congr {w w' : World} {T : TypeId} {size : Nat} {c : Value} {n : Nat} {xs : List Value} (h : w.ownsRowF 0 T size c n xs)
    (hw : ∀ b, b ∈ c.ownBlock.toList → w'.heap[b]? = w.heap[b]?) : w'.ownsRowF 0 T size c n xs := by
  refine ⟨h.1, ?_⟩
  rcases h.2 with hn | ⟨g, cap, cur, fz, rfl, hb, hg, rest⟩
  · exact .inl hn
  · exact .inr ⟨g, cap, cur, fz, rfl, hb, by rw [hw g (by simp [Value.ownBlock])]; exact hg, rest⟩
section
variable {P : Program} {F F' : Nat → Prop} {w w' : World}
theorem RS.mono {x : SV} {c : Value} {B : List Nat} (h : RS P F w x c B) (hF : ∀ b, F b → F' b) (hw : ∀ b, (F b ∨ b ∈ B) → w'.heap[b]? = w.heap[b]?) : RS P F' w' x c B := by
  have key : ∀ {x : SV} {c : Value} {B : List Nat}, RS P F w x c B → (∀ b, (F b ∨ b ∈ B) → w'.heap[b]? = w.heap[b]?) → RS P F' w' x c B := by
    intro x c B h
    refine RS.rec (motive_1 := fun x c B _ => (∀ b, (F b ∨ b ∈ B) → w'.heap[b]? = w.heap[b]?) → RS P F' w' x c B)
      (motive_2 := fun l cs B _ => (∀ b, (F b ∨ b ∈ B) → w'.heap[b]? = w.heap[b]?) → RSs P F' w' l cs B) ?_ ?_ ?_ ?_ ?_ ?_ ?_ ?_ ?_ h
    · intro c _; exact .dead c
    · intro _; exact .nl
    · intro x c hx hw; exact .p (hx.mono hF fun b hb => hw b (.inl hb))
    · intro T es c xs i z h1 h2 h3 h4 h5 h6 h7 hw
      exact .own h1 h2 h3 h4 (owns_congr h5 fun b hb => hw b (.inr hb)) (h6.mono hF fun b hb => hw b (.inl hb)) h7
    · intro T cs b cur B hb _ ho ih hw
      exact .bx (by rw [hw b (.inr (by simp))]; exact hb) (ih fun b' hb' => hw b' (hb'.imp id fun h => List.mem_cons_of_mem _ h)) ho
    · intro l vs B _ ih hw; exact .tup (ih hw)
    · intro T e bs b p v hb hp ho hne hw
      exact .ob (by rw [hw b (.inr (by simp))]; exact hb) hp (ownsF_congr ho fun b' hb' => hw b' (.inr (List.mem_cons_of_mem _ hb'))) hne
    · intro _; exact .nil
    · intro x c l cs B Bs _ _ i1 i2 hw
      exact .cons (i1 fun b hb => hw b (hb.imp id fun h => List.mem_append_left _ h)) (i2 fun b hb => hw b (hb.imp id fun h => List.mem_append_right _ h))
  exact key h hw
theorem RSs.mono {x : List SV} {c : List Value} {B : List Nat} (h : RSs P F w x c B) (hF : ∀ b, F b → F' b) (hw : ∀ b, (F b ∨ b ∈ B) → w'.heap[b]? = w.heap[b]?) : RSs P F' w' x c B := by
  induction x generalizing c B with
  | nil => cases h; exact .nil
  | cons x l ih =>
    cases h with
    | cons h1 h2 => exact .cons (h1.mono hF fun b hb => hw b (hb.imp id fun h => List.mem_append_left _ h)) (ih h2 fun b hb => hw b (hb.imp id fun h => List.mem_append_right _ h))
end
structure Keep (W : World) (A : Nat → Prop) (w : World) : Prop where
  os : w.os = W.os
  tape : w.tape = W.tape
  output : w.output = W.output
  size : W.heap.size ≤ w.heap.size
  block : ∀ b, b < W.heap.size → ¬ A b → w.heap[b]? = W.heap[b]?
def RefOK (P : Program) (fr : Fr) (tm : Array Value) (w : World) : Ref → Value → Prop
  | .o s none, c => c = tm.getD s undef
  | .o s (some j), c => ∀ T cs b cur T' f, fr s = .bx T cs → tm.getD s undef = .pointer (some ⟨b, 0, none⟩) → w.heap[b]? = some (.cells cur T' f) → cur.toList[j]? = some c
  | .b s off, c => ∀ b, tm.getD s undef = .pointer (some ⟨b, 0, none⟩) → c = .pointer (some ⟨b, off, none⟩)
  | .e s none T i off, c => ∃ g n cap, tm.getD s undef = .slice (some ⟨g, 0, none⟩) n cap ∧ i < n ∧ ∃ sz, sizeT P T = some sz ∧ c = .pointer (some ⟨g, i * sz + off, none⟩)
  | .e s (some j) T i off, c => ∀ Tb cs b cur T' f, fr s = .bx Tb cs → tm.getD s undef = .pointer (some ⟨b, 0, none⟩) → w.heap[b]? = some (.cells cur T' f) →
      ∃ g n cap, cur.toList[j]? = some (.slice (some ⟨g, 0, none⟩) n cap) ∧ i < n ∧ ∃ sz, sizeT P T = some sz ∧ c = .pointer (some ⟨g, i * sz + off, none⟩)
structure GInv where
  ok : (Nat → Prop) → World → Prop
  st : ∀ (F F' : Nat → Prop) (W w : World), ok F W → (∀ b, F b → F' b) → (∀ b, F b → b < W.heap.size) → (∀ b, F b → w.heap[b]? = W.heap[b]?) → ok F' w
def GInv.none : GInv := ⟨fun _ _ => True, fun _ _ _ _ _ _ _ _ => trivial⟩
structure Gd where
  W : World
  A : Nat → Prop
  F0 : Nat → Prop
  N : Nat × List Nat
  V : Nat → Value
  I : GInv
  hI : ∀ (F : Nat → Prop) (w : World), (∀ b, F0 b → F b) → Keep W A w → I.ok F w
structure Rel (P : Program) (G : Gd) (F : Nat → Prop) (Bs : Nat → List Nat) (st : St) (tm : Array Value) (w : World) : Prop where
  sz : tm.size = G.N.1
  sl : ∀ i, RS P F w (st.fr i) (tm.getD i undef) (Bs i)
  nd : ∀ i, (Bs i).Nodup
  dj : ∀ i j b, i ≠ j → b ∈ Bs i → b ∉ Bs j
  nf : ∀ i b, b ∈ Bs i → ¬ F b
  nw : ∀ i b, b ∈ Bs i → G.W.heap.size ≤ b ∨ G.A b
  lt : ∀ i b, b ∈ Bs i → b < w.heap.size
  fl : ∀ b, F b → b < w.heap.size
  f0 : ∀ b, G.F0 b → F b
  fn : ∀ b, F b → G.F0 b ∨ G.W.heap.size ≤ b ∨ G.A b
  kb : Keep G.W G.A w
  rf : ∀ t r, (t, r) ∈ st.ral → RefOK P st.fr tm w r (tm.getD t undef)
  pn : ∀ i ∈ G.N.2, tm.getD i undef = G.V i
def upB (Bs : Nat → List Nat) (s : Nat) (B : List Nat) : Nat → List Nat := fun i => if i = s then B else Bs i
theorem upB_same (Bs : Nat → List Nat) (s : Nat) (B : List Nat) : upB Bs s B s = B := by simp [upB]
theorem upB_other (Bs : Nat → List Nat) {s i : Nat} (B : List Nat) (h : i ≠ s) : upB Bs s B i = Bs i := by simp [upB, h]
theorem upd1_same (fr : Fr) (s : Nat) (x : SV) : upd1 fr s x s = x := by simp [upd1]
theorem upd1_other (fr : Fr) {s i : Nat} (x : SV) (h : i ≠ s) : upd1 fr s x i = fr i := by
  simp [upd1, beqF h]
theorem getD_set_same {tm : Array Value} {d : Nat} {c : Value} (h : d < tm.size) : (tm.setIfInBounds d c).getD d undef = c := by simp [h]
theorem getD_set_other {tm : Array Value} {d i : Nat} {c : Value} (h : i ≠ d) : (tm.setIfInBounds d c).getD i undef = tm.getD i undef := by
  simp [Array.getElem?_setIfInBounds_ne (Ne.symm h)]
theorem rfind_mem {t : Nat} {r : Ref} : ∀ {l : List (Nat × Ref)}, rfind l t = some r → (t, r) ∈ l
  | [], h => by simp [rfind] at h
  | (u, q) :: l, h => by
    simp only [rfind] at h
    cases hu : Nat.beq u t with
    | true =>
      simp only [hu, cond_true, Option.some.injEq] at h
      have := Nat.eq_of_beq_eq_true hu
      subst this; subst h
      exact List.mem_cons_self
    | false =>
      simp only [hu, cond_false] at h
      exact List.mem_cons_of_mem _ (rfind_mem h)
theorem mem_keep {d : Option Nat} {drop : List Nat} {t : Nat} {r : Ref} : ∀ {l : List (Nat × Ref)}, (t, r) ∈ keepRefs d drop l → (t, r) ∈ l ∧ keepRef d drop t r = true
  | [], h => by simp [keepRefs] at h
  | (u, q) :: l, h => by
    simp only [keepRefs] at h
    cases hk : keepRef d drop u q with
    | false =>
      simp only [hk, cond_false] at h
      exact ⟨List.mem_cons_of_mem _ (mem_keep h).1, (mem_keep h).2⟩
    | true =>
      simp only [hk, cond_true, List.mem_cons] at h
      rcases h with h | h
      · cases h; exact ⟨List.mem_cons_self, hk⟩
      · exact ⟨List.mem_cons_of_mem _ (mem_keep h).1, (mem_keep h).2⟩
theorem keep_dst {d : Nat} {drop : List Nat} {t : Nat} {r : Ref} (h : keepRef (some d) drop t r = true) : t ≠ d ∧ r.root ≠ d := by
  simp only [keepRef, Bool.and_eq_true, Bool.not_eq_true'] at h
  exact ⟨neB h.1.1, neB h.1.2⟩
theorem keepRefs_keepRefs (d : Option Nat) (drop : List Nat) : ∀ l : List (Nat × Ref), keepRefs d [] (keepRefs none drop l) = keepRefs d drop l
  | [] => rfl
  | (t, r) :: l => by
    have ih := keepRefs_keepRefs d drop l
    have e : keepRef d drop t r = (keepRef none drop t r && keepRef d [] t r) := by
      cases d <;> simp [keepRef, memN, Bool.and_comm]
    simp only [keepRefs]
    cases h1 : keepRef none drop t r <;> cases h2 : keepRef d [] t r <;> simp [e, h1, h2, keepRefs, ih]
def St.upS (st : St) (us : List (Nat × SV)) (drop : List Nat) : St := { fr := updAll st.fr us, ral := keepRefs none drop st.ral }
theorem put_upS (st : St) (d : Option Nat) (x : SV) (r : Option Ref) (us : List (Nat × SV)) (drop : List Nat) :
    st.put d ⟨x, r, us, drop⟩ = (st.upS us drop).put d ⟨x, r, [], []⟩ := by
  cases d <;> cases r <;> simp [St.put, St.upS, updAll, keepRefs_keepRefs]
section
variable {P : Program} {G : Gd} {F : Nat → Prop} {Bs : Nat → List Nat} {st : St} {tm : Array Value} {w : World}
theorem Rel.put (h : Rel P G F Bs st tm w) {d : Nat} {x : SV} {c : Value} {B : List Nat} {r : Option Ref} (hd : d < G.N.1) (hpn : d ∉ G.N.2)
    (hx : RS P F w x c B) (hn : B.Nodup) (hj : ∀ i b, i ≠ d → b ∈ B → b ∉ Bs i) (hf : ∀ b ∈ B, ¬ F b) (hw : ∀ b ∈ B, G.W.heap.size ≤ b ∨ G.A b) (hl : ∀ b ∈ B, b < w.heap.size)
    (hr : ∀ q, r = some q → q.root ≠ d ∧ RefOK P st.fr tm w q c) :
    Rel P G F (upB Bs d B) (st.put (some d) ⟨x, r, [], []⟩) (tm.setIfInBounds d c) w := by
  have hsz : d < tm.size := by rw [h.sz]; exact hd
  have frd : ∀ i, i ≠ d → upd1 st.fr d x i = st.fr i := fun i hi => upd1_other _ _ hi
  have ref : ∀ (q : Ref) (c' : Value), q.root ≠ d → RefOK P st.fr tm w q c' → RefOK P (upd1 st.fr d x) (tm.setIfInBounds d c) w q c' := by
    intro q c' hq hok
    cases q with
    | o s j =>
      have hs : s ≠ d := hq
      cases j <;> simp only [RefOK, frd s hs, getD_set_other hs] at hok ⊢ <;> exact hok
    | b s off => have hs : s ≠ d := hq; simp only [RefOK, getD_set_other hs] at hok ⊢; exact hok
    | e s j T i off =>
      have hs : s ≠ d := hq
      cases j <;> simp only [RefOK, frd s hs, getD_set_other hs] at hok ⊢ <;> exact hok
  have hfr : (st.put (some d) ⟨x, r, [], []⟩).fr = upd1 st.fr d x := rfl
  refine ⟨by simp [h.sz], ?_, ?_, ?_, ?_, ?_, ?_, h.fl, h.f0, h.fn, h.kb, ?_, fun i hi => by
    have hne : i ≠ d := fun e => by subst e; exact hpn hi
    rw [getD_set_other hne]; exact h.pn i hi⟩
  · intro i
    rw [hfr]
    by_cases hi : i = d
    · subst hi; rw [upd1_same, upB_same, getD_set_same hsz]; exact hx
    · rw [frd i hi, upB_other _ _ hi, getD_set_other hi]; exact h.sl i
  · intro i
    by_cases hi : i = d
    · subst hi; rw [upB_same]; exact hn
    · rw [upB_other _ _ hi]; exact h.nd i
  · intro i j b hij hb
    by_cases hi : i = d
    · subst hi
      rw [upB_same] at hb
      rw [upB_other _ _ (Ne.symm hij)]
      exact hj j b (Ne.symm hij) hb
    · rw [upB_other _ _ hi] at hb
      by_cases hj' : j = d
      · subst hj'; rw [upB_same]; exact fun hb' => hj i b hi hb' hb
      · rw [upB_other _ _ hj']; exact h.dj i j b hij hb
  · intro i b hb
    by_cases hi : i = d
    · subst hi; rw [upB_same] at hb; exact hf b hb
    · rw [upB_other _ _ hi] at hb; exact h.nf i b hb
  · intro i b hb
    by_cases hi : i = d
    · subst hi; rw [upB_same] at hb; exact hw b hb
    · rw [upB_other _ _ hi] at hb; exact h.nw i b hb
  · intro i b hb
    by_cases hi : i = d
    · subst hi; rw [upB_same] at hb; exact hl b hb
    · rw [upB_other _ _ hi] at hb; exact h.lt i b hb
  · intro t q hm
    rw [hfr]
    have old : ∀ t q, (t, q) ∈ keepRefs (some d) [] st.ral → RefOK P (upd1 st.fr d x) (tm.setIfInBounds d c) w q ((tm.setIfInBounds d c).getD t undef) := by
      intro t q hm
      obtain ⟨hm, hk⟩ := mem_keep hm
      obtain ⟨ht, hq⟩ := keep_dst hk
      rw [getD_set_other ht]
      exact ref q _ hq (h.rf t q hm)
    cases r with
    | none => exact old t q hm
    | some q0 =>
      simp only [St.put, List.mem_cons] at hm
      rcases hm with hm | hm
      · cases hm
        obtain ⟨h1, h2⟩ := hr q rfl
        rw [getD_set_same hsz]
        exact ref q _ h1 h2
      · exact old t q hm
theorem RS.bx_mem {T : TypeId} {cs : List SV} {b : Nat} {B : List Nat} (h : RS P F w (.bx T cs) (.pointer (some ⟨b, 0, none⟩)) B) : b ∈ B := by
  generalize hc : (Value.pointer (some ⟨b, 0, none⟩)) = c at h
  cases h with
  | bx _ _ _ => simp at hc; simp [hc]
theorem memN_of {l : List Nat} {s : Nat} (hl : s ∈ l) : memN l s = true := by
  induction l with
  | nil => simp at hl
  | cons y l ih =>
    simp only [memN]
    cases hy : Nat.beq y s with
    | true => simp
    | false =>
      simp only [cond_false]
      rcases List.mem_cons.1 hl with h1 | h1
      · exact absurd h1.symm (neB hy)
      · exact ih h1
theorem of_memN {l : List Nat} {s : Nat} (h : memN l s = true) : s ∈ l := by
  induction l with
  | nil => simp [memN] at h
  | cons y l ih =>
    simp only [memN] at h
    cases hy : Nat.beq y s with
    | true => rw [eqB hy]; exact List.mem_cons_self
    | false => rw [hy] at h; exact List.mem_cons_of_mem _ (ih h)
theorem Rel.turn (h : Rel P G F Bs st tm w) {s : Nat} {x : SV} {B : List Nat} {F' : Nat → Prop} {w' : World} {drop : List Nat}
    (hx : RS P F' w' x (tm.getD s undef) B) (hB : ∀ b ∈ B, b ∈ Bs s ∨ (¬ (∃ i, b ∈ Bs i) ∧ (G.W.heap.size ≤ b ∨ G.A b) ∧ b < w'.heap.size)) (hn : B.Nodup)
    (hF : ∀ b, F b → F' b) (hF' : ∀ b, F' b → F b ∨ (b ∈ Bs s ∧ b ∉ B))
    (hnf : ∀ b ∈ B, ¬ F' b)
    (hw : ∀ b, b < w.heap.size → b ∉ Bs s → w'.heap[b]? = w.heap[b]?) (hz : w.heap.size ≤ w'.heap.size)
    (hos : w'.os = w.os ∧ w'.tape = w.tape ∧ w'.output = w.output)
    (hbox : ∀ T cs b, st.fr s = .bx T cs → tm.getD s undef = .pointer (some ⟨b, 0, none⟩) → s ∈ drop ∨ w'.heap[b]? = w.heap[b]?)
    (hxb : ∀ T cs, x = .bx T cs → s ∈ drop ∨ ∃ T' cs', st.fr s = .bx T' cs') :
    Rel P G F' (upB Bs s B) (st.upS [(s, x)] drop) tm w' := by
  have keepF : ∀ i, i ≠ s → ∀ b, (F b ∨ b ∈ Bs i) → w'.heap[b]? = w.heap[b]? := by
    intro i hi b hb
    rcases hb with hb | hb
    · exact hw b (h.fl b hb) fun hs => h.nf s b hs hb
    · exact hw b (h.lt i b hb) (h.dj i s b hi hb)
  have hfr : (st.upS [(s, x)] drop).fr = upd1 st.fr s x := rfl
  refine ⟨h.sz, ?_, ?_, ?_, ?_, ?_, ?_, ?_, fun b hb => hF b (h.f0 b hb), ?_, ?_, ?_, h.pn⟩
  · intro i
    rw [hfr]
    by_cases hi : i = s
    · subst hi; rw [upd1_same, upB_same]; exact hx
    · rw [upd1_other _ _ hi, upB_other _ _ hi]; exact (h.sl i).mono hF (keepF i hi)
  · intro i
    by_cases hi : i = s
    · subst hi; rw [upB_same]; exact hn
    · rw [upB_other _ _ hi]; exact h.nd i
  · intro i j b hij hb
    by_cases hi : i = s
    · subst hi
      rw [upB_same] at hb
      rw [upB_other _ _ (Ne.symm hij)]
      rcases hB b hb with hb | hb
      · exact h.dj _ _ b hij hb
      · exact fun hc => hb.1 ⟨j, hc⟩
    · rw [upB_other _ _ hi] at hb
      by_cases hj : j = s
      · subst hj
        rw [upB_same]
        intro hc
        rcases hB b hc with hc | hc
        · exact h.dj _ _ b hij hb hc
        · exact hc.1 ⟨i, hb⟩
      · rw [upB_other _ _ hj]; exact h.dj i j b hij hb
  · intro i b hb
    by_cases hi : i = s
    · subst hi; rw [upB_same] at hb; exact hnf b hb
    · rw [upB_other _ _ hi] at hb
      intro hf
      rcases hF' b hf with hf | ⟨hf, _⟩
      · exact h.nf i b hb hf
      · exact h.dj i s b hi hb hf
  · intro i b hb
    by_cases hi : i = s
    · subst hi
      rw [upB_same] at hb
      rcases hB b hb with hb | hb
      · exact h.nw _ b hb
      · exact hb.2.1
    · rw [upB_other _ _ hi] at hb; exact h.nw i b hb
  · intro i b hb
    by_cases hi : i = s
    · subst hi
      rw [upB_same] at hb
      rcases hB b hb with hb | hb
      · exact Nat.lt_of_lt_of_le (h.lt _ b hb) hz
      · exact hb.2.2
    · rw [upB_other _ _ hi] at hb; exact Nat.lt_of_lt_of_le (h.lt i b hb) hz
  · intro b hb
    rcases hF' b hb with hb | ⟨hb, _⟩
    · exact Nat.lt_of_lt_of_le (h.fl b hb) hz
    · exact Nat.lt_of_lt_of_le (h.lt s b hb) hz
  · intro b hb
    rcases hF' b hb with hb | ⟨hb, _⟩
    · exact h.fn b hb
    · exact .inr (h.nw s b hb)
  · refine ⟨hos.1.trans h.kb.os, hos.2.1.trans h.kb.tape, hos.2.2.trans h.kb.output, Nat.le_trans h.kb.size hz, fun b hb hA => ?_⟩
    rw [hw b (Nat.lt_of_lt_of_le hb h.kb.size) fun hs => ?_]
    · exact h.kb.block b hb hA
    · rcases h.nw s b hs with h1 | h1
      · omega
      · exact hA h1
  · intro t q hm
    rw [hfr]
    obtain ⟨hm, hk⟩ := mem_keep hm
    have hok := h.rf t q hm
    have box : ∀ u T cs b, st.fr u = .bx T cs → tm.getD u undef = .pointer (some ⟨b, 0, none⟩) → u ∉ drop → w'.heap[b]? = w.heap[b]? := by
      intro u T cs b hu ht hnd
      by_cases hus : u = s
      · subst hus
        exact (hbox T cs b hu ht).resolve_left hnd
      · have hsl := h.sl u
        rw [hu, ht] at hsl
        exact keepF u hus b (.inr hsl.bx_mem)
    have nodrop : q.cell = true → q.root ∉ drop := by
      intro hc hd
      simp [keepRef, hc, memN_of hd] at hk
    have fro : ∀ u T cs, upd1 st.fr s x u = .bx T cs → u ∉ drop → ∃ T' cs', st.fr u = .bx T' cs' := by
      intro u T cs hu hnd
      by_cases hus : u = s
      · subst hus
        rw [upd1_same] at hu
        exact (hxb T cs hu).resolve_left hnd
      · rw [upd1_other _ _ hus] at hu; exact ⟨T, cs, hu⟩
    cases q with
    | b u off => exact hok
    | o u j =>
      cases j with
      | none => exact hok
      | some j =>
        have hnd : u ∉ drop := nodrop rfl
        intro T cs b cur T' f hu ht hb
        obtain ⟨T1, cs1, hu1⟩ := fro u T cs hu hnd
        rw [box u T1 cs1 b hu1 ht hnd] at hb
        exact hok T1 cs1 b cur T' f hu1 ht hb
    | e u j T i off =>
      cases j with
      | none => exact hok
      | some j =>
        have hnd : u ∉ drop := nodrop rfl
        intro Tb cs b cur T' f hu ht hb
        obtain ⟨T1, cs1, hu1⟩ := fro u Tb cs hu hnd
        rw [box u T1 cs1 b hu1 ht hnd] at hb
        exact hok T1 cs1 b cur T' f hu1 ht hb
end
end Go.Proofs.YtfbahcfojiaeaaaGreatDoor.Th


set_option linter.unusedVariables false
namespace Go.Proofs.YtfbahcfojiaeaaaGreatDoor.Th
open Go
abbrev blk (c : Value) : List Nat := c.ownBlock.toList
def PlaceOK (fr : Fr) (tm : Array Value) (w : World) (s : Nat) (cx : Option (Nat × TypeId × List SV)) (T : TypeId) (es : List PV) (cv : Value) : Prop :=
  match cx with
  | none => fr s = .own T es ∧ tm.getD s undef = cv
  | some (j, Tb, cs) => fr s = .bx Tb cs ∧ cs[j]? = some (.own T es) ∧
      ∃ b cur, tm.getD s undef = .pointer (some ⟨b, 0, none⟩) ∧ w.heap[b]? = some (.cells cur Tb (0, 0)) ∧ cur.toList[j]? = some cv
def RVR (P : Program) (F : Nat → Prop) (fr : Fr) (tm : Array Value) (w : World) : RV → Value → Prop
  | .bad, _ => True
  | .nl, c => c = .slice none 0 0
  | .pv x, c => RP F w x c
  | .own s cx T es, c => PlaceOK fr tm w s cx T es c
  | .box s off T cs, c => fr s = .bx T cs ∧ ∃ b, tm.getD s undef = .pointer (some ⟨b, 0, none⟩) ∧ c = .pointer (some ⟨b, off, none⟩)
  | .el s cx T es i off, c => ∃ g n cap sz, PlaceOK fr tm w s cx T es (.slice (some ⟨g, 0, none⟩) n cap) ∧ i < n ∧ sizeT P T = some sz ∧ c = .pointer (some ⟨g, i * sz + off, none⟩)
  | .tup s l, c => fr s = .tup l ∧ tm.getD s undef = c
  | .ob s T e bs, c => fr s = .ob T e bs ∧ tm.getD s undef = c
section
variable {P : Program} {F : Nat → Prop} {w : World}
theorem RSs.get {cs : List SV} {vs : List Value} {B : List Nat} (h : RSs P F w cs vs B) : ∀ {j : Nat} {x : SV}, cs[j]? = some x →
    ∃ c Bj pre post, vs[j]? = some c ∧ RS P F w x c Bj ∧ B = pre ++ Bj ++ post ∧
      ∀ (F' : Nat → Prop) (w' : World) (x' : SV) (c' : Value) (B' : List Nat), (∀ b, F b → F' b) → (∀ b, (F b ∨ b ∈ pre ∨ b ∈ post) → w'.heap[b]? = w.heap[b]?) →
        RS P F' w' x' c' B' → RSs P F' w' (cs.set j x') (vs.set j c') (pre ++ B' ++ post) := by
  induction cs generalizing vs B with
  | nil => intro j x hj; simp at hj
  | cons y l ih =>
    intro j x hj
    cases h with
    | cons h1 h2 =>
      rename_i c cs' B1 B2
      cases j with
      | zero =>
        simp at hj; subst hj
        refine ⟨c, B1, [], B2, by simp, h1, by simp, fun F' w' x' c' B' hF hw hx => ?_⟩
        simpa using RSs.cons hx (h2.mono hF fun b hb => hw b (hb.imp id .inr))
      | succ j =>
        simp at hj
        obtain ⟨c', Bj, pre, post, e1, e2, e3, e4⟩ := ih h2 hj
        refine ⟨c', Bj, B1 ++ pre, post, by simpa using e1, e2, by simp [e3], fun F' w' x' c'' B' hF hw hx => ?_⟩
        have := RSs.cons (h1.mono hF fun b hb => hw b (hb.imp id fun q => .inl (List.mem_append_left _ q)))
          (e4 F' w' x' c'' B' hF (fun b hb => hw b (hb.imp id (Or.imp (List.mem_append_right _) id))) hx)
        simpa using this
theorem lt_of_get {α : Type} {l : List α} {j : Nat} {x : α} (h : l[j]? = some x) : j < l.length := by
  rcases Nat.lt_or_ge j l.length with q | q
  · exact q
  · rw [List.getElem?_eq_none q] at h; cases h
theorem set_same {α : Type} {l : List α} {j : Nat} {x : α} (h : l[j]? = some x) : l.set j x = l := by
  apply List.ext_getElem?
  intro k
  by_cases hk : k = j
  · subst hk; rw [h, List.getElem?_set_self (lt_of_get h)]
  · rw [List.getElem?_set_ne (Ne.symm hk)]
theorem RSs.length {cs : List SV} {vs : List Value} {B : List Nat} (h : RSs P F w cs vs B) : cs.length = vs.length := by
  induction cs generalizing vs B with
  | nil => cases h; rfl
  | cons y l ih => cases h with | cons _ h2 => simp [ih h2]
theorem RPs.length {cs : List PV} {vs : List Value} (h : RPs F w cs vs) : cs.length = vs.length := by
  induction cs generalizing vs with
  | nil => cases h; rfl
  | cons y l ih => cases h with | cons _ h2 => simp [ih h2]
theorem RPs.get {cs : List PV} {vs : List Value} (h : RPs F w cs vs) : ∀ {j : Nat} {x : PV}, cs[j]? = some x → ∃ c, vs[j]? = some c ∧ RP F w x c := by
  induction cs generalizing vs with
  | nil => intro j x hj; simp at hj
  | cons y l ih =>
    intro j x hj
    cases h with
    | cons h1 h2 =>
      cases j with
      | zero => simp at hj; subst hj; exact ⟨_, by simp, h1⟩
      | succ j => simp at hj; obtain ⟨c, e1, e2⟩ := ih h2 hj; exact ⟨c, by simpa using e1, e2⟩
theorem RPs.append {a b : List PV} {x y : List Value} (h1 : RPs F w a x) (h2 : RPs F w b y) : RPs F w (a ++ b) (x ++ y) := by
  induction a generalizing x with
  | nil => cases h1; exact h2
  | cons _ _ ih => cases h1 with | cons a b => exact .cons a (ih b)
theorem RPs.take {a : List PV} {x : List Value} (h : RPs F w a x) (n : Nat) : RPs F w (a.take n) (x.take n) := by
  induction a generalizing x n with
  | nil => cases h; simpa using RPs.nil
  | cons _ _ ih => cases h with | cons a b => cases n with | zero => exact .nil | succ n => exact .cons a (ih b n)
theorem RPs.drop {a : List PV} {x : List Value} (h : RPs F w a x) (n : Nat) : RPs F w (a.drop n) (x.drop n) := by
  induction a generalizing x n with
  | nil => cases h; simpa using RPs.nil
  | cons _ _ ih => cases h with | cons a b => cases n with | zero => exact .cons a b | succ n => exact ih b n
theorem RPs.set {a : List PV} {x : List Value} (h : RPs F w a x) {p : PV} {c : Value} (hp : RP F w p c) (n : Nat) : RPs F w (a.set n p) (x.set n c) := by
  induction a generalizing x n with
  | nil => cases h; simpa using RPs.nil
  | cons _ _ ih => cases h with | cons a b => cases n with | zero => exact .cons hp b | succ n => exact .cons a (ih b n)
end
section
variable {P : Program} {G : Gd} {F : Nat → Prop} {Bs : Nat → List Nat} {st : St} {tm : Array Value} {w : World}
theorem getD_some {cs : List SV} {j : Nat} {x : SV} (h : cs.getD j .dead = x) (hx : x ≠ .dead) : cs[j]? = some x := by
  rw [List.getD_eq_getElem?_getD] at h
  cases hc : cs[j]? with
  | none => rw [hc] at h; exact absurd h.symm hx
  | some y => rw [hc] at h; simpa using h
theorem Rel.box_inv (h : Rel P G F Bs st tm w) {s : Nat} {T : TypeId} {cs : List SV} (hs : st.fr s = .bx T cs) :
    ∃ b cur B, tm.getD s undef = .pointer (some ⟨b, 0, none⟩) ∧ w.heap[b]? = some (.cells cur T (0, 0)) ∧ RSs P F w cs cur.toList B ∧ (∀ x ∈ cur.toList, x.oneCell' = true) ∧ Bs s = b :: B := by
  have := h.sl s
  rw [hs] at this
  generalize hc : tm.getD s undef = c at this
  generalize hB : Bs s = B at this
  cases this with
  | bx h1 h2 h3 => exact ⟨_, _, _, rfl, h1, h2, h3, rfl⟩
theorem Rel.own_inv (h : Rel P G F Bs st tm w) {s : Nat} {T : TypeId} {es : List PV} (hs : st.fr s = .own T es) : RS P F w (.own T es) (tm.getD s undef) (Bs s) ∧ Bs s = blk (tm.getD s undef) := by
  have := h.sl s
  rw [hs] at this
  refine ⟨this, ?_⟩
  generalize hB : Bs s = B at this
  cases this with
  | own _ _ _ _ _ _ _ => rfl
theorem Rel.ob_inv (h : Rel P G F Bs st tm w) {s : Nat} {T e : TypeId} {bs : ByteArray} (hs : st.fr s = .ob T e bs) : ∃ b, tm.getD s undef = .pointer (some ⟨b, 0, none⟩) := by
  have := h.sl s
  rw [hs] at this
  generalize tm.getD s undef = c at this
  generalize Bs s = B at this
  cases this with
  | ob _ _ _ _ => exact ⟨_, rfl⟩
theorem Rel.place (h : Rel P G F Bs st tm w) {s : Nat} {cx : Option (Nat × TypeId × List SV)} {T : TypeId} {es : List PV} {cv : Value} (hp : PlaceOK st.fr tm w s cx T es cv) :
    RS P F w (.own T es) cv (blk cv) ∧ (∀ b ∈ blk cv, b ∈ Bs s) := by
  cases cx with
  | none =>
    obtain ⟨h1, rfl⟩ := hp
    obtain ⟨h2, h3⟩ := h.own_inv h1
    rw [h3] at h2
    exact ⟨h2, fun b hb => by rw [h3]; exact hb⟩
  | some q =>
    obtain ⟨j, Tb, cs⟩ := q
    obtain ⟨h1, h2, b, cur, h3, h4, h5⟩ := hp
    obtain ⟨b', cur', B, e1, e2, e3, e4, e5⟩ := h.box_inv h1
    rw [h3] at e1
    cases e1
    rw [h4] at e2
    cases e2
    obtain ⟨c, Bj, pre, post, f1, f2, f3, f4⟩ := e3.get h2
    rw [h5] at f1
    cases f1
    have hb : Bj = blk cv := by cases f2 with | own _ _ _ _ _ _ _ => rfl
    subst hb
    exact ⟨f2, fun x hx => by rw [e5, f3]; simp [hx]⟩
theorem look_rel (h : Rel P G F Bs st tm w) (t : Nat) : RVR P F st.fr tm w (look st t) (tm.getD t undef) := by
  unfold look
  cases hr : rfind st.ral t with
  | none =>
    simp only []
    have hs := h.sl t
    cases hf : st.fr t with
    | dead => trivial
    | nl =>
      rw [hf] at hs
      generalize tm.getD t undef = c at hs ⊢
      generalize Bs t = B at hs
      cases hs; rfl
    | p x =>
      rw [hf] at hs
      generalize tm.getD t undef = c at hs ⊢
      generalize Bs t = B at hs
      cases hs with | p h => exact h
    | own T es => exact ⟨hf, rfl⟩
    | bx T cs =>
      obtain ⟨b, cur, B, e1, _⟩ := h.box_inv hf
      exact ⟨hf, b, e1, e1⟩
    | tup l => exact ⟨hf, rfl⟩
    | ob T e bs => exact ⟨hf, rfl⟩
  | some r =>
    simp only []
    have hok := h.rf t r (rfind_mem hr)
    have ownCase : ∀ (s : Nat) (x : SV), st.fr s = x → tm.getD t undef = tm.getD s undef → RVR P F st.fr tm w (ownAt s none x) (tm.getD t undef) := by
      intro s x hx hc
      have hs := h.sl s
      rw [hx] at hs
      cases x with
      | own T es => exact ⟨hx, hc.symm⟩
      | p y =>
        rw [hc]
        generalize tm.getD s undef = c at hs ⊢
        generalize Bs s = B at hs
        cases hs with | p h => exact h
      | nl =>
        rw [hc]
        generalize tm.getD s undef = c at hs ⊢
        generalize Bs s = B at hs
        cases hs; rfl
      | _ => trivial
    cases r with
    | o s j =>
      cases j with
      | none => exact ownCase s _ rfl hok
      | some j =>
        simp only [deref]
        cases hf : st.fr s with
        | bx T cs =>
          obtain ⟨b, cur, B, e1, e2, e3, e4, e5⟩ := h.box_inv hf
          have hc := hok T cs b cur T _ hf e1 e2
          simp only []
          cases hx : cs.getD j .dead with
          | own T' es => exact ⟨hf, getD_some hx (by simp), b, cur, e1, e2, hc⟩
          | p y =>
            obtain ⟨c, Bj, pre, post, f1, f2, _⟩ := e3.get (getD_some hx (by simp))
            rw [hc] at f1
            simp only [Option.some.injEq] at f1
            show RP F w y (tm.getD t undef)
            rw [f1]
            cases f2 with | p h => exact h
          | nl =>
            obtain ⟨c, Bj, pre, post, f1, f2, _⟩ := e3.get (getD_some hx (by simp))
            rw [hc] at f1
            simp only [Option.some.injEq] at f1
            show tm.getD t undef = _
            rw [f1]
            cases f2; rfl
          | _ => trivial
        | _ => trivial
    | b s off =>
      simp only [deref]
      cases hf : st.fr s with
      | bx T cs =>
        obtain ⟨b, cur, B, e1, _⟩ := h.box_inv hf
        exact ⟨hf, b, e1, hok b e1⟩
      | ob T e bs =>
        have hs := h.sl s
        rw [hf] at hs
        simp only []
        cases ho : Nat.beq off 0 with
        | false => trivial
        | true =>
          have ho := eqB ho
          subst ho
          refine ⟨hf, ?_⟩
          generalize hc : tm.getD s undef = cs at hs
          generalize Bs s = B at hs
          cases hs with
          | ob _ _ _ _ => exact (hok _ hc).symm
      | _ => trivial
    | e s j T i off =>
      cases j with
      | none =>
        simp only [deref]
        cases hf : st.fr s with
        | own T' es =>
          simp only [elAt]
          cases hT : Nat.beq T' T with
          | false => trivial
          | true =>
            rw [eqB hT] at hf
            obtain ⟨g, n, cap, e1, e2, sz, e3, e4⟩ := hok
            exact ⟨g, n, cap, sz, ⟨hf, e1⟩, e2, e3, e4⟩
        | _ => trivial
      | some j =>
        simp only [deref]
        cases hf : st.fr s with
        | bx Tb cs =>
          simp only []
          cases hx : cs.getD j .dead with
          | own T' es =>
            simp only [elAt]
            cases hT : Nat.beq T' T with
            | false => trivial
            | true =>
              rw [eqB hT] at hx
              obtain ⟨b, cur, B, e1, e2, e3, e4, e5⟩ := h.box_inv hf
              obtain ⟨g, n, cap, f1, f2, sz, f3, f4⟩ := hok Tb cs b cur Tb _ hf e1 e2
              exact ⟨g, n, cap, sz, ⟨hf, getD_some hx (by simp), b, cur, e1, e2, f1⟩, f2, f3, f4⟩
          | _ => trivial
        | _ => trivial
theorem RP_nil (F : Nat → Prop) (w : World) : RP F w (.sh []) (.slice none 0 0) :=
  .sh (xs := []) (sz := 1) .nil (by simp) (by decide) (.inl rfl) rfl (Nat.le_refl _) (Nat.zero_le _)
theorem cpv_rel (F : Nat → Prop) (w : World) (x : Value) : RP F w (cpv x) x := by
  unfold cpv
  split
  · exact RP_nil F w
  · exact .v x
theorem cpvs_rel (F : Nat → Prop) (w : World) : ∀ l : List Value, RPs F w (l.map cpv) l
  | [] => .nil
  | x :: l => .cons (cpv_rel F w x) (cpvs_rel F w l)
theorem opd_rel {a : Act} (h : Rel P G F Bs st a.tmps w) (x : Operand) : RVR P F st.fr a.tmps w (opd st x) (a.eval x) := by
  cases x with
  | tmp t => exact look_rel h t
  | const x =>
    simp only [opd, Act.eval, constRV]
    split
    · rfl
    · rename_i cs
      cases hl : leafs (cs.toList.map cpv) with
      | false => rw [cond_false]; trivial
      | true =>
        have := RP.agg (cpvs_rel F w cs.toList) hl
        rw [cond_true]
        simpa [RVR] using this
    · exact RP.v _
  | global g => trivial
  | func f => exact RP.v _
theorem Rel.turnPl (h : Rel P G F Bs st tm w) {s : Nat} {cx : Option (Nat × TypeId × List SV)} {T : TypeId} {es : List PV} {cv : Value} (hp : PlaceOK st.fr tm w s cx T es cv)
    {x : SV} {B : List Nat} {F' : Nat → Prop} {w' : World}
    (hx : RS P F' w' x cv B) (hB : ∀ b ∈ B, b ∈ blk cv) (hn : B.Nodup)
    (hF : ∀ b, F b → F' b) (hF' : ∀ b, F' b → F b ∨ (b ∈ blk cv ∧ b ∉ B)) (hnf : ∀ b ∈ B, ¬ F' b)
    (hw : ∀ b, b < w.heap.size → b ∉ blk cv → w'.heap[b]? = w.heap[b]?) (hz : w.heap.size ≤ w'.heap.size)
    (hos : w'.os = w.os ∧ w'.tape = w.tape ∧ w'.output = w.output) (hnb : ∀ T cs, x ≠ .bx T cs) :
    ∃ Bs', Rel P G F' Bs' (st.upS [setPl s cx x] []) tm w' ∧ (∀ i b, b ∈ Bs' i → b ∈ Bs i) ∧ (∀ b, b ∈ blk cv → b ∉ B → ∀ i, b ∉ Bs' i) := by
  have hpl := h.place hp
  cases cx with
  | none =>
    obtain ⟨h1, rfl⟩ := hp
    obtain ⟨h2, h3⟩ := h.own_inv h1
    refine ⟨upB Bs s B, h.turn (drop := []) hx (fun b hb => .inl (hpl.2 b (hB b hb))) hn hF (fun b hb => (hF' b hb).imp id fun q => ⟨hpl.2 b q.1, q.2⟩) hnf
      (fun b hb hs => hw b hb fun q => hs (hpl.2 b q)) hz hos (fun T cs b hs => by rw [h1] at hs; cases hs) (fun T cs e => absurd e (hnb T cs)), ?_, ?_⟩
    · intro i b hb
      by_cases hi : i = s
      · subst hi; rw [upB_same] at hb; exact hpl.2 b (hB b hb)
      · rw [upB_other _ _ hi] at hb; exact hb
    · intro b hb hnb i
      by_cases hi : i = s
      · subst hi; rw [upB_same]; exact hnb
      · rw [upB_other _ _ hi]; exact h.dj s i b (Ne.symm hi) (hpl.2 b hb)
  | some q =>
    obtain ⟨j, Tb, cs⟩ := q
    obtain ⟨h1, h2, b, cur, h3, h4, h5⟩ := hp
    obtain ⟨b', cur', B0, e1, e2, e3, e4, e5⟩ := h.box_inv h1
    rw [h3] at e1
    cases e1
    rw [h4] at e2
    cases e2
    obtain ⟨c, Bj, pre, post, f1, f2, f3, f4⟩ := e3.get h2
    rw [h5] at f1
    cases f1
    have hb : Bj = blk cv := by cases f2 with | own _ _ _ _ _ _ _ => rfl
    subst hb
    have hnd := h.nd s
    rw [e5, f3] at hnd
    have hbn : b ∉ blk cv := by
      have := (List.nodup_cons.1 hnd).1
      intro hb; exact this (by simp [hb])
    have hbl : b < w.heap.size := h.lt s b (by rw [e5]; exact List.mem_cons_self)
    have hb' : w'.heap[b]? = w.heap[b]? := hw b hbl hbn
    have hnd2 := (List.nodup_cons.1 hnd).2
    rw [List.append_assoc, List.nodup_append, List.nodup_append] at hnd2
    have hpre : ∀ b1 ∈ pre, b1 ∉ blk cv := fun b1 r q => (hnd2.2.2 b1 r b1 (List.mem_append_left _ q)) rfl
    have hpost : ∀ b1 ∈ post, b1 ∉ blk cv := fun b1 r q => (hnd2.2.1.2.2 b1 q b1 r) rfl
    have hmem : ∀ b1, b1 ∈ pre ∨ b1 ∈ post → b1 ∈ Bs s := fun b1 q => by rw [e5, f3]; rcases q with q | q <;> simp [q]
    have e3' := f4 F' w' x cv B hF (fun b1 hb1 => by
      rcases hb1 with q | q
      · exact hw b1 (h.fl b1 q) fun r => h.nf s b1 (hpl.2 b1 r) q
      · exact hw b1 (h.lt s b1 (hmem b1 q)) (q.elim (hpre b1) (hpost b1))) hx
    rw [set_same h5] at e3'
    have hbxr : RS P F' w' (.bx Tb (cs.set j x)) (tm.getD s undef) (b :: (pre ++ B ++ post)) := by
      rw [h3]; exact .bx (by rw [hb']; exact h4) e3' e4
    have hmem' : ∀ b1 ∈ b :: (pre ++ B ++ post), b1 ∈ Bs s := by
      intro b1 hb1
      rcases List.mem_cons.1 hb1 with q | q
      · subst q; rw [e5]; exact List.mem_cons_self
      · rcases List.mem_append.1 q with q | q
        · rcases List.mem_append.1 q with q | q
          · exact hmem b1 (.inl q)
          · exact hpl.2 b1 (hB b1 q)
        · exact hmem b1 (.inr q)
    have hnot : ∀ b1, b1 ∈ blk cv → b1 ∉ B → b1 ∉ b :: (pre ++ B ++ post) := by
      intro b1 hb1 hnB hc
      rcases List.mem_cons.1 hc with q | q
      · subst q; exact hbn hb1
      · rcases List.mem_append.1 q with q | q
        · rcases List.mem_append.1 q with q | q
          · exact hpre b1 q hb1
          · exact hnB q
        · exact hpost b1 q hb1
    have hnd' : (b :: (pre ++ B ++ post)).Nodup := by
      have h0 := (List.nodup_cons.1 hnd).1
      rw [List.append_assoc]
      refine List.nodup_cons.2 ⟨?_, List.nodup_append.2 ⟨hnd2.1, List.nodup_append.2 ⟨hn, hnd2.2.1.2.1, ?_⟩, ?_⟩⟩
      · intro q
        apply h0
        rcases List.mem_append.1 q with q | q
        · simp [q]
        · rcases List.mem_append.1 q with q | q
          · simp [hB b q]
          · simp [q]
      · intro b1 q b2 r e; subst e; exact hnd2.2.1.2.2 b1 (hB b1 q) b1 r rfl
      · intro b1 q b2 r e
        subst e
        rcases List.mem_append.1 r with r | r
        · exact hnd2.2.2 b1 q b1 (List.mem_append_left _ (hB b1 r)) rfl
        · exact hnd2.2.2 b1 q b1 (List.mem_append_right _ r) rfl
    refine ⟨upB Bs s (b :: (pre ++ B ++ post)), h.turn (drop := []) hbxr (fun b1 hb1 => .inl (hmem' b1 hb1)) hnd' hF
      (fun b1 hb1 => (hF' b1 hb1).imp id fun q => ⟨hpl.2 b1 q.1, hnot b1 q.1 q.2⟩) ?_ (fun b1 hb1 hs => hw b1 hb1 fun q => hs (hpl.2 b1 q)) hz hos
      (fun T' cs' b1 hs ht => by rw [h3] at ht; cases ht; exact .inr hb') (fun T' cs' _ => .inr ⟨Tb, cs, h1⟩), ?_, ?_⟩
    · intro b1 hb1 hf
      rcases hF' b1 hf with q | q
      · exact h.nf s b1 (hmem' b1 hb1) q
      · exact hnot b1 q.1 q.2 hb1
    · intro i b1 hb1
      by_cases hi : i = s
      · subst hi; rw [upB_same] at hb1; exact hmem' b1 hb1
      · rw [upB_other _ _ hi] at hb1; exact hb1
    · intro b1 hb1 hnb1 i
      by_cases hi : i = s
      · subst hi; rw [upB_same]; exact hnot b1 hb1 hnb1
      · rw [upB_other _ _ hi]; exact h.dj s i b1 (Ne.symm hi) (hpl.2 b1 hb1)
end
end Go.Proofs.YtfbahcfojiaeaaaGreatDoor.Th


set_option linter.unusedVariables false
namespace Go.Proofs.YtfbahcfojiaeaaaGreatDoor.Th
open Go
def SRel (P : Program) (G : Gd) (st : St) (a : Act) (w : World) : Prop := a.defers = [] ∧ ∃ F Bs, Rel P G F Bs st a.tmps w
def Lay (P : Program) (G : Gd) (st : St) (a : Act) (w : World) (d : Option Nat) (r : Out) (c : Value) : Prop :=
  r.fits G.N d = true → SRel P G (st.put d r) (a.put d c) w
section
variable {P : Program} {G : Gd} {F : Nat → Prop} {Bs : Nat → List Nat} {st : St} {a : Act} {w : World}
theorem keepRefs_nil : ∀ l : List (Nat × Ref), keepRefs none [] l = l
  | [] => rfl
  | (t, r) :: l => by
    have : keepRef none [] t r = true := by simp [keepRef, memN]
    simp [keepRefs, this, keepRefs_nil l]
theorem upS_nil (st : St) : st.upS [] [] = st := by simp [St.upS, updAll, keepRefs_nil]
theorem updAll_append (fr : Fr) (u v : List (Nat × SV)) : updAll fr (u ++ v) = updAll (updAll fr u) v := by
  induction u generalizing fr with
  | nil => rfl
  | cons x u ih => exact ih _
theorem upS_upS (st : St) (u v : List (Nat × SV)) (dr : List Nat) : (st.upS u []).upS v dr = st.upS (u ++ v) dr := by
  simp [St.upS, updAll_append, keepRefs_nil]
theorem lay_owned {d : Option Nat} {x : SV} {r : Option Ref} {us : List (Nat × SV)} {drop : List Nat} {c : Value} {B : List Nat} (hd : a.defers = [])
    (h : Rel P G F Bs (st.upS us drop) a.tmps w) (hx : RS P F w x c B) (hn : B.Nodup) (hj : ∀ i b, b ∈ B → b ∉ Bs i) (hf : ∀ b ∈ B, ¬ F b)
    (hw : ∀ b ∈ B, G.W.heap.size ≤ b ∨ G.A b) (hl : ∀ b ∈ B, b < w.heap.size)
    (hr : ∀ q, r = some q → RefOK P (st.upS us drop).fr a.tmps w q c) : Lay P G st a w d ⟨x, r, us, drop⟩ c := by
  intro hfit
  cases d with
  | none =>
    cases r with
    | some q => simp [Out.fits] at hfit
    | none => exact ⟨hd, F, Bs, h⟩
  | some d =>
    simp only [Out.fits, Bool.and_eq_true] at hfit
    have hlt : d < G.N.1 := by have := hfit.1.1; simp only [Nat.blt_eq] at this; exact this
    have hpn : d ∉ G.N.2 := fun hm => by have := hfit.1.2; rw [memN_of hm] at this; simp at this
    refine ⟨hd, F, upB Bs d B, ?_⟩
    rw [put_upS]
    exact h.put hlt hpn hx hn (fun i b _ hb => hj i b hb) hf hw hl fun q hq => by
      subst hq
      have := hfit.2
      simp only [Bool.not_eq_true'] at this
      exact ⟨neB this, hr q rfl⟩
theorem lay_pure {d : Option Nat} {x : SV} {us : List (Nat × SV)} {drop : List Nat} {c : Value} (hd : a.defers = [])
    (h : Rel P G F Bs (st.upS us drop) a.tmps w) (hx : RS P F w x c []) : Lay P G st a w d ⟨x, none, us, drop⟩ c :=
  lay_owned hd h hx (by simp) (by simp) (by simp) (by simp) (by simp) (by simp)
theorem lay_p {d : Option Nat} {x : PV} {c : Value} (hd : a.defers = []) (h : Rel P G F Bs st a.tmps w) (hx : RP F w x c) : Lay P G st a w d (outP x) c :=
  lay_pure hd (by rw [upS_nil]; exact h) (.p hx)
theorem lay_ref {d : Option Nat} {q : Ref} {c : Value} (hd : a.defers = []) (h : Rel P G F Bs st a.tmps w) (hx : RefOK P st.fr a.tmps w q c) : Lay P G st a w d (outR q) c :=
  lay_owned hd (by rw [upS_nil]; exact h) (.dead c) (by simp) (by simp) (by simp) (by simp) (by simp) fun q' e => by cases e; rw [upS_nil]; exact hx
theorem Rel.empty (h : Rel P G F Bs st a.tmps w) (s : Nat) : Rel P G F (upB Bs s []) (st.upS [(s, .dead)] []) a.tmps w :=
  h.turn (drop := []) (.dead _) (by simp) (by simp) (fun _ q => q) (fun _ q => .inl q) (by simp) (fun _ _ _ => rfl) (Nat.le_refl _) ⟨rfl, rfl, rfl⟩
    (fun _ _ _ _ _ => .inr rfl) (fun _ _ e => by cases e)
theorem RefOK_own {s : Nat} {cx : Option (Nat × TypeId × List SV)} {T : TypeId} {es : List PV} {c : Value} (h : PlaceOK st.fr a.tmps w s cx T es c) :
    RefOK P st.fr a.tmps w (.o s (cx.map (·.1))) c := by
  cases cx with
  | none => exact h.2.symm
  | some q =>
    obtain ⟨j, Tb, cs⟩ := q
    obtain ⟨h1, h2, b, cur, h3, h4, h5⟩ := h
    intro T' cs' b' cur' T'' f hs ht hb
    rw [h3] at ht; cases ht
    rw [h4] at hb; cases hb
    exact h5
theorem RefOK_el {s : Nat} {cx : Option (Nat × TypeId × List SV)} {T : TypeId} {es : List PV} {g n cap sz i off : Nat} (h : PlaceOK st.fr a.tmps w s cx T es (.slice (some ⟨g, 0, none⟩) n cap))
    (hi : i < n) (hsz : sizeT P T = some sz) : RefOK P st.fr a.tmps w (.e s (cx.map (·.1)) T i off) (.pointer (some ⟨g, i * sz + off, none⟩)) := by
  cases cx with
  | none => exact ⟨g, n, cap, h.2, hi, sz, hsz, rfl⟩
  | some q =>
    obtain ⟨j, Tb, cs⟩ := q
    obtain ⟨h1, h2, b, cur, h3, h4, h5⟩ := h
    intro T' cs' b' cur' T'' f hs ht hb
    rw [h3] at ht; cases ht
    rw [h4] at hb; cases hb
    exact ⟨g, n, cap, h5, hi, sz, hsz, rfl⟩
variable {R : Type} {res : R}
theorem lay_tup {d : Option Nat} {s : Nat} {l : List SV} {c : Value} (hd : a.defers = []) (h : Rel P G F Bs st a.tmps w) (hs : st.fr s = .tup l) (hc : a.tmps.getD s undef = c) :
    Lay P G st a w d ⟨.tup l, none, [(s, .dead)], []⟩ c := by
  have h1 := h.sl s
  rw [hs, hc] at h1
  refine lay_owned hd (h.empty s) h1 (h.nd s) (fun i b hb => ?_) (h.nf s) (h.nw s) (h.lt s) (by simp)
  by_cases hi : i = s
  · subst hi; rw [upB_same]; simp
  · rw [upB_other _ _ hi]; exact h.dj s i b (Ne.symm hi) hb
theorem moveK_lay {rv : RV} {c : Value} {K : Out → Option R} (hd : a.defers = []) (h : Rel P G F Bs st a.tmps w) (hr : RVR P F st.fr a.tmps w rv c) (hk : moveK rv K = some res) (d : Option Nat) :
    ∃ out, K out = some res ∧ Lay P G st a w d out c := by
  cases rv with
  | bad => simp [moveK] at hk
  | nl => exact ⟨_, hk, lay_pure hd (by rw [upS_nil]; exact h) (by rw [show c = _ from hr]; exact .nl)⟩
  | pv x => exact ⟨_, hk, lay_p hd h hr⟩
  | own s cx T es => exact ⟨_, hk, lay_ref hd h (RefOK_own hr)⟩
  | box s off T cs =>
    obtain ⟨h1, b, h2, h3⟩ := hr
    exact ⟨_, hk, lay_ref hd h fun b' hb' => by rw [h2] at hb'; cases hb'; exact h3⟩
  | el s cx T es i off =>
    obtain ⟨g, n, cap, sz, h1, h2, h3, rfl⟩ := hr
    exact ⟨_, hk, lay_ref hd h (RefOK_el h1 h2 h3)⟩
  | tup s l => exact ⟨_, hk, lay_tup hd h hr.1 hr.2⟩
  | ob s T e bs => exact ⟨_, hk, lay_ref hd h fun b' hb' => by rw [hr.2] at hb'; exact hb'⟩
theorem RS.frozen {F' : Nat → Prop} {T : TypeId} {es : List PV} {c : Value} {B : List Nat} (h : RS P F w (.own T es) c B) (hF : ∀ b, F b → F' b) (hb : ∀ b ∈ blk c, F' b) : RP F' w (.sh es) c := by
  cases h with
  | own h1 h2 h3 h4 h5 h6 h7 =>
    rename_i xs i z
    have h6' := h6.mono (w' := w) hF fun _ _ => rfl
    rcases h5.2 with ⟨rfl, hn⟩ | ⟨g, cap, cur, rfl, hg0, hg, hnc, hcm, hcs, htake⟩
    · have hes : es = [] := List.length_eq_zero_iff.1 hn
      subst hes
      exact RP_nil _ _
    · refine .sh h6' h7 h4 (.inr ⟨g, 0, rfl, hb g (by simp [blk, Value.ownBlock]), fun j x hj => ?_⟩) rfl hnc hcm
      rw [Nat.zero_add, cell_of_row w g j cur T _ hg]
      rw [← htake, List.getElem?_take] at hj
      split at hj
      · simpa using hj
      · cases hj
theorem freeze_pl {s : Nat} {cx : Option (Nat × TypeId × List SV)} {T : TypeId} {es : List PV} {cv : Value} {tm : Array Value} (h : Rel P G F Bs st tm w)
    (hp : PlaceOK st.fr tm w s cx T es cv) :
    ∃ F' Bs', Rel P G F' Bs' (st.upS [setPl s cx (.p (.sh es))] []) tm w ∧ RP F' w (.sh es) cv ∧ (∀ b, F b → F' b) ∧ (∀ i b, b ∈ Bs' i → b ∈ Bs i) := by
  obtain ⟨h1, h2⟩ := h.place hp
  have hfr : RP (fun b => F b ∨ b ∈ blk cv) w (.sh es) cv := h1.frozen (fun _ q => .inl q) (fun _ q => .inr q)
  obtain ⟨Bs', r1, r2, r3⟩ := h.turnPl hp (F' := fun b => F b ∨ b ∈ blk cv) (w' := w) (x := .p (.sh es)) (B := []) (.p hfr) (by simp) (by simp) (fun _ q => .inl q)
    (fun b q => q.imp id fun r => ⟨r, by simp⟩) (by simp) (fun _ _ _ => rfl) (Nat.le_refl _) ⟨rfl, rfl, rfl⟩ (by simp)
  exact ⟨_, Bs', r1, hfr, fun _ q => .inl q, r2⟩
theorem setPl_fst (s : Nat) (cx : Option (Nat × TypeId × List SV)) (x : SV) : (setPl s cx x).1 = s := by
  cases cx with
  | none => rfl
  | some q => rfl
theorem RVR_keep {F1 : Nat → Prop} {fr fr1 : Fr} {tm : Array Value} {x : Operand} {rv : RV} {y : PV} {u : List (Nat × SV)} {c : Value} (hv : valOf x rv = some (y, u))
    (hfr : ∀ i ∈ u.map (·.1), fr1 i = fr i) (hF : ∀ b, F b → F1 b) (h : RVR P F fr tm w rv c) : RVR P F1 fr1 tm w rv c := by
  cases rv with
  | pv z => exact RP.mono (w' := w) h hF fun _ _ => rfl
  | nl => exact h
  | own s cx T es =>
    simp only [valOf, Option.some.injEq, Prod.mk.injEq] at hv
    obtain ⟨_, rfl⟩ := hv
    have hs : fr1 s = fr s := hfr s (by simp [setPl_fst])
    cases cx with
    | none => exact ⟨by rw [hs]; exact h.1, h.2⟩
    | some q =>
      obtain ⟨j, Tb, cs⟩ := q
      exact ⟨by rw [hs]; exact h.1, h.2⟩
  | _ => simp [valOf] at hv
theorem updAll_other (fr : Fr) : ∀ (u : List (Nat × SV)) (i : Nat), i ∉ u.map (·.1) → updAll fr u i = fr i
  | [], i, _ => rfl
  | (s, x) :: u, i, hi => by
    simp only [List.map_cons, List.mem_cons, not_or] at hi
    rw [updAll, updAll_other _ u i hi.2, upd1_other _ _ hi.1]
theorem distinct_append {u v : List Nat} (h : distinct (u ++ v) = true) : distinct u = true ∧ distinct v = true ∧ ∀ i ∈ u, i ∉ v := by
  induction u with
  | nil => exact ⟨rfl, h, by simp⟩
  | cons x u ih =>
    simp only [List.cons_append, distinct, Bool.and_eq_true, Bool.not_eq_true'] at h
    obtain ⟨h1, h2, h3⟩ := ih h.2
    have hx : x ∉ u ++ v := fun hm => by rw [memN_of hm] at h; simp at h
    refine ⟨?_, h2, ?_⟩
    · simp only [distinct, Bool.and_eq_true, Bool.not_eq_true']
      refine ⟨?_, h1⟩
      cases hm : memN u x with
      | false => rfl
      | true => exact absurd (List.mem_append_left _ (of_memN hm)) hx
    · intro i hi
      rcases List.mem_cons.1 hi with rfl | hi
      · exact fun hm => hx (List.mem_append_right _ hm)
      · exact h3 i hi
theorem valOf_rel {tm : Array Value} {x : Operand} {rv : RV} {c : Value} {y : PV} {u : List (Nat × SV)} (h : Rel P G F Bs st tm w) (hr : RVR P F st.fr tm w rv c) (hv : valOf x rv = some (y, u)) :
    ∃ F' Bs', Rel P G F' Bs' (st.upS u []) tm w ∧ RP F' w y c ∧ (∀ b, F b → F' b) ∧ (∀ i b, b ∈ Bs' i → b ∈ Bs i) := by
  cases rv with
  | pv z =>
    simp only [valOf, Option.some.injEq, Prod.mk.injEq] at hv
    obtain ⟨rfl, rfl⟩ := hv
    exact ⟨F, Bs, by rw [upS_nil]; exact h, hr, fun _ q => q, fun _ _ q => q⟩
  | nl =>
    simp only [valOf, Option.some.injEq, Prod.mk.injEq] at hv
    obtain ⟨rfl, rfl⟩ := hv
    exact ⟨F, Bs, by rw [upS_nil]; exact h, by rw [show c = _ from hr]; exact RP_nil F w, fun _ q => q, fun _ _ q => q⟩
  | own s cx T es =>
    simp only [valOf, Option.some.injEq, Prod.mk.injEq] at hv
    obtain ⟨rfl, rfl⟩ := hv
    exact freeze_pl h hr
  | _ => simp [valOf] at hv
theorem valsOf_rel {tm : Array Value} : ∀ {l : List (Operand × RV)} {vs : List Value} {st : St} {F : Nat → Prop} {Bs : Nat → List Nat} {ys : List PV} {us : List (Nat × SV)},
    Rel P G F Bs st tm w → (∀ (j : Nat) (q : Operand × RV), l[j]? = some q → ∃ c, vs[j]? = some c ∧ RVR P F st.fr tm w q.2 c) → vs.length = l.length → valsOf l = some (ys, us) →
    distinct (us.map (·.1)) = true →
    ∃ F' Bs', Rel P G F' Bs' (st.upS us []) tm w ∧ RPs F' w ys vs ∧ (∀ b, F b → F' b) ∧ (∀ i b, b ∈ Bs' i → b ∈ Bs i)
  | [], vs, st, F, Bs, ys, us, h, hv, hl, hk, hd => by
    simp [valsOf] at hk
    obtain ⟨rfl, rfl⟩ := hk
    have : vs = [] := List.length_eq_zero_iff.1 (by simpa using hl)
    subst this
    exact ⟨F, Bs, by rw [upS_nil]; exact h, .nil, fun _ q => q, fun _ _ q => q⟩
  | (x, r) :: l, vs, st, F, Bs, ys, us, h, hv, hl, hk, hd => by
    cases vs with
    | nil => simp at hl
    | cons c vs =>
      have hr : RVR P F st.fr tm w r c := by
        obtain ⟨c', e, q⟩ := hv 0 (x, r) rfl
        simp at e; subst e; exact q
      simp only [valsOf] at hk
      cases hy : valOf x r with
      | none => simp [hy] at hk
      | some q =>
        obtain ⟨y, u⟩ := q
        cases hys : valsOf l with
        | none => simp [hy, hys] at hk
        | some q2 =>
          obtain ⟨ys', us'⟩ := q2
          simp only [hy, hys, Option.some.injEq, Prod.mk.injEq] at hk
          obtain ⟨rfl, rfl⟩ := hk
          rw [List.map_append] at hd
          obtain ⟨d1, d2, d3⟩ := distinct_append hd
          obtain ⟨F1, Bs1, r1, r2, r3, r4⟩ := valOf_rel h hr hy
          have hsub : ∀ {l : List (Operand × RV)} {ys : List PV} {us : List (Nat × SV)}, valsOf l = some (ys, us) → ∀ (j : Nat) (q : Operand × RV), l[j]? = some q →
              ∃ y u, valOf q.1 q.2 = some (y, u) ∧ ∀ i ∈ u.map (·.1), i ∈ us.map (·.1) := by
            intro l
            induction l with
            | nil => intro ys us _ j q hj; simp at hj
            | cons p l ih =>
              obtain ⟨x, r⟩ := p
              intro ys us hk j q hj
              simp only [valsOf] at hk
              cases hy : valOf x r with
              | none => simp [hy] at hk
              | some q1 =>
                cases hys : valsOf l with
                | none => simp [hy, hys] at hk
                | some q2 =>
                  simp only [hy, hys, Option.some.injEq, Prod.mk.injEq] at hk
                  obtain ⟨rfl, rfl⟩ := hk
                  cases j with
                  | zero => simp at hj; subst hj; exact ⟨q1.1, q1.2, hy, fun i hi => by simp at hi ⊢; exact .inl hi⟩
                  | succ j =>
                    simp at hj
                    obtain ⟨y, u, e1, e2⟩ := ih hys j q hj
                    exact ⟨y, u, e1, fun i hi => by have := e2 i hi; simp at this ⊢; exact .inr this⟩
          have hv' : ∀ (j : Nat) (q : Operand × RV), l[j]? = some q → ∃ c, vs[j]? = some c ∧ RVR P F1 (st.upS u []).fr tm w q.2 c := by
            intro j q hj
            obtain ⟨c', e, hq⟩ := hv (j + 1) q (by simpa using hj)
            obtain ⟨yq, uq, e1, e2⟩ := hsub hys j q hj
            exact ⟨c', by simpa using e, RVR_keep e1 (fun i hi => updAll_other _ _ _ fun hm => d3 i hm (e2 i hi)) r3 hq⟩
          obtain ⟨F2, Bs2, s1, s2, s3, s4⟩ := valsOf_rel r1 hv' (by simpa using hl) hys d2
          refine ⟨F2, Bs2, ?_, .cons (r2.mono (w' := w) s3 fun _ _ => rfl) s2, fun b q => s3 b (r3 b q), fun i b q => r4 i b (s4 i b q)⟩
          rw [← upS_upS]; exact s1
end
end Go.Proofs.YtfbahcfojiaeaaaGreatDoor.Th


set_option linter.unusedVariables false
set_option linter.unusedSimpArgs false
namespace Go.Proofs.YtfbahcfojiaeaaaGreatDoor.Th
open Go
variable {R : Type} {res : R}
theorem ikEq_eq {a b : IntKind} (h : ikEq a b = true) : a = b := by cases a <;> cases b <;> first | rfl | (simp [ikEq] at h)
theorem bif_some {b : Bool} {x : Option R} (h : (bif b then x else none) = some res) : b = true ∧ x = some res := by
  cases b with
  | false => simp at h
  | true => exact ⟨rfl, h⟩
theorem bif_none_some {b : Bool} {x : Option R} (h : (bif b then none else x) = some res) : b = false ∧ x = some res := by
  cases b with
  | true => simp at h
  | false => exact ⟨rfl, h⟩
theorem leN_eq : ∀ n m : Nat, leN n m = decide (n ≤ m)
  | 0, m => by simp [leN]
  | n + 1, 0 => by simp [leN]
  | n + 1, m + 1 => by simp [leN, leN_eq n m]
theorem leN_le {n m : Nat} (h : leN n m = true) : n ≤ m := by rw [leN_eq] at h; exact of_decide_eq_true h
theorem getI_some {k : IntKind} {e : PV} {K : Int → Option R} (h : getI k e K = some res) : ∃ x, e = .v (.int k x) ∧ K x = some res := by
  unfold getI at h
  split at h
  · obtain ⟨h1, h2⟩ := bif_some h
    rw [ikEq_eq h1]; exact ⟨_, rfl, h2⟩
  · cases h
theorem chk1_some {c : CK} {e : PV} {K : PV → Option R} (h : chk1 c e K = some res) : K e = some res ∧ e.leaf = true := by
  cases c with
  | i k => obtain ⟨x, rfl, hx⟩ := getI_some h; exact ⟨hx, rfl⟩
  | b => simp only [chk1] at h; unfold getB at h; split at h <;> first | exact ⟨h, rfl⟩ | cases h
  | s => simp only [chk1] at h; unfold getS at h; split at h <;> first | exact ⟨h, rfl⟩ | cases h
  | sl => simp only [chk1] at h; unfold getL at h; split at h <;> first | exact ⟨h, rfl⟩ | cases h
  | o => exact ⟨(bif_some h).2, (bif_some h).1⟩
theorem uncons_some {cs : List PV} {K : PV → List PV → Option R} (h : uncons cs K = some res) : ∃ x r, cs = x :: r ∧ K x r = some res := by
  unfold uncons at h
  split at h
  · exact ⟨_, _, rfl, h⟩
  · cases h
theorem chkL_some : ∀ {ks : List CK} {cs : List PV} {K : List PV → Option R}, chkL ks cs K = some res → K cs = some res ∧ leafs cs = true
  | [], cs, K, h => by
    simp only [chkL, unnil] at h
    split at h
    · exact ⟨h, rfl⟩
    · cases h
  | c :: ks, cs, K, h => by
    simp only [chkL] at h
    obtain ⟨x, r, rfl, h1⟩ := uncons_some h
    obtain ⟨h2, hl⟩ := chk1_some h1
    obtain ⟨h3, hr⟩ := chkL_some h2
    exact ⟨h3, by simp [leafs, hl, hr]⟩
theorem leaf_cells {e : PV} (h : e.leaf = true) : cellsOf e = [e] := by
  cases e <;> first | rfl | (simp [PV.leaf] at h)
theorem chkT_some {P : Program} {T : TypeId} {e : PV} {K : List PV → Option R} (h : chkT P T e K = some res) :
    K (cellsOf e) = some res ∧ leafs (cellsOf e) = true ∧ e = mkE (isAggT P T) (cellsOf e) ∧ (isAggT P T = false → e.leaf = true) := by
  unfold chkT at h
  cases ha : isAggT P T with
  | true =>
    rw [ha] at h
    simp only [chkE] at h
    unfold unagg at h
    split at h
    · obtain ⟨h1, h2⟩ := chkL_some h
      exact ⟨h1, h2, rfl, by simp⟩
    · cases h
  | false =>
    rw [ha] at h
    simp only [chkE] at h
    split at h
    · obtain ⟨h1, h2⟩ := chk1_some h
      rw [leaf_cells h2]
      exact ⟨h1, by simp [leafs, h2], rfl, fun _ => h2⟩
    · cases h
section
variable {P : Program} {G : Gd} {F : Nat → Prop} {Bs : Nat → List Nat} {st : St} {a : Act} {w : World}
theorem RP_v {x c : Value} (h : RP F w (.v x) c) : c = x := by cases h; rfl
theorem leaf_one {x : PV} {c : Value} (h : RP F w x c) (hl : x.leaf = true) : c.oneCell' = true := by
  cases h <;> first | exact hl | rfl | (simp [PV.leaf] at hl)
theorem leafs_one {l : List PV} {cs : List Value} (h : RPs F w l cs) (hl : leafs l = true) : ∀ c ∈ cs, c.oneCell' = true := by
  induction l generalizing cs with
  | nil => cases h; simp
  | cons x l ih =>
    cases h with
    | cons h1 h2 =>
      simp only [leafs, Bool.and_eq_true] at hl
      intro c hc
      rcases List.mem_cons.1 hc with rfl | hc
      · exact leaf_one h1 hl.1
      · exact ih h2 hl.2 c hc
theorem leafs_mem {l : List PV} (h : leafs l = true) : ∀ x ∈ l, x.leaf = true := by
  induction l with
  | nil => simp
  | cons y l ih =>
    simp only [leafs, Bool.and_eq_true] at h
    intro x hx
    rcases List.mem_cons.1 hx with rfl | hx
    · exact h.1
    · exact ih h.2 x hx
theorem leafs_of {l : List PV} (h : ∀ x ∈ l, x.leaf = true) : leafs l = true := by
  induction l with
  | nil => rfl
  | cons y l ih => simp only [leafs, Bool.and_eq_true]; exact ⟨h y (by simp), ih fun x hx => h x (by simp [hx])⟩
theorem one_cells {c : Value} (h : c.oneCell' = true) : c.cells = #[c] := by
  cases c <;> first | rfl | (simp [Value.oneCell'] at h)
theorem cells_rel {x : PV} {c : Value} (h : RP F w x c) (hl : leafs (cellsOf x) = true) : RPs F w (cellsOf x) c.cells.toList := by
  cases hx : x.leaf with
  | true =>
    rw [leaf_cells hx, one_cells (leaf_one h hx)]
    exact .cons h .nil
  | false =>
    cases h with
    | agg h1 h2 => exact h1
    | v x => simp [cellsOf, leafs, hx] at hl
    | _ => simp [PV.leaf] at hx
def Eff (P : Program) (G : Gd) (st : St) (a : Act) (w : World) (o : Oper) (r : Out) : Prop :=
  r.fits G.N o.dst = true → ∃ c w', ((execOp a.eval o).run P w = .ok (.value c) w' ∨ ((execOp a.eval o).run P w = .ok .skip w' ∧ c = undef)) ∧ SRel P G (st.put o.dst r) (a.put o.dst c) w'
theorem Eff.wp {o : Oper} {r : Out} (h : Eff P G st a w o r) (hf : r.fits G.N o.dst = true) {next : Act → World → Prop} {Q : Exit → Act → World → Prop}
    (hn : ∀ a' w', SRel P G (st.put o.dst r) a' w' → next a' w') : o.wp P a w next Q := by
  obtain ⟨c, w', hr, hs⟩ := h hf
  unfold Oper.wp
  rcases hr with hr | ⟨hr, rfl⟩
  · rw [hr]; exact hn _ _ hs
  · rw [hr]; exact hn _ _ hs
theorem eff_of_lay {o : Oper} {r : Out} {c : Value} (hr : (execOp a.eval o).run P w = .ok (.value c) w) (hl : Lay P G st a w o.dst r c) : Eff P G st a w o r :=
  fun hf => ⟨c, w, .inl hr, hl hf⟩
theorem take_own {d : Option Nat} {s : Nat} {T : TypeId} {es : List PV} {c : Value} (hd : a.defers = []) (h : Rel P G F Bs st a.tmps w) (hs : st.fr s = .own T es) (hc : a.tmps.getD s undef = c) :
    Lay P G st a w d ⟨.own T es, none, [(s, .dead)], []⟩ c := by
  obtain ⟨h1, h2⟩ := h.own_inv hs
  rw [hc] at h1
  refine lay_owned hd (h.empty s) h1 (h.nd s) (fun i b hb => ?_) (h.nf s) (h.nw s) (h.lt s) (by simp)
  by_cases hi : i = s
  · subst hi; rw [upB_same]; simp
  · rw [upB_other _ _ hi]; exact h.dj s i b (Ne.symm hi) hb
theorem isDirect_eq {x : Operand} {s : Nat} {cx : Option (Nat × TypeId × List SV)} (h : isDirect x s cx = true) : x = .tmp s ∧ cx = none := by
  cases cx with
  | some q => simp [isDirect] at h
  | none =>
    simp only [isDirect, directTmp] at h
    split at h
    · rename_i t; rw [eqB h]; exact ⟨rfl, rfl⟩
    · cases h
theorem op_assign {o : Oper} {x : Operand} {K : Out → Option R} {env : Env} (hd : a.defers = []) (h : Rel P G F Bs st a.tmps w) (ho : o.op = .assign x) (hk : opK P env (.assign x) o.type (opd st) K = some res) :
    ∃ out, K out = some res ∧ Eff P G st a w o out := by
  have hrun : (execOp a.eval o).run P w = .ok (.value (a.eval x)) w := by simp [execOp, ho]
  have hr := opd_rel h x
  simp only [opK] at hk
  cases hx : opd st x with
  | own s cx T es =>
    rw [hx] at hk hr
    simp only [] at hk
    cases hdi : isDirect x s cx with
    | true =>
      rw [hdi] at hk
      obtain ⟨rfl, rfl⟩ := isDirect_eq hdi
      exact ⟨_, hk, eff_of_lay hrun (take_own hd h hr.1 hr.2)⟩
    | false =>
      rw [hdi] at hk
      obtain ⟨F', Bs', r1, r2, r3, r4⟩ := freeze_pl h hr
      exact ⟨_, hk, eff_of_lay hrun (lay_pure hd r1 (.p r2))⟩
  | pv y => rw [hx] at hk hr; exact ⟨_, hk, eff_of_lay hrun (lay_p hd h hr)⟩
  | nl => rw [hx] at hk hr; exact ⟨_, hk, eff_of_lay hrun (lay_pure hd (by rw [upS_nil]; exact h) (by rw [show a.eval x = _ from hr]; exact .nl))⟩
  | tup s l => rw [hx] at hk hr; exact ⟨_, hk, eff_of_lay hrun (lay_tup hd h hr.1 hr.2)⟩
  | _ => rw [hx] at hk; cases hk
theorem op_move {o : Oper} {x : Operand} {K : Out → Option R} (hd : a.defers = []) (h : Rel P G F Bs st a.tmps w) (ho : o.op = .move x) (hk : moveK (opd st x) K = some res) :
    ∃ out, K out = some res ∧ Eff P G st a w o out := by
  have hrun : (execOp a.eval o).run P w = .ok (.value (a.eval x)) w := by simp [execOp, ho]
  obtain ⟨out, h1, h2⟩ := moveK_lay hd h (opd_rel h x) hk o.dst
  exact ⟨out, h1, eff_of_lay hrun h2⟩
theorem op_freeze {o : Oper} {x : Operand} {K : Out → Option R} (hd : a.defers = []) (h : Rel P G F Bs st a.tmps w) (ho : o.op = .move x) (hk : freezeK (opd st x) K = some res) :
    ∃ out, K out = some res ∧ Eff P G st a w o out := by
  have hrun : (execOp a.eval o).run P w = .ok (.value (a.eval x)) w := by simp [execOp, ho]
  unfold freezeK at hk
  cases hv : valOf (.tmp 0) (opd st x) with
  | none => rw [hv] at hk; cases hk
  | some q =>
    obtain ⟨y, us⟩ := q
    rw [hv] at hk
    obtain ⟨F', Bs', r1, r2, r3, r4⟩ := valOf_rel h (opd_rel h x) hv
    exact ⟨_, hk, eff_of_lay hrun (lay_pure hd r1 (.p r2))⟩
theorem op_pick {o : Oper} {c x y : Operand} {K : Out → Option R} {env : Env} (hd : a.defers = []) (h : Rel P G F Bs st a.tmps w) (ho : o.op = .pick c x y) (hk : opK P env (.pick c x y) o.type (opd st) K = some res) :
    ∃ out, K out = some res ∧ Eff P G st a w o out := by
  have hrc := opd_rel h c
  have hrx := opd_rel h x
  have hry := opd_rel h y
  simp only [opK] at hk
  split at hk
  · rename_i t hc
    rw [hc] at hrc
    have hcv : a.eval c = .bool t := RP_v hrc
    have hrun : (execOp a.eval o).run P w = .ok (.value (if t then a.eval x else a.eval y)) w := by
      simp [execOp, ho, hcv, asBool]
    split at hk
    · rename_i bx by' hx hy
      rw [hx] at hrx; rw [hy] at hry
      have hxv : a.eval x = .bool bx := RP_v hrx
      have hyv : a.eval y = .bool by' := RP_v hry
      refine ⟨_, hk, eff_of_lay hrun (lay_p hd h ?_)⟩
      rw [hxv, hyv]
      have : (if t = true then Value.bool bx else Value.bool by') = .bool (bif t then bx else by') := by cases t <;> rfl
      rw [this]; exact .v _
    · cases t with
      | true =>
        obtain ⟨out, h1, h2⟩ := moveK_lay hd h hrx hk o.dst
        exact ⟨out, h1, eff_of_lay hrun h2⟩
      | false =>
        obtain ⟨out, h1, h2⟩ := moveK_lay hd h hry hk o.dst
        exact ⟨out, h1, eff_of_lay hrun h2⟩
  · cases hk
theorem binI_some {op : BinOp} {k : IntKind} {x y : Int} {K : PV → Option R} (hsh : isShift op = false) (hk : binI op k x y K = some res) :
    ∃ v, K (.v v) = some res ∧ ∀ T, (Go.binOp op T (.int k x) (.int k y)).run P w = .ok v w := by
  cases op <;> simp only [binI] at hk
  case quo =>
    obtain ⟨h1, h2⟩ := bif_none_some hk
    have hy : y ≠ 0 := of_decide_eq_false h1
    exact ⟨_, h2, fun T => by simp [Go.binOp, Op.intDiv, hy]⟩
  case rem =>
    obtain ⟨h1, h2⟩ := bif_none_some hk
    have hy : y ≠ 0 := of_decide_eq_false h1
    exact ⟨_, h2, fun T => by simp [Go.binOp, Op.intDiv, hy]⟩
  all_goals first
    | (cases hk; done)
    | (refine ⟨_, hk, fun T => ?_⟩; simp [Go.binOp, Op.intArith, Op.intCmp, Op.intBits, ibits]; done)
    | (simp [isShift] at hsh; done)
theorem shI_some {op : BinOp} {k k' : IntKind} {x y : Int} {K : PV → Option R} (hk : shI op k x y K = some res) :
    ∃ v, K (.v v) = some res ∧ ∀ T, (Go.binOp op T (.int k x) (.int k' y)).run P w = .ok v w := by
  cases op <;> simp only [shI] at hk
  case shl =>
    obtain ⟨h1, h2⟩ := bif_none_some hk
    have hy : ¬ y < 0 := of_decide_eq_false h1
    exact ⟨_, h2, fun T => by simp [Go.binOp, Op.shift, hy]⟩
  case shr =>
    obtain ⟨h1, h2⟩ := bif_none_some hk
    have hy : ¬ y < 0 := of_decide_eq_false h1
    exact ⟨_, h2, fun T => by simp [Go.binOp, Op.shift, hy]⟩
  all_goals cases hk
theorem binS_some {op : BinOp} {x y : ByteArray} {K : PV → Option R} (hk : binS op x y K = some res) :
    ∃ v, K (.v v) = some res ∧ ∀ T, (Go.binOp op T (.string x) (.string y)).run P w = .ok v w := by
  cases op <;> simp only [binS] at hk
  case add =>
    unfold catS at hk
    obtain ⟨h1, h2⟩ := bif_some hk
    have hle : ¬ (((x.size + y.size : Nat) : Int) > IntKind.i64.max) := by
      have := leN_le h1
      have e : IntKind.i64.max = 9223372036854775807 := rfl
      omega
    refine ⟨_, h2, fun T => ?_⟩
    simp only [Go.binOp, Op.stringOp, if_neg hle]
    rfl
  all_goals first
    | (cases hk; done)
    | (refine ⟨_, hk, fun T => ?_⟩; simp [Go.binOp, Op.stringOp, eqS, ltS, ByteArray.toList_eq]; done)
theorem guardI (op : BinOp) (T : TypeId) (x y : Operand) (k k' : IntKind) (m n : Int) : (eqGuard op T x y (.int k m) (.int k' n)).run P w = .ok () w := by cases op <;> rfl
theorem guardS (op : BinOp) (T : TypeId) (x y : Operand) (m n : ByteArray) : (eqGuard op T x y (.string m) (.string n)).run P w = .ok () w := by cases op <;> rfl
theorem guardB (op : BinOp) (T : TypeId) (x y : Operand) (m n : Bool) : (eqGuard op T x y (.bool m) (.bool n)).run P w = .ok () w := by cases op <;> rfl
theorem boolT_eq {T : TypeId} (h : boolT P T = true) : P.underlying T = some .bool := by
  unfold boolT at h
  split at h
  · assumption
  · cases h
theorem equalIn_bool (d : Nat) {T : TypeId} (hu : P.underlying T = some .bool) (m n : Bool) : (Op.equalIn (d + 1) T (.bool m) (.bool n)).run P w = .ok (m == n) w := by
  simp [Op.equalIn, run_underlying hu]
theorem equal_bool {T : TypeId} (hu : P.underlying T = some .bool) (m n : Bool) : (Op.equal T (.bool m) (.bool n)).run P w = .ok (m == n) w :=
  equalIn_bool 9999 hu m n
theorem op_bin {o : Oper} {op : BinOp} {T yT : TypeId} {x y : Operand} {K : Out → Option R} {env : Env} (hd : a.defers = []) (h : Rel P G F Bs st a.tmps w) (ho : o.op = .binOp op T x y yT)
    (hk : opK P env (.binOp op T x y yT) o.type (opd st) K = some res) : ∃ out, K out = some res ∧ Eff P G st a w o out := by
  have hrx := opd_rel h x
  have hry := opd_rel h y
  simp only [opK] at hk
  split at hk
  · rename_i u v hx hy
    rw [hx] at hrx; rw [hy] at hry
    have fin : ∀ c z, (execOp a.eval o).run P w = .ok (.value c) w → K (outP (.v z)) = some res → c = z → ∃ out, K out = some res ∧ Eff P G st a w o out := by
      intro c z hr hz e
      subst e
      exact ⟨_, hz, eff_of_lay hr (lay_p hd h (.v _))⟩
    unfold binK at hk
    split at hk
    · rename_i k m k' n
      have e1 := RP_v hrx
      have e2 := RP_v hry
      have go : ∀ v, (∀ T, (Go.binOp op T (.int k m) (.int k' n)).run P w = .ok v w) → (execOp a.eval o).run P w = .ok (.value v) w := by
        intro v hv
        simp [execOp, ho, e1, e2, guardI, hv]
      cases hs : isShift op with
      | true =>
        rw [hs, cond_true] at hk
        obtain ⟨v, h1, h2⟩ := shI_some (P := P) (w := w) (k' := k') hk
        exact fin v v (go v h2) h1 rfl
      | false =>
        rw [hs, cond_false] at hk
        obtain ⟨h1, hk⟩ := bif_some hk
        rw [← ikEq_eq h1] at go
        obtain ⟨v, h1, h2⟩ := binI_some (P := P) (w := w) hs hk
        exact fin v v (go v h2) h1 rfl
    · rename_i m n
      have e1 := RP_v hrx
      have e2 := RP_v hry
      obtain ⟨v, h1, h2⟩ := binS_some (P := P) (w := w) hk
      exact fin v v (by simp [execOp, ho, e1, e2, guardS, h2]) h1 rfl
    · rename_i m n
      have e1 := RP_v hrx
      have e2 := RP_v hry
      obtain ⟨hb, hk⟩ := bif_some hk
      have hu := boolT_eq hb
      have heq : (Op.equal T (.bool m) (.bool n)).run P w = .ok (m == n) w := equal_bool hu m n
      split at hk
      · exact fin _ _ (by simp [execOp, ho, e1, e2, guardB, Go.binOp, heq]) hk rfl
      · exact fin _ _ (by simp [execOp, ho, e1, e2, guardB, Go.binOp, heq]) hk rfl
      · cases hk
    · cases hk
  · cases hk
theorem op_un {o : Oper} {op : UnOp} {T : TypeId} {x : Operand} {K : Out → Option R} {env : Env} (hd : a.defers = []) (h : Rel P G F Bs st a.tmps w) (ho : o.op = .unOp op T x)
    (hk : opK P env (.unOp op T x) o.type (opd st) K = some res) : ∃ out, K out = some res ∧ Eff P G st a w o out := by
  have hrx := opd_rel h x
  simp only [opK] at hk
  split at hk
  · rename_i u hx
    rw [hx] at hrx
    unfold unK at hk
    split at hk
    · have e1 := RP_v hrx
      exact ⟨_, hk, eff_of_lay (by simp [execOp, ho, e1, Op.unary, Op.intArith]) (lay_p hd h (.v _))⟩
    · have e1 := RP_v hrx
      exact ⟨_, hk, eff_of_lay (by simp [execOp, ho, e1, Op.unary]) (lay_p hd h (.v _))⟩
    · have e1 := RP_v hrx
      exact ⟨_, hk, eff_of_lay (by simp [execOp, ho, e1, Op.unary, Op.intBits, ibits]) (lay_p hd h (.v _))⟩
    · cases hk
  · cases hk
theorem op_extract {o : Oper} {x : Operand} {i : Nat} {K : Out → Option R} {env : Env} (hd : a.defers = []) (h : Rel P G F Bs st a.tmps w) (ho : o.op = .extract x i)
    (hk : opK P env (.extract x i) o.type (opd st) K = some res) : ∃ out, K out = some res ∧ Eff P G st a w o out := by
  have hrx := opd_rel h x
  simp only [opK] at hk
  split at hk
  · rename_i s l hx
    rw [hx] at hrx
    obtain ⟨h1, h2⟩ := hrx
    have hs := h.sl s
    rw [h1, h2] at hs
    generalize hB : Bs s = B at hs
    generalize hv : a.eval x = c at hs
    cases hs with
    | tup hl =>
      rename_i vs
      have run : ∀ c, vs[i]? = some c → (execOp a.eval o).run P w = .ok (.value c) w := by
        intro c hc
        simp [execOp, ho, hv, Instr.extract, hc]
      have leave : ∀ (y : SV), l.getD i .dead = y → y ≠ .dead → ∀ (hk : K ⟨y, none, [(s, .tup (l.set i .dead))], []⟩ = some res), ∃ out, K out = some res ∧ Eff P G st a w o out := by
        intro y hy hyd hk
        obtain ⟨c, Bj, pre, post, f1, f2, f3, f4⟩ := hl.get (getD_some hy hyd)
        have hnd := h.nd s
        rw [hB, f3, List.append_assoc, List.nodup_append, List.nodup_append] at hnd
        have hmem : ∀ b, b ∈ pre ++ post → b ∈ Bs s := fun b hb => by rw [hB, f3]; rcases List.mem_append.1 hb with q | q <;> simp [q]
        have hmemj : ∀ b, b ∈ Bj → b ∈ Bs s := fun b hb => by rw [hB, f3]; simp [hb]
        have hnot : ∀ b, b ∈ Bj → b ∉ pre ++ post := by
          intro b hb hc
          rcases List.mem_append.1 hc with q | q
          · exact hnd.2.2 b q b (List.mem_append_left _ hb) rfl
          · exact hnd.2.1.2.2 b hb b q rfl
        have e4 := f4 F w .dead c [] (fun _ q => q) (fun _ _ => rfl) (.dead c)
        rw [set_same f1, List.append_nil] at e4
        have hrt : RS P F w (.tup (l.set i .dead)) (a.tmps.getD s undef) (pre ++ post) := by
          rw [h2, hv]
          have := RS.tup (P := P) e4
          simpa using this
        have r1 := h.turn (drop := []) (F' := F) (w' := w) hrt (fun b hb => .inl (hmem b hb)) (List.nodup_append.2 ⟨hnd.1, hnd.2.1.2.1, fun b1 q b2 r e => hnd.2.2 b1 q b2 (List.mem_append_right _ r) e⟩)
          (fun _ q => q) (fun _ q => .inl q) (fun b hb => h.nf s b (hmem b hb)) (fun _ _ _ => rfl) (Nat.le_refl _) ⟨rfl, rfl, rfl⟩ (fun _ _ _ _ _ => .inr rfl) (fun _ _ e => by cases e)
        refine ⟨_, hk, eff_of_lay (run c (by simpa using f1)) (lay_owned hd r1 f2 hnd.2.1.1 (fun j b hb => ?_) (fun b hb => h.nf s b (hmemj b hb)) (fun b hb => h.nw s b (hmemj b hb)) (fun b hb => h.lt s b (hmemj b hb)) (by simp))⟩
        by_cases hj : j = s
        · subst hj; rw [upB_same]; exact hnot b hb
        · rw [upB_other _ _ hj]; exact h.dj s j b (Ne.symm hj) (hmemj b hb)
      split at hk
      · rename_i y hy
        obtain ⟨c, Bj, pre, post, f1, f2, f3, f4⟩ := hl.get (getD_some hy (by simp))
        cases f2 with
        | p h3 => exact ⟨_, hk, eff_of_lay (run c (by simpa using f1)) (lay_p hd h h3)⟩
      · rename_i hy
        obtain ⟨c, Bj, pre, post, f1, f2, f3, f4⟩ := hl.get (getD_some hy (by simp))
        cases f2 with
        | nl => exact ⟨_, hk, eff_of_lay (run _ (by simpa using f1)) (lay_pure hd (by rw [upS_nil]; exact h) .nl)⟩
      · rename_i T es hy; exact leave _ hy (by simp) hk
      · rename_i T cs hy; exact leave _ hy (by simp) hk
      · rename_i T e bs hy; exact leave _ hy (by simp) hk
      · cases hk
  · cases hk
theorem op_nilCheck {o : Oper} {x : Operand} {K : Out → Option R} {env : Env} (hd : a.defers = []) (h : Rel P G F Bs st a.tmps w) (ho : o.op = .nilCheck x)
    (hk : opK P env (.nilCheck x) o.type (opd st) K = some res) : ∃ out, K out = some res ∧ Eff P G st a w o out := by
  have hrx := opd_rel h x
  simp only [opK] at hk
  have go : ∀ c, a.eval x = c → (∃ b, c = .pointer (some b)) ∨ (∃ f u v, c = .func (.func f) u v) → (execOp a.eval o).run P w = .ok (.value c) w := by
    intro c hc hf
    rcases hf with ⟨b, rfl⟩ | ⟨f, u, v, rfl⟩ <;> simp [execOp, ho, hc]
  split at hk
  · rename_i s off T cs hx
    rw [hx] at hrx
    obtain ⟨out, h1, h2⟩ := moveK_lay hd h hrx hk o.dst
    obtain ⟨_, b, _, e⟩ := hrx
    exact ⟨out, h1, eff_of_lay (go _ rfl (.inl ⟨_, e⟩)) h2⟩
  · rename_i s T e bs hx
    rw [hx] at hrx
    obtain ⟨out, h1, h2⟩ := moveK_lay hd h hrx hk o.dst
    obtain ⟨b, e1⟩ := h.ob_inv hrx.1
    exact ⟨out, h1, eff_of_lay (go _ rfl (.inl ⟨_, hrx.2.symm.trans e1⟩)) h2⟩
  · rename_i s cx T es i off hx
    rw [hx] at hrx
    obtain ⟨out, h1, h2⟩ := moveK_lay hd h hrx hk o.dst
    obtain ⟨g, n, cap, sz, _, _, _, e⟩ := hrx
    exact ⟨out, h1, eff_of_lay (go _ rfl (.inl ⟨_, e⟩)) h2⟩
  · rename_i cs hx
    rw [hx] at hrx
    have hrx' : RP F w (.fb cs) (a.eval x) := hrx
    refine ⟨_, hk, eff_of_lay (go _ rfl (.inl ?_)) (lay_p hd h hrx')⟩
    generalize a.eval x = c at hrx'
    cases hrx' with | fb _ _ _ => exact ⟨_, rfl⟩
  · rename_i f cs hx
    rw [hx] at hrx
    have hrx' : RP F w (.clo f cs) (a.eval x) := hrx
    refine ⟨_, hk, eff_of_lay (go _ rfl (.inr ?_)) (lay_p hd h hrx')⟩
    generalize a.eval x = c at hrx'
    cases hrx' with | clo _ => exact ⟨_, _, _, rfl⟩
  · rename_i f u v hx
    rw [hx] at hrx
    exact ⟨_, hk, eff_of_lay (go _ rfl (.inr ⟨_, _, _, RP_v hrx⟩)) (lay_p hd h hrx)⟩
  · cases hk
end
end Go.Proofs.YtfbahcfojiaeaaaGreatDoor.Th


set_option linter.unusedVariables false
set_option linter.unusedSimpArgs false
namespace Go.Proofs.YtfbahcfojiaeaaaGreatDoor.Th
open Go
variable {R : Type} {res : R}
theorem flat_cons (e : PV) (es : List PV) : flat (e :: es) = cellsOf e ++ flat es := by simp [flat]
theorem flat_append (a b : List PV) : flat (a ++ b) = flat a ++ flat b := by simp [flat]
theorem flat_length {sz : Nat} : ∀ {es : List PV}, (∀ e ∈ es, (cellsOf e).length = sz) → (flat es).length = es.length * sz
  | [], _ => by simp [flat]
  | e :: es, h => by
    rw [flat_cons, List.length_append, flat_length (fun e he => h e (by simp [he])), h e (by simp), List.length_cons, Nat.add_mul]
    omega
theorem flat_drop {sz : Nat} : ∀ {es : List PV} {i : Nat} {e : PV}, (∀ e ∈ es, (cellsOf e).length = sz) → es[i]? = some e → ∃ rest, (flat es).drop (i * sz) = cellsOf e ++ rest
  | [], i, e, _, hi => by simp at hi
  | x :: es, 0, e, h, hi => by simp at hi; subst hi; exact ⟨flat es, by simp [flat_cons]⟩
  | x :: es, i + 1, e, h, hi => by
    obtain ⟨rest, hr⟩ := flat_drop (fun e he => h e (by simp [he])) (by simpa using hi : es[i]? = some e)
    refine ⟨rest, ?_⟩
    have hx := h x (by simp)
    rw [flat_cons, show (i + 1) * sz = (cellsOf x).length + i * sz by rw [hx, Nat.add_mul]; omega, List.drop_append, List.drop_eq_nil_of_le (by omega), List.nil_append]
    rw [show (cellsOf x).length + i * sz - (cellsOf x).length = i * sz by omega]
    exact hr
theorem addr_add (b o j : Nat) : (⟨b, o, none⟩ : Addr).add j = ⟨b, o + j, none⟩ := by unfold Addr.add; split <;> simp_all
section
variable {P : Program} {G : Gd} {F : Nat → Prop} {Bs : Nat → List Nat} {st : St} {a : Act} {w : World}
theorem run_isAgg {T : TypeId} {d : TypeDesc} (h : P.underlying T = some d) (w : World) : (isAgg T).run P w = .ok (isAggT P T) w := by
  unfold isAgg isAggT
  rw [Sem.run_bind, run_underlying h w, h]
  cases d <;> rfl
theorem known {T : TypeId} (h : knownT P T = true) : ∃ d, P.underlying T = some d := by
  unfold knownT at h
  split at h
  · exact ⟨_, by assumption⟩
  · cases h
theorem run_sizeOf {T : TypeId} {n : Nat} (h : sizeT P T = some n) (w : World) : (sizeOf T).run P w = .ok n w := by
  unfold sizeT at h
  cases hi : P.info? T with
  | none => simp [hi] at h
  | some i => simp [hi] at h; simp [sizeOf, typeInfo, hi, h]
theorem load_one {T : TypeId} {b off : Nat} {v : Value} (hk : knownT P T = true) (ha : isAggT P T = false) (hc : w.cell? ⟨b, off, none⟩ = some v) :
    (Instr.loadAt T (.pointer (some ⟨b, off, none⟩))).run P w = .ok v w := by
  obtain ⟨d, hd⟩ := known hk
  simp [Instr.loadAt, Instr.sureAddr, loadVar, run_isAgg hd, ha, hc]
theorem load_agg {T : TypeId} {b off n : Nat} {xs : List Value} (hk : knownT P T = true) (ha : isAggT P T = true) (hs : sizeT P T = some n) (hl : xs.length = n)
    (hc : ∀ j v, xs[j]? = some v → w.cell? ⟨b, off + j, none⟩ = some v) : (Instr.loadAt T (.pointer (some ⟨b, off, none⟩))).run P w = .ok (.agg xs.toArray) w := by
  obtain ⟨d, hd⟩ := known hk
  have hl2 := run_loadCells_list (P := P) w ⟨b, off, none⟩ xs (fun j v hv => by rw [addr_add]; exact hc j v hv)
  rw [hl] at hl2
  simp [Instr.loadAt, Instr.sureAddr, loadVar, run_isAgg hd, ha, run_sizeOf hs, hl2]
theorem own_el {T : TypeId} {es : List PV} {g n cap i sz : Nat} {B : List Nat} {e : PV} (h : RS P F w (.own T es) (.slice (some ⟨g, 0, none⟩) n cap) B) (hsz : sizeT P T = some sz) (hi : es[i]? = some e) :
    ∃ xs, RPs F w (cellsOf e) xs ∧ (cellsOf e).length = sz ∧ leafs (cellsOf e) = true ∧ ∀ j v, xs[j]? = some v → w.cell? ⟨g, i * sz + j, none⟩ = some v := by
  cases h with
  | own h1 h2 h3 h4 h5 h6 h7 =>
    rename_i xs inf z
    have hs : inf.size = sz := by simp [sizeT, h1] at hsz; exact hsz
    rw [hs] at h7 h5
    obtain ⟨rest, hr⟩ := flat_drop (fun e he => (h7 e he).1) hi
    have he := h7 e (List.mem_of_getElem? hi)
    have hx := (h6.drop (i * sz)).take sz
    rw [hr, show ((cellsOf e ++ rest).take sz) = cellsOf e by rw [← he.1]; exact List.take_left] at hx
    refine ⟨_, hx, he.1, he.2, fun j v hj => ?_⟩
    rw [List.getElem?_take] at hj
    split at hj
    · rename_i hlt
      rw [List.getElem?_drop] at hj
      have hlen : n = es.length := by
        rcases h5.2 with ⟨q, _⟩ | ⟨g', cap', cur, q, _, _, _, _, _, _⟩ <;> simp at q
        exact q.2.1
      subst hlen
      have := h5.cellAt (i * sz + j) (by
        have h0 := lt_of_get hj
        rw [h5.1] at h0
        exact h0)
      rw [this]; exact hj
    · cases hj
theorem getD_get {es : List PV} {i : Nat} {d : PV} (h : i < es.length) : es[i]? = some (es.getD i d) := by
  rw [List.getD_eq_getElem?_getD, List.getElem?_eq_getElem h]; rfl
theorem el_len {s : Nat} {cx : Option (Nat × TypeId × List SV)} {T : TypeId} {es : List PV} {g n cap : Nat} (h : Rel P G F Bs st a.tmps w)
    (hp : PlaceOK st.fr a.tmps w s cx T es (.slice (some ⟨g, 0, none⟩) n cap)) : n = es.length := by
  obtain ⟨h1, _⟩ := h.place hp
  cases h1 with
  | own _ _ _ _ h5 _ _ =>
    rcases h5.2 with ⟨q, _⟩ | ⟨g', cap', cur, q, _, _, _, _, _, _⟩ <;> simp at q
    exact q.2.1
theorem CellsAt.at {b off : Nat} {xs : List Value} (h : CellsAt F w (some ⟨b, off, none⟩) xs) : ∀ j v, xs[j]? = some v → w.cell? ⟨b, off + j, none⟩ = some v := by
  intro j v hj
  rcases h with rfl | ⟨b', off', e, _, hc⟩
  · simp at hj
  · cases e; exact hc j v hj
theorem op_load1 {o : Oper} {T : TypeId} {x : Operand} {K : Out → Option R} (hd : a.defers = []) (h : Rel P G F Bs st a.tmps w) (ho : o.op = .load T x) (hkn : knownT P T = true) (hag : isAggT P T = false)
    (hk : load1K P (opd st x) K = some res) : ∃ out, K out = some res ∧ Eff P G st a w o out := by
  have hrx := opd_rel h x
  have run : ∀ b off v, a.eval x = .pointer (some ⟨b, off, none⟩) → w.cell? ⟨b, off, none⟩ = some v → (execOp a.eval o).run P w = .ok (.value v) w := by
    intro b off v hv hc
    simp [execOp, ho, hv, load_one hkn hag hc]
  unfold load1K at hk
  split at hk
  · rename_i s off Tb cs hx
    rw [hx] at hrx
    obtain ⟨h1, b, h2, h3⟩ := hrx
    obtain ⟨b', cur, B, e1, e2, e3, e4, e5⟩ := h.box_inv h1
    rw [h2] at e1; cases e1
    obtain ⟨hlt, hk⟩ := bif_some hk
    have cellv : ∀ c, cur.toList[off]? = some c → w.cell? ⟨b, off, none⟩ = some c := fun c hc => by rw [cell_of_row w b off cur Tb _ e2]; simpa using hc
    split at hk
    · rename_i y hy
      obtain ⟨c, Bj, pre, post, f1, f2, _⟩ := e3.get (getD_some hy (by simp))
      cases f2 with | p h4 => exact ⟨_, hk, eff_of_lay (run b off c h3 (cellv c f1)) (lay_p hd h h4)⟩
    · rename_i hy
      obtain ⟨c, Bj, pre, post, f1, f2, _⟩ := e3.get (getD_some hy (by simp))
      cases f2 with | nl => exact ⟨_, hk, eff_of_lay (run b off _ h3 (cellv _ f1)) (lay_pure hd (by rw [upS_nil]; exact h) .nl)⟩
    · rename_i T2 es hy
      obtain ⟨c, Bj, pre, post, f1, f2, _⟩ := e3.get (getD_some hy (by simp))
      refine ⟨_, hk, eff_of_lay (run b off c h3 (cellv c f1)) (lay_ref hd h ?_)⟩
      intro T' cs' b' cur' T'' f hs ht hb
      rw [h2] at ht; cases ht
      rw [e2] at hb; cases hb
      exact f1
    · cases hk
  · rename_i s cx T' es i off hx
    rw [hx] at hrx
    obtain ⟨g, n, cap, sz, h1, h2, h3, h4⟩ := hrx
    have hn := el_len h h1
    obtain ⟨hk, hl, hm, _⟩ := chkT_some hk
    obtain ⟨hlt, hk⟩ := bif_some hk
    have hlt : off < (cellsOf (es.getD i (.v (.bool false)))).length := by simpa using hlt
    obtain ⟨xs, g1, g2, g3, g4⟩ := own_el (h.place h1).1 h3 (getD_get (d := .v (.bool false)) (by omega : i < es.length))
    obtain ⟨c, q1, q2⟩ := g1.get (getD_get (d := .v (.bool false)) hlt)
    exact ⟨_, hk, eff_of_lay (run g (i * sz + off) c h4 (g4 off c q1)) (lay_p hd h q2)⟩
  · rename_i cs hx
    rw [hx] at hrx
    obtain ⟨y, rest, rfl, hk⟩ := uncons_some hk
    have hrx' : RP F w (.fb (y :: rest)) (a.eval x) := hrx
    generalize hv : a.eval x = c at hrx'
    cases hrx' with
    | fb h1 h2 h3 =>
      cases h1 with
      | cons p1 p2 => exact ⟨_, hk, eff_of_lay (run _ _ _ hv (by have := h3.at 0 _ rfl; simpa using this)) (lay_p hd h p1)⟩
  · cases hk
theorem foff_eq {S : TypeId} {f : Nat} {o : Nat} {T : TypeId} (h : foff P S f = some (o, T)) : ∃ fs fl, P.underlying S = some (.struct fs) ∧ fs[f]? = some fl ∧ fl.offset = o ∧ fl.type = T := by
  unfold foff at h
  split at h
  · rename_i fs hu
    cases hf : fs[f]? with
    | none => simp [hf] at h
    | some fl => simp [hf] at h; exact ⟨fs, fl, hu, hf, h.1, h.2⟩
  · cases h
theorem posT_eq {T : TypeId} (h : posT P T = true) : ∃ n, sizeT P T = some n ∧ 0 < n := by
  unfold posT at h
  split at h
  · exact ⟨_, by assumption, by simpa using h⟩
  · cases h
theorem op_fieldAddr {o : Oper} {S : TypeId} {x : Operand} {f : Nat} {K : Out → Option R} {env : Env} (hd : a.defers = []) (h : Rel P G F Bs st a.tmps w) (ho : o.op = .fieldAddr S x f)
    (hk : opK P env (.fieldAddr S x f) o.type (opd st) K = some res) : ∃ out, K out = some res ∧ Eff P G st a w o out := by
  have hrx := opd_rel h x
  simp only [opK] at hk
  split at hk
  · rename_i off fT hf
    obtain ⟨fs, fl, hu, hfl, rfl, rfl⟩ := foff_eq hf
    obtain ⟨hpos, hk⟩ := bif_some hk
    obtain ⟨n, hn, hn0⟩ := posT_eq hpos
    have hn0' : n ≠ 0 := by omega
    have run : ∀ b o', a.eval x = .pointer (some ⟨b, o', none⟩) → (execOp a.eval o).run P w = .ok (.value (.pointer (some ⟨b, o' + fl.offset, none⟩))) w := by
      intro b o' hv
      simp [execOp, ho, hv, Instr.fieldAt, run_underlying hu, hfl, Instr.sureAddr, fieldPlace, run_sizeOf hn, hn0', addr_add]
    split at hk
    · rename_i s o' Tb cs hx
      rw [hx] at hrx
      obtain ⟨h1, b, h2, h3⟩ := hrx
      refine ⟨_, hk, eff_of_lay (run b o' h3) (lay_ref hd h fun b' hb' => ?_)⟩
      rw [h2] at hb'; cases hb'; rfl
    · rename_i s cx T es i o' hx
      rw [hx] at hrx
      obtain ⟨g, n', cap, sz, h1, h2, h3, h4⟩ := hrx
      refine ⟨_, hk, eff_of_lay (run g _ h4) (lay_ref hd h ?_)⟩
      have := RefOK_el (P := P) (off := o' + fl.offset) h1 h2 h3
      rw [← Nat.add_assoc] at this
      exact this
    · rename_i cs hx
      rw [hx] at hrx
      have hrx' : RP F w (.fb cs) (a.eval x) := hrx
      generalize hv : a.eval x = c at hrx'
      cases hrx' with
      | fb h1 h2 h3 =>
        rename_i xs b o'
        refine ⟨_, hk, eff_of_lay (run _ _ hv) (lay_p hd h (.fb (h1.drop fl.offset) (leafs_of fun y hy => leafs_mem h2 y (List.mem_of_mem_drop hy)) ?_))⟩
        rcases h3 with rfl | ⟨b2, o2, e, hb, hc⟩
        · exact .inl (by simp)
        · cases e
          refine .inr ⟨b, o' + fl.offset, rfl, hb, fun j v hj => ?_⟩
          rw [List.getElem?_drop] at hj
          have := hc _ _ hj
          rwa [← Nat.add_assoc] at this
    · cases hk
  · cases hk
theorem op_index {o : Oper} {T : TypeId} {x i : Operand} {K : Out → Option R} {env : Env} (hd : a.defers = []) (h : Rel P G F Bs st a.tmps w) (ho : o.op = .index T x i)
    (hk : opK P env (.index T x i) o.type (opd st) K = some res) : ∃ out, K out = some res ∧ Eff P G st a w o out := by
  have hrx := opd_rel h x
  have hri := opd_rel h i
  simp only [opK] at hk
  split at hk
  · rename_i s k n hu hx hi
    rw [hx] at hrx; rw [hi] at hri
    have e1 := RP_v hrx
    have e2 := RP_v hri
    obtain ⟨hin, hk⟩ := bif_some hk
    simp only [inR, Bool.and_eq_true, decide_eq_true_eq] at hin
    have hlt : n.toNat < s.size := by omega
    have hrun : (execOp a.eval o).run P w = .ok (.value (.int .u8 (byteAt s n))) w := by
      have hb : s[n.toNat]? = some s[n.toNat] := by simp [hlt]
      have hby : ((s[n.toNat]).toNat : Int) = byteAt s n := by
        unfold byteAt
        rw [List.getD_eq_getElem?_getD, List.getElem?_eq_getElem (by simpa using hlt)]
        rfl
      simp [execOp, ho, e1, e2, Instr.index, asIntOf, run_underlying hu, hin.1, hb, hby]
    exact ⟨_, hk, eff_of_lay hrun (lay_p hd h (.v _))⟩
  · cases hk
end
end Go.Proofs.YtfbahcfojiaeaaaGreatDoor.Th


set_option linter.unusedVariables false
set_option linter.unusedSimpArgs false
namespace Go.Proofs.YtfbahcfojiaeaaaGreatDoor.Th
open Go
variable {R : Type} {res : R}
section
variable {P : Program} {G : Gd} {F : Nat → Prop} {Bs : Nat → List Nat} {st : St} {a : Act} {w : World}
theorem RSs.split {l1 l2 : List SV} {vs : List Value} {B : List Nat} (h : RSs P F w (l1 ++ l2) vs B) : ∃ v1 v2 B1 B2, vs = v1 ++ v2 ∧ B = B1 ++ B2 ∧ RSs P F w l1 v1 B1 ∧ RSs P F w l2 v2 B2 := by
  induction l1 generalizing vs B with
  | nil => exact ⟨[], vs, [], B, rfl, rfl, .nil, h⟩
  | cons x l ih =>
    cases h with
    | cons h1 h2 =>
      obtain ⟨v1, v2, B1, B2, rfl, rfl, g1, g2⟩ := ih h2
      exact ⟨_ :: v1, v2, _ ++ B1, B2, rfl, (List.append_assoc _ _ _).symm, .cons h1 g1, g2⟩
theorem RSs.join {l1 l2 : List SV} {v1 v2 : List Value} {B1 B2 : List Nat} (h1 : RSs P F w l1 v1 B1) (h2 : RSs P F w l2 v2 B2) : RSs P F w (l1 ++ l2) (v1 ++ v2) (B1 ++ B2) := by
  induction l1 generalizing v1 B1 with
  | nil => cases h1; exact h2
  | cons x l ih =>
    cases h1 with
    | cons p q => rw [List.append_assoc]; exact .cons p (ih q)
theorem RSs.pure {l : List PV} {vs : List Value} (h : RPs F w l vs) : RSs P F w (l.map .p) vs [] := by
  induction l generalizing vs with
  | nil => cases h; exact .nil
  | cons x l ih => cases h with | cons p q => exact .cons (B := []) (.p p) (ih q)
theorem leaf_of_one {x : PV} {c : Value} (h : RP F w x c) (ho : c.oneCell' = true) : x.leaf = true := by
  cases h <;> first | exact ho | rfl | (simp [Value.oneCell'] at ho)
theorem frzL_rel : ∀ {cs : List SV} {vs : List Value} {B : List Nat} {ys : List PV} {F' : Nat → Prop}, RSs P F w cs vs B → frzL cs = some ys → (∀ b, F b → F' b) → (∀ b ∈ B, F' b) →
    RPs F' w ys vs ∧ ((∀ v ∈ vs, v.oneCell' = true) → leafs ys = true) ∧ ys.length = cs.length
  | [], vs, B, ys, F', h, hf, _, _ => by
    cases h
    simp [frzL] at hf; subst hf
    exact ⟨.nil, fun _ => rfl, rfl⟩
  | x :: cs, vs, B, ys, F', h, hf, hF, hB => by
    cases h with
    | cons h1 h2 =>
      rename_i c vs' B1 B2
      simp only [frzL] at hf
      cases hx : frz x with
      | none => simp [hx] at hf
      | some y =>
        cases hr : frzL cs with
        | none => simp [hx, hr] at hf
        | some ys' =>
          simp only [hx, hr, Option.some.injEq] at hf
          subst hf
          obtain ⟨g1, g2, g3⟩ := frzL_rel h2 hr hF fun b hb => hB b (List.mem_append_right _ hb)
          have hy : RP F' w y c := by
            cases x with
            | p z => simp [frz] at hx; subst hx; cases h1 with | p q => exact q.mono (w' := w) hF fun _ _ => rfl
            | nl => simp [frz] at hx; subst hx; cases h1; exact RP_nil _ _
            | own T es =>
              simp [frz] at hx; subst hx
              have hb1 : B1 = blk c := by cases h1 with | own _ _ _ _ _ _ _ => rfl
              exact h1.frozen hF fun b hb => hB b (List.mem_append_left _ (by rw [hb1]; exact hb))
            | _ => simp [frz] at hx
          refine ⟨.cons hy g1, fun ho => ?_, by simp [g3]⟩
          simp only [leafs, Bool.and_eq_true]
          exact ⟨leaf_of_one hy (ho c (by simp)), g2 fun v hv => ho v (by simp [hv])⟩
theorem frzL_noOwn : ∀ {cs : List SV} {vs : List Value} {B : List Nat} {ys : List PV}, RSs P F w cs vs B → frzL cs = some ys → anyOwn cs = false → B = []
  | [], vs, B, ys, h, _, _ => by cases h; rfl
  | x :: cs, vs, B, ys, h, hf, ha => by
    cases h with
    | cons h1 h2 =>
      rename_i c vs' B1 B2
      simp only [frzL] at hf
      cases hx : frz x with
      | none => simp [hx] at hf
      | some y =>
        cases hr : frzL cs with
        | none => simp [hx, hr] at hf
        | some ys' =>
          cases x with
          | p z => simp only [anyOwn] at ha; cases h1; rw [frzL_noOwn h2 hr ha]; rfl
          | nl => simp only [anyOwn] at ha; cases h1; rw [frzL_noOwn h2 hr ha]; rfl
          | own T es => simp [anyOwn] at ha
          | _ => simp [frz] at hx
theorem take_drop3 {α : Type} (l : List α) (off n : Nat) : l = l.take off ++ ((l.drop off).take n ++ l.drop (off + n)) := by
  have h : (l.drop off).take n ++ (l.drop off).drop n = l.drop off := List.take_append_drop n (l.drop off)
  rw [List.drop_drop] at h
  rw [h, List.take_append_drop]
theorem box_parts {cs : List SV} {vs : List Value} {B : List Nat} (h : RSs P F w cs vs B) (off n : Nat) :
    ∃ B1 B2 B3, B = B1 ++ (B2 ++ B3) ∧ RSs P F w (cs.take off) (vs.take off) B1 ∧ RSs P F w ((cs.drop off).take n) ((vs.drop off).take n) B2 ∧ RSs P F w (cs.drop (off + n)) (vs.drop (off + n)) B3 := by
  have hc := h.length
  rw [take_drop3 cs off n] at h
  obtain ⟨v1, v23, B1, B23, e1, rfl, g1, g23⟩ := h.split
  obtain ⟨v2, v3, B2, B3, e2, rfl, g2, g3⟩ := g23.split
  have l1 : v1.length = min off vs.length := by rw [← g1.length, List.length_take, hc]
  have l2 : v2.length = min n (vs.length - off) := by rw [← g2.length, List.length_take, List.length_drop, hc]
  have q1 : vs.take off = v1 := by
    rw [e1]
    rcases Nat.le_total off vs.length with q | q
    · rw [show off = v1.length by omega, List.take_left]
    · have : v23 = [] := by
        have := congrArg List.length e1
        rw [List.length_append] at this
        exact List.length_eq_zero_iff.1 (by omega)
      rw [this, List.append_nil, List.take_of_length_le (by omega)]
  have q2 : vs.drop off = v23 := by
    rw [e1]
    rcases Nat.le_total off vs.length with q | q
    · rw [show off = v1.length by omega, List.drop_left]
    · have : v23 = [] := by
        have := congrArg List.length e1
        rw [List.length_append] at this
        exact List.length_eq_zero_iff.1 (by omega)
      rw [this, List.append_nil, List.drop_eq_nil_of_le (by omega)]
  have hl23 : v23.length = vs.length - off := by rw [← q2, List.length_drop]
  have q3 : v23.take n = v2 := by
    rw [e2]
    rcases Nat.le_total n (vs.length - off) with q | q
    · rw [show n = v2.length by omega, List.take_left]
    · have : v3 = [] := by
        have := congrArg List.length e2
        rw [List.length_append, hl23] at this
        exact List.length_eq_zero_iff.1 (by omega)
      rw [this, List.append_nil, List.take_of_length_le (by omega)]
  have q4 : v23.drop n = v3 := by
    rw [e2]
    rcases Nat.le_total n (vs.length - off) with q | q
    · rw [show n = v2.length by omega, List.drop_left]
    · have : v3 = [] := by
        have := congrArg List.length e2
        rw [List.length_append, hl23] at this
        exact List.length_eq_zero_iff.1 (by omega)
      rw [this, List.append_nil, List.drop_eq_nil_of_le (by omega)]
  refine ⟨B1, B2, B3, rfl, by rw [q1]; exact g1, by rw [q2, q3]; exact g2, ?_⟩
  have q5 : vs.drop (off + n) = v3 := by rw [← List.drop_drop, q2, q4]
  rw [q5]; exact g3
theorem nodup3 {B1 B2 B3 : List Nat} {b : Nat} (h : (b :: (B1 ++ (B2 ++ B3))).Nodup) : (b :: (B1 ++ B3)).Nodup ∧ (∀ x ∈ B2, x ∉ b :: (B1 ++ B3)) ∧ B2.Nodup := by
  rw [List.nodup_cons, List.nodup_append, List.nodup_append] at h
  obtain ⟨h0, h1, ⟨h2, h3, h4⟩, h5⟩ := h
  refine ⟨List.nodup_cons.2 ⟨fun q => h0 ?_, List.nodup_append.2 ⟨h1, h3, fun x hx y hy e => h5 x hx y (List.mem_append_right _ hy) e⟩⟩, fun x hx q => ?_, h2⟩
  · rcases List.mem_append.1 q with q | q <;> simp [q]
  · rcases List.mem_cons.1 q with q | q
    · subst q; exact h0 (by simp [hx])
    · rcases List.mem_append.1 q with q | q
      · exact h5 x q x (List.mem_append_left _ hx) rfl
      · exact h4 x hx x q rfl
theorem Rel.freezeCells (h : Rel P G F Bs st a.tmps w) {s off n : Nat} {T : TypeId} {cs : List SV} {ys : List PV} (hs : st.fr s = .bx T cs) (hf : frzL ((cs.drop off).take n) = some ys) :
    ∃ F' Bs' b cur, a.tmps.getD s undef = .pointer (some ⟨b, 0, none⟩) ∧ w.heap[b]? = some (.cells cur T (0, 0)) ∧ cur.toList.length = cs.length ∧
      Rel P G F' Bs' (st.upS (bif anyOwn ((cs.drop off).take n) then [(s, .bx T (splice cs off ys))] else []) []) a.tmps w ∧
      RPs F' w ys ((cur.toList.drop off).take n) ∧ leafs ys = true ∧ ys.length = ((cs.drop off).take n).length := by
  obtain ⟨b, cur, B, e1, e2, e3, e4, e5⟩ := h.box_inv hs
  obtain ⟨B1, B2, B3, rfl, g1, g2, g3⟩ := box_parts e3 off n
  have hone : ∀ v ∈ (cur.toList.drop off).take n, v.oneCell' = true := fun v hv => e4 v (List.mem_of_mem_drop (List.mem_of_mem_take hv))
  have hlen : ys.length = ((cs.drop off).take n).length := (frzL_rel g2 hf (F' := fun b => F b ∨ b ∈ B2) (fun _ q => .inl q) (fun _ q => .inr q)).2.2
  cases ha : anyOwn ((cs.drop off).take n) with
  | false =>
    have hB2 := frzL_noOwn g2 hf ha
    subst hB2
    obtain ⟨r1, r2, r3⟩ := frzL_rel g2 hf (F' := F) (fun _ q => q) (by simp)
    exact ⟨F, Bs, b, cur, e1, e2, e3.length.symm, by rw [cond_false, upS_nil]; exact h, r1, r2 hone, r3⟩
  | true =>
    obtain ⟨r1, r2, r3⟩ := frzL_rel g2 hf (F' := fun b => F b ∨ b ∈ B2) (fun _ q => .inl q) (fun _ q => .inr q)
    have hnd := h.nd s
    rw [e5] at hnd
    obtain ⟨n1, n2, n3⟩ := nodup3 hnd
    have m1 : ∀ {l : List SV} {v : List Value} {B : List Nat}, RSs P F w l v B → RSs P (fun b => F b ∨ b ∈ B2) w l v B := fun h => h.mono (fun _ q => .inl q) fun _ _ => rfl
    have hcs : RSs P (fun b => F b ∨ b ∈ B2) w (splice cs off ys) cur.toList (B1 ++ ([] ++ B3)) := by
      have := (m1 g1).join ((RSs.pure (P := P) r1).join (m1 g3))
      rw [← take_drop3 cur.toList off n] at this
      unfold splice
      rw [List.append_assoc]
      have hdr : cs.drop (off + ys.length) = cs.drop (off + n) := by
        rw [hlen, List.length_take, List.length_drop]
        rcases Nat.le_total n (cs.length - off) with q | q
        · rw [Nat.min_eq_left q]
        · rw [Nat.min_eq_right q, List.drop_eq_nil_of_le (by omega), List.drop_eq_nil_of_le (by omega)]
      rw [hdr]; exact this
    have hmem : ∀ x ∈ b :: (B1 ++ B3), x ∈ Bs s := fun x hx => by
      rw [e5]
      rcases List.mem_cons.1 hx with q | q
      · simp [q]
      · rcases List.mem_append.1 q with q | q <;> simp [q]
    have hmem2 : ∀ x ∈ B2, x ∈ Bs s := fun x hx => by rw [e5]; simp [hx]
    refine ⟨_, upB Bs s (b :: (B1 ++ B3)), b, cur, e1, e2, e3.length.symm, ?_, r1, r2 hone, r3⟩
    rw [cond_true]
    refine h.turn (drop := []) (F' := fun b => F b ∨ b ∈ B2) (w' := w) ?_ (fun x hx => .inl (hmem x hx)) n1 (fun _ q => .inl q)
      (fun x hx => hx.imp id fun q => ⟨hmem2 x q, n2 x q⟩) (fun x hx q => ?_) (fun _ _ _ => rfl) (Nat.le_refl _) ⟨rfl, rfl, rfl⟩ (fun _ _ _ _ _ => .inr rfl) (fun _ _ _ => .inr ⟨T, cs, hs⟩)
    · rw [e1]; exact .bx e2 (by simpa using hcs) e4
    · rcases q with q | q
      · exact h.nf s x (hmem x hx) q
      · exact n2 x q hx
theorem op_loadN {o : Oper} {T : TypeId} {x : Operand} {n : Nat} {K : Out → Option R} (hd : a.defers = []) (h : Rel P G F Bs st a.tmps w) (ho : o.op = .load T x) (hkn : knownT P T = true) (hag : isAggT P T = true)
    (hsz : sizeT P T = some n) (hk : loadNK P n (opd st x) K = some res) : ∃ out, K out = some res ∧ Eff P G st a w o out := by
  have hrx := opd_rel h x
  have run : ∀ (b off : Nat) (xs : List Value), a.eval x = .pointer (some ⟨b, off, none⟩) → xs.length = n → (∀ j v, xs[j]? = some v → w.cell? ⟨b, off + j, none⟩ = some v) → (execOp a.eval o).run P w = .ok (.value (.agg xs.toArray)) w := by
    intro b off xs hv hl hc
    simp [execOp, ho, hv, load_agg hkn hag hsz hl hc]
  unfold loadNK at hk
  split at hk
  · rename_i s off Tb cs hx
    rw [hx] at hrx
    obtain ⟨h1, b, h2, h3⟩ := hrx
    obtain ⟨hle, hk⟩ := bif_some hk
    have hle : off + n ≤ cs.length := by simpa using hle
    split at hk
    · rename_i ys hy
      obtain ⟨F', Bs', b', cur, e1, e2, e3, e4, e5, e6, e7⟩ := h.freezeCells h1 hy
      rw [h2] at e1; cases e1
      refine ⟨_, hk, eff_of_lay (run b off _ h3 (by rw [List.length_take, List.length_drop]; omega) fun j v hj => ?_) (lay_pure hd e4 (.p (.agg e5 e6)))⟩
      rw [List.getElem?_take] at hj
      split at hj
      · rw [List.getElem?_drop] at hj
        rw [cell_of_row w b _ cur Tb _ e2]; simpa using hj
      · cases hj
    · cases hk
  · rename_i s cx T' es i off hx
    rw [hx] at hrx
    obtain ⟨g, n', cap, sz, h1, h2, h3, h4⟩ := hrx
    have hn := el_len h h1
    obtain ⟨hk, hl, hm, _⟩ := chkT_some hk
    obtain ⟨hle, hk⟩ := bif_some hk
    have hle : off + n ≤ (cellsOf (es.getD i (.v (.bool false)))).length := by simpa using hle
    obtain ⟨xs, g1, g2, g3, g4⟩ := own_el (h.place h1).1 h3 (getD_get (d := .v (.bool false)) (by omega : i < es.length))
    have hxl := g1.length
    refine ⟨_, hk, eff_of_lay (run g (i * sz + off) ((xs.drop off).take n) h4 (by rw [List.length_take, List.length_drop]; omega) fun j v hj => ?_)
      (lay_p hd h (.agg ((g1.drop off).take n) (leafs_of fun y hy => leafs_mem g3 y (List.mem_of_mem_drop (List.mem_of_mem_take hy)))))⟩
    rw [List.getElem?_take] at hj
    split at hj
    · rw [List.getElem?_drop] at hj
      have := g4 _ _ hj
      rwa [← Nat.add_assoc] at this
    · cases hj
  · rename_i cs hx
    rw [hx] at hrx
    obtain ⟨hle, hk⟩ := bif_some hk
    have hle : n ≤ cs.length := by simpa using hle
    have hrx' : RP F w (.fb cs) (a.eval x) := hrx
    generalize hv : a.eval x = c at hrx'
    cases hrx' with
    | fb h1 h2 h3 =>
      rename_i xs b off
      have hxl := h1.length
      refine ⟨_, hk, eff_of_lay (run b off (xs.take n) hv (by rw [List.length_take]; omega) fun j v hj => ?_) (lay_p hd h (.agg (h1.take n) (leafs_of fun y hy => leafs_mem h2 y (List.mem_of_mem_take hy))))⟩
      rw [List.getElem?_take] at hj
      split at hj
      · exact h3.at j v hj
      · cases hj
  · cases hk
theorem op_load {o : Oper} {T : TypeId} {x : Operand} {K : Out → Option R} {env : Env} (hd : a.defers = []) (h : Rel P G F Bs st a.tmps w) (ho : o.op = .load T x)
    (hk : opK P env (.load T x) o.type (opd st) K = some res) : ∃ out, K out = some res ∧ Eff P G st a w o out := by
  simp only [opK] at hk
  cases hkn : knownT P T with
  | false => rw [hkn] at hk; simp at hk
  | true =>
    rw [hkn] at hk
    simp only [Bool.not_true, cond_false] at hk
    cases hag : isAggT P T with
    | false => rw [hag] at hk; exact op_load1 hd h ho hkn hag hk
    | true =>
      rw [hag] at hk
      simp only [cond_true] at hk
      split at hk
      · rename_i n hn; exact op_loadN hd h ho hkn hag hn hk
      · cases hk
theorem part_one {T : TypeId} {xs : Array Value} {off : Nat} {v : Value} (hk : knownT P T = true) (ha : isAggT P T = false) (hx : xs[off]? = some v) : (part T xs off).run P w = .ok v w := by
  obtain ⟨d, hd⟩ := known hk
  simp [part, run_isAgg hd, ha, hx]
theorem part_agg {T : TypeId} {xs : Array Value} {off n : Nat} (hk : knownT P T = true) (ha : isAggT P T = true) (hs : sizeT P T = some n) : (part T xs off).run P w = .ok (.agg (xs.extract off (off + n))) w := by
  obtain ⟨d, hd⟩ := known hk
  simp [part, run_isAgg hd, ha, run_sizeOf hs]
theorem op_field {o : Oper} {S : TypeId} {x : Operand} {f : Nat} {K : Out → Option R} {env : Env} (hd : a.defers = []) (h : Rel P G F Bs st a.tmps w) (ho : o.op = .field S x f)
    (hk : opK P env (.field S x f) o.type (opd st) K = some res) : ∃ out, K out = some res ∧ Eff P G st a w o out := by
  have hrx := opd_rel h x
  simp only [opK] at hk
  split at hk
  · rename_i off T cs hf hx
    rw [hx] at hrx
    obtain ⟨fs, fl, hu, hfl, rfl, rfl⟩ := foff_eq hf
    cases hkn : knownT P fl.type with
    | false => rw [hkn] at hk; simp at hk
    | true =>
      rw [hkn] at hk
      simp only [Bool.not_true, cond_false] at hk
      have hrx' : RP F w (.agg cs) (a.eval x) := hrx
      generalize hv : a.eval x = c at hrx'
      cases hrx' with
      | agg h1 h2 =>
        rename_i vs
        split at hk
        · rename_i n hn
          cases hag : isAggT P fl.type with
          | true =>
            rw [hag] at hk
            simp only [cond_true] at hk
            obtain ⟨hle, hk⟩ := bif_some hk
            have e : vs.toArray.extract fl.offset (fl.offset + n) = ((vs.drop fl.offset).take n).toArray := by
              apply Array.ext'
              simp [List.extract, Nat.add_sub_cancel_left]
            have hrun : (execOp a.eval o).run P w = .ok (.value (.agg ((vs.drop fl.offset).take n).toArray)) w := by
              simp [execOp, ho, hv, Instr.field, run_underlying hu, hfl, asAgg, part_agg hkn hag hn, e]
            exact ⟨_, hk, eff_of_lay hrun (lay_p hd h (.agg ((h1.drop _).take _) (leafs_of fun y hy => leafs_mem h2 y (List.mem_of_mem_drop (List.mem_of_mem_take hy)))))⟩
          | false =>
            rw [hag] at hk
            simp only [cond_false] at hk
            obtain ⟨hlt, hk⟩ := bif_some hk
            have hlt : fl.offset < cs.length := by simpa using hlt
            obtain ⟨c, q1, q2⟩ := h1.get (getD_get (d := .v (.bool false)) hlt)
            have hrun : (execOp a.eval o).run P w = .ok (.value c) w := by
              simp [execOp, ho, hv, Instr.field, run_underlying hu, hfl, asAgg, part_one (P := P) (w := w) hkn hag (xs := vs.toArray) (by simpa using q1)]
            exact ⟨_, hk, eff_of_lay hrun (lay_p hd h q2)⟩
        · cases hk
  · cases hk
end
end Go.Proofs.YtfbahcfojiaeaaaGreatDoor.Th


set_option linter.unusedVariables false
set_option linter.unusedSimpArgs false
namespace Go.Proofs.YtfbahcfojiaeaaaGreatDoor.Th
open Go
variable {R : Type} {res : R}
section
variable {P : Program} {G : Gd} {F : Nat → Prop} {Bs : Nat → List Nat} {st : St} {a : Act} {w : World}
theorem elemT_eq {T E : TypeId} (h : elemT P T = some E) : P.underlying T = some (.slice E) := by
  unfold elemT at h
  split at h
  · simp at h; subst h; assumption
  · cases h
theorem own_cases {T : TypeId} {es : List PV} {c : Value} {B : List Nat} (h : RS P F w (.own T es) c B) :
    (c = .slice none 0 0 ∧ es = [] ∧ B = []) ∨ ∃ g cap, c = .slice (some ⟨g, 0, none⟩) es.length cap ∧ es.length ≤ cap ∧ cap ≤ maxLen ∧ B = [g] := by
  cases h with
  | own h1 h2 h3 h4 h5 h6 h7 =>
    rcases h5.2 with ⟨rfl, hn⟩ | ⟨g, cap, cur, rfl, _, _, hnc, hcm, _, _⟩
    · exact .inl ⟨rfl, List.length_eq_zero_iff.1 hn, rfl⟩
    · exact .inr ⟨g, cap, rfl, hnc, hcm, rfl⟩
theorem op_indexAddr {o : Oper} {T : TypeId} {x i : Operand} {K : Out → Option R} {env : Env} (hd : a.defers = []) (h : Rel P G F Bs st a.tmps w) (ho : o.op = .indexAddr T x i)
    (hk : opK P env (.indexAddr T x i) o.type (opd st) K = some res) : ∃ out, K out = some res ∧ Eff P G st a w o out := by
  have hrx := opd_rel h x
  have hri := opd_rel h i
  simp only [opK, indexAddrK] at hk
  split at hk
  · rename_i E k n hE hi
    rw [hi] at hri
    have e2 := RP_v hri
    have hu := elemT_eq hE
    split at hk
    · rename_i sz hsz
      have run : ∀ b off len cap, a.eval x = .slice (some ⟨b, off, none⟩) len cap → 0 ≤ n → n < (len : Int) →
          (execOp a.eval o).run P w = .ok (.value (.pointer (some ⟨b, off + n.toNat * sz, none⟩))) w := by
        intro b off len cap hv h0 hl
        simp [execOp, ho, e2, hv, Instr.indexAt, asIntOf, run_underlying hu, h0, hl, run_sizeOf hsz, addr_add]
      split at hk
      · rename_i s cx T' es hx
        rw [hx] at hrx
        obtain ⟨hT0, hk1⟩ := bif_some hk
        have hT := eqB hT0
        subst hT
        obtain ⟨hin, hk2⟩ := bif_some hk1
        simp only [inR, Bool.and_eq_true, decide_eq_true_eq] at hin
        have hpl := h.place hrx
        rcases own_cases hpl.1 with ⟨_, rfl, _⟩ | ⟨g, cap, e, _, _, _⟩
        · simp at hin; omega
        · have hrx2 : PlaceOK st.fr a.tmps w s cx T' es (a.eval x) := hrx
          rw [e] at hrx2
          have hr := run g 0 _ cap e hin.1 hin.2
          rw [Nat.zero_add] at hr
          have := RefOK_el (P := P) (off := 0) (i := n.toNat) hrx2 (by omega) hsz
          exact ⟨_, hk2, eff_of_lay hr (lay_ref hd h this)⟩
      · rename_i es hx
        rw [hx] at hrx
        obtain ⟨hin, hk1⟩ := bif_some hk
        simp only [inR, Bool.and_eq_true, decide_eq_true_eq] at hin
        obtain ⟨hk2, hl, _, _⟩ := chkT_some hk1
        obtain ⟨hlen0, hk3⟩ := bif_some hk2
        have hlen := eqB hlen0
        have hlt : n.toNat < es.length := by omega
        have hget := getD_get (d := .v (.bool false)) hlt
        have hrx' : RP F w (.sh es) (a.eval x) := hrx
        generalize hv : a.eval x = c at hrx'
        cases hrx' with
        | sh h1 h2 h3 h4 h5 h6 h7 =>
          rename_i xs ad len cap sz'
          have he := h2 _ (List.mem_of_getElem? hget)
          have hss : sz' = sz := by omega
          subst hss
          obtain ⟨rest, hr⟩ := flat_drop (fun e he => (h2 e he).1) hget
          have hxs := (h1.drop (n.toNat * sz')).take sz'
          rw [hr, show ((cellsOf (es.getD n.toNat (.v (.bool false))) ++ rest).take sz') = cellsOf (es.getD n.toNat (.v (.bool false))) by rw [← he.1]; exact List.take_left] at hxs
          rcases h4 with hnil | ⟨b, off, rfl, hb, hc⟩
          · exfalso
            have := h1.length
            rw [flat_length (fun e he => (h2 e he).1), hnil, List.length_nil] at this
            have : es.length = 0 := by
              rcases Nat.mul_eq_zero.1 this with q | q
              · exact q
              · omega
            omega
          · refine ⟨_, hk3, eff_of_lay (run b off _ cap hv hin.1 (by omega)) (lay_p hd h (.fb hxs he.2 (.inr ⟨b, _, rfl, hb, fun j v hj => ?_⟩)))⟩
            rw [List.getElem?_take] at hj
            split at hj
            · rw [List.getElem?_drop] at hj
              have := hc _ _ hj
              rwa [← Nat.add_assoc] at this
            · cases hj
      · cases hk
    · cases hk
  · cases hk
theorem flat_take {sz : Nat} : ∀ {es : List PV} (n : Nat), (∀ e ∈ es, (cellsOf e).length = sz) → flat (es.take n) = (flat es).take (n * sz)
  | [], n, _ => by simp [flat]
  | e :: es, 0, h => by simp [flat]
  | e :: es, n + 1, h => by
    have he := h e (by simp)
    rw [List.take_succ_cons, flat_cons, flat_cons, flat_take n fun e he => h e (by simp [he]), show (n + 1) * sz = (cellsOf e).length + n * sz by rw [he, Nat.add_mul]; omega, List.take_length_add_append]
theorem flat_dropN {sz : Nat} : ∀ {es : List PV} (n : Nat), (∀ e ∈ es, (cellsOf e).length = sz) → flat (es.drop n) = (flat es).drop (n * sz)
  | [], n, _ => by simp [flat]
  | e :: es, 0, h => by simp
  | e :: es, n + 1, h => by
    have he := h e (by simp)
    have e1 : (n + 1) * sz = (cellsOf e).length + n * sz := by rw [he, Nat.add_mul]; omega
    have e2 : (cellsOf e).drop ((cellsOf e).length + n * sz) = [] := List.drop_eq_nil_of_le (by omega)
    have e3 : (cellsOf e).length + n * sz - (cellsOf e).length = n * sz := by omega
    rw [List.drop_succ_cons, flat_cons, flat_dropN n fun e he => h e (by simp [he]), e1, List.drop_append, e2, e3, List.nil_append]
theorem sh_slice {es : List PV} {ad : Option Addr} {len cap n l hh : Nat} (h : RP F w (.sh es) (.slice ad len cap)) (hsz : hdSz n es = true) (h1 : l ≤ hh) (h2 : hh ≤ es.length) :
    RP F w (.sh ((es.take hh).drop l)) (.slice (if cap = l then ad else ad.map (·.add (l * n))) (hh - l) (cap - l)) := by
  cases h with
  | sh g1 g2 g3 g4 g5 g6 g7 =>
    rename_i xs sz
    by_cases he : (es.take hh).drop l = []
    · rw [he]
      have hl := congrArg List.length he
      rw [List.length_drop, List.length_take, List.length_nil] at hl
      exact .sh (xs := []) (sz := 1) .nil (by simp) (by decide) (.inl rfl) (by rw [List.length_nil]; omega) (by omega) (by omega)
    · have hlen : ((es.take hh).drop l).length = hh - l := by rw [List.length_drop, List.length_take]; omega
      have hpos : 0 < hh - l := by rw [← hlen]; exact List.length_pos_iff.2 he
      have hn : sz = n := by
        cases es with
        | nil => simp at h2; omega
        | cons e es =>
          have := (g2 e (by simp)).1
          simp only [hdSz] at hsz
          rw [← this]; exact eqB hsz
      subst hn
      have hall : ∀ e ∈ es, (cellsOf e).length = sz := fun e he => (g2 e he).1
      have hall2 : ∀ e ∈ es.take hh, (cellsOf e).length = sz := fun e he => hall e (List.mem_of_mem_take he)
      have hr := (g1.take (hh * sz)).drop (l * sz)
      rw [← flat_take hh hall, ← flat_dropN l hall2] at hr
      rw [if_neg (by omega)]
      refine .sh hr (fun e he => g2 e (List.mem_of_mem_take (List.mem_of_mem_drop he))) g3 ?_ hlen.symm (by omega) (by omega)
      rcases g4 with rfl | ⟨b, off, rfl, hb, hc⟩
      · exact .inl (by simp)
      · refine .inr ⟨b, off + l * sz, by simp [addr_add], hb, fun j v hj => ?_⟩
        rw [List.getElem?_drop, List.getElem?_take] at hj
        split at hj
        · have := hc _ _ hj
          rwa [← Nat.add_assoc] at this
        · cases hj
theorem bounds_run {isSlice : Bool} {len cap : Nat} {lo hi : Option Operand} {l hh : Int} (hr : ∀ x, RVR P F st.fr a.tmps w (opd st x) (a.eval x)) (h1 : intOpd (lo.map (opd st)) 0 = some l)
    (h2 : intOpd (hi.map (opd st)) (len : Int) = some hh) (hc : cutR l hh len = true) (hlc : len ≤ cap) :
    (Instr.sliceBounds isSlice len cap (lo.map a.eval) (hi.map a.eval) none).run P w = .ok (l.toNat, hh.toNat, cap) w := by
  simp only [cutR, Bool.and_eq_true, decide_eq_true_eq] at hc
  obtain ⟨⟨c1, c2⟩, c3⟩ := hc
  have get : ∀ (x : Option Operand) (d v : Int), intOpd (x.map (opd st)) d = some v → (x = none ∧ v = d) ∨ ∃ y k, x = some y ∧ a.eval y = .int k v := by
    intro x d v hx
    cases x with
    | none => simp [intOpd] at hx; exact .inl ⟨rfl, hx.symm⟩
    | some y =>
      simp only [Option.map_some] at hx
      unfold intOpd at hx
      split at hx
      · rename_i hq; cases hq
      · rename_i k n hq
        simp only [Option.some.injEq] at hq hx
        subst hx
        have := hr y
        rw [hq] at this
        exact .inr ⟨y, k, rfl, RP_v this⟩
      · cases hx
  rcases get hi _ _ h2 with ⟨rfl, rfl⟩ | ⟨y, k, rfl, ey⟩
  · rcases get lo _ _ h1 with ⟨rfl, rfl⟩ | ⟨z, k', rfl, ez⟩
    · simp [Instr.sliceBounds]
    · have : l.toNat ≤ len := by omega
      simp [Instr.sliceBounds, ez, Instr.sliceBound, asIntOf, c1, c2]
  · rcases get lo _ _ h1 with ⟨rfl, rfl⟩ | ⟨z, k', rfl, ez⟩
    · have : hh ≤ (cap : Int) := by omega
      have h0 : 0 ≤ hh := by omega
      simp [Instr.sliceBounds, ey, Instr.sliceBound, asIntOf, this, h0]
    · have e1 : hh ≤ (cap : Int) := by omega
      have h0 : 0 ≤ hh := by omega
      have e2 : l ≤ max hh 0 := by omega
      simp [Instr.sliceBounds, ey, ez, Instr.sliceBound, asIntOf, e1, h0, c1, e2]
theorem sizeE_some {E : TypeId} (h : hasSize P E = true) : ∃ n, sizeT P E = some n := by
  unfold hasSize at h
  split at h
  · exact ⟨_, by assumption⟩
  · cases h
theorem op_slice {o : Oper} {T : TypeId} {x : Operand} {lo hi mx : Option Operand} {K : Out → Option R} {env : Env} (hd : a.defers = []) (h : Rel P G F Bs st a.tmps w) (ho : o.op = .slice T x lo hi mx)
    (hk : opK P env (.slice T x lo hi mx) o.type (opd st) K = some res) : ∃ out, K out = some res ∧ Eff P G st a w o out := by
  have hrx := opd_rel h x
  simp only [opK] at hk
  obtain ⟨hm, hk0⟩ := bif_some hk
  clear hk
  have hmx : mx = none := by
    cases mx with
    | none => rfl
    | some _ => simp [noneB] at hm
  subst hmx
  unfold sliceK at hk0
  have runS : ∀ E ad len cap l hh sz, P.underlying T = some (.slice E) → sizeT P E = some sz → a.eval x = .slice ad len cap → intOpd (lo.map (opd st)) 0 = some l → intOpd (hi.map (opd st)) (len : Int) = some hh →
      cutR l hh len = true → len ≤ cap →
      (execOp a.eval o).run P w = .ok (.value (.slice (if cap = l.toNat then ad else ad.map (·.add (l.toNat * sz))) (hh.toNat - l.toNat) (cap - l.toNat))) w := by
    intro E ad len cap l hh sz hu hs hv h1 h2 hc hlc
    have hb := bounds_run (P := P) (isSlice := true) (cap := cap) (opd_rel h) h1 h2 hc hlc
    simp [execOp, ho, hv, Instr.sliceAt, run_underlying hu, Instr.slice, hb, run_sizeOf hs]
  split at hk0
  · rename_i s hu hx
    rw [hx] at hrx
    have e1 := RP_v hrx
    split at hk0
    · rename_i l hh h1 h2
      obtain ⟨hc, hk⟩ := bif_some hk0
      have hb := bounds_run (P := P) (isSlice := false) (cap := s.size) (opd_rel h) h1 h2 hc (Nat.le_refl _)
      have hrun : (execOp a.eval o).run P w = .ok (.value (.string (s.extract l.toNat hh.toNat))) w := by
        simp [execOp, ho, e1, Instr.sliceAt, run_underlying hu, Instr.slice, hb]
      exact ⟨_, hk, eff_of_lay hrun (lay_p hd h (.v _))⟩
    · cases hk0
  · rename_i E es hu hx
    rw [hx] at hrx
    split at hk0
    · rename_i sz l hh hs h1 h2
      obtain ⟨hc, hk⟩ := bif_some hk0
      simp only [Bool.and_eq_true] at hc
      have hrx' : RP F w (.sh es) (a.eval x) := hrx
      have hcc := hc.2
      simp only [cutR, Bool.and_eq_true, decide_eq_true_eq] at hcc
      cases hv : a.eval x with
      | slice ad len cap =>
        rw [hv] at hrx'
        have hlen : len = es.length ∧ len ≤ cap := by cases hrx' with | sh _ _ _ _ e1 e2 _ => exact ⟨e1, e2⟩
        have hrun := runS E ad len cap l hh sz hu hs hv h1 (by rw [hlen.1]; exact h2) (by rw [hlen.1]; exact hc.2) hlen.2
        exact ⟨_, hk, eff_of_lay hrun (lay_p hd h (sh_slice hrx' hc.1 (by omega) (by omega)))⟩
      | _ => rw [hv] at hrx'; cases hrx'
    · cases hk0
  · rename_i E s cx T' es hu hx
    rw [hx] at hrx
    split at hk0
    · rename_i sz l hh hs h1 h2
      obtain ⟨hc, hk⟩ := bif_some hk0
      simp only [Bool.and_eq_true] at hc
      have hT := eqB hc.1
      subst hT
      have hcc := hc.2
      simp only [cutR, Bool.and_eq_true, decide_eq_true_eq] at hcc
      obtain ⟨F', Bs', r1, r2, r3, r4⟩ := freeze_pl h hrx
      have hhd : hdSz sz es = true := by
        have hpl := (h.place hrx).1
        cases es with
        | nil => rfl
        | cons e es =>
          cases hpl with
          | own q1 _ _ _ _ _ q7 =>
            have := (q7 e (by simp)).1
            simp [sizeT, q1] at hs
            simp only [hdSz]
            rw [this, hs]; exact beqT _
      cases hv : a.eval x with
      | slice ad len cap =>
        rw [hv] at r2
        have hlen : len = es.length ∧ len ≤ cap := by cases r2 with | sh _ _ _ _ e1 e2 _ => exact ⟨e1, e2⟩
        have hrun := runS T' ad len cap l hh sz hu hs hv h1 (by rw [hlen.1]; exact h2) (by rw [hlen.1]; exact hc.2) hlen.2
        exact ⟨_, hk, eff_of_lay hrun (lay_pure hd r1 (.p (sh_slice r2 hhd (by omega) (by omega))))⟩
      | _ => rw [hv] at r2; cases r2
    · cases hk0
  · rename_i E hu hx
    rw [hx] at hrx
    obtain ⟨hsz, hk0⟩ := bif_some hk0
    split at hk0
    · rename_i l hh h1 h2
      obtain ⟨hc, hk⟩ := bif_some hk0
      have hcc := hc
      simp only [cutR, Bool.and_eq_true, decide_eq_true_eq] at hcc
      have hv : a.eval x = .slice none 0 0 := hrx
      have hb := bounds_run (P := P) (isSlice := true) (len := 0) (cap := 0) (opd_rel h) h1 (by simpa using h2) hc (Nat.le_refl _)
      have el : l = 0 := by omega
      have eh : hh = 0 := by omega
      subst el; subst eh
      obtain ⟨n, hn⟩ := sizeE_some hsz
      have hrun : (execOp a.eval o).run P w = .ok (.value (.slice none 0 0)) w := by
        simp [execOp, ho, hv, Instr.sliceAt, run_underlying hu, Instr.slice, hb, run_sizeOf hn]
      exact ⟨_, hk, eff_of_lay hrun (lay_pure hd (by rw [upS_nil]; exact h) .nl)⟩
    · cases hk0
  · cases hk0
theorem foldl_push : ∀ (ns : List Int) (s : ByteArray), ns.foldl (fun r n => r.push (UInt8.ofNat n.toNat)) s = ⟨s.data ++ (ns.map fun n => UInt8.ofNat n.toNat).toArray⟩
  | [], s => by simp
  | n :: ns, s => by
    rw [List.foldl_cons, foldl_push ns]
    simp [ByteArray.push]
theorem u8_cells : ∀ {es : List PV} {xs : List Value}, RPs F w (flat es) xs → allU8 es = true → xs = (es.map fun e => match e with | .v (.int _ n) => n | _ => 0).map (Value.int .u8)
  | [], xs, h, _ => by
    have h' : RPs F w [] xs := h
    cases h'; rfl
  | e :: es, xs, h, ha => by
    simp only [allU8, Bool.and_eq_true] at ha
    obtain ⟨h1, h2⟩ := ha
    unfold isU8 at h1
    split at h1
    · rename_i n
      rw [flat_cons] at h
      have h' : RPs F w (.v (.int .u8 n) :: flat es) xs := h
      cases h' with
      | cons p q => rw [RP_v p, u8_cells q h2]; rfl
    · cases h1
theorem strOf_eq : ∀ {es : List PV}, allU8 es = true → (⟨((es.map fun e => match e with | .v (.int _ n) => n | _ => 0).map fun (n : Int) => UInt8.ofNat n.toNat).toArray⟩ : ByteArray) = strOf es := by
  intro es ha
  unfold strOf
  congr 2
  rw [List.map_map]
  apply List.map_congr_left
  intro e he
  induction es with
  | nil => simp at he
  | cons x es ih =>
    simp only [allU8, Bool.and_eq_true] at ha
    rcases List.mem_cons.1 he with rfl | he
    · have h1 := ha.1
      unfold isU8 at h1
      split at h1
      · rfl
      · cases h1
    · exact ih ha.2 he
theorem bytes_run {src dst : TypeId} {es : List PV} {c : Value} {e : TypeId} (hs : P.underlying src = some (.slice e)) (he : P.underlying e = some (.int .u8)) (hd : P.underlying dst = some .string)
    (h : RP F w (.sh es) c) (ha : allU8 es = true) : (convert src dst c).run P w = .ok (.string (strOf es)) w := by
  cases h with
  | sh h1 h2 h3 h4 h5 h6 h7 =>
    rename_i xs ad n cap sz
    rw [run_convert_bytes_string w src dst e ad n cap hs he hd]
    cases ad with
    | none =>
      have hes : es = [] := by
        rcases h4 with rfl | ⟨b, off, q, _⟩
        · have := h1.length
          rw [flat_length (fun e he => (h2 e he).1), List.length_nil] at this
          rcases Nat.mul_eq_zero.1 this with q | q
          · exact List.length_eq_zero_iff.1 q
          · omega
        · cases q
      subst hes
      simp [Conv.bytesToString, strOf]; rfl
    | some ad =>
      have hx := u8_cells h1 ha
      have hlen : xs.length = es.length := by rw [hx]; simp
      have hcells : ∀ j v, xs[j]? = some v → w.cell? (ad.add j) = some v := by
        intro j v hj
        rcases h4 with rfl | ⟨b, off, q, _, hc⟩
        · simp at hj
        · cases q; rw [addr_add]; exact hc j v hj
      have hl := run_loadCells_list (P := P) w ad xs hcells
      rw [hlen, ← h5, hx] at hl
      rw [run_bytesToString w ad n cap _ hl, foldl_push, ← strOf_eq ha]
      simp
theorem alloc_old (w : World) (o : Obj) (i : Nat) (h : i < w.heap.size) : (w.alloc o).heap[i]? = w.heap[i]? := by
  show (w.heap.push o)[i]? = w.heap[i]?
  rw [Array.getElem?_push, if_neg (Nat.ne_of_lt h)]
theorem Rel.grow {tm : Array Value} (h : Rel P G F Bs st tm w) {w' : World} {F' : Nat → Prop} (hw : ∀ b, b < w.heap.size → w'.heap[b]? = w.heap[b]?) (hz : w.heap.size ≤ w'.heap.size)
    (hos : w'.os = w.os ∧ w'.tape = w.tape ∧ w'.output = w.output) (hF : ∀ b, F b → F' b) (hF' : ∀ b, F' b → F b ∨ (w.heap.size ≤ b ∧ b < w'.heap.size)) : Rel P G F' Bs st tm w' := by
  refine ⟨h.sz, fun i => (h.sl i).mono hF fun b hb => ?_, h.nd, h.dj, fun i b hb hf => ?_, h.nw, fun i b hb => Nat.lt_of_lt_of_le (h.lt i b hb) hz, fun b hb => ?_, fun b hb => hF b (h.f0 b hb), fun b hb => ?_, ?_, ?_, h.pn⟩
  · exact hw b (hb.elim (h.fl b) (h.lt i b))
  · rcases hF' b hf with q | q
    · exact h.nf i b hb q
    · have := h.lt i b hb; omega
  · rcases hF' b hb with q | q
    · exact Nat.lt_of_lt_of_le (h.fl b q) hz
    · exact q.2
  · rcases hF' b hb with q | q
    · exact h.fn b q
    · exact .inr (.inl (Nat.le_trans h.kb.size q.1))
  · exact ⟨hos.1.trans h.kb.os, hos.2.1.trans h.kb.tape, hos.2.2.trans h.kb.output, Nat.le_trans h.kb.size hz, fun b hb hA => (hw b (Nat.lt_of_lt_of_le hb h.kb.size)).trans (h.kb.block b hb hA)⟩
  · intro t q hm
    have hok := h.rf t q hm
    have box : ∀ u T cs b, st.fr u = .bx T cs → tm.getD u undef = .pointer (some ⟨b, 0, none⟩) → w'.heap[b]? = w.heap[b]? := by
      intro u T cs b hu ht
      have hsl := h.sl u
      rw [hu, ht] at hsl
      exact hw b (h.lt u b hsl.bx_mem)
    cases q with
    | b u off => exact hok
    | o u j =>
      cases j with
      | none => exact hok
      | some j =>
        intro T cs b cur T' f hu ht hb
        rw [box u T cs b hu ht] at hb
        exact hok T cs b cur T' f hu ht hb
    | e u j T i off =>
      cases j with
      | none => exact hok
      | some j =>
        intro Tb cs b cur T' f hu ht hb
        rw [box u Tb cs b hu ht] at hb
        exact hok Tb cs b cur T' f hu ht hb
theorem bytesOf_cells (F : Nat → Prop) (w : World) : ∀ l : List UInt8, RPs F w (flat (l.map fun b => .v (.int .u8 b.toNat))) (l.map fun b => Value.int .u8 b.toNat)
  | [] => .nil
  | b :: l => .cons (.v _) (bytesOf_cells F w l)
theorem op_conv {o : Oper} {src dst : TypeId} {x : Operand} {K : Out → Option R} {env : Env} (hd : a.defers = []) (h : Rel P G F Bs st a.tmps w) (ho : o.op = .convert src dst x)
    (hk : opK P env (.convert src dst x) o.type (opd st) K = some res) : ∃ out, K out = some res ∧ Eff P G st a w o out := by
  have hrx := opd_rel h x
  simp only [opK, convK] at hk
  cases hkn : knownT P src with
  | false => rw [hkn] at hk; simp at hk
  | true =>
    rw [hkn] at hk
    simp only [Bool.not_true, cond_false] at hk
    obtain ⟨ds, hds⟩ := known hkn
    have run : ∀ v w', (convert src dst (a.eval x)).run P w = .ok v w' → (execOp a.eval o).run P w = .ok (.value v) w' := by
      intro v w' hv
      simp [execOp, ho, hv]
    have byt : ∀ es F' Bs' (us : List (Nat × SV)), Rel P G F' Bs' (st.upS us []) a.tmps w → RP F' w (.sh es) (a.eval x) → P.underlying dst = some .string → bytesK P src es (fun r => K r) = some res → us = [] →
        ∃ out, K out = some res ∧ Eff P G st a w o out := by
      intro es F' Bs' us hrel hre hdst hb hus
      subst hus
      rw [upS_nil] at hrel
      unfold bytesK at hb
      split at hb
      · rename_i e he
        split at hb
        · rename_i hu8
          obtain ⟨hall, hb⟩ := bif_some hb
          exact ⟨_, hb, eff_of_lay (run _ _ (bytes_run (elemT_eq he) hu8 hdst hre hall)) (lay_p hd h (.v _))⟩
        · cases hb
      · cases hb
    split at hk
    · rename_i k n hu hx hi
      rw [hi] at hrx
      have e1 := RP_v hrx
      refine ⟨_, hk, eff_of_lay (run _ _ ?_) (lay_p hd h (.v _))⟩
      rw [e1]
      cases ds <;> simp [convert, run_underlying hds, run_underlying hx, Conv.intToInt]
    · rename_i s hu hx
      rw [hx] at hrx
      have e1 := RP_v hrx
      refine ⟨_, hk, eff_of_lay (run _ _ ?_) (lay_p hd h (.v _))⟩
      rw [e1]
      cases ds <;> simp [convert, run_underlying hds, run_underlying hu]
    · rename_i es hu hx
      rw [hx] at hrx
      exact byt es F Bs [] (by rw [upS_nil]; exact h) hrx hu hk rfl
    · rename_i s cx T es hu hx
      rw [hx] at hrx
      have hpl := h.place hrx
      have hfz : RP (fun b => F b ∨ b ∈ blk (a.eval x)) w (.sh es) (a.eval x) := hpl.1.frozen (fun _ q => .inl q) (fun _ q => .inr q)
      unfold bytesK at hk
      split at hk
      · rename_i e he
        split at hk
        · rename_i hu8
          obtain ⟨hall, hb⟩ := bif_some hk
          exact ⟨_, hb, eff_of_lay (run _ _ (bytes_run (elemT_eq he) hu8 hu hfz hall)) (lay_p hd h (.v _))⟩
        · cases hk
      · cases hk
    · rename_i hu hx
      rw [hx] at hrx
      have hv : a.eval x = .slice none 0 0 := hrx
      exact byt [] F Bs [] (by rw [upS_nil]; exact h) (by rw [hv]; exact RP_nil F w) hu hk rfl
    · rename_i s hu hx
      rw [hx] at hrx
      have e1 := RP_v hrx
      rename_i E hdu _
      obtain ⟨hc, hk⟩ := bif_some hk
      simp only [Bool.and_eq_true] at hc
      obtain ⟨⟨c1, c2⟩, c3⟩ := hc
      have hsrc : P.underlying src = some .string := by
        unfold isStr at c1
        split at c1
        · assumption
        · cases c1
      unfold isU8s at c2
      split at c2
      · rename_i e he
        split at c2
        · rename_i hu8
          have hrun := run_bytes_of_string (P := P) w src dst e s hsrc (elemT_eq he) hu8
          simp only [lenOK, Bool.and_eq_true, decide_eq_true_eq] at c3
          have hsz : s.size ≤ maxLen := by simp only [maxLen]; omega
          have hge := grownCap_ge w s.size 0 e
          have hle := grownCap_le_maxLen w s.size 0 e hsz
          obtain ⟨O, hO⟩ : ∃ O, O = Obj.cells (bytesRow s (grownCap w s.size 0 e)) e ((bytesRow s (grownCap w s.size 0 e)).size, (bytesRow s (grownCap w s.size 0 e)).size + 1) := ⟨_, rfl⟩
          rw [← hO] at hrun
          have hnew : (w.drew.alloc O).heap[w.heap.size]? = some O := heap_alloc_new w.drew O
          have hold : ∀ b, b < w.heap.size → (w.drew.alloc O).heap[b]? = w.heap[b]? := fun b hb => alloc_old w.drew O b hb
          obtain ⟨w1, hW⟩ : ∃ w1, w1 = w.drew.alloc O := ⟨_, rfl⟩
          rw [← hW] at hrun hnew hold
          have hsz1 : w1.heap.size = w.heap.size + 1 := by rw [hW]; simp
          have hgrow := h.grow (w' := w1) (F' := fun b => F b ∨ b = w.heap.size) (fun b hb => hold b hb) (by omega) (by rw [hW]; exact ⟨rfl, rfl, rfl⟩) (fun _ q => .inl q)
            (fun b q => q.imp id fun q => by omega)
          have hlen : (bytesOf s).length = s.size := by simp [bytesOf]
          have hre : RP (fun b => F b ∨ b = w.heap.size) w1 (.sh (bytesOf s)) (.slice (some ⟨w.heap.size, 0, none⟩) s.size (grownCap w s.size 0 e)) := by
            refine .sh (sz := 1) (bytesOf_cells _ _ s.data.toList) (fun x hx => ?_) (by decide) (.inr ⟨w.heap.size, 0, rfl, .inr rfl, fun j v hj => ?_⟩) hlen.symm hge hle
            · simp only [bytesOf, List.mem_map] at hx
              obtain ⟨b, _, rfl⟩ := hx
              exact ⟨rfl, rfl⟩
            · rw [Nat.zero_add]
              have hc : w1.cell? ⟨w.heap.size, j, none⟩ = (bytesRow s (grownCap w s.size 0 e))[j]? := by
                rw [hO] at hnew
                rw [cell_of_row w1 w.heap.size j _ _ _ hnew]
              rw [hc]
              have hjl := lt_of_get hj
              simp only [bytesRow]
              rw [Array.getElem?_append_left (by simpa using hjl)]
              simpa using hj
          exact ⟨_, hk, fun hf => ⟨_, w1, .inl (run _ _ (by rw [e1]; exact hrun)), lay_p hd hgrow hre hf⟩⟩
        · cases c2
      · cases c2
    · cases hk
theorem op_makeFunc {o : Oper} {f : FuncId} {first caps : Array Operand} {K : Out → Option R} {env : Env} (hd : a.defers = []) (h : Rel P G F Bs st a.tmps w) (ho : o.op = .makeFunc (.func f) first caps)
    (hk : opK P env (.makeFunc (.func f) first caps) o.type (opd st) K = some res) : ∃ out, K out = some res ∧ Eff P G st a w o out := by
  simp only [opK] at hk
  split at hk
  · rename_i ys us hfi hv
    obtain ⟨hdi, hk⟩ := bif_some hk
    have hfirst : first = #[] := by
      cases first with
      | mk l => simp at hfi; rw [hfi]
    obtain ⟨F', Bs', r1, r2, r3, r4⟩ := valsOf_rel (vs := caps.toList.map a.eval) h (fun j q hj => by
      rw [List.getElem?_map] at hj
      cases hc : caps.toList[j]? with
      | none => rw [hc] at hj; cases hj
      | some y =>
        rw [hc] at hj
        simp only [Option.map_some, Option.some.injEq] at hj
        subst hj
        exact ⟨a.eval y, by rw [List.getElem?_map, hc]; rfl, opd_rel h y⟩) (by simp) hv hdi
    have hrun : (execOp a.eval o).run P w = .ok (.value (.func (.func f) #[] (caps.toList.map a.eval).toArray)) w := by
      have e : caps.map a.eval = (caps.toList.map a.eval).toArray := by apply Array.ext'; simp
      simp only [execOp, ho, hfirst, Instr.makeFunc, Sem.run_bind, Sem.run_pure, Result.andThen_ok, e]
      have e0 : Array.map a.eval #[] = #[] := by simp
      rw [e0]
    exact ⟨_, hk, eff_of_lay hrun (lay_pure hd r1 (.p (.clo r2)))⟩
  · cases hk
end
end Go.Proofs.YtfbahcfojiaeaaaGreatDoor.Th
