/- Proved: what the evaluator of pure values says of a function's code, its calls keep (part 1; no further conditions). -/
import Derived.WalkKit
import Derived.Laws.AppendOwn
import Derived.Laws.OwnMore
import Derived.Laws.MakeOwn
import Derived.Laws.Tables
import Derived.Orders
import Derived.LoopN
import Derived.KernelRfl
import Derived.Lib.FrozenHead
set_option linter.unusedVariables false
namespace Go.Proofs.YtmgfmlhdnadglaaGreatDoor.Th
open Go
inductive PV where
 | v (x:Value)
 | sh (es:List PV)
 | agg (cs:List PV)
 | clo (f:FuncId) (caps:List PV)
 | fb (cs:List PV)
 deriving Inhabited
def cellsOf:PV→List PV
 | .agg cs=>cs
 | x=>[x]
def PV.leaf:PV→Bool
 | .v x=>x.oneCell'
 | .agg _=>false
 | _=>true
def Jan:List PV→Bool
 | []=>true
 | x::r=>x.leaf&&Jan r
inductive SV where
 | dead
 | nl
 | p (x:PV)
 | own (T:TypeId) (es:List PV)
 | bx (T:TypeId) (cs:List SV)
 | tup (l:List SV)
 | ob (T e:TypeId) (bs:ByteArray)
 | st (cs:List SV)
 deriving Inhabited
inductive Ref where
 | o (s:Nat) (j:Option Nat)
 | b (s off:Nat)
 | e (s:Nat) (j:Option Nat) (T:TypeId) (i off:Nat)
def Ref.root:Ref→Nat
 | .o s _=>s
 | .b s _=>s
 | .e s _ _ _ _=>s
def Ref.cell:Ref→Bool
 | .o _ (some _)=>true
 | .e _ (some _) _ _ _=>true
 | _=>false
inductive RV where
 | bad
 | nl
 | pv (x:PV)
 | own (s:Nat) (cx:Option (Nat × TypeId × List SV)) (T:TypeId) (es:List PV)
 | box (s off:Nat) (T:TypeId) (cs:List SV)
 | el (s:Nat) (cx:Option (Nat × TypeId × List SV)) (T:TypeId) (es:List PV) (i off:Nat)
 | tup (s:Nat) (l:List SV)
 | ob (s:Nat) (T e:TypeId) (bs:ByteArray)
 | st (s:Nat) (cs:List SV)
abbrev Fr:=Nat→SV
structure St where
 fr:Fr
 ral:List (Nat × Ref)
def Jax:List (Nat × Ref)→Nat→Option Ref
 | [],_=>none
 | (u,r)::l,t=>bif Nat.beq u t then some r else Jax l t
def JjP (s:Nat) (cx:Option (Nat × TypeId × List SV)):SV→RV
 | .own T es=>.own s cx T es
 | .p x=>.pv x
 | .nl=>.nl
 | _=>.bad
def JkO (s:Nat) (cx:Option (Nat × TypeId × List SV)) (T:TypeId) (i off:Nat):SV→RV
 | .own T' es=>bif Nat.beq T' T then .el s cx T es i off else .bad
 | _=>.bad
def Jex (fr:Fr):Ref→RV
 | .o s none=>JjP s none (fr s)
 | .o s (some j)=>match fr s with
  | .bx T cs=>JjP s (some (j,T,cs)) (cs.getD j .dead)
  | _=>.bad
 | .b s off=>match fr s with
  | .bx T cs=>.box s off T cs
  | .ob T e bs=>bif Nat.beq off 0 then .ob s T e bs else .bad
  | _=>.bad
 | .e s none T i off=>JkO s none T i off (fr s)
 | .e s (some j) T i off=>match fr s with
  | .bx Tb cs=>JkO s (some (j,Tb,cs)) T i off (cs.getD j .dead)
  | _=>.bad
def JkG (t:Nat):SV→RV
 | .dead=>.bad
 | .nl=>.nl
 | .p x=>.pv x
 | .own T es=>.own t none T es
 | .bx T cs=>.box t 0 T cs
 | .tup l=>.tup t l
 | .ob T e bs=>.ob t T e bs
 | .st cs=>.st t cs
def look (st:St) (t:Nat):RV :=
 match Jax st.ral t with
 | some r=>Jex st.fr r
 | none=>JkG t (st.fr t)
def cpv:Value→PV
 | .slice none 0 0=>.sh []
 | x=>.v x
def Jhb:Value→RV
 | .slice none 0 0=>.nl
 | .agg cs=>bif Jan (cs.toList.map cpv) then .pv (.agg (cs.toList.map cpv)) else .bad
 | x=>.pv (.v x)
def opd (st:St):Operand→RV
 | .tmp t=>look st t
 | .const x=>Jhb x
 | .func f=>.pv (.v (.func (.func f) #[] #[]))
 | .global _=>.bad
structure Out where
 dst:SV
 ref:Option Ref
 upd:List (Nat × SV)
 drop:List Nat
def JdU (fr:Fr) (i:Nat) (x:SV):Fr:=fun j=>bif Nat.beq j i then x else fr j
def JaA (fr:Fr):List (Nat × SV)→Fr
 | []=>fr
 | (i,x)::l=>JaA (JdU fr i x) l
def Jbf (l:List Nat) (s:Nat):Bool :=
 match l with
 | []=>false
 | x::r=>bif Nat.beq x s then true else Jbf r s
def Jaj (d:Option Nat) (drop:List Nat) (t:Nat) (r:Ref):Bool :=
 (match d with | some d=>!(Nat.beq t d)&&!(Nat.beq r.root d) | none=>true)&&!(r.cell&&Jbf drop r.root)
def Jae (d:Option Nat) (drop:List Nat):List (Nat × Ref)→List (Nat × Ref)
 | []=>[]
 | (t,r)::l=>bif Jaj d drop t r then (t,r)::Jae d drop l else Jae d drop l
def St.put (st:St) (d:Option Nat) (o:Out):St :=
 { fr:=match d with
    | some d=>JdU (JaA st.fr o.upd) d o.dst
    | none=>JaA st.fr o.upd
   ral:=match d,o.ref with
    | some d,some r=>(d,r)::Jae (some d) o.drop st.ral
    | d,_=>Jae d o.drop st.ral }
def Out.fits (N:Nat × List Nat) (d:Option Nat) (o:Out):Bool :=
 match d with
 | some d=>Nat.blt d N.1&&!(Jbf N.2 d)&&(match o.ref with | some r=>!(Nat.beq r.root d) | none=>true)
 | none=>(match o.ref with | some _=>false | none=>true)
def Jaz (s:Nat) (cx:Option (Nat × TypeId × List SV)) (x:SV):Nat × SV :=
 match cx with
 | none=>(s,x)
 | some (j,T,cs)=>(s,.bx T (cs.set j x))
variable {R:Type}
def Jea:IntKind→IntKind→Bool
 | .i8,.i8 | .i16,.i16 | .i32,.i32 | .i64,.i64 | .u8,.u8 | .u16,.u16 | .u32,.u32 | .u64,.u64=>true
 | _,_=>false
def Ji9 (k:IntKind) (e:PV) (K:Int→Option R):Option R :=
 match e with
 | .v (.int k' x)=>bif Jea k k' then K x else none
 | _=>none
def Jj1 (e:PV) (K:Bool→Option R):Option R :=
 match e with
 | .v (.bool x)=>K x
 | _=>none
def Jj2 (e:PV) (K:ByteArray→Option R):Option R :=
 match e with
 | .v (.string x)=>K x
 | _=>none
def Jkq (e:PV) (K:List PV→Option R):Option R :=
 match e with
 | .sh x=>K x
 | _=>none
def Jh1 (e:PV) (K:List PV→Option R):Option R :=
 match e with
 | .agg x=>K x
 | _=>none
def JdT (cs:List PV) (K:PV→List PV→Option R):Option R :=
 match cs with
 | x::r=>K x r
 | []=>none
def Ji1 (cs:List PV) (K:Option R):Option R :=
 match cs with
 | []=>K
 | _=>none
inductive CK where
 | i (k:IntKind) | b | s | sl | o
def Jha (c:CK) (e:PV) (K:PV→Option R):Option R :=
 match c with
 | .i k=>Ji9 k e fun x=>K (.v (.int k x))
 | .b=>Jj1 e fun x=>K (.v (.bool x))
 | .s=>Jj2 e fun x=>K (.v (.string x))
 | .sl=>Jkq e fun x=>K (.sh x)
 | .o=>bif e.leaf then K e else none
def Jd6:List CK→List PV→(List PV→Option R)→Option R
 | [],cs,K=>Ji1 cs (K [])
 | c::r,cs,K=>JdT cs fun e cs=>Jha c e fun y=>Jd6 r cs fun ys=>K (y::ys)
def JkN (ag:Bool) (ks:List CK) (e:PV) (K:List PV→Option R):Option R :=
 match ag with
 | true=>Jh1 e fun cs=>Jd6 ks cs K
 | false=>match ks with
  | [c]=>Jha c e fun y=>K [y]
  | _=>none
def Jai (P:Program) (T:TypeId):Bool :=
 match P.underlying T with
 | some (.struct _)=>true
 | some (.array _ _)=>true
 | _=>false
def JaH (P:Program) (T:TypeId):Bool :=
 match P.underlying T with
 | some _=>true
 | none=>false
def cks (P:Program):Nat→TypeId→List CK
 | 0,_=>[]
 | n + 1,T =>
  match P.underlying T with
  | some (.int k)=>[.i k]
  | some .bool=>[.b]
  | some .string=>[.s]
  | some (.slice _)=>[.sl]
  | some (.struct fs)=>fs.toList.flatMap fun f=>cks P n f.type
  | some (.array m e)=>(List.replicate m (cks P n e)).flatten
  | _=>[.o]
def Jgl (P:Program) (T:TypeId) (e:PV) (K:List PV→Option R):Option R :=
 JkN (Jai P T) (cks P 20 T) e K
def mkE (ag:Bool) (ys:List PV):PV :=
 match ag with
 | true=>.agg ys
 | false=>ys.headD (.v (.bool false))
def Jal (P:Program) (T:TypeId):Option Nat:=(P.info? T).map (·.size)
def Jiz (P:Program) (S:TypeId) (f:Nat):Option (Nat × TypeId) :=
 match P.underlying S with
 | some (.struct fs)=>(fs[f]?).map fun x=>(x.offset,x.type)
 | _=>none
def Jbe (P:Program) (T:TypeId):Option TypeId :=
 match P.underlying T with
 | some (.slice e)=>some e
 | _=>none
def frz:SV→Option PV
 | .p x=>some x
 | .nl=>some (.sh [])
 | .own _ es=>some (.sh es)
 | _=>none
def Jdu:List SV→Option (List PV)
 | []=>some []
 | x::r=>match frz x,Jdu r with
  | some y,some ys=>some (y::ys)
  | _,_=>none
def Jch:List SV→Bool
 | []=>false
 | .own _ _::_=>true
 | _::r=>Jch r
def splice (cs:List SV) (off:Nat) (ys:List PV):List SV:=cs.take off++ys.map .p++cs.drop (off + ys.length)
def Jaw (cs:List PV) (off:Nat) (ys:List PV):List PV:=cs.take off++ys++cs.drop (off + ys.length)
def zsv:Value→SV
 | .slice none 0 0=>.nl
 | x=>.p (.v x)
def JcG (P:Program) (T:TypeId):Option (List Value) :=
 match P.info? T with
 | some i=>match i.zero with
  | some z=>bif Nat.beq z.cells.size i.size then some z.cells.toList else none
  | none=>none
 | none=>none
def JaW:List Value→Bool
 | []=>true
 | x::r=>x.oneCell'&&JaW r
def Je4 (P:Program) (T:TypeId):Option PV :=
 match JcG P T with
 | some zs=>bif JaW zs&&Nat.blt 0 zs.length&&(Jai P T||Nat.beq zs.length 1) then some (mkE (Jai P T) (zs.map cpv)) else none
 | none=>none
def Jfl (op:BinOp) (k:IntKind) (a b:Int):Int :=
 match op with
 | .and=>k.wrap (BitVec.ofInt k.bits a &&& BitVec.ofInt k.bits b).toNat
 | .or=>k.wrap (BitVec.ofInt k.bits a ||| BitVec.ofInt k.bits b).toNat
 | .xor=>k.wrap (BitVec.ofInt k.bits a ^^^ BitVec.ofInt k.bits b).toNat
 | _=>k.wrap (BitVec.ofInt k.bits a &&& ~~~(BitVec.ofInt k.bits b)).toNat
def Jka (op:BinOp) (k:IntKind) (a b:Int) (K:PV→Option R):Option R :=
 match op with
 | .add=>K (.v (.int k (k.wrap (a + b))))
 | .sub=>K (.v (.int k (k.wrap (a - b))))
 | .mul=>K (.v (.int k (k.wrap (a * b))))
 | .quo=>bif decide (b=0) then none else K (.v (.int k (k.wrap (a.tdiv b))))
 | .rem=>bif decide (b=0) then none else K (.v (.int k (a.tmod b)))
 | .and=>K (.v (.int k (Jfl .and k a b)))
 | .or=>K (.v (.int k (Jfl .or k a b)))
 | .xor=>K (.v (.int k (Jfl .xor k a b)))
 | .andNot=>K (.v (.int k (Jfl .andNot k a b)))
 | .eql=>K (.v (.bool (a == b)))
 | .neq=>K (.v (.bool (a != b)))
 | .lss=>K (.v (.bool (decide (a<b))))
 | .leq=>K (.v (.bool (decide (a≤b))))
 | .gtr=>K (.v (.bool (decide (a>b))))
 | .geq=>K (.v (.bool (decide (a≥b))))
 | _=>none
def leN:Nat→Nat→Bool
 | 0,_=>true
 | n + 1,m=>match m with
  | 0=>false
  | m + 1=>leN n m
def JjZ (a b:ByteArray) (K:ByteArray→Option R):Option R :=
 bif leN (a.size + b.size) 9223372036854775807 then K (a++b) else none
def eqS (a b:ByteArray):Bool:=a.data.toList == b.data.toList
def ltS (a b:ByteArray):Bool:=Op.bytesLess a.data.toList b.data.toList
def Jkb (op:BinOp) (a b:ByteArray) (K:PV→Option R):Option R :=
 match op with
 | .add=>JjZ a b fun c=>K (.v (.string c))
 | .eql=>K (.v (.bool (eqS a b)))
 | .neq=>K (.v (.bool (!eqS a b)))
 | .lss=>K (.v (.bool (ltS a b)))
 | .leq=>K (.v (.bool (ltS a b||eqS a b)))
 | .gtr=>K (.v (.bool (!(ltS a b||eqS a b))))
 | .geq=>K (.v (.bool (!ltS a b)))
 | _=>none
def shI (op:BinOp) (k:IntKind) (a b:Int) (K:PV→Option R):Option R :=
 match op with
 | .shl=>bif decide (b<0) then none else K (.v (.int k (k.wrap (a * 2 ^ (min b.toNat k.bits)))))
 | .shr=>bif decide (b<0) then none else K (.v (.int k (a.fdiv (2 ^ (min b.toNat k.bits)))))
 | _=>none
def Jde:BinOp→Bool
 | .shl=>true
 | .shr=>true
 | _=>false
def Jic (P:Program) (T:TypeId):Bool :=
 match P.underlying T with
 | some .bool=>true
 | _=>false
def JfS:PV→PV→Bool
 | .v (.int _ a),.v (.int _ b)=>a == b
 | .v (.string a),.v (.string b)=>eqS a b
 | .v (.bool a),.v (.bool b)=>a == b
 | _,_=>false
def Jbz:List PV→List PV→Bool
 | x::xs,y::ys=>JfS x y&&Jbz xs ys
 | _,_=>true
def JdH (P:Program):Nat→List Field→Bool
 | _,[]=>true
 | o,f::l=>Nat.beq f.offset o&&!(f.name == "_")&&(match P.underlying f.type with
  | some (.int _)=>true
  | some .string=>true
  | some .bool=>true
  | _=>false)&&JdH P (o + 1) l
def eqT (P:Program) (T:TypeId):Bool :=
 match P.underlying T with
 | some (.struct fs)=>JdH P 0 fs.toList&&!(P.stoodInHeld T)&&!(P.eqGuardType P.depth T)
 | _=>false
def eqO (op:BinOp) (b:Bool) (K:PV→Option R):Option R :=
 match op with
 | .eql=>K (.v (.bool b))
 | .neq=>K (.v (.bool (!b)))
 | _=>none
def JkM (P:Program) (op:BinOp) (T:TypeId) (x y:PV) (K:PV→Option R):Option R :=
 match x,y with
 | .v (.int k a),.v (.int k' b)=>bif Jde op then shI op k a b K else bif Jea k k' then Jka op k a b K else none
 | .v (.string a),.v (.string b)=>Jkb op a b K
 | .agg xa,.agg bs=>bif eqT P T then Jd6 (cks P 20 T) xa fun xs=>Jd6 (cks P 20 T) bs fun ys=>eqO op (Jbz xs ys) K else none
 | .v (.bool a),.v (.bool b)=>bif Jic P T then (match op with
  | .eql=>K (.v (.bool (a == b)))
  | .neq=>K (.v (.bool (!(a == b))))
  | _=>none) else none
 | _,_=>none
def Jc6 (s:ByteArray) (i:Int):Int:=((s.data.toList.getD i.toNat 0).toNat:Int)
def Jk4:PV→Bool
 | .v (.int .u8 _)=>true
 | _=>false
def u8n:PV→UInt8
 | .v (.int .u8 n)=>UInt8.ofNat n.toNat
 | _=>0
def Jeo:List PV→Bool
 | []=>true
 | x::r=>Jk4 x&&Jeo r
def JgH (es:List PV):ByteArray:=⟨(es.map u8n).toArray⟩
def Jcw (s:ByteArray):List PV:=s.data.toList.map fun b=>.v (.int .u8 b.toNat)
structure FS where
 om:List Bool
 run:{R:Type}→List SV→(List SV→Option R)→Option R
abbrev Env:=Nat→Option FS
def Jbn (m:Bool):RV→Option (SV × List (Nat × SV) × List Nat)
 | .pv x=>some (.p x,[],[])
 | .nl=>bif m then some (.nl,[],[]) else some (.p (.sh []),[],[])
 | .own s cx T es=>bif m then some (.own T es,[Jaz s cx .dead],[]) else some (.p (.sh es),[Jaz s cx (.p (.sh es))],[])
 | .box s off T cs=>bif m then (bif Nat.beq off 0 then some (.bx T cs,[],[s]) else none)
  else match Jdu cs with
   | some ys=>some (.p (.fb (ys.drop off)),[(s,.p (.fb ys))],[])
   | none=>none
 | .ob s T e bs=>bif m then some (.ob T e bs,[],[s]) else none
 | .st s cs=>bif m then none else match Jdu cs with
  | some ys=>some (.p (.agg ys),[(s,.p (.agg ys))],[])
  | none=>none
 | _=>none
def JbL:List Bool→List RV→Option (List SV × List (Nat × SV) × List Nat)
 | _,[]=>some ([],[],[])
 | ms,r::rs=>match Jbn (ms.headD false) r,JbL ms.tail rs with
  | some (a,u,b),some (avs,us,bs)=>some (a::avs,u++us,b++bs)
  | _,_=>none
def Jap:List Nat→Bool
 | []=>true
 | x::r=>!(Jbf r x)&&Jap r
def Ji0:List SV→SV
 | [x]=>x
 | l=>.tup l
def JgR:List Nat→List SV→List (Nat × SV)
 | s::ss,x::xs=>(s,x)::JgR ss xs
 | _,_=>[]
def Jgj (fs:FS) (args:List RV) (K:Out→Option R):Option R :=
 match JbL fs.om args with
 | some (avs,us,bs) =>
  bif Jap (us.map (·.1)++bs) then
   fs.run avs fun res =>
    let n:=res.length - bs.length
    K ⟨Ji0 (res.take n),none,us++JgR bs (res.drop n),bs⟩
  else none
 | none=>none
def Jbv (r:RV) (K:Out→Option R):Option R :=
 match r with
 | .pv y=>K ⟨.p y,none,[],[]⟩
 | .nl=>K ⟨.nl,none,[],[]⟩
 | .own s cx _ _=>K ⟨.dead,some (.o s (cx.map (·.1))),[],[]⟩
 | .box s off _ _=>K ⟨.dead,some (.b s off),[],[]⟩
 | .ob s _ _ _=>K ⟨.dead,some (.b s 0),[],[]⟩
 | .el s cx T _ i off=>K ⟨.dead,some (.e s (cx.map (·.1)) T i off),[],[]⟩
 | .tup s l=>K ⟨.tup l,none,[(s,.dead)],[]⟩
 | .st s l=>K ⟨.st l,none,[(s,.dead)],[]⟩
 | .bad=>none
def JeE (x:Operand) (s:Nat):Bool :=
 match x with
 | .tmp t=>Nat.beq t s
 | _=>false
def JaP (x:Operand) (s:Nat) (cx:Option (Nat × TypeId × List SV)):Bool :=
 match cx with
 | none=>JeE x s
 | some _=>false
def JbJ (x:Operand) (r:RV):Option (PV × List (Nat × SV)) :=
 match r with
 | .pv y=>some (y,[])
 | .nl=>some (.sh [],[])
 | .own s cx _ es=>some (.sh es,[Jaz s cx (.p (.sh es))])
 | .box s off _ cs=>match Jdu cs with
  | some ys=>some (.fb (ys.drop off),[(s,.p (.fb ys))])
  | none=>none
 | .st s cs=>match Jdu cs with
  | some ys=>some (.agg ys,[(s,.p (.agg ys))])
  | none=>none
 | _=>none
def JaS:List (Operand × RV)→Option (List PV × List (Nat × SV))
 | []=>some ([],[])
 | (x,r)::l=>match JbJ x r,JaS l with
  | some (y,u),some (ys,us)=>some (y::ys,u++us)
  | _,_=>none
def Jdx (P:Program) (S:TypeId):List (Nat × PV)→List PV→Option (List PV)
 | [],cs=>some cs
 | (f,y)::l,cs=>match Jiz P S f with
  | some (o,T)=>match Jal P T with
   | some n=>bif Nat.beq (cellsOf y).length n&&Nat.ble (o + n) cs.length&&Jan (cellsOf y) then Jdx P S l (Jaw cs o (cellsOf y)) else none
   | none=>none
  | none=>none
def Jdq:List (Nat × PV)→List PV→List PV
 | [],es=>es
 | (i,y)::l,es=>Jdq l (es.set i y)
def Jdl (n:Nat) (len:Nat):List (Nat × PV)→Bool
 | []=>true
 | (i,y)::l=>Nat.blt i len&&Nat.beq (cellsOf y).length n&&Jan (cellsOf y)&&Jdl n len l
def inR (i:Int) (n:Nat):Bool:=decide (0≤i)&&decide (i<(n:Int))
def Je5 (lo hi:Int) (n:Nat):Bool:=decide (0≤lo)&&decide (lo≤hi)&&decide (hi≤(n:Int))
def Jas (x:Option RV) (dflt:Int):Option Int :=
 match x with
 | none=>some dflt
 | some (.pv (.v (.int _ n)))=>some n
 | _=>none
def Jbu (n bytes:Nat):Bool:=decide (n * bytes≤140737488355328)&&decide (n≤140737488355328)
def Jgw (n:Nat):List PV→Bool
 | []=>true
 | e::_=>Nat.beq (cellsOf e).length n
def Je (P:Program) (T:TypeId):Bool :=
 match Jal P T with
 | some _=>true
 | none=>false
def Ja9 (P:Program) (T:TypeId):Bool :=
 match JcG P T with
 | some _=>true
 | none=>false
def Jh6 (P:Program) (T:TypeId):Bool :=
 match Jal P T with
 | some n=>Nat.blt 0 n
 | none=>false
def Jb8 (P:Program):List Field→Bool
 | []=>true
 | f::l=>(match P.info? f.type with | some _=>true | none=>false)&&Jb8 P l
def JcJ (P:Program) (T:TypeId):Option Nat:=(P.info? T).map (·.bytes)
def out (x:SV):Out:=⟨x,none,[],[]⟩
def JaM (x:PV):Out:=⟨.p x,none,[],[]⟩
def JiP (r:Ref):Out:=⟨.dead,some r,[],[]⟩
def JdM (P:Program) (r:RV) (K:Out→Option R):Option R :=
 match r with
 | .box s off _ cs=>bif Nat.blt off cs.length then (match cs.getD off .dead with
  | .p y=>K (JaM y)
  | .nl=>K (out .nl)
  | .own _ _=>K (JiP (.o s (some off)))
  | _=>none) else none
 | .el _ _ T' es i off=>Jgl P T' (es.getD i (.v (.bool false))) fun ys=>bif Nat.blt off ys.length then K (JaM (ys.getD off (.v (.bool false)))) else none
 | .pv (.fb cs)=>JdT cs fun y _=>K (JaM y)
 | _=>none
def JdN (P:Program) (n:Nat) (r:RV) (K:Out→Option R):Option R :=
 match r with
 | .box s off Tb cs=>bif Nat.ble (off + n) cs.length then (match Jdu ((cs.drop off).take n) with
  | some ys=>K ⟨.p (.agg ys),none,(bif Jch ((cs.drop off).take n) then [(s,.bx Tb (splice cs off ys))] else []),[]⟩
  | none=>none) else none
 | .el _ _ T' es i off=>Jgl P T' (es.getD i (.v (.bool false))) fun ys=>bif Nat.ble (off + n) ys.length then K (JaM (.agg ((ys.drop off).take n))) else none
 | .pv (.fb cs)=>bif Nat.ble n cs.length then K (JaM (.agg (cs.take n))) else none
 | _=>none
def Jei (P:Program) (r:RV) (x:Operand) (y:RV) (K:Out→Option R):Option R :=
 match r with
 | .box s off Tb cs=>bif Nat.blt off cs.length then (match y with
  | .pv z=>bif z.leaf then K ⟨.dead,none,[(s,.bx Tb (cs.set off (.p z)))],[s]⟩ else none
  | .nl=>K ⟨.dead,none,[(s,.bx Tb (cs.set off .nl))],[s]⟩
  | .own s2 cx2 T2 es2=>bif Nat.beq s2 s then none else bif JaP x s2 cx2
   then K ⟨.dead,none,[(s,.bx Tb (cs.set off (.own T2 es2))),(s2,.dead)],[s]⟩
   else K ⟨.dead,none,[(s,.bx Tb (cs.set off (.p (.sh es2)))),Jaz s2 cx2 (.p (.sh es2))],[s]⟩
  | _=>none) else none
 | .el s cx T' es i off=>match y with
  | .pv z=>bif z.leaf then Jgl P T' (es.getD i (.v (.bool false))) (fun ys=>bif Nat.blt off ys.length
   then K ⟨.dead,none,[Jaz s cx (.own T' (es.set i (mkE (Jai P T') (ys.set off z))))],[]⟩ else none) else none
  | .nl=>Jgl P T' (es.getD i (.v (.bool false))) fun ys=>bif Nat.blt off ys.length
   then K ⟨.dead,none,[Jaz s cx (.own T' (es.set i (mkE (Jai P T') (ys.set off (.sh [])))))],[]⟩ else none
  | .own s2 cx2 _ es2=>bif Nat.beq s2 s then none else Jgl P T' (es.getD i (.v (.bool false))) fun ys=>bif Nat.blt off ys.length
   then K ⟨.dead,none,[Jaz s cx (.own T' (es.set i (mkE (Jai P T') (ys.set off (.sh es2))))),Jaz s2 cx2 (.p (.sh es2))],[]⟩ else none
  | _=>none
 | _=>none
def Jej (P:Program) (n:Nat) (r:RV) (y:RV) (K:Out→Option R):Option R :=
 match y with
 | .pv (.agg zs)=>bif Nat.beq zs.length n&&Jan zs then (match r with
  | .box s off Tb cs=>bif Nat.ble (off + n) cs.length then K ⟨.dead,none,[(s,.bx Tb (splice cs off zs))],[s]⟩ else none
  | .el s cx T' es i off=>Jgl P T' (es.getD i (.v (.bool false))) fun ys=>bif Nat.ble (off + n) ys.length
   then K ⟨.dead,none,[Jaz s cx (.own T' (es.set i (mkE (Jai P T') (Jaw ys off zs))))],[]⟩ else none
  | _=>none) else none
 | .st s2 ds=>bif Nat.beq ds.length n then (match r with
  | .box s off Tb cs=>bif !(Nat.beq s2 s)&&Nat.ble (off + n) cs.length then K ⟨.dead,none,[(s,.bx Tb (cs.take off++ds++cs.drop (off + n))),(s2,.dead)],[s]⟩ else none
  | _=>none) else none
 | _=>none
def JgI (n:Nat) (r:RV) (K:Out→Option R):Option R :=
 match r with
 | .box s off Tb cs=>bif Nat.ble (off + n) cs.length then K ⟨.st ((cs.drop off).take n),none,[(s,.bx Tb (cs.take off++List.replicate n .dead++cs.drop (off + n)))],[]⟩ else none
 | _=>none
def psv:PV→SV
 | .v (.slice none 0 0)=>.nl
 | x=>.p x
def Jc4 (P:Program) (T:TypeId) (fs:List Nat) (vs:Option (List PV × List (Nat × SV))) (K:Out→Option R):Option R :=
 match P.underlying T,JcG P T,vs with
 | some (.struct gs),some zs,some (ys,us)=>bif Jap (us.map (·.1))&&JaW zs&&Jb8 P gs.toList then (match Jdx P T (fs.zip ys) (zs.map .v) with
  | some cs=>K ⟨.st (cs.map psv),none,us,[]⟩
  | none=>none) else none
 | _,_,_=>none
def Jb9 (n bytes:Nat) (E:TypeId) (s x:RV) (K:Out→Option R):Option R :=
 match s with
 | .own s1 cx T es=>bif Nat.beq T E then (match x with
  | .nl=>K ⟨.own T es,none,[Jaz s1 cx .dead],[]⟩
  | .pv (.sh es2)=>bif Jgw n es2&&Jbu (es.length + es2.length) bytes then K ⟨.own T (es++es2),none,[Jaz s1 cx .dead],[]⟩ else none
  | .own s2 _ T2 es2=>bif Nat.beq T2 E&&!(Nat.beq s1 s2)&&Jbu (es.length + es2.length) bytes then K ⟨.own T (es++es2),none,[Jaz s1 cx .dead],[]⟩ else none
  | _=>none) else none
 | .nl=>(match x with
  | .nl=>K (out .nl)
  | .pv (.sh es2)=>bif Jgw n es2&&Jbu es2.length bytes then K (out (.own E es2)) else none
  | .own _ _ T2 es2=>bif Nat.beq T2 E&&Jbu es2.length bytes then K (out (.own E es2)) else none
  | _=>none)
 | _=>none
def Jkv (x:RV) (K:Out→Option R):Option R :=
 match x with
 | .pv (.v (.string s))=>K (JaM (.v (.int .i64 (s.size:Int))))
 | .pv (.sh es)=>K (JaM (.v (.int .i64 (es.length:Int))))
 | .own _ _ _ es=>K (JaM (.v (.int .i64 (es.length:Int))))
 | .nl=>K (JaM (.v (.int .i64 0)))
 | _=>none
def Jhm (P:Program) (T:TypeId):Bool :=
 match P.underlying T with
 | some .string=>true
 | _=>false
def isSlice (P:Program) (T:TypeId):Bool :=
 match Jbe P T with
 | some _=>true
 | none=>false
def Jkw (P:Program) (tys:List TypeId) (x:RV):Bool :=
 match tys with
 | t::_=>(match x with
  | .pv (.v (.string _))=>Jhm P t
  | _=>isSlice P t)
 | []=>false
def JgL (a b:Int):Int:=if b<a then b else a
def JkT (a b:Int):Int:=if a<b then b else a
def JaB (P:Program) (b:Builtin) (tys:List TypeId) (args:List RV) (K:Out→Option R):Option R :=
 match b,args with
 | .len,[x]=>bif Jkw P tys x then Jkv x K else none
 | .append,[s,x]=>(match tys with
  | [t,t2]=>bif Nat.beq t t2 then (match Jbe P t with
      | some E=>(match Jal P E,JcJ P E with
       | some n,some bytes=>bif Nat.blt 0 n&&Ja9 P E then Jb9 n bytes E s x K else none
       | _,_=>none)
      | none=>none) else none
  | _=>none)
 | .min,[.pv (.v (.int k a)),.pv (.v (.int k' b))]=>bif Jea k k' then K (JaM (.v (.int k (JgL a b)))) else none
 | .min,[.pv (.v (.int k a)),.pv (.v (.int k' b)),.pv (.v (.int k'' c))]=>bif Jea k k'&&Jea k k'' then K (JaM (.v (.int k (JgL (JgL a b) c)))) else none
 | .max,[.pv (.v (.int k a)),.pv (.v (.int k' b))]=>bif Jea k k' then K (JaM (.v (.int k (JkT a b)))) else none
 | _,_=>none
def unK (op:UnOp) (x:PV) (K:PV→Option R):Option R :=
 match op,x with
 | .neg,.v (.int k n)=>K (.v (.int k (k.wrap (0 - n))))
 | .not,.v (.bool b)=>K (.v (.bool (!b)))
 | .xor,.v (.int k n)=>K (.v (.int k (Jfl .xor k (if k.signed then -1 else k.max) n)))
 | _,_=>none
def Jcj (P:Program) (src:TypeId) (es:List PV) (K:Out→Option R):Option R :=
 match Jbe P src with
 | some e=>(match P.underlying e with
  | some (.int .u8)=>bif Jeo es then K (JaM (.v (.string (JgH es)))) else none
  | _=>none)
 | none=>none
def Jjw (P:Program) (T:TypeId):Bool :=
 match Jbe P T with
 | some e=>(match P.underlying e with
  | some (.int .u8)=>true
  | _=>false)
 | none=>false
def Jfc (P:Program) (src dst:TypeId) (x:RV) (K:Out→Option R):Option R :=
 bif !(JaH P src) then none else
 match P.underlying dst,x with
 | some (.int k),.pv (.v (.int _ n))=>K (JaM (.v (.int k (k.wrap n))))
 | some .string,.pv (.v (.string s))=>K (JaM (.v (.string s)))
 | some .string,.pv (.v (.int _ n))=>K (JaM (.v (.string (Utf8.encode n))))
 | some .string,.pv (.sh es)=>Jcj P src es K
 | some .string,.own _ _ _ es=>Jcj P src es K
 | some .string,.nl=>Jcj P src [] K
 | some (.slice _),.pv (.v (.string s))=>bif Jhm P src&&Jjw P dst&&Jbu s.size 1 then K (JaM (.sh (Jcw s))) else none
 | _,_=>none
def Jdr (P:Program) (T:TypeId) (x:RV) (lo hi:Option RV) (K:Out→Option R):Option R :=
 match P.underlying T,x with
 | some .string,.pv (.v (.string s))=>(match Jas lo 0,Jas hi (s.size:Int) with
  | some l,some h=>bif Je5 l h s.size then K (JaM (.v (.string (s.extract l.toNat h.toNat)))) else none
  | _,_=>none)
 | some (.slice E),.pv (.sh es)=>(match Jal P E,Jas lo 0,Jas hi (es.length:Int) with
  | some n,some l,some h=>bif Jgw n es&&Je5 l h es.length then K (JaM (.sh ((es.take h.toNat).drop l.toNat))) else none
  | _,_,_=>none)
 | some (.slice E),.own s cx T' es=>(match Jal P E,Jas lo 0,Jas hi (es.length:Int) with
  | some n,some l,some h=>bif Nat.beq T' E&&Je5 l h es.length then K ⟨.p (.sh ((es.take h.toNat).drop l.toNat)),none,[Jaz s cx (.p (.sh es))],[]⟩ else none
  | _,_,_=>none)
 | some (.slice E),.nl=>bif Je P E then (match Jas lo 0,Jas hi 0 with
  | some l,some h=>bif Je5 l h 0 then K (out .nl) else none
  | _,_=>none) else none
 | _,_=>none
def JjB {α:Type}:Option α→Bool
 | none=>true
 | some _=>false
def Jb2 (P:Program) (T:TypeId) (x i:RV) (K:Out→Option R):Option R :=
 match Jbe P T,i with
 | some E,.pv (.v (.int _ i))=>(match Jal P E with
  | some n=>(match x with
   | .own s cx T' es=>bif Nat.beq T' E then (bif inR i es.length then K (JiP (.e s (cx.map (·.1)) T' i.toNat 0)) else none) else none
   | .pv (.sh es)=>bif inR i es.length then Jgl P E (es.getD i.toNat (.v (.bool false))) (fun ys=>bif Nat.beq ys.length n then K (JaM (.fb ys)) else none) else none
   | _=>none)
  | none=>none)
 | _,_=>none
def opK (P:Program) (env:Env) (o:Op) (ty:TypeId) (ρ:Operand→RV) (K:Out→Option R):Option R :=
 match o with
 | .move x=>Jbv (ρ x) K
 | .assign x=>(match ρ x with
  | .own s cx T es=>bif JaP x s cx then K ⟨.own T es,none,[(s,.dead)],[]⟩ else K ⟨.p (.sh es),none,[Jaz s cx (.p (.sh es))],[]⟩
  | .pv y=>K (JaM y)
  | .nl=>K (out .nl)
  | .tup s l=>K ⟨.tup l,none,[(s,.dead)],[]⟩
  | .st s l=>K ⟨.st l,none,[(s,.dead)],[]⟩
  | _=>none)
 | .pick c a b=>(match ρ c with
  | .pv (.v (.bool t))=>(match ρ a,ρ b with
   | .pv (.v (.bool x)),.pv (.v (.bool y))=>K (JaM (.v (.bool (bif t then x else y))))
   | ra,rb=>bif t then Jbv ra K else Jbv rb K)
  | _=>none)
 | .alloc T=>(match JcG P T with
  | some zs=>bif JaW zs then K (out (.bx T (zs.map zsv))) else none
  | none=>none)
 | .box T x=>(match Jal P T with
  | some n=>(match ρ x with
   | .pv y=>bif Nat.beq (cellsOf y).length n&&Jan (cellsOf y) then K (out (.bx T ((cellsOf y).map .p))) else none
   | .nl=>bif Nat.beq n 1 then K (out (.bx T [.nl])) else none
   | .own s cx T2 es=>bif Nat.beq n 1 then (bif JaP x s cx then K ⟨.bx T [.own T2 es],none,[(s,.dead)],[]⟩ else K ⟨.bx T [.p (.sh es)],none,[Jaz s cx (.p (.sh es))],[]⟩) else none
   | _=>none)
  | none=>none)
 | .build T parts=>(match P.underlying T,JcG P T,JaS (parts.toList.map fun q=>(q.2,ρ q.2)) with
  | some (.struct fs),some zs,some (ys,us)=>bif Jap (us.map (·.1))&&JaW zs&&Jb8 P fs.toList then (match Jdx P T ((parts.toList.map (·.1)).zip ys) (zs.map cpv) with
   | some cs=>K ⟨.p (.agg cs),none,us,[]⟩
   | none=>none) else none
  | _,_,_=>none)
 | .buildSlice T len parts=>(match Jbe P T,JaS (parts.toList.map fun q=>(q.2,ρ q.2)) with
  | some E,some (ys,us)=>(match Je4 P E,Jal P E with
   | some ze,some n=>bif Jap (us.map (·.1))&&Nat.ble (len * n) 1000&&Jdl n len ((parts.toList.map (·.1)).zip ys)
    then K ⟨.own E (Jdq ((parts.toList.map (·.1)).zip ys) (List.replicate len ze)),none,us,[]⟩ else none
   | _,_=>none)
  | _,_=>none)
 | .load T x=>bif !(JaH P T) then none else bif Jai P T then (match Jal P T with
  | some n=>JdN P n (ρ x) K
  | none=>none) else JdM P (ρ x) K
 | .store T x y=>bif Jai P T then (match Jal P T with
  | some n=>Jej P n (ρ x) (ρ y) K
  | none=>none) else (match Jal P T with
  | some n=>bif Nat.beq n 1 then Jei P (ρ x) y (ρ y) K else none
  | none=>none)
 | .nilCheck x=>(match ρ x with
  | .box s off Tb cs=>Jbv (.box s off Tb cs) K
  | .ob s T e bs=>Jbv (.ob s T e bs) K
  | .el s cx T es i off=>Jbv (.el s cx T es i off) K
  | .pv (.fb cs)=>K (JaM (.fb cs))
  | .pv (.clo f cs)=>K (JaM (.clo f cs))
  | .pv (.v (.func (.func f) a b))=>K (JaM (.v (.func (.func f) a b)))
  | _=>none)
 | .binOp op T x y _=>(match ρ x,ρ y with
  | .pv a,.pv b=>JkM P op T a b fun z=>K (JaM z)
  | _,_=>none)
 | .unOp op _ x=>(match ρ x with
  | .pv a=>unK op a fun z=>K (JaM z)
  | _=>none)
 | .convert s d x=>Jfc P s d (ρ x) K
 | .makeFunc (.func f) first caps=>(match first.toList,JaS (caps.toList.map fun q=>(q,ρ q)) with
  | [],some (ys,us)=>bif Jap (us.map (·.1)) then K ⟨.p (.clo f ys),none,us,[]⟩ else none
  | _,_=>none)
 | .makeSlice T l c=>(match Jbe P T,ρ l,ρ c with
  | some E,.pv (.v (.int _ l)),.pv (.v (.int _ c))=>(match Je4 P E,JcJ P E with
   | some ze,some bytes=>bif decide (0≤l)&&decide (l≤c)&&Jbu c.toNat bytes then K (out (.own E (List.replicate l.toNat ze))) else none
   | _,_=>none)
  | _,_,_=>none)
 | .slice T x lo hi mx=>bif JjB mx then Jdr P T (ρ x) (lo.map ρ) (hi.map ρ) K else none
 | .fieldAddr S x f=>(match Jiz P S f with
  | some (o,fT)=>bif Jh6 P fT then (match ρ x with
   | .box s off _ _=>K (JiP (.b s (off + o)))
   | .el s cx T _ i off=>K (JiP (.e s (cx.map (·.1)) T i (off + o)))
   | .pv (.fb cs)=>K (JaM (.fb (cs.drop o)))
   | _=>none) else none
  | none=>none)
 | .field S x f=>(match Jiz P S f,ρ x with
  | some (o,T),.pv (.agg cs)=>bif !(JaH P T) then none else (match Jal P T with
   | some n=>bif Jai P T then (bif Nat.ble (o + n) cs.length then K (JaM (.agg ((cs.drop o).take n))) else none)
    else (bif Nat.blt o cs.length then K (JaM (cs.getD o (.v (.bool false)))) else none)
   | none=>none)
  | _,_=>none)
 | .indexAddr T x i=>Jb2 P T (ρ x) (ρ i) K
 | .index T x i=>(match P.underlying T,ρ x,ρ i with
  | some .string,.pv (.v (.string s)),.pv (.v (.int _ i))=>bif inR i s.size then K (JaM (.v (.int .u8 (Jc6 s i)))) else none
  | _,_,_=>none)
 | .extract x i=>(match ρ x with
  | .tup s l=>(match l.getD i .dead with
   | .p y=>K (JaM y)
   | .nl=>K (out .nl)
   | .own T es=>K ⟨.own T es,none,[(s,.tup (l.set i .dead))],[]⟩
   | .bx T cs=>K ⟨.bx T cs,none,[(s,.tup (l.set i .dead))],[]⟩
   | .ob T e bs=>K ⟨.ob T e bs,none,[(s,.tup (l.set i .dead))],[]⟩
   | .st cs=>K ⟨.st cs,none,[(s,.tup (l.set i .dead))],[]⟩
   | _=>none)
  | _=>none)
 | .call c=>(match c.callee with
  | .builtin b=>JaB P b c.argTypes.toList (c.args.toList.map ρ) K
  | .value f=>(match ρ f with
   | .pv (.v (.func (.func g) fi ca))=>(match fi.toList,ca.toList,env g with
    | [],[],some fs=>Jgj fs (c.args.toList.map ρ) K
    | _,_,_=>none)
   | .pv (.clo g caps)=>(match env g with
    | some fs=>Jgj fs (c.args.toList.map ρ++caps.map RV.pv) K
    | none=>none)
   | _=>none)
  | _=>none)
 | _=>none
end Go.Proofs.YtmgfmlhdnadglaaGreatDoor.Th
set_option linter.unusedVariables false
namespace Go.Proofs.YtmgfmlhdnadglaaGreatDoor.Th
open Go
variable {R:Type}
inductive Ex where
 | normal
 | exit (id:Nat)
 | ret
abbrev Kc (R:Type):=Ex→Fr→Option R
inductive Co where
 | id
 | own (T:TypeId)
 | sh
 | cs (l:List (Option TypeId))
def Jkg:List (Option TypeId)→List SV→List SV
 | some T::l,.nl::xs=>.own T []::Jkg l xs
 | _::l,x::xs=>x::Jkg l xs
 | _,xs=>xs
def coe (c:Co) (x:SV):SV :=
 match c with
 | .id=>x
 | .own T=>match x with
  | .nl=>.own T []
  | y=>y
 | .sh=>match x with
  | .nl=>.p (.sh [])
  | .own _ es=>.p (.sh es)
  | y=>y
 | .cs l=>match x with
  | .bx T cs=>.bx T (Jkg l cs)
  | .st cs=>.st (Jkg l cs)
  | y=>y
def lk:List (Nat × Co)→List SV→Fr
 | (s,_)::l,x::xs=>fun j=>bif Nat.beq j s then x else lk l xs j
 | _,_=>fun _=>.dead
def JcQ:List (Nat × Co)→Fr→List SV
 | [],_=>[]
 | (s,c)::l,fr=>coe c (fr s)::JcQ l fr
abbrev Lv:=List (Nat × Co)
structure Ann where
 loops:List (Nat × Lv × Lv)
 cuts:List (Nat × Lv × Lv)
 frz:List Nat
 rm:List Co
def Jdy:List (Nat × Lv × Lv)→Nat→Option (Lv × Lv)
 | [],_=>none
 | (k,x)::l,n=>bif Nat.beq k n then some x else Jdy l n
def JaL:Code→Option Nat
 | .region id _ _=>some id
 | .seq a b=>match JaL a with
  | some i=>some i
  | none=>JaL b
 | .cond _ a b=>match JaL a with
  | some i=>some i
  | none=>JaL b
 | .block _ a=>JaL a
 | .loop a=>JaL a
 | _=>none
def JdY (l:List (Nat × Lv × Lv)) (c:Code):Option (Lv × Lv) :=
 match JaL c with
 | some i=>Jdy l i
 | none=>none
def Jdd (r:RV) (K:Out→Option R):Option R :=
 match JbJ (.tmp 0) r with
 | some (y,us)=>K ⟨.p y,none,us,[]⟩
 | none=>none
def JdR (fz:List Nat) (d:Option Nat):Bool :=
 match d with
 | some d=>Jbf fz (1000000 + d)
 | none=>false
def opF (P:Program) (env:Env) (fz:List Nat) (o:Oper) (ρ:Operand→RV) (K:Out→Option R):Option R :=
 match o.op with
 | .move x=>(match o.dst with
  | some d=>bif Jbf fz d then Jdd (ρ x) K else Jbv (ρ x) K
  | none=>Jbv (ρ x) K)
 | .build T parts=>bif JdR fz o.dst then Jc4 P T (parts.toList.map (·.1)) (JaS (parts.toList.map fun q=>(q.2,ρ q.2))) K else opK P env (.build T parts) o.type ρ K
 | .load T x=>bif JdR fz o.dst&&Jai P T&&JaH P T then (match Jal P T with
  | some n=>JgI n (ρ x) K
  | none=>none) else opK P env (.load T x) o.type ρ K
 | op=>opK P env op o.type ρ K
def Jce:Out:=⟨.p (.v (.tuple #[])),none,[],[]⟩
def goO (P:Program) (env:Env) (fz:List Nat) (N:Nat × List Nat) (o:Oper) (st:St) (K:St→Out→Option R):Option R :=
 opF P env fz o (opd st) fun r=>bif r.fits N o.dst then K st r else none
def skO (N:Nat × List Nat) (o:Oper) (st:St) (K:St→Out→Option R):Option R :=
 bif Jce.fits N o.dst then K st Jce else none
def JgP (st:St) (d:Nat) (b:Bool):St:={ st with fr:=JdU st.fr d (.p (.v (.bool b))) }
def JaT (P:Program) (env:Env) (fz:List Nat) (N:Nat × List Nat) (ops:List Oper) (o:Oper) (st:St) (K:St→Out→Option R):Option R :=
 match o.guard with
 | none=>goO P env fz N o st K
 | some (j,want)=>match (ops[j]?).bind (·.dst) with
  | none=>none
  | some d=>match Jax st.ral d with
   | some _=>none
   | none=>match st.fr d with
    | .p (.v (.bool t)) =>
     bif t then (bif want then goO P env fz N o (JgP st d true) K else skO N o (JgP st d true) K)
     else (bif want then skO N o (JgP st d false) K else goO P env fz N o (JgP st d false) K)
    | .p (.v (.tuple _))=>skO N o st K
    | _=>none
def JgM (P:Program) (env:Env) (fz:List Nat) (N:Nat × List Nat) (ops:List Oper):List Oper→St→(St→Option R)→Option R
 | [],st,K=>K st
 | o::r,st,K=>JaT P env fz N ops o st fun st' out=>JgM P env fz N ops r (st'.put o.dst out) K
structure Fp where
 rd:List Nat
 wr:List Nat
 calm:Bool
def JkW (st:St):Operand→List Nat
 | .tmp t=>match Jax st.ral t with
  | some r=>[t,r.root]
  | none=>[t]
 | _=>[]
def rdOps (st:St):List Operand→List Nat
 | []=>[]
 | x::l=>JkW st x++rdOps st l
def JgJ (ops:List Oper) (o:Oper):List Nat :=
 match o.guard with
 | some (j,_)=>match (ops[j]?).bind (·.dst) with
  | some d=>[d]
  | none=>[]
 | none=>[]
def Jam (d:Option Nat) (drop:List Nat):List (Nat × Ref)→Bool
 | []=>true
 | (t,r)::l=>Jaj d drop t r&&Jam d drop l
def JbE (drop:List Nat):List (Nat × Ref)→List Nat
 | []=>[]
 | (t,r)::l=>bif r.cell&&Jbf drop r.root then t::JbE drop l else JbE drop l
def Jbr (ops:List Oper) (o:Oper) (st:St) (r:Out):Fp :=
 { rd:=JgJ ops o++rdOps st o.op.operands.toList++(match r.ref with | some q=>[q.root] | none=>[])
   wr:=o.dst.toList++r.upd.map (·.1)++r.drop++JbE r.drop st.ral
   calm:=Jam o.dst [] st.ral }
def Jco:List Nat→List Nat→Bool
 | [],_=>false
 | x::r,b=>Jbf b x||Jco r b
def Jii (a b:Fp):Bool:=Jco a.wr b.wr||Jco a.wr b.rd||Jco a.rd b.wr
def JbG (o:Oper):List Nat:=(o.after.toList.filter fun e=>Region.binds .any e).map (·.on)
def Jgg:List Oper→List (List Nat)→List (List Nat)
 | [],acc=>acc
 | o::r,acc=>Jgg r (acc++[JbG o++(JbG o).flatMap fun i=>acc.getD i []])
def Jh9 (i:Nat):List Nat→Bool
 | []=>true
 | x::r=>Nat.blt x i&&Jh9 i r
def JaU:Nat→List Oper→Bool
 | _,[]=>true
 | i,o::r=>Jh9 i (JbG o)&&JaU (i + 1) r
def Jdm (fj:Fp) (bj:List Nat):Nat→List Fp→Bool
 | _,[]=>true
 | i,f::r=>(Jbf bj i||!(Jii f fj))&&Jdm fj bj (i + 1) r
def Jcb:List Fp→List (List Nat)→List Fp→Bool
 | ahead,b::bs,f::fs=>f.calm&&Jdm f b 0 ahead&&Jcb (ahead++[f]) bs fs
 | _,_,[]=>true
 | _,[],_::_=>false
def Jk1 (x:Nat):Nat:=Nat.shiftLeft 1 x
def tbN (m i:Nat):Bool:=Nat.beq (Nat.land (Nat.shiftRight m i) 1) 1
def Jcs:List Nat→Nat
 | []=>0
 | x::l=>Nat.lor (Jk1 x) (Jcs l)
def JhS (acc:List Nat):List Nat→Nat
 | []=>0
 | i::l=>Nat.lor (Nat.lor (Jk1 i) (acc.getD i 0)) (JhS acc l)
def Jj8:List Oper→List Nat→List Nat
 | [],acc=>acc
 | o::r,acc=>Jj8 r (acc++[JhS acc (JbG o)])
def Jct (b:Nat):Nat→List Nat→Nat
 | _,[]=>0
 | i,m::r=>bif tbN b i then Jct b (Nat.succ i) r else Nat.lor m (Jct b (Nat.succ i) r)
def Jkx (b:Nat) (ws rs:List Nat) (w r:Nat):Bool:=Nat.beq (Nat.land w (Nat.lor (Jct b 0 ws) (Jct b 0 rs))) 0&&Nat.beq (Nat.land r (Jct b 0 ws)) 0
def JeP:List Nat→List Nat→List Nat→List Fp→Bool
 | ws,rs,b::bs,f::fs=>f.calm&&Jkx b ws rs (Jcs f.wr) (Jcs f.rd)&&JeP (ws++[Jcs f.wr]) (rs++[Jcs f.rd]) bs fs
 | _,_,_,[]=>true
 | _,_,[],_::_=>false
def Jdk (ops:List Oper) (tr:List Fp):Bool:=JaU 0 ops&&JeP [] [] (Jj8 ops []) tr
def JgB (P:Program) (env:Env) (fz:List Nat) (N:Nat × List Nat) (ops:List Oper):List Oper→St→List Fp→(St→List Fp→Option R)→Option R
 | [],st,tr,K=>K st tr
 | o::r,st,tr,K=>JaT P env fz N ops o st fun st' out=>JgB P env fz N ops r (st'.put o.dst out) (tr++[Jbr ops o st' out]) K
def JgO (P:Program) (env:Env) (fz:List Nat) (N:Nat × List Nat) (ops:List Oper) (draw:Bool) (fr:Fr) (K:Fr→Option R):Option R :=
 bif draw then (bif P.follows .mixedOrders then JgB P env fz N ops ops ⟨fr,[]⟩ [] fun st tr=>bif Jdk ops tr then K st.fr else none else none)
 else JgM P env fz N ops ops ⟨fr,[]⟩ fun st=>K st.fr
def JcL (f:Fr→Kc R→Option R) (live out:Lv):Nat→List SV→Kc R→Option R
 | 0,_,_=>none
 | n + 1,vs,K=>f (lk live vs) fun e fr=>match e with
  | .normal=>JcL f live out n (JcQ live fr) K
  | .exit i=>K (.exit i) (lk out (JcQ out fr))
  | .ret=>K .ret (lk out (JcQ out fr))
def Jgu (f:Fr→Kc R→Option R) (live out:Lv) (vs:List SV) (K:Kc R):Option R :=
 f (lk live vs) fun e fr=>K e (lk out (JcQ out fr))
def evC (P:Program) (env:Env) (ann:Ann) (n:Nat) (N:Nat × List Nat):Code→Fr→Kc R→Option R
 | .skip,fr,K=>K .normal fr
 | .region _ ops draw,fr,K=>JgO P env ann.frz N ops.toList draw fr fun fr'=>K .normal fr'
 | .seq a b,fr,K=>evC P env ann n N a fr fun e fr'=>match e with
  | .normal=>(match JdY ann.cuts b with
   | some (live,out)=>Jgu (fun f k=>evC P env ann n N b f k) live out (JcQ live fr') K
   | none=>evC P env ann n N b fr' K)
  | .exit i=>K (.exit i) fr'
  | .ret=>K .ret fr'
 | .cond c a b,fr,K=>(match opd ⟨fr,[]⟩ c with
  | .pv (.v (.bool t))=>bif t then evC P env ann n N a fr K else evC P env ann n N b fr K
  | _=>none)
 | .block id a,fr,K=>evC P env ann n N a fr fun e fr'=>match e with
  | .exit i=>bif Nat.beq i id then K .normal fr' else K (.exit i) fr'
  | .normal=>K .normal fr'
  | .ret=>K .ret fr'
 | .loop a,fr,K=>(match JdY ann.loops a with
  | some (live,out)=>JcL (fun f k=>evC P env ann n N a f k) live out n (JcQ live fr) K
  | none=>none)
 | .exit i,fr,K=>K (.exit i) fr
 | .ret,fr,K=>K .ret fr
 | _,_,_=>none
def JgW (args:List SV):Fr:=fun j=>args.getD j .dead
def JhW (P:Program) (c:Co) (fr:Fr):ResultVar→Option SV
 | .tmp t=>match coe c (fr t) with
  | .p y=>some (.p y)
  | .own T es=>some (.own T es)
  | .bx T cs=>some (.bx T cs)
  | .ob T e bs=>some (.ob T e bs)
  | .st cs=>some (.st cs)
  | _=>none
 | .cell t _=>match coe c (fr t) with
  | .p y=>some (.p y)
  | .st cs=>some (.st cs)
  | _=>none
def Jfa (P:Program) (c:Co) (T:TypeId) (t:Nat) (x:SV):Option Out :=
 match x with
 | .bx Tb cs=>bif JaH P T then (bif Jai P T then (match Jal P T with
  | some n=>(match c with
   | .cs _=>JgI n (.box t 0 Tb cs) some
   | _=>JdN P n (.box t 0 Tb cs) some)
  | none=>none) else JdM P (.box t 0 Tb cs) some) else none
 | _=>none
def JjA:Out→Bool
 | ⟨_,none,_,_⟩=>true
 | _=>false
def Jbi (P:Program) (N:Nat × List Nat):List Co→List ResultVar→Fr→Option Fr
 | _,[],fr=>some fr
 | cs,.tmp _::r,fr=>Jbi P N cs.tail r fr
 | cs,.cell t T::r,fr=>match Jfa P (cs.headD .sh) T t (fr t) with
  | some o=>bif o.fits N (some t)&&JjA o then Jbi P N cs.tail r (St.put ⟨fr,[]⟩ (some t) o).fr else none
  | none=>none
def Jh7 (P:Program) (fr:Fr):List Co→List ResultVar→Option (List SV)
 | _,[]=>some []
 | cs,x::r=>match JhW P (cs.headD .sh) fr x,Jh7 P fr cs.tail r with
  | some y,some ys=>some (y::ys)
  | _,_=>none
def Jat:List ResultVar→List Nat
 | []=>[]
 | .tmp t::r=>t::Jat r
 | .cell t _::r=>t::Jat r
def JaC:Nat→List SV→List Nat
 | _,[]=>[]
 | i,.bx _ _::r=>i::JaC (i + 1) r
 | i,.ob _ _ _::r=>i::JaC (i + 1) r
 | i,_::r=>JaC (i + 1) r
def Je9 (fr:Fr):List Nat→Option (List SV)
 | []=>some []
 | i::r=>match fr i,Je9 fr r with
  | .bx T cs,some l=>some (.bx T cs::l)
  | .ob T e bs,some l=>some (.ob T e bs::l)
  | _,_=>none
def Jhj (P:Program) (ann:Ann) (fn:Func) (args:List SV) (fr:Fr) (K:List SV→Option R):Option R :=
 match Jbi P (fn.ntmps,JaC 0 args) ann.rm fn.results.toList fr with
 | none=>none
 | some fr=>match Jh7 P fr ann.rm fn.results.toList,Je9 fr (JaC 0 args) with
  | some rs,some bs=>bif Jap (Jat fn.results.toList++JaC 0 args)&&Nat.ble rs.length 4 then K (rs++bs) else none
  | _,_=>none
def Jh4 (P:Program) (env:Env) (ann:Ann) (n:Nat) (fn:Func) (args:List SV) (K:List SV→Option R):Option R :=
 match fn.body with
 | some c=>bif Nat.ble args.length fn.ntmps then evC P env ann n (fn.ntmps,JaC 0 args) c (JgW args) fun e fr=>match e with
  | .exit _=>none
  | .normal=>Jhj P ann fn args fr K
  | .ret=>Jhj P ann fn args fr K
  else none
 | none=>none
def Jj3:Code→List Nat→Code
 | c,[]=>c
 | .seq a b,i::l=>bif Nat.beq i 0 then Jj3 a l else Jj3 b l
 | .cond _ a b,i::l=>bif Nat.beq i 0 then Jj3 a l else Jj3 b l
 | .block _ a,_::l=>Jj3 a l
 | .loop a,_::l=>Jj3 a l
 | c,_=>c
def Jlk (fn:Func):Code:=fn.body.getD .skip
end Go.Proofs.YtmgfmlhdnadglaaGreatDoor.Th
set_option linter.unusedVariables false
set_option linter.unusedSimpArgs false
namespace Go.Proofs.YtmgfmlhdnadglaaGreatDoor.Th
open Go
def DetK {α:Type} (f:(R:Type)→(α→Option R)→Option R):Prop:=(∀ (R:Type) (K:α→Option R),f R K=none)∨∃ a,∀ (R:Type) (K:α→Option R),f R K=K a
section
variable {α β:Type}
theorem Ja:DetK (fun R (K:α→Option R)=>none):=.inl fun _ _=>rfl
theorem Jac (a:α):DetK (fun R (K:α→Option R)=>K a):=.inr ⟨a,fun _ _=>rfl⟩
theorem Jad {c:Bool} {f g:(R:Type)→(α→Option R)→Option R} (hf:DetK f) (hg:DetK g):DetK (fun R K=>bif c then f R K else g R K):=by cases c; exact hg; exact hf
theorem Jao {f:(R:Type)→(α→Option R)→Option R} {g:α→(R:Type)→(β→Option R)→Option R} (hf:DetK f) (hg:∀ a,DetK (g a)):DetK (fun R K=>f R fun a=>g a R K):=by
 rcases hf with hf | ⟨a,hf⟩
 · exact .inl fun R K=>hf R _
 · rcases hg a with h | ⟨b,h⟩
   · exact .inl fun R K=>(hf R _).trans (h R K)
   · exact .inr ⟨b,fun R K=>(hf R _).trans (h R K)⟩
theorem DetK.some {f:(R:Type)→(α→Option R)→Option R} (h:DetK f) {R:Type} {K:α→Option R} {res:R} (hk:f R K=some res):∃ a,K a=some res∧∀ (R':Type) (K':α→Option R'),f R' K'=K' a:=by
 rcases h with h | ⟨a,h⟩
 · rw [h] at hk; cases hk
 · exact ⟨a,(h R K).symm.trans hk,h⟩
theorem JbM {f:(R:Type)→(α→Option R)→Option R} (go:∀ (R:Type) (K:α→Option R) (res:R),f R K=some res→∃ a,∀ (R':Type) (K':α→Option R'),f R' K'=K' a):DetK f:=by
 cases hq:f α (fun a=>some a) with
 | none =>
  refine .inl fun R K=>?_
  cases h:f R K with
  | none=>first | rfl | exact h
  | some r=>obtain ⟨a,q⟩:=go R K r h; rw [q] at hq; cases hq
 | some r=>obtain ⟨a,q⟩:=go _ _ r hq; exact .inr ⟨a,q⟩
theorem Jir (k:IntKind) (e:PV):DetK (fun R K=>@Ji9 R k e K):=by
 rcases e with x | _ | _ | _ | _ <;> first | exact Ja | skip
 cases x <;> first | exact Ja | exact Jad (Jac _) Ja
theorem Jiq (e:PV):DetK (fun R K=>@Jj1 R e K):=by
 rcases e with x | _ | _ | _ | _ <;> first | exact Ja | skip
 cases x <;> first | exact Ja | exact Jac _
theorem Jit (e:PV):DetK (fun R K=>@Jj2 R e K):=by
 rcases e with x | _ | _ | _ | _ <;> first | exact Ja | skip
 cases x <;> first | exact Ja | exact Jac _
theorem Jis (e:PV):DetK (fun R K=>@Jkq R e K):=by cases e <;> first | exact Ja | exact Jac _
theorem Jhg (e:PV):DetK (fun R K=>@Jh1 R e K):=by cases e <;> first | exact Ja | exact Jac _
theorem JfM (c:CK) (e:PV):DetK (fun R K=>@Jha R c e K):=by
 cases c with
 | i k=>exact Jao (f:=fun R K=>Ji9 k e K) (g:=fun x R K=>K (PV.v (Value.int k x))) (Jir k e) fun x=>Jac _
 | b=>exact Jao (f:=fun R K=>Jj1 e K) (g:=fun x R K=>K (PV.v (Value.bool x))) (Jiq e) fun x=>Jac _
 | s=>exact Jao (f:=fun R K=>Jj2 e K) (g:=fun x R K=>K (PV.v (Value.string x))) (Jit e) fun x=>Jac _
 | sl=>exact Jao (f:=fun R K=>Jkq e K) (g:=fun x R K=>K (PV.sh x)) (Jis e) fun x=>Jac _
 | o=>exact Jad (Jac _) Ja
theorem JcT:∀ (ks:List CK) (cs:List PV),DetK (fun R K=>@Jd6 R ks cs K)
 | [],[]=>Jac _
 | [],_::_=>Ja
 | _::_,[]=>Ja
 | c::r,x::cs=>Jao (f:=fun R K=>Jha c x K) (g:=fun y R K=>Jd6 r cs fun ys=>K (y::ys)) (JfM c x) fun y=>Jao (f:=fun R K=>Jd6 r cs K) (g:=fun ys R K=>K (y::ys)) (JcT r cs) fun ys=>Jac _
theorem Jin (ag:Bool) (ks:List CK) (e:PV):DetK (fun R K=>@JkN R ag ks e K):=by
 cases ag with
 | true=>exact Jao (f:=fun R K=>Jh1 e K) (g:=fun cs R K=>Jd6 ks cs K) (Jhg e) fun cs=>JcT ks cs
 | false =>
  match ks with
  | []=>exact Ja
  | [c]=>exact Jao (f:=fun R K=>Jha c e K) (g:=fun y R K=>K [y]) (JfM c e) fun y=>Jac _
  | _::_::_=>exact Ja
theorem Jio (P:Program) (T:TypeId) (e:PV):DetK (fun R K=>@Jgl R P T e K):=Jin _ _ e
theorem Jby (P:Program) (T:TypeId) (e:PV) (c:List PV→Bool) (o:List PV→Out):DetK (fun R (K:Out→Option R)=>Jgl P T e fun ys=>bif c ys then K (o ys) else none) :=
 Jao (f:=fun R K=>Jgl P T e K) (g:=fun ys R K=>bif c ys then K (o ys) else none) (Jio P T e) fun ys=>Jad (Jac _) Ja
theorem Jbq (r:RV):DetK (fun R K=>@Jbv R r K):=by cases r <;> first | exact Ja | exact Jac _
theorem Jij (op:BinOp) (k:IntKind) (a b:Int):DetK (fun R K=>@Jka R op k a b K):=by
 cases op <;> first | exact Ja | exact Jac _ | exact Jad Ja (Jac _)
theorem Jjq (op:BinOp) (k:IntKind) (a b:Int):DetK (fun R K=>@shI R op k a b K):=by
 cases op <;> first | exact Ja | exact Jad Ja (Jac _)
theorem Jim (a b:ByteArray):DetK (fun R K=>@JjZ R a b K):=Jad (Jac _) Ja
theorem Jil (op:BinOp) (a b:ByteArray):DetK (fun R K=>@Jkb R op a b K):=by
 cases op <;> first | exact Ja | exact Jac _ | exact Jao (f:=fun R K=>JjZ a b K) (g:=fun c R K=>K (PV.v (Value.string c))) (Jim a b) fun c=>Jac _
theorem Jik (P:Program) (op:BinOp) (T:TypeId) (x y:PV):DetK (fun R K=>@JkM R P op T x y K):=by
 by_cases hxy:∃ xa bs,x=.agg xa∧y=.agg bs
 · obtain ⟨xa,bs,rfl,rfl⟩:=hxy
   refine Jad ?_ Ja
   exact Jao (f:=fun R K=>Jd6 (cks P 20 T) xa K) (g:=fun xs R K=>Jd6 (cks P 20 T) bs fun ys=>eqO op (Jbz xs ys) K) (JcT _ _) fun xs =>
    Jao (f:=fun R K=>Jd6 (cks P 20 T) bs K) (g:=fun ys R K=>eqO op (Jbz xs ys) K) (JcT _ _) fun ys=>by cases op <;> first | exact Ja | exact Jac _
 rcases x with x | _ | xa | _ | _ <;> first | exact Ja | skip
 rotate_left
 · cases y <;> first | exact Ja | exact absurd ⟨_,_,rfl,rfl⟩ hxy
 cases x <;> first | exact Ja | skip
 all_goals
  rcases y with y | _ | _ | _ | _ <;> first | exact Ja | skip
  cases y <;> first
   | exact Ja
   | exact Jad (Jjq _ _ _ _) (Jad (Jij _ _ _ _) Ja)
   | exact Jil _ _ _
   | (refine Jad ?_ Ja; cases op <;> first | exact Ja | exact Jac _)
theorem Jgq (P:Program) (r:RV):DetK (fun R K=>@JdM R P r K):=by
 cases r with
 | box s off T cs =>
  refine Jad ?_ Ja
  generalize cs.getD off .dead=y
  cases y <;> first | exact Ja | exact Jac _
 | el s cx T es i off=>exact Jby _ _ _ _ _
 | pv x =>
  cases x <;> first | exact Ja | skip
  rename_i cs
  cases cs <;> first | exact Ja | exact Jac _
 | _=>exact Ja
theorem Jgr (P:Program) (n:Nat) (r:RV):DetK (fun R K=>@JdN R P n r K):=by
 cases r with
 | box s off T cs =>
  refine Jad ?_ Ja
  generalize Jdu ((cs.drop off).take n)=y
  cases y <;> first | exact Ja | exact Jac _
 | el s cx T es i off=>exact Jby _ _ _ _ _
 | pv x =>
  cases x <;> first | exact Ja | exact Jad (Jac _) Ja
 | _=>exact Ja
theorem Jfg (P:Program) (r:RV) (x:Operand) (y:RV):DetK (fun R K=>@Jei R P r x y K):=by
 cases r with
 | box s off T cs =>
  refine Jad ?_ Ja
  cases y <;> first | exact Ja | exact Jac _ | exact Jad (Jac _) Ja | exact Jad Ja (Jad (Jac _) (Jac _))
 | el s cx T es i off =>
  cases y <;> first
   | exact Ja
   | exact Jby _ _ _ _ _
   | exact Jad (Jby _ _ _ _ _) Ja
   | exact Jad Ja (Jby _ _ _ _ _)
 | _=>cases y <;> exact Ja
theorem Jfh (P:Program) (n:Nat) (r y:RV):DetK (fun R K=>@Jej R P n r y K):=by
 cases y with
 | pv y =>
  cases y with
  | agg zs =>
   refine Jad ?_ Ja
   cases r <;> first
    | exact Ja
    | exact Jad (Jac _) Ja
    | exact Jby _ _ _ _ _
  | _=>exact Ja
 | st s2 ds =>
  refine Jad ?_ Ja
  cases r <;> first | exact Ja | exact Jad (Jac _) Ja
 | _=>exact Ja
theorem Jhf (n:Nat) (r:RV):DetK (fun R K=>@JgI R n r K):=by
 cases r <;> first | exact Ja | exact Jad (Jac _) Ja
theorem Jff (P:Program) (T:TypeId) (fs:List Nat) (v:Option (List PV × List (Nat × SV))):DetK (fun R K=>@Jc4 R P T fs v K):=by
 unfold Jc4
 generalize P.underlying T=u
 generalize JcG P T=z
 rcases u with _ | u
 · exact Ja
 cases u <;> first | exact Ja | skip
 rcases z with _ | z <;> rcases v with _ | ⟨ys,us⟩ <;> first | exact Ja | skip
 refine Jad ?_ Ja
 generalize Jdx P T _ _=f
 cases f <;> first | exact Ja | exact Jac _
theorem Jfe (n bytes:Nat) (E:TypeId) (s x:RV):DetK (fun R K=>@Jb9 R n bytes E s x K):=by
 cases s with
 | own s1 cx T es =>
  refine Jad ?_ Ja
  cases x <;> first | exact Ja | exact Jac _ | exact Jad (Jac _) Ja | skip
  rename_i y
  cases y <;> first | exact Ja | exact Jad (Jac _) Ja
 | nl =>
  cases x <;> first | exact Ja | exact Jac _ | exact Jad (Jac _) Ja | skip
  rename_i y
  cases y <;> first | exact Ja | exact Jad (Jac _) Ja
 | _=>exact Ja
theorem Jiu (x:RV):DetK (fun R K=>@Jkv R x K):=by
 cases x <;> first | exact Ja | exact Jac _ | skip
 rename_i y
 rcases y with y | _ | _ | _ | _ <;> first | exact Ja | exact Jac _ | skip
 cases y <;> first | exact Ja | exact Jac _
theorem Jey (P:Program) (b:Builtin) (tys:List TypeId) (args:List RV):DetK (fun R K=>@JaB R P b tys args K):=by
 have go:∀ (R:Type) (K:Out→Option R) (res:R),JaB P b tys args K=some res→∃ a,∀ (R':Type) (K':Out→Option R'),JaB P b tys args K'=K' a:=by
  intro R K res h
  unfold JaB at h
  split at h
  · cases hc:Jkw P tys ‹RV› with
    | false=>rw [hc] at h; cases h
    | true =>
     rw [hc,cond_true] at h
     obtain ⟨a,_,q⟩:=(Jiu _).some h
     exact ⟨a,fun R' K'=>by unfold JaB; simp only [hc,cond_true]; exact q R' K'⟩
  · split at h
    · rename_i t t2
      cases hc:Nat.beq t t2 with
      | false=>rw [hc] at h; cases h
      | true =>
       rw [hc,cond_true] at h
       split at h
       · rename_i E hE
         split at h
         · rename_i n bytes h1 h2
           cases hd:(Nat.blt 0 n&&Ja9 P E) with
           | false=>rw [hd] at h; cases h
           | true =>
            rw [hd,cond_true] at h
            obtain ⟨a,_,q⟩:=(Jfe _ _ _ _ _).some h
            exact ⟨a,fun R' K'=>by unfold JaB; simp only [hc,hE,h1,h2,hd,cond_true]; exact q R' K'⟩
         · cases h
       · cases h
    · cases h
  · rename_i k a k' b
    cases hc:Jea k k' with
    | false=>rw [hc] at h; cases h
    | true=>exact ⟨_,fun R' K'=>by unfold JaB; simp only [hc,cond_true]; rfl⟩
  · rename_i k a k' b k'' c
    cases hc:(Jea k k'&&Jea k k'') with
    | false=>rw [hc] at h; cases h
    | true=>exact ⟨_,fun R' K'=>by unfold JaB; simp only [hc,cond_true]; rfl⟩
  · rename_i k a k' b
    cases hc:Jea k k' with
    | false=>rw [hc] at h; cases h
    | true=>exact ⟨_,fun R' K'=>by unfold JaB; simp only [hc,cond_true]; rfl⟩
  · cases h
 exact JbM go
theorem Jjr (op:UnOp) (x:PV):DetK (fun R K=>@unK R op x K):=by
 cases op <;> (rcases x with x | _ | _ | _ | _ <;> first | exact Ja | (cases x <;> first | exact Ja | exact Jac _))
theorem JdE (P:Program) (src:TypeId) (es:List PV):DetK (fun R K=>@Jcj R P src es K):=by
 unfold Jcj
 cases h:Jbe P src with
 | none=>exact Ja
 | some e =>
  simp only []
  generalize P.underlying e=u
  rcases u with _ | u
  · exact Ja
  · cases u <;> first | exact Ja | skip
    rename_i k
    cases k <;> first | exact Ja | exact Jad (Jac _) Ja
theorem Jhd (P:Program) (src dst:TypeId) (x:RV):DetK (fun R K=>@Jfc R P src dst x K):=by
 unfold Jfc
 refine Jad Ja ?_
 generalize P.underlying dst=u
 rcases u with _ | u
 · exact Ja
 cases u <;> first
  | exact Ja
  | (cases x <;> first
      | exact Ja
      | exact JdE _ _ _
      | (rename_i y; rcases y with y | _ | _ | _ | _ <;> first
          | exact Ja
          | exact JdE _ _ _
          | (cases y <;> first | exact Ja | exact Jac _ | exact Jad (Jac _) Ja)))
theorem Jgs (P:Program) (T:TypeId) (x:RV) (lo hi:Option RV):DetK (fun R K=>@Jdr R P T x lo hi K):=by
 unfold Jdr
 generalize P.underlying T=u
 rcases u with _ | u
 · exact Ja
 cases u <;> first | exact Ja | skip
 · cases x <;> first | exact Ja | skip
   rename_i y
   rcases y with y | _ | _ | _ | _ <;> first | exact Ja | skip
   cases y <;> first | exact Ja | skip
   rename_i s
   simp only []
   generalize Jas lo 0=l
   generalize Jas hi (s.size:Int)=h
   cases l <;> cases h <;> first | exact Ja | exact Jad (Jac _) Ja
 · rename_i E
   cases x <;> first | exact Ja | skip
   · refine Jad ?_ Ja
     generalize Jas lo 0=l
     generalize Jas hi 0=h
     cases l <;> cases h <;> first | exact Ja | exact Jad (Jac _) Ja
   · rename_i y
     cases y <;> first | exact Ja | skip
     rename_i es
     simp only []
     generalize Jal P E=n
     generalize Jas lo 0=l
     generalize Jas hi (es.length:Int)=h
     cases n <;> cases l <;> cases h <;> first | exact Ja | exact Jad (Jac _) Ja
   · rename_i s cx T' es
     simp only []
     generalize Jal P E=n
     generalize Jas lo 0=l
     generalize Jas hi (es.length:Int)=h
     cases n <;> cases l <;> cases h <;> first | exact Ja | exact Jad (Jac _) Ja
theorem Jdw (P:Program) (T:TypeId) (x i:RV):DetK (fun R K=>@Jb2 R P T x i K):=by
 unfold Jb2
 generalize Jbe P T=e
 cases e <;> cases i <;> first | exact Ja | skip
 rename_i E y
 rcases y with y | _ | _ | _ | _ <;> first | exact Ja | skip
 cases y <;> first | exact Ja | skip
 simp only []
 generalize Jal P E=n
 cases n <;> first | exact Ja | skip
 cases x <;> first | exact Ja | exact Jad (Jad (Jac _) Ja) Ja | skip
 rename_i y
 cases y <;> first | exact Ja | exact Jad (Jby _ _ _ _ _) Ja
def Jbm (env:Env):Prop:=∀ g fs,env g=some fs→∀ args,DetK (fun R K=>@FS.run fs R args K)
theorem Jez {fs:FS} (hd:∀ args,DetK (fun R K=>@FS.run fs R args K)) (args:List RV):DetK (fun R K=>@Jgj R fs args K):=by
 unfold Jgj
 generalize JbL fs.om args=q
 rcases q with _ | ⟨avs,us,bs⟩
 · exact Ja
 exact Jad (Jao (f:=fun R K=>@FS.run fs R avs K) (g:=fun res R K=>K (Out.mk (Ji0 (res.take (res.length - bs.length))) none (us++JgR bs (res.drop (res.length - bs.length))) bs)) (hd avs) fun res=>Jac _) Ja
theorem Jjp (P:Program) {env:Env} (henv:Jbm env) (o:Op) (ty:TypeId) (ρ:Operand→RV):DetK (fun R K=>@opK R P env o ty ρ K):=by
 cases o with
 | move x=>exact Jbq _
 | assign x =>
  simp only [opK]
  generalize ρ x=r
  cases r <;> first | exact Ja | exact Jac _ | exact Jad (Jac _) (Jac _)
 | pick c a b =>
  simp only [opK]
  generalize ρ c=rc
  generalize ρ a=ra
  generalize ρ b=rb
  rcases rc with _ | _ | y | _ | _ | _ | _ | _ <;> first | exact Ja | skip
  rcases y with y | _ | _ | _ | _ <;> first | exact Ja | skip
  cases y <;> first | exact Ja | skip
  rename_i t
  refine JbM fun R K res h=>?_
  simp only [] at h
  split at h
  · exact ⟨_,fun R' K'=>rfl⟩
  · cases t with
    | true =>
     rw [cond_true] at h
     obtain ⟨q,_,hq⟩:=(Jbq _).some h
     exact ⟨q,fun R' K'=>hq R' K'⟩
    | false =>
     rw [cond_false] at h
     obtain ⟨q,_,hq⟩:=(Jbq _).some h
     exact ⟨q,fun R' K'=>hq R' K'⟩
 | alloc T =>
  simp only [opK]
  generalize JcG P T=z
  cases z <;> first | exact Ja | exact Jad (Jac _) Ja
 | box T x =>
  simp only [opK]
  generalize Jal P T=n
  generalize ρ x=r
  cases n <;> cases r <;> first | exact Ja | exact Jad (Jac _) Ja | exact Jad (Jad (Jac _) (Jac _)) Ja
 | build T parts =>
  simp only [opK]
  generalize P.underlying T=u
  generalize JcG P T=z
  generalize JaS (parts.toList.map fun q=>(q.2,ρ q.2))=v
  rcases u with _ | u
  · exact Ja
  cases u <;> first | exact Ja | skip
  rcases z with _ | z <;> rcases v with _ | ⟨ys,us⟩ <;> first | exact Ja | skip
  refine Jad ?_ Ja
  generalize Jdx P T _ _=f
  cases f <;> first | exact Ja | exact Jac _
 | buildSlice T len parts =>
  simp only [opK]
  generalize Jbe P T=u
  generalize JaS (parts.toList.map fun q=>(q.2,ρ q.2))=v
  rcases u with _ | E <;> rcases v with _ | ⟨ys,us⟩ <;> first | exact Ja | skip
  simp only []
  generalize Je4 P E=z
  generalize Jal P E=n
  cases z <;> cases n <;> first | exact Ja | exact Jad (Jac _) Ja
 | load T x =>
  simp only [opK]
  refine Jad Ja (Jad ?_ (Jgq _ _))
  generalize Jal P T=n
  cases n <;> first | exact Ja | exact Jgr _ _ _
 | store T x y =>
  simp only [opK]
  refine Jad ?_ ?_
  · generalize Jal P T=n
    cases n <;> first | exact Ja | exact Jfh _ _ _ _
  · generalize Jal P T=n
    cases n <;> first | exact Ja | exact Jad (Jfg _ _ _ _) Ja
 | nilCheck x =>
  simp only [opK]
  generalize ρ x=r
  cases r <;> first | exact Ja | exact Jbq _ | skip
  rename_i y
  rcases y with y | _ | _ | _ | _ <;> first | exact Ja | exact Jac _ | skip
  cases y <;> first | exact Ja | skip
  rename_i f a b
  cases f <;> first | exact Ja | exact Jac _
 | binOp op T x y yT =>
  simp only [opK]
  generalize ρ x=rx
  generalize ρ y=ry
  cases rx <;> cases ry <;> first | exact Ja | exact Jao (f:=fun R K=>JkM P op T _ _ K) (g:=fun z R K=>K (JaM z)) (Jik _ _ _ _ _) fun z=>Jac _
 | unOp op T x =>
  simp only [opK]
  generalize ρ x=rx
  cases rx <;> first | exact Ja | exact Jao (f:=fun R K=>unK op _ K) (g:=fun z R K=>K (JaM z)) (Jjr _ _) fun z=>Jac _
 | convert s d x=>exact Jhd _ _ _ _
 | makeFunc f first caps =>
  cases f <;> first | exact Ja | skip
  simp only [opK]
  generalize first.toList=l
  generalize JaS (caps.toList.map fun q=>(q,ρ q))=v
  rcases l with _ | ⟨_,_⟩ <;> rcases v with _ | ⟨ys,us⟩ <;> first | exact Ja | exact Jad (Jac _) Ja
 | makeSlice T l c =>
  simp only [opK]
  generalize Jbe P T=u
  generalize ρ l=rl
  generalize ρ c=rc
  rcases u with _ | E <;> first | exact Ja | skip
  rcases rl with _ | _ | y | _ | _ | _ | _ | _ <;> first | exact Ja | skip
  rcases y with y | _ | _ | _ | _ <;> first | exact Ja | skip
  cases y <;> first | exact Ja | skip
  rcases rc with _ | _ | y | _ | _ | _ | _ | _ <;> first | exact Ja | skip
  rcases y with y | _ | _ | _ | _ <;> first | exact Ja | skip
  cases y <;> first | exact Ja | skip
  simp only []
  generalize Je4 P E=z
  generalize JcJ P E=n
  cases z <;> cases n <;> first | exact Ja | exact Jad (Jac _) Ja
 | slice T x lo hi mx=>exact Jad (Jgs _ _ _ _ _) Ja
 | fieldAddr S x f =>
  simp only [opK]
  generalize Jiz P S f=q
  generalize ρ x=r
  rcases q with _ | ⟨o,fT⟩
  · exact Ja
  refine Jad ?_ Ja
  cases r <;> first | exact Ja | exact Jac _ | skip
  rename_i y
  cases y <;> first | exact Ja | exact Jac _
 | field S x f =>
  simp only [opK]
  generalize Jiz P S f=q
  generalize ρ x=r
  rcases q with _ | ⟨o,T⟩
  · exact Ja
  cases r <;> first | exact Ja | skip
  rename_i y
  cases y <;> first | exact Ja | skip
  refine Jad Ja ?_
  generalize Jal P T=n
  cases n <;> first | exact Ja | exact Jad (Jad (Jac _) Ja) (Jad (Jac _) Ja)
 | indexAddr T x i=>exact Jdw _ _ _ _
 | index T x i =>
  simp only [opK]
  generalize P.underlying T=u
  generalize ρ x=rx
  generalize ρ i=ri
  rcases u with _ | u
  · exact Ja
  cases u <;> first | exact Ja | skip
  rcases rx with _ | _ | y | _ | _ | _ | _ | _ <;> first | exact Ja | skip
  rcases y with y | _ | _ | _ | _ <;> first | exact Ja | skip
  cases y <;> first | exact Ja | skip
  rcases ri with _ | _ | y | _ | _ | _ | _ | _ <;> first | exact Ja | skip
  rcases y with y | _ | _ | _ | _ <;> first | exact Ja | skip
  cases y <;> first | exact Ja | exact Jad (Jac _) Ja
 | extract x i =>
  simp only [opK]
  generalize ρ x=r
  cases r <;> first | exact Ja | skip
  rename_i s l
  simp only []
  generalize l.getD i .dead=y
  cases y <;> first | exact Ja | exact Jac _
 | call c =>
  obtain ⟨callee,args,tys⟩:=c
  simp only [opK]
  cases callee <;> first | exact Ja | exact Jey _ _ _ _ | skip
  rename_i f
  simp only []
  generalize ρ f=r
  rcases r with _ | _ | y | _ | _ | _ | _ | _ <;> first | exact Ja | skip
  rcases y with y | _ | _ | _ | _ <;> first | exact Ja | skip
  · cases y <;> first | exact Ja | skip
    rename_i fn fi ca
    cases fn <;> first | exact Ja | skip
    rename_i g
    simp only []
    generalize fi.toList=l1
    generalize ca.toList=l2
    cases he:env g <;> cases l1 <;> cases l2 <;> first | exact Ja | exact Jez (henv _ _ he) _
  · rename_i g caps
    simp only []
    cases he:env g <;> first | exact Ja | exact Jez (henv _ _ he) _
 | _=>exact Ja
theorem Jjo (P:Program) {env:Env} (henv:Jbm env) (fz:List Nat) (o:Oper) (ρ:Operand→RV):DetK (fun R K=>@opF R P env fz o ρ K):=by
 have h:=Jjp P henv o.op o.type ρ
 unfold opF
 generalize o.op=op at h ⊢
 cases op <;> first | exact h | skip
 case build T parts=>exact Jad (Jff _ _ _ _) h
 case load T x =>
  refine Jad ?_ h
  generalize Jal P T=n
  cases n <;> first | exact Ja | exact Jhf _ _
 rename_i x
 simp only []
 generalize o.dst=d
 cases d with
 | none=>exact Jbq _
 | some d =>
  refine Jad ?_ (Jbq _)
  unfold Jdd
  generalize JbJ (.tmp 0) (ρ x)=v
  rcases v with _ | ⟨y,us⟩ <;> first | exact Ja | exact Jac _
end
theorem JcO {ρ ρ':Operand→RV}:∀ {l:List Operand},(∀ x∈l,ρ x=ρ' x)→(l.map fun q=>(q,ρ q))=(l.map fun q=>(q,ρ' q))
 | [],_=>rfl
 | x::l,h=>by rw [List.map_cons,List.map_cons,h x (List.mem_cons_self ..),JcO fun y hy=>h y (List.mem_cons_of_mem _ hy)]
theorem Jgy {ρ ρ':Operand→RV} {l:List Operand} (h:∀ x∈l,ρ x=ρ' x):l.map ρ=l.map ρ':=List.map_congr_left h
theorem JhG {R:Type} (P:Program) (env:Env) (o:Op) (ty:TypeId) {ρ ρ':Operand→RV} (h:∀ x∈o.operands.toList,ρ x=ρ' x) (K:Out→Option R):opK P env o ty ρ K=opK P env o ty ρ' K:=by
 cases o with
 | call c =>
  obtain ⟨callee,args,tys⟩:=c
  simp only [Op.operands,Call.operands] at h
  have hargs:args.toList.map ρ=args.toList.map ρ':=Jgy fun x hx=>h x (by simp [hx])
  cases callee with
  | value f =>
   have hf:ρ f=ρ' f:=h f (by simp)
   simp only [opK,hf,hargs]
  | builtin b=>simp only [opK,hargs]
  | _=>rfl
 | build T parts =>
  have:(parts.toList.map fun q=>(q.2,ρ q.2))=(parts.toList.map fun q=>(q.2,ρ' q.2)) :=
   List.map_congr_left fun q hq=>by rw [h q.2 (by simp only [Op.operands]; exact List.mem_map.2 ⟨q,hq,rfl⟩)]
  simp only [opK,this]
 | buildSlice T n parts =>
  have:(parts.toList.map fun q=>(q.2,ρ q.2))=(parts.toList.map fun q=>(q.2,ρ' q.2)) :=
   List.map_congr_left fun q hq=>by rw [h q.2 (by simp only [Op.operands]; exact List.mem_map.2 ⟨q,hq,rfl⟩)]
  simp only [opK,this]
 | makeFunc f first caps =>
  have:(caps.toList.map fun q=>(q,ρ q))=(caps.toList.map fun q=>(q,ρ' q)):=JcO fun x hx=>h x (by simp [Op.operands,hx])
  cases f <;> simp only [opK,this]
 | slice T x lo hi mx =>
  have hx:ρ x=ρ' x:=h x (by simp [Op.operands])
  have hlo:lo.map ρ=lo.map ρ':=by
   cases lo with
   | none=>rfl
   | some y=>simp only [Option.map_some]; rw [h y (by simp [Op.operands])]
  have hhi:hi.map ρ=hi.map ρ':=by
   cases hi with
   | none=>rfl
   | some y=>simp only [Option.map_some]; rw [h y (by simp [Op.operands])]
  simp only [opK,hx,hlo,hhi]
 | pick c a b =>
  have h1:ρ c=ρ' c:=h c (by simp [Op.operands])
  have h2:ρ a=ρ' a:=h a (by simp [Op.operands])
  have h3:ρ b=ρ' b:=h b (by simp [Op.operands])
  simp only [opK,h1,h2,h3]
 | store T a v =>
  have h1:ρ a=ρ' a:=h a (by simp [Op.operands])
  have h2:ρ v=ρ' v:=h v (by simp [Op.operands])
  simp only [opK,h1,h2]
 | binOp op T a v yT =>
  have h1:ρ a=ρ' a:=h a (by simp [Op.operands])
  have h2:ρ v=ρ' v:=h v (by simp [Op.operands])
  simp only [opK,h1,h2]
 | makeSlice T a v =>
  have h1:ρ a=ρ' a:=h a (by simp [Op.operands])
  have h2:ρ v=ρ' v:=h v (by simp [Op.operands])
  simp only [opK,h1,h2]
 | indexAddr T a v =>
  have h1:ρ a=ρ' a:=h a (by simp [Op.operands])
  have h2:ρ v=ρ' v:=h v (by simp [Op.operands])
  simp only [opK,h1,h2]
 | index T a v =>
  have h1:ρ a=ρ' a:=h a (by simp [Op.operands])
  have h2:ρ v=ρ' v:=h v (by simp [Op.operands])
  simp only [opK,h1,h2]
 | move x=>have hx:ρ x=ρ' x:=h x (by simp [Op.operands]); simp only [opK,hx]
 | assign x=>have hx:ρ x=ρ' x:=h x (by simp [Op.operands]); simp only [opK,hx]
 | box T x=>have hx:ρ x=ρ' x:=h x (by simp [Op.operands]); simp only [opK,hx]
 | load T x=>have hx:ρ x=ρ' x:=h x (by simp [Op.operands]); simp only [opK,hx]
 | nilCheck x=>have hx:ρ x=ρ' x:=h x (by simp [Op.operands]); simp only [opK,hx]
 | unOp op T x=>have hx:ρ x=ρ' x:=h x (by simp [Op.operands]); simp only [opK,hx]
 | convert s d x=>have hx:ρ x=ρ' x:=h x (by simp [Op.operands]); simp only [opK,hx]
 | fieldAddr S x f=>have hx:ρ x=ρ' x:=h x (by simp [Op.operands]); simp only [opK,hx]
 | field S x f=>have hx:ρ x=ρ' x:=h x (by simp [Op.operands]); simp only [opK,hx]
 | extract x i=>have hx:ρ x=ρ' x:=h x (by simp [Op.operands]); simp only [opK,hx]
 | alloc T=>rfl
 | _=>rfl
theorem JhF {R:Type} (P:Program) (env:Env) (fz:List Nat) (o:Oper) {ρ ρ':Operand→RV} (h:∀ x∈o.op.operands.toList,ρ x=ρ' x) (K:Out→Option R):opF P env fz o ρ K=opF P env fz o ρ' K:=by
 have hk:=JhG P env o.op o.type h K
 unfold opF
 generalize o.op=op at h hk ⊢
 cases op <;> first | exact hk | skip
 case build T parts =>
  have:(parts.toList.map fun q=>(q.2,ρ q.2))=(parts.toList.map fun q=>(q.2,ρ' q.2)) :=
   List.map_congr_left fun q hq=>by rw [h q.2 (by simp only [Op.operands]; exact List.mem_map.2 ⟨q,hq,rfl⟩)]
  simp only [this,hk]
 case load T x =>
  have hx:ρ x=ρ' x:=h x (by simp [Op.operands])
  simp only [hx,hk]
 rename_i x
 have hx:ρ x=ρ' x:=h x (by simp [Op.operands])
 simp only [hx]
theorem Ja7 {l:List Nat} {s:Nat}:Jbf l s=true↔s∈l:=by
 induction l with
 | nil=>simp [Jbf]
 | cons x l ih =>
  simp only [Jbf,List.mem_cons]
  cases h:Nat.beq x s with
  | true=>simp only [cond_true,true_iff]; exact .inl (Nat.eq_of_beq_eq_true h).symm
  | false =>
   simp only [cond_false,ih]
   constructor
   · exact .inr
   · rintro (rfl | q)
     · rw [Nat.beq_refl] at h; cases h
     · exact q
theorem Jk (n:Nat):Nat.beq n n=true:=Nat.beq_refl n
theorem Jgh {a b:Nat} (h:a≠b):Nat.beq a b=false:=by
 cases hq:Nat.beq a b with
 | false=>rfl
 | true=>exact absurd (Nat.eq_of_beq_eq_true hq) h
theorem Jb3:∀ {a b:List Nat},Jco a b=false→∀ x∈a,x∉b
 | [],b,_,x,hx=>by cases hx
 | y::a,b,h,x,hx=>by
  simp only [Jco,Bool.or_eq_false_iff] at h
  rcases List.mem_cons.1 hx with rfl | hx
  · intro q; rw [Ja7.2 q] at h; cases h.1
  · exact Jb3 h.2 x hx
structure NoClash (a b:Fp):Prop where
 ww:∀ x∈a.wr,x∉b.wr
 wr:∀ x∈a.wr,x∉b.rd
 rw:∀ x∈a.rd,x∉b.wr
theorem Jjz {a b:Fp} (h:Jii a b=false):NoClash a b:=by
 simp only [Jii,Bool.or_eq_false_iff] at h
 exact ⟨Jb3 h.1.1,Jb3 h.1.2,Jb3 h.2⟩
theorem Jds (fr:Fr) (i:Nat) (x:SV):JdU fr i x i=x:=by simp only [JdU,Jk,cond_true]
theorem Jcf (fr:Fr) {i j:Nat} (x:SV) (h:j≠i):JdU fr i x j=fr j:=by simp only [JdU,Jgh h,cond_false]
theorem JaY:∀ (l:List (Nat × SV)) (fr:Fr) (j:Nat),j∉l.map (·.1)→JaA fr l j=fr j
 | [],fr,j,_=>rfl
 | (i,x)::l,fr,j,h=>by
  simp only [List.map_cons,List.mem_cons,not_or] at h
  rw [JaA,JaY l _ j h.2,Jcf _ _ h.1]
theorem Jdt:∀ (l:List (Nat × SV)) (fr fr':Fr) (j:Nat),j∈l.map (·.1)→JaA fr l j=JaA fr' l j
 | [],fr,fr',j,h=>by cases h
 | (i,x)::l,fr,fr',j,h=>by
  rw [JaA,JaA]
  by_cases hj:j∈l.map (·.1)
  · exact Jdt l _ _ j hj
  · rw [JaY l _ j hj,JaY l _ j hj]
    have:j=i:=by
     rcases List.mem_cons.1 h with q | q
     · exact q
     · exact absurd q hj
    rw [this,Jds,Jds]
def JdW (d:Option Nat) (r:Out):List Nat:=d.toList++r.upd.map (·.1)++r.drop
def wrS (d:Option Nat) (r:Out) (st:St):List Nat:=JdW d r++JbE r.drop st.ral
theorem Jb {st:St} {d:Option Nat} {r:Out} {j:Nat} (h:j∉JdW d r):(st.put d r).fr j=st.fr j:=by
 simp only [JdW,List.mem_append,not_or] at h
 cases d with
 | none=>exact JaY _ _ _ h.1.2
 | some d =>
  simp only [St.put]
  rw [Jcf _ _ (by simpa using h.1.1),JaY _ _ _ h.1.2]
theorem JeX {st st':St} {d:Option Nat} {r:Out} {j:Nat} (h:j∈d.toList++r.upd.map (·.1)):(st.put d r).fr j=(st'.put d r).fr j:=by
 rw [List.mem_append] at h
 cases d with
 | none=>exact Jdt _ _ _ _ (by simpa using h)
 | some d =>
  simp only [St.put]
  by_cases hj:j=d
  · rw [hj,Jds,Jds]
  · rw [Jcf _ _ hj,Jcf _ _ hj]
    exact Jdt _ _ _ _ (h.resolve_left (by simpa using hj))
theorem Ja0 {d:Option Nat} {drop:List Nat}:∀ {l:List (Nat × Ref)},Jam d drop l=true↔∀ x∈l,Jaj d drop x.1 x.2=true
 | []=>by simp [Jam]
 | (t,r)::l=>by simp only [Jam,Bool.and_eq_true,List.mem_cons,Ja0,forall_eq_or_imp]
theorem JeK {drop:List Nat} {t:Nat} {q:Ref}:Jaj none drop t q=!(q.cell&&Jbf drop q.root):=by simp [Jaj]
theorem Ja6 {d:Option Nat} {drop:List Nat}:∀ {l:List (Nat × Ref)},Jam d [] l=true→Jae d drop l=Jae none drop l
 | [],_=>rfl
 | (t,r)::l,h=>by
  simp only [Jam,Bool.and_eq_true] at h
  have e:Jaj d drop t r=Jaj none drop t r:=by
   have h1:=h.1
   unfold Jaj at h1 ⊢
   cases d with
   | none=>rfl
   | some d =>
    simp only [Bool.and_eq_true] at h1
    simp only [h1.1.1,h1.1.2,Bool.true_and]
  rw [Jae,Jae,e,Ja6 h.2]
theorem Jbh {drop:List Nat}:∀ {l:List (Nat × Ref)} {x:Nat × Ref},x∈Jae none drop l↔x∈l∧(x.2.cell&&Jbf drop x.2.root)=false
 | [],x=>by simp [Jae]
 | (t,r)::l,x=>by
  have ih:=Jbh (drop:=drop) (l:=l) (x:=x)
  rw [Jae,JeK]
  cases hq:(r.cell&&Jbf drop r.root) with
  | true =>
   simp only [Bool.not_true,cond_false,ih,List.mem_cons]
   constructor
   · rintro ⟨a,b⟩; exact ⟨.inr a,b⟩
   · rintro ⟨a | a,b⟩
     · subst a; rw [hq] at b; cases b
     · exact ⟨a,b⟩
  | false =>
   simp only [Bool.not_false,cond_true,List.mem_cons,ih]
   constructor
   · rintro (a | a)
     · subst a; exact ⟨.inl rfl,hq⟩
     · exact ⟨.inr a.1,a.2⟩
   · rintro ⟨a | a,b⟩
     · exact .inl a
     · exact .inr ⟨a,b⟩
theorem JcE {drop:List Nat} {t:Nat}:∀ {l:List (Nat × Ref)},t∉JbE drop l→Jax (Jae none drop l) t=Jax l t
 | [],_=>rfl
 | (u,r)::l,h=>by
  rw [Jae,JeK]
  cases hq:(r.cell&&Jbf drop r.root) with
  | true =>
   simp only [JbE,hq,cond_true,List.mem_cons,not_or] at h
   rw [Bool.not_true,cond_false,JcE h.2,Jax,Jgh (Ne.symm h.1),cond_false]
  | false =>
   simp only [JbE,hq,cond_false] at h
   rw [Bool.not_false,cond_true,Jax,Jax,JcE h]
theorem Jcq {drop:List Nat}:∀ {l:List (Nat × Ref)} {t:Nat},t∈JbE drop l↔∃ q,(t,q)∈l∧(q.cell&&Jbf drop q.root)=true
 | [],t=>by simp [JbE]
 | (u,r)::l,t=>by
  have ih:=Jcq (drop:=drop) (l:=l) (t:=t)
  cases hq:(r.cell&&Jbf drop r.root) with
  | true =>
   simp only [JbE,hq,cond_true,List.mem_cons,ih]
   constructor
   · rintro (a | ⟨q,a,b⟩)
     · subst a; exact ⟨r,.inl rfl,hq⟩
     · exact ⟨q,.inr a,b⟩
   · rintro ⟨q,a | a,b⟩
     · cases a; exact .inl rfl
     · exact .inr ⟨q,a,b⟩
  | false =>
   simp only [JbE,hq,cond_false,ih,List.mem_cons]
   constructor
   · rintro ⟨q,a,b⟩; exact ⟨q,.inr a,b⟩
   · rintro ⟨q,a | a,b⟩
     · cases a; rw [hq] at b; cases b
     · exact ⟨q,a,b⟩
theorem JdL {d e:List Nat}:∀ (l:List (Nat × Ref)),Jae none d (Jae none e l)=Jae none e (Jae none d l)
 | []=>rfl
 | (t,r)::l=>by
  have ih:=JdL (d:=d) (e:=e) l
  simp only [Jae]
  cases h1:Jaj none d t r <;> cases h2:Jaj none e t r <;> simp [Jae,h1,h2,ih]
def JbK (d:Option Nat) (r:Out) (l:List (Nat × Ref)):List (Nat × Ref):=match d,r.ref with
 | some d,some q=>(d,q)::l
 | _,_=>l
theorem Jbl {st:St} {d:Option Nat} {r:Out} (h:Jam d [] st.ral=true):(st.put d r).ral=JbK d r (Jae none r.drop st.ral):=by
 simp only [St.put,JbK]
 cases d with
 | none=>simp only [Ja6 h]
 | some d =>
  cases hq:r.ref with
  | none=>simp only [Ja6 h]
  | some q=>simp only [Ja6 h]
theorem JhX {d:Option Nat} {r:Out} {l:List (Nat × Ref)} {t:Nat} (h:t∉d.toList):Jax (JbK d r l) t=Jax l t:=by
 unfold JbK
 cases d with
 | none=>rfl
 | some d =>
  cases r.ref with
  | none=>rfl
  | some q =>
   have:d≠t:=by rintro rfl; exact h (by simp)
   simp only [Jax,Jgh this,cond_false]
def Uq (st:St):Prop:=(st.ral.map (·.1)).Nodup
theorem JbX:∀ {l:List (Nat × Ref)} {t:Nat} {q:Ref},(l.map (·.1)).Nodup→(Jax l t=some q↔(t,q)∈l)
 | [],t,q,_=>by simp [Jax]
 | (u,r)::l,t,q,h=>by
  simp only [List.map_cons,List.nodup_cons] at h
  rw [Jax]
  by_cases e:u=t
  · subst e
    rw [Jk,cond_true]
    constructor
    · intro hq; cases hq; exact List.mem_cons_self ..
    · intro hq
      rcases List.mem_cons.1 hq with hq | hq
      · cases hq; rfl
      · exact absurd (List.mem_map.2 ⟨_,hq,rfl⟩) h.1
  · rw [Jgh e,cond_false,JbX h.2,List.mem_cons]
    constructor
    · exact .inr
    · rintro (hq | hq)
      · cases hq; exact absurd rfl e
      · exact hq
theorem Jdg (d:Option Nat) (drop:List Nat):∀ (l:List (Nat × Ref)),(Jae d drop l).Sublist l
 | []=>.slnil
 | (t,r)::l=>by
  rw [Jae]
  cases Jaj d drop t r with
  | true=>exact (Jdg d drop l).cons_cons _
  | false=>exact (Jdg d drop l).cons _
theorem Jdf {d:Nat} {drop:List Nat}:∀ {l:List (Nat × Ref)} {x:Nat × Ref},x∈Jae (some d) drop l→x.1≠d
 | (t,r)::l,x,h=>by
  rw [Jae] at h
  cases hk:Jaj (some d) drop t r with
  | false=>rw [hk] at h; exact Jdf h
  | true =>
   rw [hk,cond_true] at h
   rcases List.mem_cons.1 h with rfl | h
   · intro e
     have e:t=d:=e
     subst e
     simp [Jaj] at hk
   · exact Jdf h
theorem Uq.put {st:St} (h:Uq st) (d:Option Nat) (r:Out):Uq (st.put d r):=by
 have hs:∀ d,((Jae d r.drop st.ral).map (·.1)).Nodup:=fun d=>List.Nodup.sublist ((Jdg d r.drop st.ral).map _) h
 unfold Uq
 simp only [St.put]
 cases d with
 | none=>exact hs none
 | some d =>
  cases r.ref with
  | none=>exact hs (some d)
  | some q =>
   simp only [List.map_cons,List.nodup_cons]
   refine ⟨fun hm=>?_,hs (some d)⟩
   obtain ⟨x,hx,e⟩:=List.mem_map.1 hm
   exact Jdf hx e
structure Eqv (s s':St):Prop where
 fr:s.fr=s'.fr
 mem:∀ x,x∈s.ral↔x∈s'.ral
 u1:Uq s
 u2:Uq s'
theorem Eqv.refl {s:St} (h:Uq s):Eqv s s:=⟨rfl,fun _=>Iff.rfl,h,h⟩
theorem Eqv.trans {a b c:St} (h:Eqv a b) (g:Eqv b c):Eqv a c:=⟨h.fr.trans g.fr,fun x=>(h.mem x).trans (g.mem x),h.u1,g.u2⟩
theorem Eqv.rf {s s':St} (h:Eqv s s') (t:Nat):Jax s.ral t=Jax s'.ral t:=by
 cases hq:Jax s.ral t with
 | some q=>rw [JbX h.u1,h.mem,←JbX h.u2] at hq; exact hq.symm
 | none =>
  cases hq':Jax s'.ral t with
  | none=>rfl
  | some q=>rw [JbX h.u2,←h.mem,←JbX h.u1,hq] at hq'; cases hq'
theorem Eqv.look {s s':St} (h:Eqv s s') (t:Nat):look s t=look s' t:=by unfold Th.look; rw [h.rf t,h.fr]
theorem Eqv.opd {s s':St} (h:Eqv s s') (x:Operand):opd s x=opd s' x:=by cases x <;> simp only [Th.opd,h.look]
theorem Eqv.rdOps {s s':St} (h:Eqv s s'):∀ l,rdOps s l=rdOps s' l
 | []=>rfl
 | x::l=>by simp only [Th.rdOps,h.rdOps l]; cases x <;> simp only [JkW,h.rf]
theorem Eqv.keep {s s':St} (h:Eqv s s') {d:Option Nat} {drop:List Nat}:Jam d drop s.ral=Jam d drop s'.ral:=by
 rw [Bool.eq_iff_iff,Ja0,Ja0]
 exact ⟨fun q x hx=>q x ((h.mem x).2 hx),fun q x hx=>q x ((h.mem x).1 hx)⟩
structure FEq (f g:Fp):Prop where
 rd:f.rd=g.rd
 wr:∀ x,x∈f.wr↔x∈g.wr
 calm:f.calm=g.calm
theorem FEq.refl (f:Fp):FEq f f:=⟨rfl,fun _=>Iff.rfl,rfl⟩
theorem FEq.symm {f g:Fp} (h:FEq f g):FEq g f:=⟨h.rd.symm,fun x=>(h.wr x).symm,h.calm.symm⟩
theorem FEq.trans {f g k:Fp} (h:FEq f g) (h2:FEq g k):FEq f k:=⟨h.rd.trans h2.rd,fun x=>(h.wr x).trans (h2.wr x),h.calm.trans h2.calm⟩
theorem NoClash.feq {a b a' b':Fp} (h:NoClash a b) (ha:FEq a a') (hb:FEq b b'):NoClash a' b' :=
 ⟨fun x hx hy=>h.ww x ((ha.wr x).2 hx) ((hb.wr x).2 hy),fun x hx hy=>h.wr x ((ha.wr x).2 hx) (by rw [hb.rd]; exact hy),fun x hx hy=>h.rw x (by rw [ha.rd]; exact hx) ((hb.wr x).2 hy)⟩
theorem Eqv.fp {s s':St} (h:Eqv s s') (ops:List Oper) (o:Oper) (r:Out):FEq (Jbr ops o s r) (Jbr ops o s' r):=by
 refine ⟨by simp only [Jbr,h.rdOps],fun x=>?_,by simp only [Jbr,h.keep]⟩
 simp only [Jbr,List.mem_append,Jcq,h.mem]
theorem Eqv.put {s s':St} (h:Eqv s s') {d:Option Nat} {r:Out} (hk:Jam d [] s.ral=true):Eqv (s.put d r) (s'.put d r):=by
 have hk':Jam d [] s'.ral=true:=by rw [←h.keep]; exact hk
 refine ⟨?_,fun x=>?_,h.u1.put d r,h.u2.put d r⟩
 · simp only [St.put,h.fr]
 · rw [Jbl hk,Jbl hk']
   unfold JbK
   cases d with
   | none=>simp only [Jbh,h.mem x]
   | some d =>
    cases r.ref with
    | none=>simp only [Jbh,h.mem x]
    | some q=>simp only [List.mem_cons,Jbh,h.mem x]
section
variable (P:Program) (env:Env) (fz:List Nat) (N:Nat × List Nat) (ops:List Oper)
def Jge (o:Oper) (st:St) (r:Out):Prop:=∀ (R:Type) (K:St→Out→Option R),JaT P env fz N ops o st K=K st r
variable {P env fz N ops}
theorem JbY {st:St} {d:Nat} {t:Bool} (h:st.fr d=.p (.v (.bool t))):JgP st d t=st:=by
 cases st with
 | mk fr ral =>
  simp only [JgP]
  congr 1
  funext j
  by_cases hj:j=d
  · subst hj; rw [Jds]; exact h.symm
  · rw [Jcf _ _ hj]
theorem Jfk (henv:Jbm env) {o:Oper} {st:St} {R:Type} {K:St→Out→Option R} {res:R} (h:goO P env fz N o st K=some res) :
 ∃ r,K st r=some res∧∀ (R':Type) (K':St→Out→Option R'),goO P env fz N o st K'=K' st r:=by
 unfold goO at h
 obtain ⟨r,h1,h2⟩:=(Jjo P henv fz o (opd st)).some h
 cases hf:r.fits N o.dst with
 | false=>rw [hf] at h1; cases h1
 | true =>
  rw [hf,cond_true] at h1
  exact ⟨r,h1,fun R' K'=>by unfold goO; rw [h2,hf,cond_true]⟩
theorem Jfy {o:Oper} {st:St} {R:Type} {K:St→Out→Option R} {res:R} (h:skO N o st K=some res) :
 ∃ r,K st r=some res∧∀ (R':Type) (K':St→Out→Option R'),skO N o st K'=K' st r:=by
 unfold skO at h
 cases hf:Jce.fits N o.dst with
 | false=>rw [hf] at h; cases h
 | true =>
  rw [hf,cond_true] at h
  exact ⟨_,h,fun R' K'=>by unfold skO; rw [hf,cond_true]⟩
theorem Jeh (henv:Jbm env) {o:Oper} {st:St} {R:Type} {K:St→Out→Option R} {res:R} (h:JaT P env fz N ops o st K=some res):∃ r,K st r=some res∧Jge P env fz N ops o st r:=by
 unfold JaT at h
 split at h
 · rename_i hg
   obtain ⟨r,h1,h2⟩:=Jfk henv h
   exact ⟨r,h1,fun R' K'=>by unfold JaT; rw [hg]; exact h2 R' K'⟩
 · rename_i j want hg
   split at h
   · cases h
   · rename_i d hd
     split at h
     · cases h
     · rename_i hr
       split at h
       · rename_i t ht
         cases t with
         | true =>
          rw [cond_true,JbY ht] at h
          cases want with
          | true =>
           rw [cond_true] at h
           obtain ⟨r,h1,h2⟩:=Jfk henv h
           exact ⟨r,h1,fun R' K'=>by unfold JaT; rw [hg]; simp only [hd,hr,ht,cond_true]; rw [JbY ht]; exact h2 R' K'⟩
          | false =>
           rw [cond_false] at h
           obtain ⟨r,h1,h2⟩:=Jfy h
           exact ⟨r,h1,fun R' K'=>by unfold JaT; rw [hg]; simp only [hd,hr,ht,cond_true,cond_false]; rw [JbY ht]; exact h2 R' K'⟩
         | false =>
          rw [cond_false,JbY ht] at h
          cases want with
          | true =>
           rw [cond_true] at h
           obtain ⟨r,h1,h2⟩:=Jfy h
           exact ⟨r,h1,fun R' K'=>by unfold JaT; rw [hg]; simp only [hd,hr,ht,cond_true,cond_false]; rw [JbY ht]; exact h2 R' K'⟩
          | false =>
           rw [cond_false] at h
           obtain ⟨r,h1,h2⟩:=Jfk henv h
           exact ⟨r,h1,fun R' K'=>by unfold JaT; rw [hg]; simp only [hd,hr,ht,cond_false]; rw [JbY ht]; exact h2 R' K'⟩
       · rename_i c ht
         obtain ⟨r,h1,h2⟩:=Jfy h
         exact ⟨r,h1,fun R' K'=>by unfold JaT; rw [hg]; simp only [hd,hr,ht]; exact h2 R' K'⟩
       · cases h
theorem Jcc {o:Oper} {st st':St} (hgd:∀ d∈JgJ ops o,Jax st.ral d=Jax st'.ral d∧st.fr d=st'.fr d) (hop:∀ x∈o.op.operands.toList,opd st x=opd st' x) {r:Out}
 (h:Jge P env fz N ops o st r):Jge P env fz N ops o st' r:=by
 have hgo:∀ (R:Type) (K:Out→Option R),goO P env fz N o st (fun _ r=>K r)=goO P env fz N o st' (fun _ r=>K r):=fun R K=>by
  unfold goO; exact JhF P env fz o hop _
 intro R K
 have h0:JaT P env fz N ops o st (fun _ r=>K st' r)=K st' r:=h R fun _ r=>K st' r
 rw [←h0]
 unfold JaT
 split
 · exact (hgo R fun r=>K st' r).symm
 · rename_i j want hg
   simp only [JgJ,hg] at hgd
   split
   · rfl
   · rename_i d hd
     simp only [hd,List.mem_singleton,forall_eq] at hgd
     rw [hgd.1]
     split
     · rfl
     · rw [hgd.2]
       split
       · rename_i t ht
         have e1:goO P env fz N o st' K=goO P env fz N o st (fun _ r=>K st' r):=(hgo R fun r=>K st' r).symm
         have e2:skO N o st' K=skO N o st (fun _ r=>K st' r):=rfl
         have ht2:st.fr d=.p (.v (.bool t)):=hgd.2.trans ht
         cases t <;> cases want <;> simp only [cond_true,cond_false] <;> rw [JbY ht,JbY ht2] <;> first | exact e1 | exact e2
       · rfl
       · rfl
end
end Go.Proofs.YtmgfmlhdnadglaaGreatDoor.Th
set_option linter.unusedVariables false
set_option linter.unusedSimpArgs false
namespace Go.Proofs.YtmgfmlhdnadglaaGreatDoor.Th
open Go
section
variable {P:Program} {env:Env} {fz:List Nat} {N:Nat × List Nat} {ops:List Oper}
theorem Jga {d:Option Nat} {r:Out} {st:St} {t:Nat} (h:t∉wrS d r st):t∉JdW d r∧t∉JbE r.drop st.ral:=by
 unfold wrS at h; rw [List.mem_append,not_or] at h; exact h
theorem Jkm {d:Option Nat} {r:Out} {t:Nat} (h:t∉JdW d r):t∉d.toList∧t∉r.drop:=by
 unfold JdW at h; simp only [List.mem_append,not_or] at h; exact ⟨h.1.1,h.2⟩
theorem JhU {st:St}:∀ {l:List Operand} {t:Nat},Operand.tmp t∈l→t∈rdOps st l∧∀ q,Jax st.ral t=some q→q.root∈rdOps st l
 | x::l,t,h=>by
  rcases List.mem_cons.1 h with rfl | h
  · simp only [rdOps,JkW]
    cases hq:Jax st.ral t with
    | none=>exact ⟨by simp,fun q e=>by cases e⟩
    | some q=>exact ⟨by simp,fun q' e=>by cases e; simp⟩
  · obtain ⟨h1,h2⟩:=JhU h
    exact ⟨List.mem_append_right _ h1,fun q e=>List.mem_append_right _ (h2 q e)⟩
theorem Jb5 {st:St} {d:Option Nat} {r:Out} (hk:Jam d [] st.ral=true) {t:Nat} (ht:t∉wrS d r st):Jax (st.put d r).ral t=Jax st.ral t:=by
 obtain ⟨h1,h2⟩:=Jga ht
 rw [Jbl hk,JhX (Jkm h1).1,JcE h2]
theorem Jhu {st:St} {d:Option Nat} {r:Out} (hk:Jam d [] st.ral=true) {t:Nat} (ht:t∉wrS d r st) (hr:∀ q,Jax st.ral t=some q→q.root∉wrS d r st):look (st.put d r) t=look st t:=by
 have hf:=Jb5 hk ht
 unfold look
 rw [hf]
 cases hq:Jax st.ral t with
 | none=>simp only [Jb (Jga ht).1]
 | some q =>
  have:=Jb (st:=st) (Jga (hr q hq)).1
  cases q with
  | o s j=>cases j <;> simp only [Jex,Ref.root] at this ⊢ <;> rw [this]
  | b s off=>simp only [Jex,Ref.root] at this ⊢; rw [this]
  | e s j T i off=>cases j <;> simp only [Jex,Ref.root] at this ⊢ <;> rw [this]
theorem JcD {st:St} {d:Option Nat} {r:Out} (hk:Jam d [] st.ral=true):∀ {l:List Operand},(∀ t,Operand.tmp t∈l→t∉wrS d r st)→rdOps (st.put d r) l=rdOps st l
 | [],_=>rfl
 | x::l,h=>by
  rw [rdOps,rdOps,JcD hk fun t ht=>h t (List.mem_cons_of_mem _ ht)]
  congr 1
  cases x with
  | tmp t=>simp only [JkW,Jb5 hk (h t (List.mem_cons_self ..))]
  | _=>rfl
theorem Je2 {o:Oper} {st:St} {d:Option Nat} {ra r:Out} (hk:Jam d [] st.ral=true)
 (hrd:∀ t,(t∈JgJ ops o∨Operand.tmp t∈o.op.operands.toList)→t∉wrS d ra st) (hroot:∀ t q,(t∈JgJ ops o∨Operand.tmp t∈o.op.operands.toList)→Jax st.ral t=some q→q.root∉wrS d ra st) :
 Jge P env fz N ops o (st.put d ra) r↔Jge P env fz N ops o st r:=by
 have hg:∀ t∈JgJ ops o,Jax (st.put d ra).ral t=Jax st.ral t∧(st.put d ra).fr t=st.fr t:=fun t ht =>
  ⟨Jb5 hk (hrd t (.inl ht)),Jb (Jga (hrd t (.inl ht))).1⟩
 have ho:∀ x∈o.op.operands.toList,opd (st.put d ra) x=opd st x:=fun x hx=>by
  cases x with
  | tmp t=>exact Jhu hk (hrd t (.inr hx)) fun q e=>hroot t q (.inr hx) e
  | _=>rfl
 exact ⟨fun h=>Jcc hg ho h,fun h=>Jcc (fun t ht=>⟨(hg t ht).1.symm,(hg t ht).2.symm⟩) (fun x hx=>(ho x hx).symm) h⟩
theorem JbR {d:Option Nat} {drop:List Nat} {t:Nat} {q:Ref} (h1:t∉d.toList) (h2:q.root∉d.toList) (h3:q.root∉drop):Jaj d drop t q=true:=by
 unfold Jaj
 have:Jbf drop q.root=false:=by
  cases h:Jbf drop q.root with
  | false=>rfl
  | true=>exact absurd (Ja7.1 h) h3
 rw [this]
 cases d with
 | none=>simp
 | some d =>
  have e1:Nat.beq t d=false:=Jgh (by rintro rfl; exact h1 (by simp))
  have e2:Nat.beq q.root d=false:=Jgh (by intro e; exact h2 (by simp [e]))
  simp [e1,e2]
theorem JeN {st:St} {d:Option Nat} {ra:Out} {D:List Nat} (hk:Jam d [] st.ral=true) (hD:∀ x∈ra.drop,x∉D) (hr:∀ d' q,d=some d'→ra.ref=some q→q.root∉D) (x:Nat) :
 x∈JbE D (st.put d ra).ral↔x∈JbE D st.ral:=by
 rw [Jbl hk,Jcq,Jcq]
 have low:(∃ q,(x,q)∈Jae none ra.drop st.ral∧(q.cell&&Jbf D q.root)=true)↔(∃ q,(x,q)∈st.ral∧(q.cell&&Jbf D q.root)=true):=by
  constructor
  · rintro ⟨q,a,b⟩; exact ⟨q,(Jbh.1 a).1,b⟩
  · rintro ⟨q,a,b⟩
    refine ⟨q,Jbh.2 ⟨a,?_⟩,b⟩
    simp only [Bool.and_eq_true] at b
    cases hm:Jbf ra.drop q.root with
    | false=>simp
    | true=>exact absurd (Ja7.1 b.2) (hD _ (Ja7.1 hm))
 unfold JbK
 cases d with
 | none=>exact low
 | some d' =>
  cases hq:ra.ref with
  | none=>exact low
  | some q0 =>
   simp only [List.mem_cons]
   refine Iff.trans ⟨?_,?_⟩ low
   · rintro ⟨q,a | a,b⟩
     · cases a
       simp only [Bool.and_eq_true] at b
       exact absurd (Ja7.1 b.2) (hr _ q0 rfl hq)
     · exact ⟨q,a,b⟩
   · rintro ⟨q,a,b⟩; exact ⟨q,.inr a,b⟩
theorem Jg9 {st:St} {d d2:Option Nat} {ra:Out} (hk:Jam d [] st.ral=true) (h:Jam d2 [] (st.put d ra).ral=true) (hD:∀ x∈ra.drop,x∉d2.toList) (hL:∀ t∈JbE ra.drop st.ral,t∉d2.toList) :
 Jam d2 [] st.ral=true:=by
 rw [Ja0] at h ⊢
 intro x hx
 by_cases hl:(x.2.cell&&Jbf ra.drop x.2.root)=true
 · refine JbR (hL x.1 (Jcq.2 ⟨x.2,hx,hl⟩)) (hD _ ?_) (by simp)
   simp only [Bool.and_eq_true] at hl
   exact Ja7.1 hl.2
 · refine h x ?_
   rw [Jbl hk]
   have hm:x∈Jae none ra.drop st.ral:=Jbh.2 ⟨hx,by simpa using hl⟩
   unfold JbK
   cases d with
   | none=>exact hm
   | some d=>cases ra.ref with
    | none=>exact hm
    | some q=>exact List.mem_cons_of_mem _ hm
theorem Jjm {st:St} {d d2:Option Nat} {rb:Out} (hk:Jam d2 [] st.ral=true) (h:Jam d [] st.ral=true) (hd:∀ x∈d2.toList,x∉d.toList) (hr:∀ q,rb.ref=some q→q.root∉d.toList) :
 Jam d [] (st.put d2 rb).ral=true:=by
 rw [Jbl hk,Ja0]
 rw [Ja0] at h
 have low:∀ x∈Jae none rb.drop st.ral,Jaj d [] x.1 x.2=true:=fun x hx=>h x (Jbh.1 hx).1
 unfold JbK
 intro x hx
 cases hd2:d2 with
 | none=>rw [hd2] at hx; exact low x hx
 | some e =>
  cases hq:rb.ref with
  | none=>rw [hd2,hq] at hx; exact low x hx
  | some q =>
   rw [hd2,hq] at hx
   rcases List.mem_cons.1 hx with rfl | hx
   · exact JbR (hd e (by rw [hd2]; simp)) (hr q hq) (by simp)
   · exact low x hx
theorem Jlz {a b:Oper} {st:St} {ra rb:Out} (hu:Uq st) (h1:Jge P env fz N ops a st ra) (k1:(Jbr ops a st ra).calm=true) (h2:Jge P env fz N ops b (st.put a.dst ra) rb) (k2:(Jbr ops b (st.put a.dst ra) rb).calm=true)
 (hn:NoClash (Jbr ops a st ra) (Jbr ops b (st.put a.dst ra) rb)) :
 Jge P env fz N ops b st rb∧FEq (Jbr ops b st rb) (Jbr ops b (st.put a.dst ra) rb)∧Jge P env fz N ops a (st.put b.dst rb) ra∧FEq (Jbr ops a (st.put b.dst rb) ra) (Jbr ops a st ra) ∧
  Eqv ((st.put a.dst ra).put b.dst rb) ((st.put b.dst rb).put a.dst ra):=by
 have ka:Jam a.dst [] st.ral=true:=k1
 have kb1:Jam b.dst [] (st.put a.dst ra).ral=true:=k2
 have inA:∀ {t},t∈JdW a.dst ra→t∈(Jbr ops a st ra).wr:=fun {t} q=>List.mem_append_left _ q
 have inB:∀ {t},t∈JdW b.dst rb→t∈(Jbr ops b (st.put a.dst ra) rb).wr:=fun {t} q=>List.mem_append_left _ q
 have dA:∀ {t},t∈a.dst.toList→t∈JdW a.dst ra:=fun {t} q=>by unfold JdW; simp only [List.mem_append]; exact .inl (.inl q)
 have dB:∀ {t},t∈b.dst.toList→t∈JdW b.dst rb:=fun {t} q=>by unfold JdW; simp only [List.mem_append]; exact .inl (.inl q)
 have pA:∀ {t},t∈ra.drop→t∈JdW a.dst ra:=fun {t} q=>by unfold JdW; simp only [List.mem_append]; exact .inr q
 have pB:∀ {t},t∈rb.drop→t∈JdW b.dst rb:=fun {t} q=>by unfold JdW; simp only [List.mem_append]; exact .inr q
 have refB:∀ q,rb.ref=some q→q.root∈(Jbr ops b (st.put a.dst ra) rb).rd:=fun q e=>by simp only [Jbr,e,List.mem_append]; exact .inr (by simp)
 have refA:∀ q,ra.ref=some q→q.root∈(Jbr ops a st ra).rd:=fun q e=>by simp only [Jbr,e,List.mem_append]; exact .inr (by simp)
 have bt:∀ t,(t∈JgJ ops b∨Operand.tmp t∈b.op.operands.toList)→t∉wrS a.dst ra st:=fun t ht q=>by
  refine hn.wr t q ?_
  simp only [Jbr,List.mem_append]
  rcases ht with ht | ht
  · exact .inl (.inl ht)
  · exact .inl (.inr (JhU ht).1)
 have hrf:∀ t,t∉wrS a.dst ra st→Jax (st.put a.dst ra).ral t=Jax st.ral t:=fun t ht=>Jb5 ka ht
 have gdNone:∀ {o:Oper} {s:St} {r:Out},Jge P env fz N ops o s r→∀ t∈JgJ ops o,Jax s.ral t=none:=fun {o s r} hs t ht=>by
  have h0:=hs Unit fun _ _=>some ()
  unfold JgJ at ht
  split at ht
  · rename_i j want hg
    split at ht
    · rename_i d hd
      simp only [List.mem_singleton] at ht
      subst ht
      unfold JaT at h0
      rw [hg] at h0
      simp only [hd] at h0
      cases hq:Jax s.ral t with
      | none=>rfl
      | some q=>rw [hq] at h0; cases h0
    · cases ht
  · cases ht
 have bq:∀ t q,(t∈JgJ ops b∨Operand.tmp t∈b.op.operands.toList)→Jax st.ral t=some q→q.root∉wrS a.dst ra st:=fun t q ht hq hx=>by
  rcases ht with ht | ht
  · have:=gdNone h2 t ht
    rw [hrf t (bt t (.inl ht)),hq] at this
    cases this
  · refine hn.wr q.root hx ?_
    simp only [Jbr,List.mem_append]
    exact .inl (.inr ((JhU ht).2 q (by rw [hrf t (bt t (.inr ht))]; exact hq)))
 have sb:Jge P env fz N ops b st rb:=(Je2 ka bt bq).1 h2
 have kb:Jam b.dst [] st.ral=true:=Jg9 ka kb1 (fun x hx q=>hn.ww x (inA (pA hx)) (inB (dB q))) (fun t ht q=>hn.ww t (List.mem_append_right _ ht) (inB (dB q)))
 have lb:∀ x,x∈JbE rb.drop (st.put a.dst ra).ral↔x∈JbE rb.drop st.ral:=JeN ka (fun x hx q=>hn.ww x (inA (pA hx)) (inB (pB q))) (fun d' q e1 e2 q'=>hn.rw q.root (refA q e2) (inB (pB q')))
 have efb:FEq (Jbr ops b st rb) (Jbr ops b (st.put a.dst ra) rb):=by
  refine ⟨?_,fun x=>?_,?_⟩
  · simp only [Jbr]; rw [JcD ka fun t ht=>bt t (.inr ht)]
  · simp only [Jbr,List.mem_append,lb]
  · simp only [Jbr]; rw [kb,kb1]
 have hn':=hn.feq (FEq.refl _) efb.symm
 have at_:∀ t,(t∈JgJ ops a∨Operand.tmp t∈a.op.operands.toList)→t∉wrS b.dst rb st:=fun t ht=>by
  refine hn'.rw t ?_
  simp only [Jbr,List.mem_append]
  rcases ht with ht | ht
  · exact .inl (.inl ht)
  · exact .inl (.inr (JhU ht).1)
 have aq:∀ t q,(t∈JgJ ops a∨Operand.tmp t∈a.op.operands.toList)→Jax st.ral t=some q→q.root∉wrS b.dst rb st:=fun t q ht hq=>by
  rcases ht with ht | ht
  · rw [gdNone h1 t ht] at hq; cases hq
  · refine hn'.rw q.root ?_
    simp only [Jbr,List.mem_append]
    exact .inl (.inr ((JhU ht).2 q hq))
 have sa:Jge P env fz N ops a (st.put b.dst rb) ra:=(Je2 kb at_ aq).2 h1
 have ka2:Jam a.dst [] (st.put b.dst rb).ral=true:=Jjm kb ka (fun x hx q=>hn.ww x (inA (dA q)) (inB (dB hx))) (fun q e q'=>hn.wr q.root (inA (dA q')) (refB q e))
 have la:∀ x,x∈JbE ra.drop (st.put b.dst rb).ral↔x∈JbE ra.drop st.ral:=JeN kb (fun x hx q=>hn.ww x (inA (pA q)) (inB (pB hx))) (fun d' q e1 e2 q'=>hn.wr q.root (inA (pA q')) (refB q e2))
 have efa:FEq (Jbr ops a (st.put b.dst rb) ra) (Jbr ops a st ra):=by
  refine ⟨?_,fun x=>?_,?_⟩
  · simp only [Jbr]; rw [JcD kb fun t ht=>at_ t (.inr ht)]
  · simp only [Jbr,List.mem_append,la]
  · simp only [Jbr]; rw [ka,ka2]
 refine ⟨sb,efb,sa,efa,?_⟩
 have ww:∀ x∈JdW a.dst ra,x∉JdW b.dst rb:=fun x hx q=>hn.ww x (inA hx) (inB q)
 refine ⟨?_,?_,(hu.put _ _).put _ _,(hu.put _ _).put _ _⟩
 · funext j
   by_cases hb:j∈JdW b.dst rb
   · have ha:j∉JdW a.dst ra:=fun q=>ww j q hb
     rw [Jb (st:=st.put b.dst rb) ha]
     by_cases hb2:j∈b.dst.toList++rb.upd.map (·.1)
     · exact JeX hb2
     · -- a slot that is dropped alone
       have:∀ s:St,(s.put b.dst rb).fr j=s.fr j:=fun s=>by
        rw [List.mem_append,not_or] at hb2
        cases hd:b.dst with
        | none=>exact JaY _ _ _ hb2.2
        | some d =>
         simp only [St.put]
         rw [Jcf _ _ (by rw [hd] at hb2; simpa using hb2.1),JaY _ _ _ hb2.2]
       rw [this,this,Jb ha]
   · rw [Jb (st:=st.put a.dst ra) hb]
     by_cases ha2:j∈a.dst.toList++ra.upd.map (·.1)
     · exact JeX ha2
     · have:∀ s:St,(s.put a.dst ra).fr j=s.fr j:=fun s=>by
        rw [List.mem_append,not_or] at ha2
        cases hd:a.dst with
        | none=>exact JaY _ _ _ ha2.2
        | some d =>
         simp only [St.put]
         rw [Jcf _ _ (by rw [hd] at ha2; simpa using ha2.1),JaY _ _ _ ha2.2]
       rw [this,this,Jb hb]
 · intro x
   rw [Jbl kb1,Jbl ka2,Jbl ka,Jbl kb]
   have addK:∀ {d:Option Nat} {r:Out} {D:List Nat} {l:List (Nat × Ref)},(∀ q,r.ref=some q→q.root∉D)→Jae none D (JbK d r l)=JbK d r (Jae none D l):=by
    intro d r D l hr
    unfold JbK
    cases d with
    | none=>rfl
    | some d =>
     cases hq:r.ref with
     | none=>rfl
     | some q =>
      simp only [Jae]
      rw [JbR (d:=none) (t:=d) (by simp) (by simp) (hr q hq),cond_true]
   rw [addK (fun q e q'=>hn.rw q.root (refA q e) (inB (pB q'))),addK (fun q e q'=>hn.wr q.root (inA (pA q')) (refB q e)),JdL]
   unfold JbK
   cases a.dst <;> cases ra.ref <;> cases b.dst <;> cases rb.ref <;> first | exact Iff.rfl | (simp only [List.mem_cons]; constructor <;> (rintro (h | h | h) <;> simp [h]))
structure Ev where
 i:Nat
 o:Oper
 r:Out
 f:Fp
variable (P env fz N ops)
inductive Runs:List Ev→St→St→Prop
 | nil (st:St):Runs [] st st
 | cons {i:Nat} {o:Oper} {r:Out} {f:Fp} {l:List Ev} {st s':St}:Jge P env fz N ops o st r→f.calm=true→FEq f (Jbr ops o st r)→Runs l (st.put o.dst r) s'→Runs (⟨i,o,r,f⟩::l) st s'
variable {P env fz N ops}
theorem Runs.eqv {l:List Ev} {st s':St} (h:Runs P env fz N ops l st s'):∀ {st2:St},Eqv st st2→∃ s2,Runs P env fz N ops l st2 s2∧Eqv s' s2:=by
 induction h with
 | nil st=>intro st2 e; exact ⟨st2,.nil _,e⟩
 | @cons i o r f l st s' h1 h2 h3 h4 ih =>
  intro st2 e
  have hk:Jam o.dst [] st.ral=true:=by rw [h3.calm] at h2; exact h2
  obtain ⟨s2,q1,q2⟩:=ih (e.put hk)
  refine ⟨s2,.cons ?_ h2 (h3.trans (e.fp _ _ _)) q1,q2⟩
  exact Jcc (fun d _=>⟨e.rf d,by rw [e.fr]⟩) (fun x _=>e.opd x) h1
theorem Runs.uq {l:List Ev} {st s':St} (h:Runs P env fz N ops l st s'):Uq st→Uq s':=by
 induction h with
 | nil st=>exact id
 | cons _ _ _ _ ih=>exact fun hu=>ih (hu.put _ _)
theorem Runs.front {y:Ev} {l:List Ev}:∀ {pre:List Ev} {st s':St},Uq st→Runs P env fz N ops (pre++y::l) st s'→(∀ x∈pre,NoClash x.f y.f)→∃ s2,Runs P env fz N ops (y::(pre++l)) st s2∧Eqv s' s2
 | [],st,s',hu,h,_=>⟨s',h,.refl (h.uq hu)⟩
 | x::pre,st,s',hu,h,hn=>by
  cases h with
  | @cons i a ra f _ _ _ h1 h2 h3 h4 =>
   obtain ⟨s2,q1,q2⟩:=Runs.front (hu.put _ _) h4 fun x hx=>hn x (List.mem_cons_of_mem _ hx)
   cases q1 with
   | @cons j b rb g _ _ _ k1 k2 k3 k4 =>
    have hnc:NoClash f g:=hn ⟨i,a,ra,f⟩ (List.mem_cons_self ..)
    obtain ⟨e1,e2,e3,e4,e5⟩:=Jlz hu h1 (by rw [←h3.calm]; exact h2) k1 (by rw [←k3.calm]; exact k2) (hnc.feq h3 k3)
    obtain ⟨s3,r1,r2⟩:=k4.eqv e5
    exact ⟨s3,.cons e1 k2 (k3.trans e2.symm) (.cons e3 h2 (h3.trans e4.symm) r1),q2.trans r2⟩
end
end Go.Proofs.YtmgfmlhdnadglaaGreatDoor.Th
set_option linter.unusedVariables false
set_option linter.unusedSimpArgs false
namespace Go.Proofs.YtmgfmlhdnadglaaGreatDoor.Th
open Go
section
variable {P:Program} {env:Env} {fz:List Nat} {N:Nat × List Nat} {ops:List Oper}
theorem JeD (henv:Jbm env) (o:Oper) (st:St):DetK (fun R (K:Out→Option R)=>JaT P env fz N ops o st fun _ r=>K r) :=
 JbM fun R K res h=>by
  obtain ⟨r,_,h2⟩:=Jeh henv h
  exact ⟨r,fun R' K'=>h2 R' fun _ r=>K' r⟩
theorem JhP (henv:Jbm env) {o:Oper} {st:St} {R:Type} (K:St→Out→Option R):JaT P env fz N ops o st K=JaT P env fz N ops o st fun _ r=>K st r:=by
 cases h:JaT P env fz N ops o st K with
 | some res =>
  obtain ⟨r,h1,h2⟩:=Jeh henv h
  rw [h2 R fun _ r=>K st r,h1]
 | none =>
  cases h':JaT P env fz N ops o st (fun _ r=>K st r) with
  | none=>rfl
  | some res =>
   obtain ⟨r,h1,h2⟩:=Jeh henv h'
   rw [h2 R K] at h
   have h1:K st r=some res:=h1
   rw [h1] at h; cases h
theorem JfQ (henv:Jbm env):∀ (l:List Oper) (st:St),DetK (fun R K=>@JgM R P env fz N ops l st K)
 | [],st=>Jac st
 | o::l,st=>by
  have:(fun (R:Type) (K:St→Option R)=>JgM P env fz N ops (o::l) st K)=fun R K=>JaT P env fz N ops o st fun _ r=>JgM P env fz N ops l (st.put o.dst r) K:=by
   funext R K
   simp only [JgM]
   rw [JhP henv]
  rw [this]
  exact Jao (f:=fun R (K:Out→Option R)=>JaT P env fz N ops o st fun _ r=>K r) (g:=fun r R K=>JgM P env fz N ops l (st.put o.dst r) K) (JeD henv o st) fun r=>JfQ henv l _
theorem JfP (henv:Jbm env):∀ (l:List Oper) (st:St) (tr:List Fp),DetK (fun R (K:St × List Fp→Option R)=>@JgB R P env fz N ops l st tr fun s t=>K (s,t))
 | [],st,tr=>Jac (st,tr)
 | o::l,st,tr=>by
  have:(fun (R:Type) (K:St × List Fp→Option R)=>JgB P env fz N ops (o::l) st tr fun s t=>K (s,t))=fun R K=>JaT P env fz N ops o st fun _ r=>JgB P env fz N ops l (st.put o.dst r) (tr++[Jbr ops o st r]) fun s t=>K (s,t):=by
   funext R K
   simp only [JgB]
   rw [JhP henv]
  rw [this]
  exact Jao (f:=fun R (K:Out→Option R)=>JaT P env fz N ops o st fun _ r=>K r) (g:=fun r R K=>JgB P env fz N ops l (st.put o.dst r) (tr++[Jbr ops o st r]) fun s t=>K (s,t)) (JeD henv o st) fun r=>JfP henv l _ _
theorem Jiv (henv:Jbm env) (draw:Bool) (fr:Fr):DetK (fun R K=>@JgO R P env fz N ops draw fr K):=by
 unfold JgO
 refine Jad (Jad ?_ Ja) ?_
 · exact Jao (f:=fun R (K:St × List Fp→Option R)=>JgB P env fz N ops ops ⟨fr,[]⟩ [] fun s t=>K (s,t)) (g:=fun x R K=>bif Jdk ops x.2 then K x.1.fr else none) (JfP henv ops _ _) fun x=>Jad (Jac _) Ja
 · exact Jao (f:=fun R K=>JgM P env fz N ops ops ⟨fr,[]⟩ K) (g:=fun s R K=>K s.fr) (JfQ henv ops _) fun s=>Jac _
def JgT (f:(R:Type)→Kc R→Option R):Prop:=DetK (fun R (K:Ex × Fr→Option R)=>f R fun e fr=>K (e,fr))
theorem JaD (e:Ex) (fr:Fr):JgT (fun R K=>K e fr):=Jac (e,fr)
theorem Jbp:JgT (fun R K=>none):=Ja
theorem Jcl {f:(R:Type)→Kc R→Option R} {g:Ex→Fr→(R:Type)→Kc R→Option R} (hf:JgT f) (hg:∀ e fr,JgT (g e fr)):JgT (fun R K=>f R fun e fr=>g e fr R K) :=
 Jao (f:=fun R (K:Ex × Fr→Option R)=>f R fun e fr=>K (e,fr)) (g:=fun x R (K:Ex × Fr→Option R)=>g x.1 x.2 R fun e fr=>K (e,fr)) hf fun x=>hg x.1 x.2
theorem JfL {c:Bool} {f g:(R:Type)→Kc R→Option R} (hf:JgT f) (hg:JgT g):JgT (fun R K=>bif c then f R K else g R K):=by cases c; exact hg; exact hf
theorem JdF {f:(R:Type)→Fr→Kc R→Option R} (hf:∀ fr,JgT (fun R K=>f R fr K)) (live out:Lv):∀ (n:Nat) (vs:List SV),JgT (fun R K=>JcL (f R) live out n vs K)
 | 0,vs=>Jbp
 | n + 1,vs=>Jcl (f:=fun R K=>f R (lk live vs) K) (g:=fun e fr R K=>match e with
  | .normal=>JcL (f R) live out n (JcQ live fr) K
  | .exit i=>K (.exit i) (lk out (JcQ out fr))
  | .ret=>K .ret (lk out (JcQ out fr))) (hf _) fun e fr=>by
   cases e with
   | normal=>exact JdF hf live out n _
   | exit i=>exact JaD _ _
   | ret=>exact JaD _ _
theorem Jjn (henv:Jbm env) (ann:Ann) (n:Nat):∀ (c:Code) (fr:Fr),JgT (fun R K=>@evC R P env ann n N c fr K):=by
 intro c
 induction c with
 | skip=>intro fr; exact JaD _ _
 | exit i=>intro fr; exact JaD _ _
 | ret=>intro fr; exact JaD _ _
 | region id ops draw =>
  intro fr
  exact Jao (f:=fun R K=>JgO P env ann.frz N ops.toList draw fr K) (g:=fun fr' R (K:Ex × Fr→Option R)=>K (.normal,fr')) (Jiv henv draw fr) fun fr'=>Jac _
 | seq a b iha ihb =>
  intro fr
  refine Jcl (f:=fun R K=>evC P env ann n N a fr K) (g:=fun e fr' R K=>match e with
   | .normal=>(match JdY ann.cuts b with
    | some (live,out)=>Jgu (fun f k=>evC P env ann n N b f k) live out (JcQ live fr') K
    | none=>evC P env ann n N b fr' K)
   | .exit i=>K (.exit i) fr'
   | .ret=>K .ret fr') (iha fr) fun e fr'=>?_
  cases e with
  | normal =>
   simp only []
   generalize JdY ann.cuts b=q
   rcases q with _ | ⟨live,out⟩
   · exact ihb fr'
   · exact Jcl (f:=fun R K=>evC P env ann n N b (lk live (JcQ live fr')) K) (g:=fun e fr R K=>K e (lk out (JcQ out fr))) (ihb _) fun e fr=>JaD _ _
  | exit i=>exact JaD _ _
  | ret=>exact JaD _ _
 | cond c a b iha ihb =>
  intro fr
  unfold evC
  generalize opd ⟨fr,[]⟩ c=r
  rcases r with _ | _ | y | _ | _ | _ | _ | _ <;> first | exact Jbp | skip
  rcases y with y | _ | _ | _ | _ <;> first | exact Jbp | skip
  cases y <;> first | exact Jbp | exact JfL (iha fr) (ihb fr)
 | block id a ih =>
  intro fr
  refine Jcl (f:=fun R K=>evC P env ann n N a fr K) (g:=fun e fr' R K=>match e with
   | .exit i=>bif Nat.beq i id then K .normal fr' else K (.exit i) fr'
   | .normal=>K .normal fr'
   | .ret=>K .ret fr') (ih fr) fun e fr'=>?_
  cases e with
  | normal=>exact JaD _ _
  | exit i=>exact JfL (JaD _ _) (JaD _ _)
  | ret=>exact JaD _ _
 | loop a ih =>
  intro fr
  unfold evC
  generalize JdY ann.loops a=q
  rcases q with _ | ⟨live,out⟩
  · exact Jbp
  · exact JdF (f:=fun R f k=>evC P env ann n N a f k) ih live out n _
 | _=>intro fr; exact Jbp
theorem JfO (ann:Ann) (fn:Func) (args:List SV) (fr:Fr):DetK (fun R K=>@Jhj R P ann fn args fr K):=by
 unfold Jhj
 generalize Jbi P (fn.ntmps,JaC 0 args) ann.rm fn.results.toList fr=q
 rcases q with _ | fr
 · exact Ja
 simp only []
 generalize Jh7 P fr ann.rm fn.results.toList=a
 generalize Je9 fr (JaC 0 args)=b
 cases a <;> cases b <;> first | exact Ja | exact Jad (Jac _) Ja
theorem Jip (henv:Jbm env) (ann:Ann) (n:Nat) (fn:Func) (args:List SV):DetK (fun R K=>@Jh4 R P env ann n fn args K):=by
 unfold Jh4
 generalize fn.body=c
 rcases c with _ | c
 · exact Ja
 refine Jad ?_ Ja
 refine Jao (f:=fun R (K:Ex × Fr→Option R)=>evC P env ann n (fn.ntmps,JaC 0 args) c (JgW args) fun e fr=>K (e,fr)) (g:=fun x R K=>match x.1 with
  | .exit _=>none
  | .normal=>Jhj P ann fn args x.2 K
  | .ret=>Jhj P ann fn args x.2 K) (Jjn henv ann n c _) fun x=>?_
 rcases x with ⟨e,fr⟩
 cases e with
 | exit i=>exact Ja
 | normal=>exact JfO ann fn args fr
 | ret=>exact JfO ann fn args fr
end
end Go.Proofs.YtmgfmlhdnadglaaGreatDoor.Th
set_option linter.unusedVariables false
namespace Go.Proofs.YtmgfmlhdnadglaaGreatDoor.Th
open Go
def Jbk (es:List PV):List PV:=es.flatMap cellsOf
theorem Jj9 {a b:Nat} (h:a≠b):Nat.beq a b=false:=by
 cases hb:Nat.beq a b with
 | false=>rfl
 | true=>exact absurd (Nat.eq_of_beq_eq_true hb) h
theorem JkL (a:Nat):Nat.beq a a=true:=Nat.beq_refl a
theorem neB {a b:Nat} (h:Nat.beq a b=false):a≠b:=fun e=>by rw [e,JkL] at h; cases h
theorem eqB {a b:Nat} (h:Nat.beq a b=true):a=b:=Nat.eq_of_beq_eq_true h
def CellsAt (F:Nat→Prop) (w:World) (a:Option Addr) (xs:List Value):Prop :=
 xs=[]∨∃ b off,a=some ⟨b,off,none⟩∧F b∧∀ j x,xs[j]? = some x→w.cell? ⟨b,off + j,none⟩=some x
mutual
inductive RP (F:Nat→Prop) (w:World):PV→Value→Prop
 | v (x:Value):RP F w (.v x) x
 | agg {cs:List PV} {vs:List Value}:RPs F w cs vs→Jan cs=true→RP F w (.agg cs) (.agg vs.toArray)
 | sh {es:List PV} {xs:List Value} {a:Option Addr} {n cap sz:Nat}:RPs F w (Jbk es) xs→(∀ e∈es,(cellsOf e).length=sz∧Jan (cellsOf e)=true)→0<sz →
  CellsAt F w a xs→n=es.length→n≤cap→cap≤maxLen→RP F w (.sh es) (.slice a n cap)
 | clo {f:FuncId} {caps:List PV} {vs:List Value}:RPs F w caps vs→RP F w (.clo f caps) (.func (.func f) #[] vs.toArray)
 | fb {cs:List PV} {xs:List Value} {b off:Nat}:RPs F w cs xs→Jan cs=true→CellsAt F w (some ⟨b,off,none⟩) xs→RP F w (.fb cs) (.pointer (some ⟨b,off,none⟩))
inductive RPs (F:Nat→Prop) (w:World):List PV→List Value→Prop
 | nil:RPs F w [] []
 | cons {x:PV} {c:Value} {l:List PV} {cs:List Value}:RP F w x c→RPs F w l cs→RPs F w (x::l) (c::cs)
end
mutual
inductive RS (P:Program) (F:Nat→Prop) (w:World):SV→Value→List Nat→Prop
 | dead (c:Value):RS P F w .dead c []
 | nl:RS P F w .nl (.slice none 0 0) []
 | p {x:PV} {c:Value}:RP F w x c→RS P F w (.p x) c []
 | own {T:TypeId} {es:List PV} {c:Value} {xs:List Value} {i:TypeInfo} {z:Value}:P.info? T=some i→i.zero=some z→z.cells.size=i.size→0<i.size →
  w.ownsRow 0 T i.size c es.length xs→RPs F w (Jbk es) xs→(∀ e∈es,(cellsOf e).length=i.size∧Jan (cellsOf e)=true)→RS P F w (.own T es) c c.ownBlock.toList
 | bx {T:TypeId} {cs:List SV} {b:Nat} {cur:Array Value} {B:List Nat}:w.heap[b]? = some (.cells cur T (0,0))→RSs P F w cs cur.toList B→(∀ x∈cur.toList,x.oneCell'=true) →
  RS P F w (.bx T cs) (.pointer (some ⟨b,0,none⟩)) (b::B)
 | tup {l:List SV} {vs:List Value} {B:List Nat}:RSs P F w l vs B→RS P F w (.tup l) (.tuple vs.toArray) B
 | ob {T e:TypeId} {bs:ByteArray} {b:Nat} {p v:Value}:w.heap[b]? = some (.cells #[p,v] T (0,0))→(p=.pointer none∨p=.pointer (some ⟨b,0,none⟩)) →
  w.ownsRowF 0 e 1 v bs.size (Lib.byteCells bs.data.toList)→v.ownBlock≠some b→RS P F w (.ob T e bs) (.pointer (some ⟨b,0,none⟩)) (b::v.ownBlock.toList)
 | st {cs:List SV} {vs:List Value} {B:List Nat}:RSs P F w cs vs B→(∀ x∈vs,x.oneCell'=true)→RS P F w (.st cs) (.agg vs.toArray) B
inductive RSs (P:Program) (F:Nat→Prop) (w:World):List SV→List Value→List Nat→Prop
 | nil:RSs P F w [] [] []
 | cons {x:SV} {c:Value} {l:List SV} {cs:List Value} {B Bs:List Nat}:RS P F w x c B→RSs P F w l cs Bs→RSs P F w (x::l) (c::cs) (B++Bs)
end
theorem Jgk {w w':World} {b off:Nat} (h:w'.heap[b]? = w.heap[b]?):w'.cell? ⟨b,off,none⟩=w.cell? ⟨b,off,none⟩ :=
 World.cell?_of_block (w:=w) (w':=w') (a:=⟨b,off,none⟩) h
theorem CellsAt.mono {F F':Nat→Prop} {w w':World} {a:Option Addr} {xs:List Value} (h:CellsAt F w a xs) (hF:∀ b,F b→F' b)
 (hw:∀ b,F b→w'.heap[b]? = w.heap[b]?):CellsAt F' w' a xs:=by
 rcases h with h | ⟨b,off,ha,hb,hc⟩
 · exact .inl h
 · exact .inr ⟨b,off,ha,hF b hb,fun j x hj=>by rw [Jgk (hw b hb)]; exact hc j x hj⟩
section
variable {F F':Nat→Prop} {w w':World}
theorem RP.mono {x:PV} {c:Value} (h:RP F w x c) (hF:∀ b,F b→F' b) (hw:∀ b,F b→w'.heap[b]? = w.heap[b]?):RP F' w' x c:=by
 refine RP.rec (motive_1:=fun x c _=>RP F' w' x c) (motive_2:=fun l cs _=>RPs F' w' l cs) ?_ ?_ ?_ ?_ ?_ ?_ ?_ h
 · intro x; exact .v x
 · intro cs vs _ hl ih; exact .agg ih hl
 · intro es xs a n cap sz _ h1 h2 h3 h4 h5 h6 ih; exact .sh ih h1 h2 (h3.mono hF hw) h4 h5 h6
 · intro f caps vs _ ih; exact .clo ih
 · intro cs xs b off _ hl hc ih; exact .fb ih hl (hc.mono hF hw)
 · exact .nil
 · intro x c l cs _ _ i1 i2; exact .cons i1 i2
theorem RPs.mono {x:List PV} {c:List Value} (h:RPs F w x c) (hF:∀ b,F b→F' b) (hw:∀ b,F b→w'.heap[b]? = w.heap[b]?):RPs F' w' x c:=by
 induction x generalizing c with
 | nil=>cases h; exact .nil
 | cons x l ih=>cases h with | cons h1 h2=>exact .cons (h1.mono hF hw) (ih h2)
end
theorem JgC {w w':World} {T:TypeId} {size:Nat} {c:Value} {n:Nat} {xs:List Value} (h:w.ownsRow 0 T size c n xs)
 (hw:∀ b,b∈c.ownBlock.toList→w'.heap[b]? = w.heap[b]?):w'.ownsRow 0 T size c n xs:=by
 refine ⟨h.1,?_⟩
 rcases h.2 with hn | ⟨g,cap,cur,rfl,hb,hg,rest⟩
 · exact .inl hn
 · exact .inr ⟨g,cap,cur,rfl,hb,by rw [hw g (by simp [Value.ownBlock])]; exact hg,rest⟩
theorem Jcd {w w':World} {T:TypeId} {size:Nat} {c:Value} {n:Nat} {xs:List Value} (h:w.ownsRowF 0 T size c n xs)
 (hw:∀ b,b∈c.ownBlock.toList→w'.heap[b]? = w.heap[b]?):w'.ownsRowF 0 T size c n xs:=by
 refine ⟨h.1,?_⟩
 rcases h.2 with hn | ⟨g,cap,cur,fz,rfl,hb,hg,rest⟩
 · exact .inl hn
 · exact .inr ⟨g,cap,cur,fz,rfl,hb,by rw [hw g (by simp [Value.ownBlock])]; exact hg,rest⟩
section
variable {P:Program} {F F':Nat→Prop} {w w':World}
theorem RS.mono {x:SV} {c:Value} {B:List Nat} (h:RS P F w x c B) (hF:∀ b,F b→F' b) (hw:∀ b,(F b∨b∈B)→w'.heap[b]? = w.heap[b]?):RS P F' w' x c B:=by
 have key:∀ {x:SV} {c:Value} {B:List Nat},RS P F w x c B→(∀ b,(F b∨b∈B)→w'.heap[b]? = w.heap[b]?)→RS P F' w' x c B:=by
  intro x c B h
  refine RS.rec (motive_1:=fun x c B _=>(∀ b,(F b∨b∈B)→w'.heap[b]? = w.heap[b]?)→RS P F' w' x c B)
   (motive_2:=fun l cs B _=>(∀ b,(F b∨b∈B)→w'.heap[b]? = w.heap[b]?)→RSs P F' w' l cs B) ?_ ?_ ?_ ?_ ?_ ?_ ?_ ?_ ?_ ?_ h
  · intro c _; exact .dead c
  · intro _; exact .nl
  · intro x c hx hw; exact .p (hx.mono hF fun b hb=>hw b (.inl hb))
  · intro T es c xs i z h1 h2 h3 h4 h5 h6 h7 hw
    exact .own h1 h2 h3 h4 (JgC h5 fun b hb=>hw b (.inr hb)) (h6.mono hF fun b hb=>hw b (.inl hb)) h7
  · intro T cs b cur B hb _ ho ih hw
    exact .bx (by rw [hw b (.inr (by simp))]; exact hb) (ih fun b' hb'=>hw b' (hb'.imp id fun h=>List.mem_cons_of_mem _ h)) ho
  · intro l vs B _ ih hw; exact .tup (ih hw)
  · intro T e bs b p v hb hp ho hne hw
    exact .ob (by rw [hw b (.inr (by simp))]; exact hb) hp (Jcd ho fun b' hb'=>hw b' (.inr (List.mem_cons_of_mem _ hb'))) hne
  · intro cs vs B _ ho ih hw; exact .st (ih hw) ho
  · intro _; exact .nil
  · intro x c l cs B Bs _ _ i1 i2 hw
    exact .cons (i1 fun b hb=>hw b (hb.imp id fun h=>List.mem_append_left _ h)) (i2 fun b hb=>hw b (hb.imp id fun h=>List.mem_append_right _ h))
 exact key h hw
theorem RSs.mono {x:List SV} {c:List Value} {B:List Nat} (h:RSs P F w x c B) (hF:∀ b,F b→F' b) (hw:∀ b,(F b∨b∈B)→w'.heap[b]? = w.heap[b]?):RSs P F' w' x c B:=by
 induction x generalizing c B with
 | nil=>cases h; exact .nil
 | cons x l ih =>
  cases h with
  | cons h1 h2=>exact .cons (h1.mono hF fun b hb=>hw b (hb.imp id fun h=>List.mem_append_left _ h)) (ih h2 fun b hb=>hw b (hb.imp id fun h=>List.mem_append_right _ h))
end
structure Keep (W:World) (A:Nat→Prop) (w:World):Prop where
 os:w.os=W.os
 tape:w.tape=W.tape
 output:w.output=W.output
 size:W.heap.size≤w.heap.size
 block:∀ b,b<W.heap.size→¬ A b→w.heap[b]? = W.heap[b]?
def JcP (P:Program) (fr:Fr) (tm:Array Value) (w:World):Ref→Value→Prop
 | .o s none,c=>c=tm.getD s undef
 | .o s (some j),c=>∀ T cs b cur T' f,fr s=.bx T cs→tm.getD s undef=.pointer (some ⟨b,0,none⟩)→w.heap[b]? = some (.cells cur T' f)→cur.toList[j]? = some c
 | .b s off,c=>∀ b,tm.getD s undef=.pointer (some ⟨b,0,none⟩)→c=.pointer (some ⟨b,off,none⟩)
 | .e s none T i off,c=>∃ g n cap,tm.getD s undef=.slice (some ⟨g,0,none⟩) n cap∧i<n∧∃ sz,Jal P T=some sz∧c=.pointer (some ⟨g,i * sz + off,none⟩)
 | .e s (some j) T i off,c=>∀ Tb cs b cur T' f,fr s=.bx Tb cs→tm.getD s undef=.pointer (some ⟨b,0,none⟩)→w.heap[b]? = some (.cells cur T' f) →
  ∃ g n cap,cur.toList[j]? = some (.slice (some ⟨g,0,none⟩) n cap)∧i<n∧∃ sz,Jal P T=some sz∧c=.pointer (some ⟨g,i * sz + off,none⟩)
structure GInv where
 ok:(Nat→Prop)→World→Prop
 st:∀ (F F':Nat→Prop) (W w:World),ok F W→(∀ b,F b→F' b)→(∀ b,F b→b<W.heap.size)→(∀ b,F b→w.heap[b]? = W.heap[b]?)→ok F' w
def GInv.none:GInv:=⟨fun _ _=>True,fun _ _ _ _ _ _ _ _=>trivial⟩
structure Gd where
 W:World
 A:Nat→Prop
 F0:Nat→Prop
 N:Nat × List Nat
 V:Nat→Value
 I:GInv
 hI:∀ (F:Nat→Prop) (w:World),(∀ b,F0 b→F b)→Keep W A w→I.ok F w
structure Rel (P:Program) (G:Gd) (F:Nat→Prop) (Bs:Nat→List Nat) (st:St) (tm:Array Value) (w:World):Prop where
 sz:tm.size=G.N.1
 sl:∀ i,RS P F w (st.fr i) (tm.getD i undef) (Bs i)
 nd:∀ i,(Bs i).Nodup
 dj:∀ i j b,i≠j→b∈Bs i→b∉Bs j
 nf:∀ i b,b∈Bs i→¬ F b
 nw:∀ i b,b∈Bs i→G.W.heap.size≤b∨G.A b
 lt:∀ i b,b∈Bs i→b<w.heap.size
 fl:∀ b,F b→b<w.heap.size
 f0:∀ b,G.F0 b→F b
 fn:∀ b,F b→G.F0 b∨G.W.heap.size≤b∨G.A b
 kb:Keep G.W G.A w
 rf:∀ t r,(t,r)∈st.ral→JcP P st.fr tm w r (tm.getD t undef)
 pn:∀ i∈G.N.2,tm.getD i undef=G.V i
def upB (Bs:Nat→List Nat) (s:Nat) (B:List Nat):Nat→List Nat:=fun i=>if i=s then B else Bs i
theorem Jah (Bs:Nat→List Nat) (s:Nat) (B:List Nat):upB Bs s B s=B:=by simp [upB]
theorem Jaf (Bs:Nat→List Nat) {s i:Nat} (B:List Nat) (h:i≠s):upB Bs s B i=Bs i:=by simp [upB,h]
theorem JaK (fr:Fr) (s:Nat) (x:SV):JdU fr s x s=x:=by simp [JdU]
theorem Jar (fr:Fr) {s i:Nat} (x:SV) (h:i≠s):JdU fr s x i=fr i:=by
 simp [JdU,Jj9 h]
theorem JbB {tm:Array Value} {d:Nat} {c:Value} (h:d<tm.size):(tm.setIfInBounds d c).getD d undef=c:=by simp [h]
theorem Jav {tm:Array Value} {d i:Nat} {c:Value} (h:i≠d):(tm.setIfInBounds d c).getD i undef=tm.getD i undef:=by
 simp [Array.getElem?_setIfInBounds_ne (Ne.symm h)]
theorem JeY {t:Nat} {r:Ref}:∀ {l:List (Nat × Ref)},Jax l t=some r→(t,r)∈l
 | [],h=>by simp [Jax] at h
 | (u,q)::l,h=>by
  simp only [Jax] at h
  cases hu:Nat.beq u t with
  | true =>
   simp only [hu,cond_true,Option.some.injEq] at h
   have:=Nat.eq_of_beq_eq_true hu
   subst this; subst h
   exact List.mem_cons_self
  | false =>
   simp only [hu,cond_false] at h
   exact List.mem_cons_of_mem _ (JeY h)
theorem Jb4 {d:Option Nat} {drop:List Nat} {t:Nat} {r:Ref}:∀ {l:List (Nat × Ref)},(t,r)∈Jae d drop l→(t,r)∈l∧Jaj d drop t r=true
 | [],h=>by simp [Jae] at h
 | (u,q)::l,h=>by
  simp only [Jae] at h
  cases hk:Jaj d drop u q with
  | false =>
   simp only [hk,cond_false] at h
   exact ⟨List.mem_cons_of_mem _ (Jb4 h).1,(Jb4 h).2⟩
  | true =>
   simp only [hk,cond_true,List.mem_cons] at h
   rcases h with h | h
   · cases h; exact ⟨List.mem_cons_self,hk⟩
   · exact ⟨List.mem_cons_of_mem _ (Jb4 h).1,(Jb4 h).2⟩
theorem JiB {d:Nat} {drop:List Nat} {t:Nat} {r:Ref} (h:Jaj (some d) drop t r=true):t≠d∧r.root≠d:=by
 simp only [Jaj,Bool.and_eq_true,Bool.not_eq_true'] at h
 exact ⟨neB h.1.1,neB h.1.2⟩
theorem Jbt (d:Option Nat) (drop:List Nat):∀ l:List (Nat × Ref),Jae d [] (Jae none drop l)=Jae d drop l
 | []=>rfl
 | (t,r)::l=>by
  have ih:=Jbt d drop l
  have e:Jaj d drop t r=(Jaj none drop t r&&Jaj d [] t r):=by
   cases d <;> simp [Jaj,Jbf,Bool.and_comm]
  simp only [Jae]
  cases h1:Jaj none drop t r <;> cases h2:Jaj d [] t r <;> simp [e,h1,h2,Jae,ih]
def St.upS (st:St) (us:List (Nat × SV)) (drop:List Nat):St:={ fr:=JaA st.fr us,ral:=Jae none drop st.ral }
theorem JjS (st:St) (d:Option Nat) (x:SV) (r:Option Ref) (us:List (Nat × SV)) (drop:List Nat) :
 st.put d ⟨x,r,us,drop⟩=(st.upS us drop).put d ⟨x,r,[],[]⟩:=by
 cases d <;> cases r <;> simp [St.put,St.upS,JaA,Jbt]
section
variable {P:Program} {G:Gd} {F:Nat→Prop} {Bs:Nat→List Nat} {st:St} {tm:Array Value} {w:World}
theorem Rel.put (h:Rel P G F Bs st tm w) {d:Nat} {x:SV} {c:Value} {B:List Nat} {r:Option Ref} (hd:d<G.N.1) (hpn:d∉G.N.2)
 (hx:RS P F w x c B) (hn:B.Nodup) (hj:∀ i b,i≠d→b∈B→b∉Bs i) (hf:∀ b∈B,¬ F b) (hw:∀ b∈B,G.W.heap.size≤b∨G.A b) (hl:∀ b∈B,b<w.heap.size)
 (hr:∀ q,r=some q→q.root≠d∧JcP P st.fr tm w q c) :
 Rel P G F (upB Bs d B) (st.put (some d) ⟨x,r,[],[]⟩) (tm.setIfInBounds d c) w:=by
 have hsz:d<tm.size:=by rw [h.sz]; exact hd
 have frd:∀ i,i≠d→JdU st.fr d x i=st.fr i:=fun i hi=>Jar _ _ hi
 have ref:∀ (q:Ref) (c':Value),q.root≠d→JcP P st.fr tm w q c'→JcP P (JdU st.fr d x) (tm.setIfInBounds d c) w q c':=by
  intro q c' hq hok
  cases q with
  | o s j =>
   have hs:s≠d:=hq
   cases j <;> simp only [JcP,frd s hs,Jav hs] at hok ⊢ <;> exact hok
  | b s off=>have hs:s≠d:=hq; simp only [JcP,Jav hs] at hok ⊢; exact hok
  | e s j T i off =>
   have hs:s≠d:=hq
   cases j <;> simp only [JcP,frd s hs,Jav hs] at hok ⊢ <;> exact hok
 have hfr:(st.put (some d) ⟨x,r,[],[]⟩).fr=JdU st.fr d x:=rfl
 refine ⟨by simp [h.sz],?_,?_,?_,?_,?_,?_,h.fl,h.f0,h.fn,h.kb,?_,fun i hi=>by
  have hne:i≠d:=fun e=>by subst e; exact hpn hi
  rw [Jav hne]; exact h.pn i hi⟩
 · intro i
   rw [hfr]
   by_cases hi:i=d
   · subst hi; rw [JaK,Jah,JbB hsz]; exact hx
   · rw [frd i hi,Jaf _ _ hi,Jav hi]; exact h.sl i
 · intro i
   by_cases hi:i=d
   · subst hi; rw [Jah]; exact hn
   · rw [Jaf _ _ hi]; exact h.nd i
 · intro i j b hij hb
   by_cases hi:i=d
   · subst hi
     rw [Jah] at hb
     rw [Jaf _ _ (Ne.symm hij)]
     exact hj j b (Ne.symm hij) hb
   · rw [Jaf _ _ hi] at hb
     by_cases hj':j=d
     · subst hj'; rw [Jah]; exact fun hb'=>hj i b hi hb' hb
     · rw [Jaf _ _ hj']; exact h.dj i j b hij hb
 · intro i b hb
   by_cases hi:i=d
   · subst hi; rw [Jah] at hb; exact hf b hb
   · rw [Jaf _ _ hi] at hb; exact h.nf i b hb
 · intro i b hb
   by_cases hi:i=d
   · subst hi; rw [Jah] at hb; exact hw b hb
   · rw [Jaf _ _ hi] at hb; exact h.nw i b hb
 · intro i b hb
   by_cases hi:i=d
   · subst hi; rw [Jah] at hb; exact hl b hb
   · rw [Jaf _ _ hi] at hb; exact h.lt i b hb
 · intro t q hm
   rw [hfr]
   have old:∀ t q,(t,q)∈Jae (some d) [] st.ral→JcP P (JdU st.fr d x) (tm.setIfInBounds d c) w q ((tm.setIfInBounds d c).getD t undef):=by
    intro t q hm
    obtain ⟨hm,hk⟩:=Jb4 hm
    obtain ⟨ht,hq⟩:=JiB hk
    rw [Jav ht]
    exact ref q _ hq (h.rf t q hm)
   cases r with
   | none=>exact old t q hm
   | some q0 =>
    simp only [St.put,List.mem_cons] at hm
    rcases hm with hm | hm
    · cases hm
      obtain ⟨h1,h2⟩:=hr q rfl
      rw [JbB hsz]
      exact ref q _ h1 h2
    · exact old t q hm
theorem RS.bx_mem {T:TypeId} {cs:List SV} {b:Nat} {B:List Nat} (h:RS P F w (.bx T cs) (.pointer (some ⟨b,0,none⟩)) B):b∈B:=by
 generalize hc:(Value.pointer (some ⟨b,0,none⟩))=c at h
 cases h with
 | bx _ _ _=>simp at hc; simp [hc]
theorem Jec {l:List Nat} {s:Nat} (hl:s∈l):Jbf l s=true:=by
 induction l with
 | nil=>simp at hl
 | cons y l ih =>
  simp only [Jbf]
  cases hy:Nat.beq y s with
  | true=>simp
  | false =>
   simp only [cond_false]
   rcases List.mem_cons.1 hl with h1 | h1
   · exact absurd h1.symm (neB hy)
   · exact ih h1
theorem JhE {l:List Nat} {s:Nat} (h:Jbf l s=true):s∈l:=by
 induction l with
 | nil=>simp [Jbf] at h
 | cons y l ih =>
  simp only [Jbf] at h
  cases hy:Nat.beq y s with
  | true=>rw [eqB hy]; exact List.mem_cons_self
  | false=>rw [hy] at h; exact List.mem_cons_of_mem _ (ih h)
theorem Rel.turn (h:Rel P G F Bs st tm w) {s:Nat} {x:SV} {B:List Nat} {F':Nat→Prop} {w':World} {drop:List Nat}
 (hx:RS P F' w' x (tm.getD s undef) B) (hB:∀ b∈B,b∈Bs s∨(¬ (∃ i,b∈Bs i)∧(G.W.heap.size≤b∨G.A b)∧b<w'.heap.size)) (hn:B.Nodup)
 (hF:∀ b,F b→F' b) (hF':∀ b,F' b→F b∨(b∈Bs s∧b∉B))
 (hnf:∀ b∈B,¬ F' b)
 (hw:∀ b,b<w.heap.size→b∉Bs s→w'.heap[b]? = w.heap[b]?) (hz:w.heap.size≤w'.heap.size)
 (hos:w'.os=w.os∧w'.tape=w.tape∧w'.output=w.output)
 (hbox:∀ T cs b,st.fr s=.bx T cs→tm.getD s undef=.pointer (some ⟨b,0,none⟩)→s∈drop∨w'.heap[b]? = w.heap[b]?)
 (hxb:∀ T cs,x=.bx T cs→s∈drop∨∃ T' cs',st.fr s=.bx T' cs') :
 Rel P G F' (upB Bs s B) (st.upS [(s,x)] drop) tm w':=by
 have keepF:∀ i,i≠s→∀ b,(F b∨b∈Bs i)→w'.heap[b]? = w.heap[b]? := by
  intro i hi b hb
  rcases hb with hb | hb
  · exact hw b (h.fl b hb) fun hs=>h.nf s b hs hb
  · exact hw b (h.lt i b hb) (h.dj i s b hi hb)
 have hfr:(st.upS [(s,x)] drop).fr=JdU st.fr s x:=rfl
 refine ⟨h.sz,?_,?_,?_,?_,?_,?_,?_,fun b hb=>hF b (h.f0 b hb),?_,?_,?_,h.pn⟩
 · intro i
   rw [hfr]
   by_cases hi:i=s
   · subst hi; rw [JaK,Jah]; exact hx
   · rw [Jar _ _ hi,Jaf _ _ hi]; exact (h.sl i).mono hF (keepF i hi)
 · intro i
   by_cases hi:i=s
   · subst hi; rw [Jah]; exact hn
   · rw [Jaf _ _ hi]; exact h.nd i
 · intro i j b hij hb
   by_cases hi:i=s
   · subst hi
     rw [Jah] at hb
     rw [Jaf _ _ (Ne.symm hij)]
     rcases hB b hb with hb | hb
     · exact h.dj _ _ b hij hb
     · exact fun hc=>hb.1 ⟨j,hc⟩
   · rw [Jaf _ _ hi] at hb
     by_cases hj:j=s
     · subst hj
       rw [Jah]
       intro hc
       rcases hB b hc with hc | hc
       · exact h.dj _ _ b hij hb hc
       · exact hc.1 ⟨i,hb⟩
     · rw [Jaf _ _ hj]; exact h.dj i j b hij hb
 · intro i b hb
   by_cases hi:i=s
   · subst hi; rw [Jah] at hb; exact hnf b hb
   · rw [Jaf _ _ hi] at hb
     intro hf
     rcases hF' b hf with hf | ⟨hf,_⟩
     · exact h.nf i b hb hf
     · exact h.dj i s b hi hb hf
 · intro i b hb
   by_cases hi:i=s
   · subst hi
     rw [Jah] at hb
     rcases hB b hb with hb | hb
     · exact h.nw _ b hb
     · exact hb.2.1
   · rw [Jaf _ _ hi] at hb; exact h.nw i b hb
 · intro i b hb
   by_cases hi:i=s
   · subst hi
     rw [Jah] at hb
     rcases hB b hb with hb | hb
     · exact Nat.lt_of_lt_of_le (h.lt _ b hb) hz
     · exact hb.2.2
   · rw [Jaf _ _ hi] at hb; exact Nat.lt_of_lt_of_le (h.lt i b hb) hz
 · intro b hb
   rcases hF' b hb with hb | ⟨hb,_⟩
   · exact Nat.lt_of_lt_of_le (h.fl b hb) hz
   · exact Nat.lt_of_lt_of_le (h.lt s b hb) hz
 · intro b hb
   rcases hF' b hb with hb | ⟨hb,_⟩
   · exact h.fn b hb
   · exact .inr (h.nw s b hb)
 · refine ⟨hos.1.trans h.kb.os,hos.2.1.trans h.kb.tape,hos.2.2.trans h.kb.output,Nat.le_trans h.kb.size hz,fun b hb hA=>?_⟩
   rw [hw b (Nat.lt_of_lt_of_le hb h.kb.size) fun hs=>?_]
   · exact h.kb.block b hb hA
   · rcases h.nw s b hs with h1 | h1
     · omega
     · exact hA h1
 · intro t q hm
   rw [hfr]
   obtain ⟨hm,hk⟩:=Jb4 hm
   have hok:=h.rf t q hm
   have box:∀ u T cs b,st.fr u=.bx T cs→tm.getD u undef=.pointer (some ⟨b,0,none⟩)→u∉drop→w'.heap[b]? = w.heap[b]? := by
    intro u T cs b hu ht hnd
    by_cases hus:u=s
    · subst hus
      exact (hbox T cs b hu ht).resolve_left hnd
    · have hsl:=h.sl u
      rw [hu,ht] at hsl
      exact keepF u hus b (.inr hsl.bx_mem)
   have nodrop:q.cell=true→q.root∉drop:=by
    intro hc hd
    simp [Jaj,hc,Jec hd] at hk
   have fro:∀ u T cs,JdU st.fr s x u=.bx T cs→u∉drop→∃ T' cs',st.fr u=.bx T' cs':=by
    intro u T cs hu hnd
    by_cases hus:u=s
    · subst hus
      rw [JaK] at hu
      exact (hxb T cs hu).resolve_left hnd
    · rw [Jar _ _ hus] at hu; exact ⟨T,cs,hu⟩
   cases q with
   | b u off=>exact hok
   | o u j =>
    cases j with
    | none=>exact hok
    | some j =>
     have hnd:u∉drop:=nodrop rfl
     intro T cs b cur T' f hu ht hb
     obtain ⟨T1,cs1,hu1⟩:=fro u T cs hu hnd
     rw [box u T1 cs1 b hu1 ht hnd] at hb
     exact hok T1 cs1 b cur T' f hu1 ht hb
   | e u j T i off =>
    cases j with
    | none=>exact hok
    | some j =>
     have hnd:u∉drop:=nodrop rfl
     intro Tb cs b cur T' f hu ht hb
     obtain ⟨T1,cs1,hu1⟩:=fro u Tb cs hu hnd
     rw [box u T1 cs1 b hu1 ht hnd] at hb
     exact hok T1 cs1 b cur T' f hu1 ht hb
end
abbrev blk (c:Value):List Nat:=c.ownBlock.toList
def JaZ (fr:Fr) (tm:Array Value) (w:World) (s:Nat) (cx:Option (Nat × TypeId × List SV)) (T:TypeId) (es:List PV) (cv:Value):Prop :=
 match cx with
 | none=>fr s=.own T es∧tm.getD s undef=cv
 | some (j,Tb,cs)=>fr s=.bx Tb cs∧cs[j]? = some (.own T es) ∧
  ∃ b cur,tm.getD s undef=.pointer (some ⟨b,0,none⟩)∧w.heap[b]? = some (.cells cur Tb (0,0))∧cur.toList[j]? = some cv
def RVR (P:Program) (F:Nat→Prop) (fr:Fr) (tm:Array Value) (w:World):RV→Value→Prop
 | .bad,_=>True
 | .nl,c=>c=.slice none 0 0
 | .pv x,c=>RP F w x c
 | .own s cx T es,c=>JaZ fr tm w s cx T es c
 | .box s off T cs,c=>fr s=.bx T cs∧∃ b,tm.getD s undef=.pointer (some ⟨b,0,none⟩)∧c=.pointer (some ⟨b,off,none⟩)
 | .el s cx T es i off,c=>∃ g n cap sz,JaZ fr tm w s cx T es (.slice (some ⟨g,0,none⟩) n cap)∧i<n∧Jal P T=some sz∧c=.pointer (some ⟨g,i * sz + off,none⟩)
 | .tup s l,c=>fr s=.tup l∧tm.getD s undef=c
 | .ob s T e bs,c=>fr s=.ob T e bs∧tm.getD s undef=c
 | .st s cs,c=>fr s=.st cs∧tm.getD s undef=c
section
variable {P:Program} {F:Nat→Prop} {w:World}
theorem RSs.get {cs:List SV} {vs:List Value} {B:List Nat} (h:RSs P F w cs vs B):∀ {j:Nat} {x:SV},cs[j]? = some x →
 ∃ c Bj pre post,vs[j]? = some c∧RS P F w x c Bj∧B=pre++Bj++post ∧
  ∀ (F':Nat→Prop) (w':World) (x':SV) (c':Value) (B':List Nat),(∀ b,F b→F' b)→(∀ b,(F b∨b∈pre∨b∈post)→w'.heap[b]? = w.heap[b]?) →
   RS P F' w' x' c' B'→RSs P F' w' (cs.set j x') (vs.set j c') (pre++B'++post):=by
 induction cs generalizing vs B with
 | nil=>intro j x hj; simp at hj
 | cons y l ih =>
  intro j x hj
  cases h with
  | cons h1 h2 =>
   rename_i c cs' B1 B2
   cases j with
   | zero =>
    simp at hj; subst hj
    refine ⟨c,B1,[],B2,by simp,h1,by simp,fun F' w' x' c' B' hF hw hx=>?_⟩
    simpa using RSs.cons hx (h2.mono hF fun b hb=>hw b (hb.imp id .inr))
   | succ j =>
    simp at hj
    obtain ⟨c',Bj,pre,post,e1,e2,e3,e4⟩:=ih h2 hj
    refine ⟨c',Bj,B1++pre,post,by simpa using e1,e2,by simp [e3],fun F' w' x' c'' B' hF hw hx=>?_⟩
    have:=RSs.cons (h1.mono hF fun b hb=>hw b (hb.imp id fun q=>.inl (List.mem_append_left _ q)))
     (e4 F' w' x' c'' B' hF (fun b hb=>hw b (hb.imp id (Or.imp (List.mem_append_right _) id))) hx)
    simpa using this
theorem Jcr {α:Type} {l:List α} {j:Nat} {x:α} (h:l[j]? = some x):j<l.length:=by
 rcases Nat.lt_or_ge j l.length with q | q
 · exact q
 · rw [List.getElem?_eq_none q] at h; cases h
theorem Jf8 {α:Type} {l:List α} {j:Nat} {x:α} (h:l[j]? = some x):l.set j x=l:=by
 apply List.ext_getElem?
 intro k
 by_cases hk:k=j
 · subst hk; rw [h,List.getElem?_set_self (Jcr h)]
 · rw [List.getElem?_set_ne (Ne.symm hk)]
theorem RSs.length {cs:List SV} {vs:List Value} {B:List Nat} (h:RSs P F w cs vs B):cs.length=vs.length:=by
 induction cs generalizing vs B with
 | nil=>cases h; rfl
 | cons y l ih=>cases h with | cons _ h2=>simp [ih h2]
theorem RPs.length {cs:List PV} {vs:List Value} (h:RPs F w cs vs):cs.length=vs.length:=by
 induction cs generalizing vs with
 | nil=>cases h; rfl
 | cons y l ih=>cases h with | cons _ h2=>simp [ih h2]
theorem RPs.get {cs:List PV} {vs:List Value} (h:RPs F w cs vs):∀ {j:Nat} {x:PV},cs[j]? = some x→∃ c,vs[j]? = some c∧RP F w x c:=by
 induction cs generalizing vs with
 | nil=>intro j x hj; simp at hj
 | cons y l ih =>
  intro j x hj
  cases h with
  | cons h1 h2 =>
   cases j with
   | zero=>simp at hj; subst hj; exact ⟨_,by simp,h1⟩
   | succ j=>simp at hj; obtain ⟨c,e1,e2⟩:=ih h2 hj; exact ⟨c,by simpa using e1,e2⟩
theorem RPs.append {a b:List PV} {x y:List Value} (h1:RPs F w a x) (h2:RPs F w b y):RPs F w (a++b) (x++y):=by
 induction a generalizing x with
 | nil=>cases h1; exact h2
 | cons _ _ ih=>cases h1 with | cons a b=>exact .cons a (ih b)
theorem RPs.take {a:List PV} {x:List Value} (h:RPs F w a x) (n:Nat):RPs F w (a.take n) (x.take n):=by
 induction a generalizing x n with
 | nil=>cases h; simpa using RPs.nil
 | cons _ _ ih=>cases h with | cons a b=>cases n with | zero=>exact .nil | succ n=>exact .cons a (ih b n)
theorem RPs.drop {a:List PV} {x:List Value} (h:RPs F w a x) (n:Nat):RPs F w (a.drop n) (x.drop n):=by
 induction a generalizing x n with
 | nil=>cases h; simpa using RPs.nil
 | cons _ _ ih=>cases h with | cons a b=>cases n with | zero=>exact .cons a b | succ n=>exact ih b n
theorem RPs.set {a:List PV} {x:List Value} (h:RPs F w a x) {p:PV} {c:Value} (hp:RP F w p c) (n:Nat):RPs F w (a.set n p) (x.set n c):=by
 induction a generalizing x n with
 | nil=>cases h; simpa using RPs.nil
 | cons _ _ ih=>cases h with | cons a b=>cases n with | zero=>exact .cons hp b | succ n=>exact .cons a (ih b n)
end
section
variable {P:Program} {G:Gd} {F:Nat→Prop} {Bs:Nat→List Nat} {st:St} {tm:Array Value} {w:World}
theorem getD_some {cs:List SV} {j:Nat} {x:SV} (h:cs.getD j .dead=x) (hx:x≠.dead):cs[j]? = some x:=by
 rw [List.getD_eq_getElem?_getD] at h
 cases hc:cs[j]? with
 | none=>rw [hc] at h; exact absurd h.symm hx
 | some y=>rw [hc] at h; simpa using h
theorem Rel.box_inv (h:Rel P G F Bs st tm w) {s:Nat} {T:TypeId} {cs:List SV} (hs:st.fr s=.bx T cs) :
 ∃ b cur B,tm.getD s undef=.pointer (some ⟨b,0,none⟩)∧w.heap[b]? = some (.cells cur T (0,0))∧RSs P F w cs cur.toList B∧(∀ x∈cur.toList,x.oneCell'=true)∧Bs s=b::B:=by
 have:=h.sl s
 rw [hs] at this
 generalize hc:tm.getD s undef=c at this
 generalize hB:Bs s=B at this
 cases this with
 | bx h1 h2 h3=>exact ⟨_,_,_,rfl,h1,h2,h3,rfl⟩
theorem Rel.own_inv (h:Rel P G F Bs st tm w) {s:Nat} {T:TypeId} {es:List PV} (hs:st.fr s=.own T es):RS P F w (.own T es) (tm.getD s undef) (Bs s)∧Bs s=blk (tm.getD s undef):=by
 have:=h.sl s
 rw [hs] at this
 refine ⟨this,?_⟩
 generalize hB:Bs s=B at this
 cases this with
 | own _ _ _ _ _ _ _=>rfl
theorem Rel.ob_inv (h:Rel P G F Bs st tm w) {s:Nat} {T e:TypeId} {bs:ByteArray} (hs:st.fr s=.ob T e bs):∃ b,tm.getD s undef=.pointer (some ⟨b,0,none⟩):=by
 have:=h.sl s
 rw [hs] at this
 generalize tm.getD s undef=c at this
 generalize Bs s=B at this
 cases this with
 | ob _ _ _ _=>exact ⟨_,rfl⟩
theorem Rel.place (h:Rel P G F Bs st tm w) {s:Nat} {cx:Option (Nat × TypeId × List SV)} {T:TypeId} {es:List PV} {cv:Value} (hp:JaZ st.fr tm w s cx T es cv) :
 RS P F w (.own T es) cv (blk cv)∧(∀ b∈blk cv,b∈Bs s):=by
 cases cx with
 | none =>
  obtain ⟨h1,rfl⟩:=hp
  obtain ⟨h2,h3⟩:=h.own_inv h1
  rw [h3] at h2
  exact ⟨h2,fun b hb=>by rw [h3]; exact hb⟩
 | some q =>
  obtain ⟨j,Tb,cs⟩:=q
  obtain ⟨h1,h2,b,cur,h3,h4,h5⟩:=hp
  obtain ⟨b',cur',B,e1,e2,e3,e4,e5⟩:=h.box_inv h1
  rw [h3] at e1
  cases e1
  rw [h4] at e2
  cases e2
  obtain ⟨c,Bj,pre,post,f1,f2,f3,f4⟩:=e3.get h2
  rw [h5] at f1
  cases f1
  have hb:Bj=blk cv:=by cases f2 with | own _ _ _ _ _ _ _=>rfl
  subst hb
  exact ⟨f2,fun x hx=>by rw [e5,f3]; simp [hx]⟩
theorem JiC (h:Rel P G F Bs st tm w) (t:Nat):RVR P F st.fr tm w (look st t) (tm.getD t undef):=by
 unfold look
 cases hr:Jax st.ral t with
 | none =>
  simp only []
  have hs:=h.sl t
  cases hf:st.fr t with
  | dead=>trivial
  | nl =>
   rw [hf] at hs
   generalize tm.getD t undef=c at hs ⊢
   generalize Bs t=B at hs
   cases hs; rfl
  | p x =>
   rw [hf] at hs
   generalize tm.getD t undef=c at hs ⊢
   generalize Bs t=B at hs
   cases hs with | p h=>exact h
  | own T es=>exact ⟨hf,rfl⟩
  | bx T cs =>
   obtain ⟨b,cur,B,e1,_⟩:=h.box_inv hf
   exact ⟨hf,b,e1,e1⟩
  | tup l=>exact ⟨hf,rfl⟩
  | ob T e bs=>exact ⟨hf,rfl⟩
  | st cs=>exact ⟨hf,rfl⟩
 | some r =>
  simp only []
  have hok:=h.rf t r (JeY hr)
  have ownCase:∀ (s:Nat) (x:SV),st.fr s=x→tm.getD t undef=tm.getD s undef→RVR P F st.fr tm w (JjP s none x) (tm.getD t undef):=by
   intro s x hx hc
   have hs:=h.sl s
   rw [hx] at hs
   cases x with
   | own T es=>exact ⟨hx,hc.symm⟩
   | p y =>
    rw [hc]
    generalize tm.getD s undef=c at hs ⊢
    generalize Bs s=B at hs
    cases hs with | p h=>exact h
   | nl =>
    rw [hc]
    generalize tm.getD s undef=c at hs ⊢
    generalize Bs s=B at hs
    cases hs; rfl
   | _=>trivial
  cases r with
  | o s j =>
   cases j with
   | none=>exact ownCase s _ rfl hok
   | some j =>
    simp only [Jex]
    cases hf:st.fr s with
    | bx T cs =>
     obtain ⟨b,cur,B,e1,e2,e3,e4,e5⟩:=h.box_inv hf
     have hc:=hok T cs b cur T _ hf e1 e2
     simp only []
     cases hx:cs.getD j .dead with
     | own T' es=>exact ⟨hf,getD_some hx (by simp),b,cur,e1,e2,hc⟩
     | p y =>
      obtain ⟨c,Bj,pre,post,f1,f2,_⟩:=e3.get (getD_some hx (by simp))
      rw [hc] at f1
      simp only [Option.some.injEq] at f1
      show RP F w y (tm.getD t undef)
      rw [f1]
      cases f2 with | p h=>exact h
     | nl =>
      obtain ⟨c,Bj,pre,post,f1,f2,_⟩:=e3.get (getD_some hx (by simp))
      rw [hc] at f1
      simp only [Option.some.injEq] at f1
      show tm.getD t undef=_
      rw [f1]
      cases f2; rfl
     | _=>trivial
    | _=>trivial
  | b s off =>
   simp only [Jex]
   cases hf:st.fr s with
   | bx T cs =>
    obtain ⟨b,cur,B,e1,_⟩:=h.box_inv hf
    exact ⟨hf,b,e1,hok b e1⟩
   | ob T e bs =>
    have hs:=h.sl s
    rw [hf] at hs
    simp only []
    cases ho:Nat.beq off 0 with
    | false=>trivial
    | true =>
     have ho:=eqB ho
     subst ho
     refine ⟨hf,?_⟩
     generalize hc:tm.getD s undef=cs at hs
     generalize Bs s=B at hs
     cases hs with
     | ob _ _ _ _=>exact (hok _ hc).symm
   | _=>trivial
  | e s j T i off =>
   cases j with
   | none =>
    simp only [Jex]
    cases hf:st.fr s with
    | own T' es =>
     simp only [JkO]
     cases hT:Nat.beq T' T with
     | false=>trivial
     | true =>
      rw [eqB hT] at hf
      obtain ⟨g,n,cap,e1,e2,sz,e3,e4⟩:=hok
      exact ⟨g,n,cap,sz,⟨hf,e1⟩,e2,e3,e4⟩
    | _=>trivial
   | some j =>
    simp only [Jex]
    cases hf:st.fr s with
    | bx Tb cs =>
     simp only []
     cases hx:cs.getD j .dead with
     | own T' es =>
      simp only [JkO]
      cases hT:Nat.beq T' T with
      | false=>trivial
      | true =>
       rw [eqB hT] at hx
       obtain ⟨b,cur,B,e1,e2,e3,e4,e5⟩:=h.box_inv hf
       obtain ⟨g,n,cap,f1,f2,sz,f3,f4⟩:=hok Tb cs b cur Tb _ hf e1 e2
       exact ⟨g,n,cap,sz,⟨hf,getD_some hx (by simp),b,cur,e1,e2,f1⟩,f2,f3,f4⟩
     | _=>trivial
    | _=>trivial
theorem JcI (F:Nat→Prop) (w:World):RP F w (.sh []) (.slice none 0 0) :=
 .sh (xs:=[]) (sz:=1) .nil (by simp) (by decide) (.inl rfl) rfl (Nat.le_refl _) (Nat.zero_le _)
theorem Jfd (F:Nat→Prop) (w:World) (x:Value):RP F w (cpv x) x:=by
 unfold cpv
 split
 · exact JcI F w
 · exact .v x
theorem JcS (F:Nat→Prop) (w:World):∀ l:List Value,RPs F w (l.map cpv) l
 | []=>.nil
 | x::l=>.cons (Jfd F w x) (JcS F w l)
theorem Jag {a:Act} (h:Rel P G F Bs st a.tmps w) (x:Operand):RVR P F st.fr a.tmps w (opd st x) (a.eval x):=by
 cases x with
 | tmp t=>exact JiC h t
 | const x =>
  simp only [opd,Act.eval,Jhb]
  split
  · rfl
  · rename_i cs
    cases hl:Jan (cs.toList.map cpv) with
    | false=>rw [cond_false]; trivial
    | true =>
     have:=RP.agg (JcS F w cs.toList) hl
     rw [cond_true]
     simpa [RVR] using this
  · exact RP.v _
 | global g=>trivial
 | func f=>exact RP.v _
theorem Rel.turnPl (h:Rel P G F Bs st tm w) {s:Nat} {cx:Option (Nat × TypeId × List SV)} {T:TypeId} {es:List PV} {cv:Value} (hp:JaZ st.fr tm w s cx T es cv)
 {x:SV} {B:List Nat} {F':Nat→Prop} {w':World}
 (hx:RS P F' w' x cv B) (hB:∀ b∈B,b∈blk cv) (hn:B.Nodup)
 (hF:∀ b,F b→F' b) (hF':∀ b,F' b→F b∨(b∈blk cv∧b∉B)) (hnf:∀ b∈B,¬ F' b)
 (hw:∀ b,b<w.heap.size→b∉blk cv→w'.heap[b]? = w.heap[b]?) (hz:w.heap.size≤w'.heap.size)
 (hos:w'.os=w.os∧w'.tape=w.tape∧w'.output=w.output) (hnb:∀ T cs,x≠.bx T cs) :
 ∃ Bs',Rel P G F' Bs' (st.upS [Jaz s cx x] []) tm w'∧(∀ i b,b∈Bs' i→b∈Bs i)∧(∀ b,b∈blk cv→b∉B→∀ i,b∉Bs' i):=by
 have hpl:=h.place hp
 cases cx with
 | none =>
  obtain ⟨h1,rfl⟩:=hp
  obtain ⟨h2,h3⟩:=h.own_inv h1
  refine ⟨upB Bs s B,h.turn (drop:=[]) hx (fun b hb=>.inl (hpl.2 b (hB b hb))) hn hF (fun b hb=>(hF' b hb).imp id fun q=>⟨hpl.2 b q.1,q.2⟩) hnf
   (fun b hb hs=>hw b hb fun q=>hs (hpl.2 b q)) hz hos (fun T cs b hs=>by rw [h1] at hs; cases hs) (fun T cs e=>absurd e (hnb T cs)),?_,?_⟩
  · intro i b hb
    by_cases hi:i=s
    · subst hi; rw [Jah] at hb; exact hpl.2 b (hB b hb)
    · rw [Jaf _ _ hi] at hb; exact hb
  · intro b hb hnb i
    by_cases hi:i=s
    · subst hi; rw [Jah]; exact hnb
    · rw [Jaf _ _ hi]; exact h.dj s i b (Ne.symm hi) (hpl.2 b hb)
 | some q =>
  obtain ⟨j,Tb,cs⟩:=q
  obtain ⟨h1,h2,b,cur,h3,h4,h5⟩:=hp
  obtain ⟨b',cur',B0,e1,e2,e3,e4,e5⟩:=h.box_inv h1
  rw [h3] at e1
  cases e1
  rw [h4] at e2
  cases e2
  obtain ⟨c,Bj,pre,post,f1,f2,f3,f4⟩:=e3.get h2
  rw [h5] at f1
  cases f1
  have hb:Bj=blk cv:=by cases f2 with | own _ _ _ _ _ _ _=>rfl
  subst hb
  have hnd:=h.nd s
  rw [e5,f3] at hnd
  have hbn:b∉blk cv:=by
   have:=(List.nodup_cons.1 hnd).1
   intro hb; exact this (by simp [hb])
  have hbl:b<w.heap.size:=h.lt s b (by rw [e5]; exact List.mem_cons_self)
  have hb':w'.heap[b]? = w.heap[b]? := hw b hbl hbn
  have hnd2:=(List.nodup_cons.1 hnd).2
  rw [List.append_assoc,List.nodup_append,List.nodup_append] at hnd2
  have hpre:∀ b1∈pre,b1∉blk cv:=fun b1 r q=>(hnd2.2.2 b1 r b1 (List.mem_append_left _ q)) rfl
  have hpost:∀ b1∈post,b1∉blk cv:=fun b1 r q=>(hnd2.2.1.2.2 b1 q b1 r) rfl
  have hmem:∀ b1,b1∈pre∨b1∈post→b1∈Bs s:=fun b1 q=>by rw [e5,f3]; rcases q with q | q <;> simp [q]
  have e3':=f4 F' w' x cv B hF (fun b1 hb1=>by
   rcases hb1 with q | q
   · exact hw b1 (h.fl b1 q) fun r=>h.nf s b1 (hpl.2 b1 r) q
   · exact hw b1 (h.lt s b1 (hmem b1 q)) (q.elim (hpre b1) (hpost b1))) hx
  rw [Jf8 h5] at e3'
  have hbxr:RS P F' w' (.bx Tb (cs.set j x)) (tm.getD s undef) (b::(pre++B++post)):=by
   rw [h3]; exact .bx (by rw [hb']; exact h4) e3' e4
  have hmem':∀ b1∈b::(pre++B++post),b1∈Bs s:=by
   intro b1 hb1
   rcases List.mem_cons.1 hb1 with q | q
   · subst q; rw [e5]; exact List.mem_cons_self
   · rcases List.mem_append.1 q with q | q
     · rcases List.mem_append.1 q with q | q
       · exact hmem b1 (.inl q)
       · exact hpl.2 b1 (hB b1 q)
     · exact hmem b1 (.inr q)
  have hnot:∀ b1,b1∈blk cv→b1∉B→b1∉b::(pre++B++post):=by
   intro b1 hb1 hnB hc
   rcases List.mem_cons.1 hc with q | q
   · subst q; exact hbn hb1
   · rcases List.mem_append.1 q with q | q
     · rcases List.mem_append.1 q with q | q
       · exact hpre b1 q hb1
       · exact hnB q
     · exact hpost b1 q hb1
  have hnd':(b::(pre++B++post)).Nodup:=by
   have h0:=(List.nodup_cons.1 hnd).1
   rw [List.append_assoc]
   refine List.nodup_cons.2 ⟨?_,List.nodup_append.2 ⟨hnd2.1,List.nodup_append.2 ⟨hn,hnd2.2.1.2.1,?_⟩,?_⟩⟩
   · intro q
     apply h0
     rcases List.mem_append.1 q with q | q
     · simp [q]
     · rcases List.mem_append.1 q with q | q
       · simp [hB b q]
       · simp [q]
   · intro b1 q b2 r e; subst e; exact hnd2.2.1.2.2 b1 (hB b1 q) b1 r rfl
   · intro b1 q b2 r e
     subst e
     rcases List.mem_append.1 r with r | r
     · exact hnd2.2.2 b1 q b1 (List.mem_append_left _ (hB b1 r)) rfl
     · exact hnd2.2.2 b1 q b1 (List.mem_append_right _ r) rfl
  refine ⟨upB Bs s (b::(pre++B++post)),h.turn (drop:=[]) hbxr (fun b1 hb1=>.inl (hmem' b1 hb1)) hnd' hF
   (fun b1 hb1=>(hF' b1 hb1).imp id fun q=>⟨hpl.2 b1 q.1,hnot b1 q.1 q.2⟩) ?_ (fun b1 hb1 hs=>hw b1 hb1 fun q=>hs (hpl.2 b1 q)) hz hos
   (fun T' cs' b1 hs ht=>by rw [h3] at ht; cases ht; exact .inr hb') (fun T' cs' _=>.inr ⟨Tb,cs,h1⟩),?_,?_⟩
  · intro b1 hb1 hf
    rcases hF' b1 hf with q | q
    · exact h.nf s b1 (hmem' b1 hb1) q
    · exact hnot b1 q.1 q.2 hb1
  · intro i b1 hb1
    by_cases hi:i=s
    · subst hi; rw [Jah] at hb1; exact hmem' b1 hb1
    · rw [Jaf _ _ hi] at hb1; exact hb1
  · intro b1 hb1 hnb1 i
    by_cases hi:i=s
    · subst hi; rw [Jah]; exact hnot b1 hb1 hnb1
    · rw [Jaf _ _ hi]; exact h.dj s i b1 (Ne.symm hi) (hpl.2 b1 hb1)
end
def SRel (P:Program) (G:Gd) (st:St) (a:Act) (w:World):Prop:=a.defers=[]∧∃ F Bs,Rel P G F Bs st a.tmps w
def Lay (P:Program) (G:Gd) (st:St) (a:Act) (w:World) (d:Option Nat) (r:Out) (c:Value):Prop :=
 r.fits G.N d=true→SRel P G (st.put d r) (a.put d c) w
section
variable {P:Program} {G:Gd} {F:Nat→Prop} {Bs:Nat→List Nat} {st:St} {a:Act} {w:World}
theorem JbT:∀ l:List (Nat × Ref),Jae none [] l=l
 | []=>rfl
 | (t,r)::l=>by
  have:Jaj none [] t r=true:=by simp [Jaj,Jbf]
  simp [Jae,this,JbT l]
theorem Jak (st:St):st.upS [] []=st:=by simp [St.upS,JaA,JbT]
theorem JbI (fr:Fr) (u v:List (Nat × SV)):JaA fr (u++v)=JaA (JaA fr u) v:=by
 induction u generalizing fr with
 | nil=>rfl
 | cons x u ih=>exact ih _
theorem JbZ (st:St) (u v:List (Nat × SV)) (dr:List Nat):(st.upS u []).upS v dr=st.upS (u++v) dr:=by
 simp [St.upS,JbI,JbT]
theorem JaE {d:Option Nat} {x:SV} {r:Option Ref} {us:List (Nat × SV)} {drop:List Nat} {c:Value} {B:List Nat} (hd:a.defers=[])
 (h:Rel P G F Bs (st.upS us drop) a.tmps w) (hx:RS P F w x c B) (hn:B.Nodup) (hj:∀ i b,b∈B→b∉Bs i) (hf:∀ b∈B,¬ F b)
 (hw:∀ b∈B,G.W.heap.size≤b∨G.A b) (hl:∀ b∈B,b<w.heap.size)
 (hr:∀ q,r=some q→JcP P (st.upS us drop).fr a.tmps w q c):Lay P G st a w d ⟨x,r,us,drop⟩ c:=by
 intro hfit
 cases d with
 | none =>
  cases r with
  | some q=>simp [Out.fits] at hfit
  | none=>exact ⟨hd,F,Bs,h⟩
 | some d =>
  simp only [Out.fits,Bool.and_eq_true] at hfit
  have hlt:d<G.N.1:=by have:=hfit.1.1; simp only [Nat.blt_eq] at this; exact this
  have hpn:d∉G.N.2:=fun hm=>by have:=hfit.1.2; rw [Jec hm] at this; simp at this
  refine ⟨hd,F,upB Bs d B,?_⟩
  rw [JjS]
  exact h.put hlt hpn hx hn (fun i b _ hb=>hj i b hb) hf hw hl fun q hq=>by
   subst hq
   have:=hfit.2
   simp only [Bool.not_eq_true'] at this
   exact ⟨neB this,hr q rfl⟩
theorem Jau {d:Option Nat} {x:SV} {us:List (Nat × SV)} {drop:List Nat} {c:Value} (hd:a.defers=[])
 (h:Rel P G F Bs (st.upS us drop) a.tmps w) (hx:RS P F w x c []):Lay P G st a w d ⟨x,none,us,drop⟩ c :=
 JaE hd h hx (by simp) (by simp) (by simp) (by simp) (by simp) (by simp)
theorem JaF {d:Option Nat} {x:PV} {c:Value} (hd:a.defers=[]) (h:Rel P G F Bs st a.tmps w) (hx:RP F w x c):Lay P G st a w d (JaM x) c :=
 Jau hd (by rw [Jak]; exact h) (.p hx)
theorem JbC {d:Option Nat} {q:Ref} {c:Value} (hd:a.defers=[]) (h:Rel P G F Bs st a.tmps w) (hx:JcP P st.fr a.tmps w q c):Lay P G st a w d (JiP q) c :=
 JaE hd (by rw [Jak]; exact h) (.dead c) (by simp) (by simp) (by simp) (by simp) (by simp) fun q' e=>by cases e; rw [Jak]; exact hx
theorem Rel.empty (h:Rel P G F Bs st a.tmps w) (s:Nat):Rel P G F (upB Bs s []) (st.upS [(s,.dead)] []) a.tmps w :=
 h.turn (drop:=[]) (.dead _) (by simp) (by simp) (fun _ q=>q) (fun _ q=>.inl q) (by simp) (fun _ _ _=>rfl) (Nat.le_refl _) ⟨rfl,rfl,rfl⟩
  (fun _ _ _ _ _=>.inr rfl) (fun _ _ e=>by cases e)
theorem JgU {s:Nat} {cx:Option (Nat × TypeId × List SV)} {T:TypeId} {es:List PV} {c:Value} (h:JaZ st.fr a.tmps w s cx T es c) :
 JcP P st.fr a.tmps w (.o s (cx.map (·.1))) c:=by
 cases cx with
 | none=>exact h.2.symm
 | some q =>
  obtain ⟨j,Tb,cs⟩:=q
  obtain ⟨h1,h2,b,cur,h3,h4,h5⟩:=h
  intro T' cs' b' cur' T'' f hs ht hb
  rw [h3] at ht; cases ht
  rw [h4] at hb; cases hb
  exact h5
theorem JdX {s:Nat} {cx:Option (Nat × TypeId × List SV)} {T:TypeId} {es:List PV} {g n cap sz i off:Nat} (h:JaZ st.fr a.tmps w s cx T es (.slice (some ⟨g,0,none⟩) n cap))
 (hi:i<n) (hsz:Jal P T=some sz):JcP P st.fr a.tmps w (.e s (cx.map (·.1)) T i off) (.pointer (some ⟨g,i * sz + off,none⟩)):=by
 cases cx with
 | none=>exact ⟨g,n,cap,h.2,hi,sz,hsz,rfl⟩
 | some q =>
  obtain ⟨j,Tb,cs⟩:=q
  obtain ⟨h1,h2,b,cur,h3,h4,h5⟩:=h
  intro T' cs' b' cur' T'' f hs ht hb
  rw [h3] at ht; cases ht
  rw [h4] at hb; cases hb
  exact ⟨g,n,cap,h5,hi,sz,hsz,rfl⟩
variable {R:Type} {res:R}
theorem Jf0 {d:Option Nat} {s:Nat} {x:SV} {c:Value} (hd:a.defers=[]) (h:Rel P G F Bs st a.tmps w) (hs:st.fr s=x) (hc:a.tmps.getD s undef=c) :
 Lay P G st a w d ⟨x,none,[(s,.dead)],[]⟩ c:=by
 have h1:=h.sl s
 rw [hs,hc] at h1
 refine JaE hd (h.empty s) h1 (h.nd s) (fun i b hb=>?_) (h.nf s) (h.nw s) (h.lt s) (by simp)
 by_cases hi:i=s
 · subst hi; rw [Jah]; simp
 · rw [Jaf _ _ hi]; exact h.dj s i b (Ne.symm hi) hb
theorem Jhp {d:Option Nat} {s:Nat} {l:List SV} {c:Value} (hd:a.defers=[]) (h:Rel P G F Bs st a.tmps w) (hs:st.fr s=.tup l) (hc:a.tmps.getD s undef=c) :
 Lay P G st a w d ⟨.tup l,none,[(s,.dead)],[]⟩ c:=by
 have h1:=h.sl s
 rw [hs,hc] at h1
 refine JaE hd (h.empty s) h1 (h.nd s) (fun i b hb=>?_) (h.nf s) (h.nw s) (h.lt s) (by simp)
 by_cases hi:i=s
 · subst hi; rw [Jah]; simp
 · rw [Jaf _ _ hi]; exact h.dj s i b (Ne.symm hi) hb
theorem Jbw {rv:RV} {c:Value} {K:Out→Option R} (hd:a.defers=[]) (h:Rel P G F Bs st a.tmps w) (hr:RVR P F st.fr a.tmps w rv c) (hk:Jbv rv K=some res) (d:Option Nat) :
 ∃ out,K out=some res∧Lay P G st a w d out c:=by
 cases rv with
 | bad=>simp [Jbv] at hk
 | nl=>exact ⟨_,hk,Jau hd (by rw [Jak]; exact h) (by rw [show c=_ from hr]; exact .nl)⟩
 | pv x=>exact ⟨_,hk,JaF hd h hr⟩
 | own s cx T es=>exact ⟨_,hk,JbC hd h (JgU hr)⟩
 | box s off T cs =>
  obtain ⟨h1,b,h2,h3⟩:=hr
  exact ⟨_,hk,JbC hd h fun b' hb'=>by rw [h2] at hb'; cases hb'; exact h3⟩
 | el s cx T es i off =>
  obtain ⟨g,n,cap,sz,h1,h2,h3,rfl⟩:=hr
  exact ⟨_,hk,JbC hd h (JdX h1 h2 h3)⟩
 | tup s l=>exact ⟨_,hk,Jhp hd h hr.1 hr.2⟩
 | ob s T e bs=>exact ⟨_,hk,JbC hd h fun b' hb'=>by rw [hr.2] at hb'; exact hb'⟩
 | st s l=>exact ⟨_,hk,Jf0 hd h hr.1 hr.2⟩
theorem RS.frozen {F':Nat→Prop} {T:TypeId} {es:List PV} {c:Value} {B:List Nat} (h:RS P F w (.own T es) c B) (hF:∀ b,F b→F' b) (hb:∀ b∈blk c,F' b):RP F' w (.sh es) c:=by
 cases h with
 | own h1 h2 h3 h4 h5 h6 h7 =>
  rename_i xs i z
  have h6':=h6.mono (w':=w) hF fun _ _=>rfl
  rcases h5.2 with ⟨rfl,hn⟩ | ⟨g,cap,cur,rfl,hg0,hg,hnc,hcm,hcs,htake⟩
  · have hes:es=[]:=List.length_eq_zero_iff.1 hn
    subst hes
    exact JcI _ _
  · refine .sh h6' h7 h4 (.inr ⟨g,0,rfl,hb g (by simp [blk,Value.ownBlock]),fun j x hj=>?_⟩) rfl hnc hcm
    rw [Nat.zero_add,cell_of_row w g j cur T _ hg]
    rw [←htake,List.getElem?_take] at hj
    split at hj
    · simpa using hj
    · cases hj
theorem Jbs {s:Nat} {cx:Option (Nat × TypeId × List SV)} {T:TypeId} {es:List PV} {cv:Value} {tm:Array Value} (h:Rel P G F Bs st tm w)
 (hp:JaZ st.fr tm w s cx T es cv) :
 ∃ F' Bs',Rel P G F' Bs' (st.upS [Jaz s cx (.p (.sh es))] []) tm w∧RP F' w (.sh es) cv∧(∀ b,F b→F' b)∧(∀ i b,b∈Bs' i→b∈Bs i):=by
 obtain ⟨h1,h2⟩:=h.place hp
 have hfr:RP (fun b=>F b∨b∈blk cv) w (.sh es) cv:=h1.frozen (fun _ q=>.inl q) (fun _ q=>.inr q)
 obtain ⟨Bs',r1,r2,r3⟩:=h.turnPl hp (F':=fun b=>F b∨b∈blk cv) (w':=w) (x:=.p (.sh es)) (B:=[]) (.p hfr) (by simp) (by simp) (fun _ q=>.inl q)
  (fun b q=>q.imp id fun r=>⟨r,by simp⟩) (by simp) (fun _ _ _=>rfl) (Nat.le_refl _) ⟨rfl,rfl,rfl⟩ (by simp)
 exact ⟨_,Bs',r1,hfr,fun _ q=>.inl q,r2⟩
theorem JaG {l:List PV} (h:Jan l=true):∀ x∈l,x.leaf=true:=by
 induction l with
 | nil=>simp
 | cons y l ih =>
  simp only [Jan,Bool.and_eq_true] at h
  intro x hx
  rcases List.mem_cons.1 hx with rfl | hx
  · exact h.1
  · exact ih h.2 x hx
theorem JaQ {l:List PV} (h:∀ x∈l,x.leaf=true):Jan l=true:=by
 induction l with
 | nil=>rfl
 | cons y l ih=>simp only [Jan,Bool.and_eq_true]; exact ⟨h y (by simp),ih fun x hx=>h x (by simp [hx])⟩
theorem JbD {x:PV} {c:Value} (h:RP F w x c) (ho:c.oneCell'=true):x.leaf=true:=by
 cases h <;> first | exact ho | rfl | (simp [Value.oneCell'] at ho)
theorem Jb1:∀ {cs:List SV} {vs:List Value} {B:List Nat} {ys:List PV} {F':Nat→Prop},RSs P F w cs vs B→Jdu cs=some ys→(∀ b,F b→F' b)→(∀ b∈B,F' b) →
 RPs F' w ys vs∧((∀ v∈vs,v.oneCell'=true)→Jan ys=true)∧ys.length=cs.length
 | [],vs,B,ys,F',h,hf,_,_=>by
  cases h
  simp [Jdu] at hf; subst hf
  exact ⟨.nil,fun _=>rfl,rfl⟩
 | x::cs,vs,B,ys,F',h,hf,hF,hB=>by
  cases h with
  | cons h1 h2 =>
   rename_i c vs' B1 B2
   simp only [Jdu] at hf
   cases hx:frz x with
   | none=>simp [hx] at hf
   | some y =>
    cases hr:Jdu cs with
    | none=>simp [hx,hr] at hf
    | some ys' =>
     simp only [hx,hr,Option.some.injEq] at hf
     subst hf
     obtain ⟨g1,g2,g3⟩:=Jb1 h2 hr hF fun b hb=>hB b (List.mem_append_right _ hb)
     have hy:RP F' w y c:=by
      cases x with
      | p z=>simp [frz] at hx; subst hx; cases h1 with | p q=>exact q.mono (w':=w) hF fun _ _=>rfl
      | nl=>simp [frz] at hx; subst hx; cases h1; exact JcI _ _
      | own T es =>
       simp [frz] at hx; subst hx
       have hb1:B1=blk c:=by cases h1 with | own _ _ _ _ _ _ _=>rfl
       exact h1.frozen hF fun b hb=>hB b (List.mem_append_left _ (by rw [hb1]; exact hb))
      | _=>simp [frz] at hx
     refine ⟨.cons hy g1,fun ho=>?_,by simp [g3]⟩
     simp only [Jan,Bool.and_eq_true]
     exact ⟨JbD hy (ho c (by simp)),g2 fun v hv=>ho v (by simp [hv])⟩
theorem Jcz:∀ {cs:List SV} {vs:List Value} {B:List Nat} {ys:List PV},RSs P F w cs vs B→Jdu cs=some ys→Jch cs=false→B=[]
 | [],vs,B,ys,h,_,_=>by cases h; rfl
 | x::cs,vs,B,ys,h,hf,ha=>by
  cases h with
  | cons h1 h2 =>
   rename_i c vs' B1 B2
   simp only [Jdu] at hf
   cases hx:frz x with
   | none=>simp [hx] at hf
   | some y =>
    cases hr:Jdu cs with
    | none=>simp [hx,hr] at hf
    | some ys' =>
     cases x with
     | p z=>simp only [Jch] at ha; cases h1; rw [Jcz h2 hr ha]; rfl
     | nl=>simp only [Jch] at ha; cases h1; rw [Jcz h2 hr ha]; rfl
     | own T es=>simp [Jch] at ha
     | _=>simp [frz] at hx
theorem JeG {tm:Array Value} (h:Rel P G F Bs st tm w) {s off:Nat} {T:TypeId} {cs:List SV} {ys:List PV} (hs:st.fr s=.bx T cs) (hf:Jdu cs=some ys) :
 ∃ F' Bs' b,tm.getD s undef=.pointer (some ⟨b,0,none⟩)∧Rel P G F' Bs' (st.upS [(s,.p (.fb ys))] []) tm w∧RP F' w (.fb (ys.drop off)) (.pointer (some ⟨b,off,none⟩)) ∧
  (∀ b,F b→F' b)∧(∀ i b,b∈Bs' i→b∈Bs i)∧(∀ b,F' b→F b∨b∈Bs s):=by
 obtain ⟨b,cur,B,e1,e2,e3,e4,e5⟩:=h.box_inv hs
 obtain ⟨h1,h2,h3⟩:=Jb1 (F':=fun b=>F b∨b∈Bs s) e3 hf (fun _ q=>.inl q) (fun b q=>.inr (by rw [e5]; exact List.mem_cons_of_mem _ q))
 have hl:=h2 e4
 have cell:∀ j,w.cell? ⟨b,j,none⟩=cur.toList[j]? := fun j=>by rw [cell_of_row w b j cur T _ e2]; simp
 have hfb:∀ off,RP (fun b=>F b∨b∈Bs s) w (.fb (ys.drop off)) (.pointer (some ⟨b,off,none⟩)):=fun off=>by
  refine .fb (h1.drop off) (JaQ fun y hy=>JaG hl y (List.mem_of_mem_drop hy)) (.inr ⟨b,off,rfl,.inr (by rw [e5]; exact List.mem_cons_self),fun j x hj=>?_⟩)
  rw [List.getElem?_drop] at hj
  rw [cell,hj]
 have hturn:=h.turn (s:=s) (drop:=[]) (F':=fun b=>F b∨b∈Bs s) (w':=w) (x:=.p (.fb ys)) (B:=[]) (by rw [e1]; exact .p (by have:=hfb 0; rwa [List.drop_zero] at this)) (by simp) (by simp) (fun _ q=>.inl q)
  (fun b q=>q.imp id fun r=>⟨r,by simp⟩) (by simp) (fun _ _ _=>rfl) (Nat.le_refl _) ⟨rfl,rfl,rfl⟩ (fun _ _ _ _ _=>.inr rfl) (fun _ _ e=>by cases e)
 refine ⟨_,_,b,e1,hturn,hfb off,fun _ q=>.inl q,fun i b hb=>?_,fun _ q=>q⟩
 by_cases hi:i=s
 · subst hi; rw [Jah] at hb; cases hb
 · rw [Jaf _ _ hi] at hb; exact hb
theorem Rel.freezeSt {tm:Array Value} (h:Rel P G F Bs st tm w) {s:Nat} {cs:List SV} {ys:List PV} (hs:st.fr s=.st cs) (hf:Jdu cs=some ys) :
 ∃ F' Bs',Rel P G F' Bs' (st.upS [(s,.p (.agg ys))] []) tm w∧RP F' w (.agg ys) (tm.getD s undef)∧(∀ b,F b→F' b)∧(∀ i b,b∈Bs' i→b∈Bs i)∧(∀ b,F' b→F b∨b∈Bs s):=by
 have hsl:=h.sl s
 rw [hs] at hsl
 generalize hc:tm.getD s undef=c at hsl ⊢
 generalize hB:Bs s=B at hsl
 cases hsl with
 | st e1 e2 =>
  rename_i vs
  obtain ⟨h1,h2,h3⟩:=Jb1 (F':=fun b=>F b∨b∈Bs s) e1 hf (fun _ q=>.inl q) (fun b q=>.inr (by rw [hB]; exact q))
  have ha:RP (fun b=>F b∨b∈Bs s) w (.agg ys) (.agg vs.toArray):=.agg h1 (h2 e2)
  have hturn:=h.turn (s:=s) (drop:=[]) (F':=fun b=>F b∨b∈Bs s) (w':=w) (x:=.p (.agg ys)) (B:=[]) (by rw [hc]; exact .p ha) (by simp) (by simp) (fun _ q=>.inl q)
   (fun b q=>q.imp id fun r=>⟨r,by simp⟩) (by simp) (fun _ _ _=>rfl) (Nat.le_refl _) ⟨rfl,rfl,rfl⟩ (fun _ _ _ _ _=>.inr rfl) (fun _ _ e=>by cases e)
  refine ⟨_,_,hturn,ha,fun _ q=>.inl q,fun i b hb=>?_,fun b q=>by rw [←hB]; exact q⟩
  by_cases hi:i=s
  · subst hi; rw [Jah] at hb; cases hb
  · rw [Jaf _ _ hi] at hb; exact hb
theorem JaX (s:Nat) (cx:Option (Nat × TypeId × List SV)) (x:SV):(Jaz s cx x).1=s:=by
 cases cx with
 | none=>rfl
 | some q=>rfl
theorem Jh8 {F1:Nat→Prop} {fr fr1:Fr} {tm:Array Value} {x:Operand} {rv:RV} {y:PV} {u:List (Nat × SV)} {c:Value} (hv:JbJ x rv=some (y,u))
 (hfr:∀ i∈u.map (·.1),fr1 i=fr i) (hF:∀ b,F b→F1 b) (h:RVR P F fr tm w rv c):RVR P F1 fr1 tm w rv c:=by
 cases rv with
 | pv z=>exact RP.mono (w':=w) h hF fun _ _=>rfl
 | nl=>exact h
 | own s cx T es =>
  simp only [JbJ,Option.some.injEq,Prod.mk.injEq] at hv
  obtain ⟨_,rfl⟩:=hv
  have hs:fr1 s=fr s:=hfr s (by simp [JaX])
  cases cx with
  | none=>exact ⟨by rw [hs]; exact h.1,h.2⟩
  | some q =>
   obtain ⟨j,Tb,cs⟩:=q
   exact ⟨by rw [hs]; exact h.1,h.2⟩
 | box s off T cs =>
  simp only [JbJ] at hv
  split at hv
  · simp only [Option.some.injEq,Prod.mk.injEq] at hv
    obtain ⟨_,rfl⟩:=hv
    have hs:fr1 s=fr s:=hfr s (by simp)
    exact ⟨by rw [hs]; exact h.1,h.2⟩
  · cases hv
 | st s cs =>
  simp only [JbJ] at hv
  split at hv
  · simp only [Option.some.injEq,Prod.mk.injEq] at hv
    obtain ⟨_,rfl⟩:=hv
    have hs:fr1 s=fr s:=hfr s (by simp)
    exact ⟨by rw [hs]; exact h.1,h.2⟩
  · cases hv
 | _=>simp [JbJ] at hv
theorem Jaq (fr:Fr):∀ (u:List (Nat × SV)) (i:Nat),i∉u.map (·.1)→JaA fr u i=fr i
 | [],i,_=>rfl
 | (s,x)::u,i,hi=>by
  simp only [List.map_cons,List.mem_cons,not_or] at hi
  rw [JaA,Jaq _ u i hi.2,Jar _ _ hi.1]
theorem Jc9 {u v:List Nat} (h:Jap (u++v)=true):Jap u=true∧Jap v=true∧∀ i∈u,i∉v:=by
 induction u with
 | nil=>exact ⟨rfl,h,by simp⟩
 | cons x u ih =>
  simp only [List.cons_append,Jap,Bool.and_eq_true,Bool.not_eq_true'] at h
  obtain ⟨h1,h2,h3⟩:=ih h.2
  have hx:x∉u++v:=fun hm=>by rw [Jec hm] at h; simp at h
  refine ⟨?_,h2,?_⟩
  · simp only [Jap,Bool.and_eq_true,Bool.not_eq_true']
    refine ⟨?_,h1⟩
    cases hm:Jbf u x with
    | false=>rfl
    | true=>exact absurd (List.mem_append_left _ (JhE hm)) hx
  · intro i hi
    rcases List.mem_cons.1 hi with rfl | hi
    · exact fun hm=>hx (List.mem_append_right _ hm)
    · exact h3 i hi
theorem Je3 {tm:Array Value} {x:Operand} {rv:RV} {c:Value} {y:PV} {u:List (Nat × SV)} (h:Rel P G F Bs st tm w) (hr:RVR P F st.fr tm w rv c) (hv:JbJ x rv=some (y,u)) :
 ∃ F' Bs',Rel P G F' Bs' (st.upS u []) tm w∧RP F' w y c∧(∀ b,F b→F' b)∧(∀ i b,b∈Bs' i→b∈Bs i):=by
 cases rv with
 | pv z =>
  simp only [JbJ,Option.some.injEq,Prod.mk.injEq] at hv
  obtain ⟨rfl,rfl⟩:=hv
  exact ⟨F,Bs,by rw [Jak]; exact h,hr,fun _ q=>q,fun _ _ q=>q⟩
 | nl =>
  simp only [JbJ,Option.some.injEq,Prod.mk.injEq] at hv
  obtain ⟨rfl,rfl⟩:=hv
  exact ⟨F,Bs,by rw [Jak]; exact h,by rw [show c=_ from hr]; exact JcI F w,fun _ q=>q,fun _ _ q=>q⟩
 | own s cx T es =>
  simp only [JbJ,Option.some.injEq,Prod.mk.injEq] at hv
  obtain ⟨rfl,rfl⟩:=hv
  exact Jbs h hr
 | box s off T cs =>
  simp only [JbJ] at hv
  split at hv
  · rename_i ys hy
    simp only [Option.some.injEq,Prod.mk.injEq] at hv
    obtain ⟨rfl,rfl⟩:=hv
    obtain ⟨h1,b,h2,h3⟩:=hr
    obtain ⟨F',Bs',b',q1,q2,q3,q4,q5,q6⟩:=JeG (off:=off) h h1 hy
    rw [h2] at q1
    cases q1
    exact ⟨F',Bs',q2,by rw [h3]; exact q3,q4,q5⟩
  · cases hv
 | st s cs =>
  simp only [JbJ] at hv
  split at hv
  · rename_i ys hy
    simp only [Option.some.injEq,Prod.mk.injEq] at hv
    obtain ⟨rfl,rfl⟩:=hv
    obtain ⟨F',Bs',r1,r2,r3,r4,r5⟩:=h.freezeSt hr.1 hy
    exact ⟨F',Bs',r1,by rw [←hr.2]; exact r2,r3,r4⟩
  · cases hv
 | _=>simp [JbJ] at hv
theorem Jbx {tm:Array Value}:∀ {l:List (Operand × RV)} {vs:List Value} {st:St} {F:Nat→Prop} {Bs:Nat→List Nat} {ys:List PV} {us:List (Nat × SV)},
 Rel P G F Bs st tm w→(∀ (j:Nat) (q:Operand × RV),l[j]? = some q→∃ c,vs[j]? = some c∧RVR P F st.fr tm w q.2 c)→vs.length=l.length→JaS l=some (ys,us) →
 Jap (us.map (·.1))=true →
 ∃ F' Bs',Rel P G F' Bs' (st.upS us []) tm w∧RPs F' w ys vs∧(∀ b,F b→F' b)∧(∀ i b,b∈Bs' i→b∈Bs i)
 | [],vs,st,F,Bs,ys,us,h,hv,hl,hk,hd=>by
  simp [JaS] at hk
  obtain ⟨rfl,rfl⟩:=hk
  have:vs=[]:=List.length_eq_zero_iff.1 (by simpa using hl)
  subst this
  exact ⟨F,Bs,by rw [Jak]; exact h,.nil,fun _ q=>q,fun _ _ q=>q⟩
 | (x,r)::l,vs,st,F,Bs,ys,us,h,hv,hl,hk,hd=>by
  cases vs with
  | nil=>simp at hl
  | cons c vs =>
   have hr:RVR P F st.fr tm w r c:=by
    obtain ⟨c',e,q⟩:=hv 0 (x,r) rfl
    simp at e; subst e; exact q
   simp only [JaS] at hk
   cases hy:JbJ x r with
   | none=>simp [hy] at hk
   | some q =>
    obtain ⟨y,u⟩:=q
    cases hys:JaS l with
    | none=>simp [hy,hys] at hk
    | some q2 =>
     obtain ⟨ys',us'⟩:=q2
     simp only [hy,hys,Option.some.injEq,Prod.mk.injEq] at hk
     obtain ⟨rfl,rfl⟩:=hk
     rw [List.map_append] at hd
     obtain ⟨d1,d2,d3⟩:=Jc9 hd
     obtain ⟨F1,Bs1,r1,r2,r3,r4⟩:=Je3 h hr hy
     have hsub:∀ {l:List (Operand × RV)} {ys:List PV} {us:List (Nat × SV)},JaS l=some (ys,us)→∀ (j:Nat) (q:Operand × RV),l[j]? = some q →
      ∃ y u,JbJ q.1 q.2=some (y,u)∧∀ i∈u.map (·.1),i∈us.map (·.1):=by
      intro l
      induction l with
      | nil=>intro ys us _ j q hj; simp at hj
      | cons p l ih =>
       obtain ⟨x,r⟩:=p
       intro ys us hk j q hj
       simp only [JaS] at hk
       cases hy:JbJ x r with
       | none=>simp [hy] at hk
       | some q1 =>
        cases hys:JaS l with
        | none=>simp [hy,hys] at hk
        | some q2 =>
         simp only [hy,hys,Option.some.injEq,Prod.mk.injEq] at hk
         obtain ⟨rfl,rfl⟩:=hk
         cases j with
         | zero=>simp at hj; subst hj; exact ⟨q1.1,q1.2,hy,fun i hi=>by simp at hi ⊢; exact .inl hi⟩
         | succ j =>
          simp at hj
          obtain ⟨y,u,e1,e2⟩:=ih hys j q hj
          exact ⟨y,u,e1,fun i hi=>by have:=e2 i hi; simp at this ⊢; exact .inr this⟩
     have hv':∀ (j:Nat) (q:Operand × RV),l[j]? = some q→∃ c,vs[j]? = some c∧RVR P F1 (st.upS u []).fr tm w q.2 c:=by
      intro j q hj
      obtain ⟨c',e,hq⟩:=hv (j + 1) q (by simpa using hj)
      obtain ⟨yq,uq,e1,e2⟩:=hsub hys j q hj
      exact ⟨c',by simpa using e,Jh8 e1 (fun i hi=>Jaq _ _ _ fun hm=>d3 i hm (e2 i hi)) r3 hq⟩
     obtain ⟨F2,Bs2,s1,s2,s3,s4⟩:=Jbx r1 hv' (by simpa using hl) hys d2
     refine ⟨F2,Bs2,?_,.cons (r2.mono (w':=w) s3 fun _ _=>rfl) s2,fun b q=>s3 b (r3 b q),fun i b q=>r4 i b (s4 i b q)⟩
     rw [←JbZ]; exact s1
end
end Go.Proofs.YtmgfmlhdnadglaaGreatDoor.Th
set_option linter.unusedVariables false
set_option linter.unusedSimpArgs false
namespace Go.Proofs.YtmgfmlhdnadglaaGreatDoor.Th
open Go
variable {R:Type} {res:R}
theorem JbQ {a b:IntKind} (h:Jea a b=true):a=b:=by cases a <;> cases b <;> first | rfl | (simp [Jea] at h)
theorem Jaa {b:Bool} {x:Option R} (h:(bif b then x else none)=some res):b=true∧x=some res:=by
 cases b with
 | false=>simp at h
 | true=>exact ⟨rfl,h⟩
theorem Ja5 {b:Bool} {x:Option R} (h:(bif b then none else x)=some res):b=false∧x=some res:=by
 cases b with
 | true=>simp at h
 | false=>exact ⟨rfl,h⟩
theorem Jhq:∀ n m:Nat,leN n m=decide (n≤m)
 | 0,m=>by simp [leN]
 | n + 1,0=>by simp [leN]
 | n + 1,m + 1=>by simp [leN,Jhq n m]
theorem Jku {n m:Nat} (h:leN n m=true):n≤m:=by rw [Jhq] at h; exact of_decide_eq_true h
theorem JeJ {k:IntKind} {e:PV} {K:Int→Option R} (h:Ji9 k e K=some res):∃ x,e=.v (.int k x)∧K x=some res:=by
 unfold Ji9 at h
 split at h
 · obtain ⟨h1,h2⟩:=Jaa h
   rw [JbQ h1]; exact ⟨_,rfl,h2⟩
 · cases h
theorem Jeu {c:CK} {e:PV} {K:PV→Option R} (h:Jha c e K=some res):K e=some res∧e.leaf=true:=by
 cases c with
 | i k=>obtain ⟨x,rfl,hx⟩:=JeJ h; exact ⟨hx,rfl⟩
 | b=>simp only [Jha] at h; unfold Jj1 at h; split at h <;> first | exact ⟨h,rfl⟩ | cases h
 | s=>simp only [Jha] at h; unfold Jj2 at h; split at h <;> first | exact ⟨h,rfl⟩ | cases h
 | sl=>simp only [Jha] at h; unfold Jkq at h; split at h <;> first | exact ⟨h,rfl⟩ | cases h
 | o=>exact ⟨(Jaa h).2,(Jaa h).1⟩
theorem Jbc {cs:List PV} {K:PV→List PV→Option R} (h:JdT cs K=some res):∃ x r,cs=x::r∧K x r=some res:=by
 unfold JdT at h
 split at h
 · exact ⟨_,_,rfl,h⟩
 · cases h
theorem Jev:∀ {ks:List CK} {cs:List PV} {K:List PV→Option R},Jd6 ks cs K=some res→K cs=some res∧Jan cs=true
 | [],cs,K,h=>by
  simp only [Jd6,Ji1] at h
  split at h
  · exact ⟨h,rfl⟩
  · cases h
 | c::ks,cs,K,h=>by
  simp only [Jd6] at h
  obtain ⟨x,r,rfl,h1⟩:=Jbc h
  obtain ⟨h2,hl⟩:=Jeu h1
  obtain ⟨h3,hr⟩:=Jev h2
  exact ⟨h3,by simp [Jan,hl,hr]⟩
theorem Ja1 {e:PV} (h:e.leaf=true):cellsOf e=[e]:=by
 cases e <;> first | rfl | (simp [PV.leaf] at h)
theorem JbO {P:Program} {T:TypeId} {e:PV} {K:List PV→Option R} (h:Jgl P T e K=some res) :
 K (cellsOf e)=some res∧Jan (cellsOf e)=true∧e=mkE (Jai P T) (cellsOf e)∧(Jai P T=false→e.leaf=true):=by
 unfold Jgl at h
 cases ha:Jai P T with
 | true =>
  rw [ha] at h
  simp only [JkN] at h
  unfold Jh1 at h
  split at h
  · obtain ⟨h1,h2⟩:=Jev h
    exact ⟨h1,h2,rfl,by simp⟩
  · cases h
 | false =>
  rw [ha] at h
  simp only [JkN] at h
  split at h
  · obtain ⟨h1,h2⟩:=Jeu h
    rw [Ja1 h2]
    exact ⟨h1,by simp [Jan,h2],rfl,fun _=>h2⟩
  · cases h
section
variable {P:Program} {G:Gd} {F:Nat→Prop} {Bs:Nat→List Nat} {st:St} {a:Act} {w:World}
theorem Jbd {x c:Value} (h:RP F w (.v x) c):c=x:=by cases h; rfl
theorem JcV {x:PV} {c:Value} (h:RP F w x c) (hl:x.leaf=true):c.oneCell'=true:=by
 cases h <;> first | exact hl | rfl | (simp [PV.leaf] at hl)
theorem Jcp {l:List PV} {cs:List Value} (h:RPs F w l cs) (hl:Jan l=true):∀ c∈cs,c.oneCell'=true:=by
 induction l generalizing cs with
 | nil=>cases h; simp
 | cons x l ih =>
  cases h with
  | cons h1 h2 =>
   simp only [Jan,Bool.and_eq_true] at hl
   intro c hc
   rcases List.mem_cons.1 hc with rfl | hc
   · exact JcV h1 hl.1
   · exact ih h2 hl.2 c hc
theorem Jdn {c:Value} (h:c.oneCell'=true):c.cells=#[c]:=by
 cases c <;> first | rfl | (simp [Value.oneCell'] at h)
theorem Jc7 {x:PV} {c:Value} (h:RP F w x c) (hl:Jan (cellsOf x)=true):RPs F w (cellsOf x) c.cells.toList:=by
 cases hx:x.leaf with
 | true =>
  rw [Ja1 hx,Jdn (JcV h hx)]
  exact .cons h .nil
 | false =>
  cases h with
  | agg h1 h2=>exact h1
  | v x=>simp [cellsOf,Jan,hx] at hl
  | _=>simp [PV.leaf] at hx
def Eff (P:Program) (G:Gd) (st:St) (a:Act) (w:World) (o:Oper) (r:Out):Prop :=
 r.fits G.N o.dst=true→∃ c w',((execOp a.eval o).run P w=.ok (.value c) w'∨((execOp a.eval o).run P w=.ok .skip w'∧c=undef))∧SRel P G (st.put o.dst r) (a.put o.dst c) w'
theorem Eff.wp {o:Oper} {r:Out} (h:Eff P G st a w o r) (hf:r.fits G.N o.dst=true) {next:Act→World→Prop} {Q:Exit→Act→World→Prop}
 (hn:∀ a' w',SRel P G (st.put o.dst r) a' w'→next a' w'):o.wp P a w next Q:=by
 obtain ⟨c,w',hr,hs⟩:=h hf
 unfold Oper.wp
 rcases hr with hr | ⟨hr,rfl⟩
 · rw [hr]; exact hn _ _ hs
 · rw [hr]; exact hn _ _ hs
theorem Jab {o:Oper} {r:Out} {c:Value} (hr:(execOp a.eval o).run P w=.ok (.value c) w) (hl:Lay P G st a w o.dst r c):Eff P G st a w o r :=
 fun hf=>⟨c,w,.inl hr,hl hf⟩
theorem JiZ {d:Option Nat} {s:Nat} {T:TypeId} {es:List PV} {c:Value} (hd:a.defers=[]) (h:Rel P G F Bs st a.tmps w) (hs:st.fr s=.own T es) (hc:a.tmps.getD s undef=c) :
 Lay P G st a w d ⟨.own T es,none,[(s,.dead)],[]⟩ c:=by
 obtain ⟨h1,h2⟩:=h.own_inv hs
 rw [hc] at h1
 refine JaE hd (h.empty s) h1 (h.nd s) (fun i b hb=>?_) (h.nf s) (h.nw s) (h.lt s) (by simp)
 by_cases hi:i=s
 · subst hi; rw [Jah]; simp
 · rw [Jaf _ _ hi]; exact h.dj s i b (Ne.symm hi) hb
theorem Jc {x:Operand} {s:Nat} {cx:Option (Nat × TypeId × List SV)} (h:JaP x s cx=true):x=.tmp s∧cx=none:=by
 cases cx with
 | some q=>simp [JaP] at h
 | none =>
  simp only [JaP,JeE] at h
  split at h
  · rename_i t; rw [eqB h]; exact ⟨rfl,rfl⟩
  · cases h
theorem JhI {o:Oper} {x:Operand} {K:Out→Option R} {env:Env} (hd:a.defers=[]) (h:Rel P G F Bs st a.tmps w) (ho:o.op=.assign x) (hk:opK P env (.assign x) o.type (opd st) K=some res) :
 ∃ out,K out=some res∧Eff P G st a w o out:=by
 have hrun:(execOp a.eval o).run P w=.ok (.value (a.eval x)) w:=by simp [execOp,ho]
 have hr:=Jag h x
 simp only [opK] at hk
 cases hx:opd st x with
 | own s cx T es =>
  rw [hx] at hk hr
  simp only [] at hk
  cases hdi:JaP x s cx with
  | true =>
   rw [hdi] at hk
   obtain ⟨rfl,rfl⟩:=Jc hdi
   exact ⟨_,hk,Jab hrun (JiZ hd h hr.1 hr.2)⟩
  | false =>
   rw [hdi] at hk
   obtain ⟨F',Bs',r1,r2,r3,r4⟩:=Jbs h hr
   exact ⟨_,hk,Jab hrun (Jau hd r1 (.p r2))⟩
 | pv y=>rw [hx] at hk hr; exact ⟨_,hk,Jab hrun (JaF hd h hr)⟩
 | nl=>rw [hx] at hk hr; exact ⟨_,hk,Jab hrun (Jau hd (by rw [Jak]; exact h) (by rw [show a.eval x=_ from hr]; exact .nl))⟩
 | tup s l=>rw [hx] at hk hr; exact ⟨_,hk,Jab hrun (Jhp hd h hr.1 hr.2)⟩
 | st s l=>rw [hx] at hk hr; exact ⟨_,hk,Jab hrun (Jf0 hd h hr.1 hr.2)⟩
 | _=>rw [hx] at hk; cases hk
theorem Jfs {o:Oper} {x:Operand} {K:Out→Option R} (hd:a.defers=[]) (h:Rel P G F Bs st a.tmps w) (ho:o.op=.move x) (hk:Jbv (opd st x) K=some res) :
 ∃ out,K out=some res∧Eff P G st a w o out:=by
 have hrun:(execOp a.eval o).run P w=.ok (.value (a.eval x)) w:=by simp [execOp,ho]
 obtain ⟨out,h1,h2⟩:=Jbw hd h (Jag h x) hk o.dst
 exact ⟨out,h1,Jab hrun h2⟩
theorem JhK {o:Oper} {x:Operand} {K:Out→Option R} (hd:a.defers=[]) (h:Rel P G F Bs st a.tmps w) (ho:o.op=.move x) (hk:Jdd (opd st x) K=some res) :
 ∃ out,K out=some res∧Eff P G st a w o out:=by
 have hrun:(execOp a.eval o).run P w=.ok (.value (a.eval x)) w:=by simp [execOp,ho]
 unfold Jdd at hk
 cases hv:JbJ (.tmp 0) (opd st x) with
 | none=>rw [hv] at hk; cases hk
 | some q =>
  obtain ⟨y,us⟩:=q
  rw [hv] at hk
  obtain ⟨F',Bs',r1,r2,r3,r4⟩:=Je3 h (Jag h x) hv
  exact ⟨_,hk,Jab hrun (Jau hd r1 (.p r2))⟩
theorem JjN {o:Oper} {c x y:Operand} {K:Out→Option R} {env:Env} (hd:a.defers=[]) (h:Rel P G F Bs st a.tmps w) (ho:o.op=.pick c x y) (hk:opK P env (.pick c x y) o.type (opd st) K=some res) :
 ∃ out,K out=some res∧Eff P G st a w o out:=by
 have hrc:=Jag h c
 have hrx:=Jag h x
 have hry:=Jag h y
 simp only [opK] at hk
 split at hk
 · rename_i t hc
   rw [hc] at hrc
   have hcv:a.eval c=.bool t:=Jbd hrc
   have hrun:(execOp a.eval o).run P w=.ok (.value (if t then a.eval x else a.eval y)) w:=by
    simp [execOp,ho,hcv,asBool]
   split at hk
   · rename_i bx by' hx hy
     rw [hx] at hrx; rw [hy] at hry
     have hxv:a.eval x=.bool bx:=Jbd hrx
     have hyv:a.eval y=.bool by':=Jbd hry
     refine ⟨_,hk,Jab hrun (JaF hd h ?_)⟩
     rw [hxv,hyv]
     have:(if t=true then Value.bool bx else Value.bool by')=.bool (bif t then bx else by'):=by cases t <;> rfl
     rw [this]; exact .v _
   · cases t with
     | true =>
      obtain ⟨out,h1,h2⟩:=Jbw hd h hrx hk o.dst
      exact ⟨out,h1,Jab hrun h2⟩
     | false =>
      obtain ⟨out,h1,h2⟩:=Jbw hd h hry hk o.dst
      exact ⟨out,h1,Jab hrun h2⟩
 · cases hk
theorem Jg2 {op:BinOp} {k:IntKind} {x y:Int} {K:PV→Option R} (hsh:Jde op=false) (hk:Jka op k x y K=some res) :
 ∃ v,K (.v v)=some res∧∀ T,(Go.binOp op T (.int k x) (.int k y)).run P w=.ok v w:=by
 cases op <;> simp only [Jka] at hk
 case quo =>
  obtain ⟨h1,h2⟩:=Ja5 hk
  have hy:y≠0:=of_decide_eq_false h1
  exact ⟨_,h2,fun T=>by simp [Go.binOp,Op.intDiv,hy]⟩
 case rem =>
  obtain ⟨h1,h2⟩:=Ja5 hk
  have hy:y≠0:=of_decide_eq_false h1
  exact ⟨_,h2,fun T=>by simp [Go.binOp,Op.intDiv,hy]⟩
 all_goals first
  | (cases hk; done)
  | (refine ⟨_,hk,fun T=>?_⟩; simp [Go.binOp,Op.intArith,Op.intCmp,Op.intBits,Jfl]; done)
  | (simp [Jde] at hsh; done)
theorem JiU {op:BinOp} {k k':IntKind} {x y:Int} {K:PV→Option R} (hk:shI op k x y K=some res) :
 ∃ v,K (.v v)=some res∧∀ T,(Go.binOp op T (.int k x) (.int k' y)).run P w=.ok v w:=by
 cases op <;> simp only [shI] at hk
 case shl =>
  obtain ⟨h1,h2⟩:=Ja5 hk
  have hy:¬ y<0:=of_decide_eq_false h1
  exact ⟨_,h2,fun T=>by simp [Go.binOp,Op.shift,hy]⟩
 case shr =>
  obtain ⟨h1,h2⟩:=Ja5 hk
  have hy:¬ y<0:=of_decide_eq_false h1
  exact ⟨_,h2,fun T=>by simp [Go.binOp,Op.shift,hy]⟩
 all_goals cases hk
theorem Jg3 {op:BinOp} {x y:ByteArray} {K:PV→Option R} (hk:Jkb op x y K=some res) :
 ∃ v,K (.v v)=some res∧∀ T,(Go.binOp op T (.string x) (.string y)).run P w=.ok v w:=by
 cases op <;> simp only [Jkb] at hk
 case add =>
  unfold JjZ at hk
  obtain ⟨h1,h2⟩:=Jaa hk
  have hle:¬ (((x.size + y.size:Nat):Int)>IntKind.i64.max):=by
   have:=Jku h1
   have e:IntKind.i64.max=9223372036854775807:=rfl
   omega
  refine ⟨_,h2,fun T=>?_⟩
  simp only [Go.binOp,Op.stringOp,if_neg hle]
  rfl
 all_goals first
  | (cases hk; done)
  | (refine ⟨_,hk,fun T=>?_⟩; simp [Go.binOp,Op.stringOp,eqS,ltS,ByteArray.toList_eq]; done)
theorem Jkr (op:BinOp) (T:TypeId) (x y:Operand) (k k':IntKind) (m n:Int):(eqGuard op T x y (.int k m) (.int k' n)).run P w=.ok () w:=by cases op <;> rfl
theorem Jks (op:BinOp) (T:TypeId) (x y:Operand) (m n:ByteArray):(eqGuard op T x y (.string m) (.string n)).run P w=.ok () w:=by cases op <;> rfl
theorem Jj (op:BinOp) (T:TypeId) (x y:Operand) (m n:Bool):(eqGuard op T x y (.bool m) (.bool n)).run P w=.ok () w:=by cases op <;> rfl
theorem Jid {T:TypeId} (h:Jic P T=true):P.underlying T=some .bool:=by
 unfold Jic at h
 split at h
 · assumption
 · cases h
theorem JeF (d:Nat) {T:TypeId} (hu:P.underlying T=some .bool) (m n:Bool):(Op.equalIn (d + 1) T (.bool m) (.bool n)).run P w=.ok (m == n) w:=by
 simp [Op.equalIn,run_underlying hu]
theorem Jgt {T:TypeId} (hu:P.underlying T=some .bool) (m n:Bool):(Op.equal T (.bool m) (.bool n)).run P w=.ok (m == n) w :=
 JeF 9999 hu m n
theorem Jla {o:Oper} {op:UnOp} {T:TypeId} {x:Operand} {K:Out→Option R} {env:Env} (hd:a.defers=[]) (h:Rel P G F Bs st a.tmps w) (ho:o.op=.unOp op T x)
 (hk:opK P env (.unOp op T x) o.type (opd st) K=some res):∃ out,K out=some res∧Eff P G st a w o out:=by
 have hrx:=Jag h x
 simp only [opK] at hk
 split at hk
 · rename_i u hx
   rw [hx] at hrx
   unfold unK at hk
   split at hk
   · have e1:=Jbd hrx
     exact ⟨_,hk,Jab (by simp [execOp,ho,e1,Op.unary,Op.intArith]) (JaF hd h (.v _))⟩
   · have e1:=Jbd hrx
     exact ⟨_,hk,Jab (by simp [execOp,ho,e1,Op.unary]) (JaF hd h (.v _))⟩
   · have e1:=Jbd hrx
     exact ⟨_,hk,Jab (by simp [execOp,ho,e1,Op.unary,Op.intBits,Jfl]) (JaF hd h (.v _))⟩
   · cases hk
 · cases hk
theorem JgA {o:Oper} {x:Operand} {i:Nat} {K:Out→Option R} {env:Env} (hd:a.defers=[]) (h:Rel P G F Bs st a.tmps w) (ho:o.op=.extract x i)
 (hk:opK P env (.extract x i) o.type (opd st) K=some res):∃ out,K out=some res∧Eff P G st a w o out:=by
 have hrx:=Jag h x
 simp only [opK] at hk
 split at hk
 · rename_i s l hx
   rw [hx] at hrx
   obtain ⟨h1,h2⟩:=hrx
   have hs:=h.sl s
   rw [h1,h2] at hs
   generalize hB:Bs s=B at hs
   generalize hv:a.eval x=c at hs
   cases hs with
   | tup hl =>
    rename_i vs
    have run:∀ c,vs[i]? = some c→(execOp a.eval o).run P w=.ok (.value c) w:=by
     intro c hc
     simp [execOp,ho,hv,Instr.extract,hc]
    have leave:∀ (y:SV),l.getD i .dead=y→y≠.dead→∀ (hk:K ⟨y,none,[(s,.tup (l.set i .dead))],[]⟩=some res),∃ out,K out=some res∧Eff P G st a w o out:=by
     intro y hy hyd hk
     obtain ⟨c,Bj,pre,post,f1,f2,f3,f4⟩:=hl.get (getD_some hy hyd)
     have hnd:=h.nd s
     rw [hB,f3,List.append_assoc,List.nodup_append,List.nodup_append] at hnd
     have hmem:∀ b,b∈pre++post→b∈Bs s:=fun b hb=>by rw [hB,f3]; rcases List.mem_append.1 hb with q | q <;> simp [q]
     have hmemj:∀ b,b∈Bj→b∈Bs s:=fun b hb=>by rw [hB,f3]; simp [hb]
     have hnot:∀ b,b∈Bj→b∉pre++post:=by
      intro b hb hc
      rcases List.mem_append.1 hc with q | q
      · exact hnd.2.2 b q b (List.mem_append_left _ hb) rfl
      · exact hnd.2.1.2.2 b hb b q rfl
     have e4:=f4 F w .dead c [] (fun _ q=>q) (fun _ _=>rfl) (.dead c)
     rw [Jf8 f1,List.append_nil] at e4
     have hrt:RS P F w (.tup (l.set i .dead)) (a.tmps.getD s undef) (pre++post):=by
      rw [h2,hv]
      have:=RS.tup (P:=P) e4
      simpa using this
     have r1:=h.turn (drop:=[]) (F':=F) (w':=w) hrt (fun b hb=>.inl (hmem b hb)) (List.nodup_append.2 ⟨hnd.1,hnd.2.1.2.1,fun b1 q b2 r e=>hnd.2.2 b1 q b2 (List.mem_append_right _ r) e⟩)
      (fun _ q=>q) (fun _ q=>.inl q) (fun b hb=>h.nf s b (hmem b hb)) (fun _ _ _=>rfl) (Nat.le_refl _) ⟨rfl,rfl,rfl⟩ (fun _ _ _ _ _=>.inr rfl) (fun _ _ e=>by cases e)
     refine ⟨_,hk,Jab (run c (by simpa using f1)) (JaE hd r1 f2 hnd.2.1.1 (fun j b hb=>?_) (fun b hb=>h.nf s b (hmemj b hb)) (fun b hb=>h.nw s b (hmemj b hb)) (fun b hb=>h.lt s b (hmemj b hb)) (by simp))⟩
     by_cases hj:j=s
     · subst hj; rw [Jah]; exact hnot b hb
     · rw [Jaf _ _ hj]; exact h.dj s j b (Ne.symm hj) (hmemj b hb)
    split at hk
    · rename_i y hy
      obtain ⟨c,Bj,pre,post,f1,f2,f3,f4⟩:=hl.get (getD_some hy (by simp))
      cases f2 with
      | p h3=>exact ⟨_,hk,Jab (run c (by simpa using f1)) (JaF hd h h3)⟩
    · rename_i hy
      obtain ⟨c,Bj,pre,post,f1,f2,f3,f4⟩:=hl.get (getD_some hy (by simp))
      cases f2 with
      | nl=>exact ⟨_,hk,Jab (run _ (by simpa using f1)) (Jau hd (by rw [Jak]; exact h) .nl)⟩
    · rename_i T es hy; exact leave _ hy (by simp) hk
    · rename_i T cs hy; exact leave _ hy (by simp) hk
    · rename_i T e bs hy; exact leave _ hy (by simp) hk
    · rename_i cs hy; exact leave _ hy (by simp) hk
    · cases hk
 · cases hk
theorem Jft {o:Oper} {x:Operand} {K:Out→Option R} {env:Env} (hd:a.defers=[]) (h:Rel P G F Bs st a.tmps w) (ho:o.op=.nilCheck x)
 (hk:opK P env (.nilCheck x) o.type (opd st) K=some res):∃ out,K out=some res∧Eff P G st a w o out:=by
 have hrx:=Jag h x
 simp only [opK] at hk
 have go:∀ c,a.eval x=c→(∃ b,c=.pointer (some b))∨(∃ f u v,c=.func (.func f) u v)→(execOp a.eval o).run P w=.ok (.value c) w:=by
  intro c hc hf
  rcases hf with ⟨b,rfl⟩ | ⟨f,u,v,rfl⟩ <;> simp [execOp,ho,hc]
 split at hk
 · rename_i s off T cs hx
   rw [hx] at hrx
   obtain ⟨out,h1,h2⟩:=Jbw hd h hrx hk o.dst
   obtain ⟨_,b,_,e⟩:=hrx
   exact ⟨out,h1,Jab (go _ rfl (.inl ⟨_,e⟩)) h2⟩
 · rename_i s T e bs hx
   rw [hx] at hrx
   obtain ⟨out,h1,h2⟩:=Jbw hd h hrx hk o.dst
   obtain ⟨b,e1⟩:=h.ob_inv hrx.1
   exact ⟨out,h1,Jab (go _ rfl (.inl ⟨_,hrx.2.symm.trans e1⟩)) h2⟩
 · rename_i s cx T es i off hx
   rw [hx] at hrx
   obtain ⟨out,h1,h2⟩:=Jbw hd h hrx hk o.dst
   obtain ⟨g,n,cap,sz,_,_,_,e⟩:=hrx
   exact ⟨out,h1,Jab (go _ rfl (.inl ⟨_,e⟩)) h2⟩
 · rename_i cs hx
   rw [hx] at hrx
   have hrx':RP F w (.fb cs) (a.eval x):=hrx
   refine ⟨_,hk,Jab (go _ rfl (.inl ?_)) (JaF hd h hrx')⟩
   generalize a.eval x=c at hrx'
   cases hrx' with | fb _ _ _=>exact ⟨_,rfl⟩
 · rename_i f cs hx
   rw [hx] at hrx
   have hrx':RP F w (.clo f cs) (a.eval x):=hrx
   refine ⟨_,hk,Jab (go _ rfl (.inr ?_)) (JaF hd h hrx')⟩
   generalize a.eval x=c at hrx'
   cases hrx' with | clo _=>exact ⟨_,_,_,rfl⟩
 · rename_i f u v hx
   rw [hx] at hrx
   exact ⟨_,hk,Jab (go _ rfl (.inr ⟨_,_,_,Jbd hrx⟩)) (JaF hd h hrx)⟩
 · cases hk
end
end Go.Proofs.YtmgfmlhdnadglaaGreatDoor.Th
set_option linter.unusedVariables false
set_option linter.unusedSimpArgs false
namespace Go.Proofs.YtmgfmlhdnadglaaGreatDoor.Th
open Go
variable {R:Type} {res:R}
theorem JaN (e:PV) (es:List PV):Jbk (e::es)=cellsOf e++Jbk es:=by simp [Jbk]
theorem Jfi (a b:List PV):Jbk (a++b)=Jbk a++Jbk b:=by simp [Jbk]
theorem JaI {sz:Nat}:∀ {es:List PV},(∀ e∈es,(cellsOf e).length=sz)→(Jbk es).length=es.length * sz
 | [],_=>by simp [Jbk]
 | e::es,h=>by
  rw [JaN,List.length_append,JaI (fun e he=>h e (by simp [he])),h e (by simp),List.length_cons,Nat.add_mul]
  omega
theorem Jcm {sz:Nat}:∀ {es:List PV} {i:Nat} {e:PV},(∀ e∈es,(cellsOf e).length=sz)→es[i]? = some e→∃ rest,(Jbk es).drop (i * sz)=cellsOf e++rest
 | [],i,e,_,hi=>by simp at hi
 | x::es,0,e,h,hi=>by simp at hi; subst hi; exact ⟨Jbk es,by simp [JaN]⟩
 | x::es,i + 1,e,h,hi=>by
  obtain ⟨rest,hr⟩:=Jcm (fun e he=>h e (by simp [he])) (by simpa using hi:es[i]? = some e)
  refine ⟨rest,?_⟩
  have hx:=h x (by simp)
  rw [JaN,show (i + 1) * sz=(cellsOf x).length + i * sz by rw [hx,Nat.add_mul]; omega,List.drop_append,List.drop_eq_nil_of_le (by omega),List.nil_append]
  rw [show (cellsOf x).length + i * sz - (cellsOf x).length=i * sz by omega]
  exact hr
theorem Jb0 (b o j:Nat):(⟨b,o,none⟩:Addr).add j=⟨b,o + j,none⟩:=by unfold Addr.add; split <;> simp_all
section
variable {P:Program} {G:Gd} {F:Nat→Prop} {Bs:Nat→List Nat} {st:St} {a:Act} {w:World}
theorem Jcu {T:TypeId} {d:TypeDesc} (h:P.underlying T=some d) (w:World):(isAgg T).run P w=.ok (Jai P T) w:=by
 unfold isAgg Jai
 rw [Sem.run_bind,run_underlying h w,h]
 cases d <;> rfl
theorem Jhn {T:TypeId} (h:JaH P T=true):∃ d,P.underlying T=some d:=by
 unfold JaH at h
 split at h
 · exact ⟨_,by assumption⟩
 · cases h
theorem JaR {T:TypeId} {n:Nat} (h:Jal P T=some n) (w:World):(sizeOf T).run P w=.ok n w:=by
 unfold Jal at h
 cases hi:P.info? T with
 | none=>simp [hi] at h
 | some i=>simp [hi] at h; simp [sizeOf,typeInfo,hi,h]
theorem JcX {T:TypeId} {b off:Nat} {v:Value} (hk:JaH P T=true) (ha:Jai P T=false) (hc:w.cell? ⟨b,off,none⟩=some v) :
 (Instr.loadAt T (.pointer (some ⟨b,off,none⟩))).run P w=.ok v w:=by
 obtain ⟨d,hd⟩:=Jhn hk
 simp [Instr.loadAt,Instr.sureAddr,loadVar,Jcu hd,ha,hc]
theorem JcW {T:TypeId} {b off n:Nat} {xs:List Value} (hk:JaH P T=true) (ha:Jai P T=true) (hs:Jal P T=some n) (hl:xs.length=n)
 (hc:∀ j v,xs[j]? = some v→w.cell? ⟨b,off + j,none⟩=some v):(Instr.loadAt T (.pointer (some ⟨b,off,none⟩))).run P w=.ok (.agg xs.toArray) w:=by
 obtain ⟨d,hd⟩:=Jhn hk
 have hl2:=run_loadCells_list (P:=P) w ⟨b,off,none⟩ xs (fun j v hv=>by rw [Jb0]; exact hc j v hv)
 rw [hl] at hl2
 simp [Instr.loadAt,Instr.sureAddr,loadVar,Jcu hd,ha,JaR hs,hl2]
theorem JhT {T:TypeId} {es:List PV} {g n cap i sz:Nat} {B:List Nat} {e:PV} (h:RS P F w (.own T es) (.slice (some ⟨g,0,none⟩) n cap) B) (hsz:Jal P T=some sz) (hi:es[i]? = some e) :
 ∃ xs,RPs F w (cellsOf e) xs∧(cellsOf e).length=sz∧Jan (cellsOf e)=true∧∀ j v,xs[j]? = some v→w.cell? ⟨g,i * sz + j,none⟩=some v:=by
 cases h with
 | own h1 h2 h3 h4 h5 h6 h7 =>
  rename_i xs inf z
  have hs:inf.size=sz:=by simp [Jal,h1] at hsz; exact hsz
  rw [hs] at h7 h5
  obtain ⟨rest,hr⟩:=Jcm (fun e he=>(h7 e he).1) hi
  have he:=h7 e (List.mem_of_getElem? hi)
  have hx:=(h6.drop (i * sz)).take sz
  rw [hr,show ((cellsOf e++rest).take sz)=cellsOf e by rw [←he.1]; exact List.take_left] at hx
  refine ⟨_,hx,he.1,he.2,fun j v hj=>?_⟩
  rw [List.getElem?_take] at hj
  split at hj
  · rename_i hlt
    rw [List.getElem?_drop] at hj
    have hlen:n=es.length:=by
     rcases h5.2 with ⟨q,_⟩ | ⟨g',cap',cur,q,_,_,_,_,_,_⟩ <;> simp at q
     exact q.2.1
    subst hlen
    have:=h5.cellAt (i * sz + j) (by
     have h0:=Jcr hj
     rw [h5.1] at h0
     exact h0)
    rw [this]; exact hj
  · cases hj
theorem JbA {es:List PV} {i:Nat} {d:PV} (h:i<es.length):es[i]? = some (es.getD i d):=by
 rw [List.getD_eq_getElem?_getD,List.getElem?_eq_getElem h]; rfl
theorem JfR {s:Nat} {cx:Option (Nat × TypeId × List SV)} {T:TypeId} {es:List PV} {g n cap:Nat} (h:Rel P G F Bs st a.tmps w)
 (hp:JaZ st.fr a.tmps w s cx T es (.slice (some ⟨g,0,none⟩) n cap)):n=es.length:=by
 obtain ⟨h1,_⟩:=h.place hp
 cases h1 with
 | own _ _ _ _ h5 _ _ =>
  rcases h5.2 with ⟨q,_⟩ | ⟨g',cap',cur,q,_,_,_,_,_,_⟩ <;> simp at q
  exact q.2.1
theorem CellsAt.at {b off:Nat} {xs:List Value} (h:CellsAt F w (some ⟨b,off,none⟩) xs):∀ j v,xs[j]? = some v→w.cell? ⟨b,off + j,none⟩=some v:=by
 intro j v hj
 rcases h with rfl | ⟨b',off',e,_,hc⟩
 · simp at hj
 · cases e; exact hc j v hj
theorem JiK {o:Oper} {T:TypeId} {x:Operand} {K:Out→Option R} (hd:a.defers=[]) (h:Rel P G F Bs st a.tmps w) (ho:o.op=.load T x) (hkn:JaH P T=true) (hag:Jai P T=false)
 (hk:JdM P (opd st x) K=some res):∃ out,K out=some res∧Eff P G st a w o out:=by
 have hrx:=Jag h x
 have run:∀ b off v,a.eval x=.pointer (some ⟨b,off,none⟩)→w.cell? ⟨b,off,none⟩=some v→(execOp a.eval o).run P w=.ok (.value v) w:=by
  intro b off v hv hc
  simp [execOp,ho,hv,JcX hkn hag hc]
 unfold JdM at hk
 split at hk
 · rename_i s off Tb cs hx
   rw [hx] at hrx
   obtain ⟨h1,b,h2,h3⟩:=hrx
   obtain ⟨b',cur,B,e1,e2,e3,e4,e5⟩:=h.box_inv h1
   rw [h2] at e1; cases e1
   obtain ⟨hlt,hk⟩:=Jaa hk
   have cellv:∀ c,cur.toList[off]? = some c→w.cell? ⟨b,off,none⟩=some c:=fun c hc=>by rw [cell_of_row w b off cur Tb _ e2]; simpa using hc
   split at hk
   · rename_i y hy
     obtain ⟨c,Bj,pre,post,f1,f2,_⟩:=e3.get (getD_some hy (by simp))
     cases f2 with | p h4=>exact ⟨_,hk,Jab (run b off c h3 (cellv c f1)) (JaF hd h h4)⟩
   · rename_i hy
     obtain ⟨c,Bj,pre,post,f1,f2,_⟩:=e3.get (getD_some hy (by simp))
     cases f2 with | nl=>exact ⟨_,hk,Jab (run b off _ h3 (cellv _ f1)) (Jau hd (by rw [Jak]; exact h) .nl)⟩
   · rename_i T2 es hy
     obtain ⟨c,Bj,pre,post,f1,f2,_⟩:=e3.get (getD_some hy (by simp))
     refine ⟨_,hk,Jab (run b off c h3 (cellv c f1)) (JbC hd h ?_)⟩
     intro T' cs' b' cur' T'' f hs ht hb
     rw [h2] at ht; cases ht
     rw [e2] at hb; cases hb
     exact f1
   · cases hk
 · rename_i s cx T' es i off hx
   rw [hx] at hrx
   obtain ⟨g,n,cap,sz,h1,h2,h3,h4⟩:=hrx
   have hn:=JfR h h1
   obtain ⟨hk,hl,hm,_⟩:=JbO hk
   obtain ⟨hlt,hk⟩:=Jaa hk
   have hlt:off<(cellsOf (es.getD i (.v (.bool false)))).length:=by simpa using hlt
   obtain ⟨xs,g1,g2,g3,g4⟩:=JhT (h.place h1).1 h3 (JbA (d:=.v (.bool false)) (by omega:i<es.length))
   obtain ⟨c,q1,q2⟩:=g1.get (JbA (d:=.v (.bool false)) hlt)
   exact ⟨_,hk,Jab (run g (i * sz + off) c h4 (g4 off c q1)) (JaF hd h q2)⟩
 · rename_i cs hx
   rw [hx] at hrx
   obtain ⟨y,rest,rfl,hk⟩:=Jbc hk
   have hrx':RP F w (.fb (y::rest)) (a.eval x):=hrx
   generalize hv:a.eval x=c at hrx'
   cases hrx' with
   | fb h1 h2 h3 =>
    cases h1 with
    | cons p1 p2=>exact ⟨_,hk,Jab (run _ _ _ hv (by have:=h3.at 0 _ rfl; simpa using this)) (JaF hd h p1)⟩
 · cases hk
theorem Jfj {S:TypeId} {f:Nat} {o:Nat} {T:TypeId} (h:Jiz P S f=some (o,T)):∃ fs fl,P.underlying S=some (.struct fs)∧fs[f]? = some fl∧fl.offset=o∧fl.type=T:=by
 unfold Jiz at h
 split at h
 · rename_i fs hu
   cases hf:fs[f]? with
   | none=>simp [hf] at h
   | some fl=>simp [hf] at h; exact ⟨fs,fl,hu,hf,h.1,h.2⟩
 · cases h
theorem JjQ {T:TypeId} (h:Jh6 P T=true):∃ n,Jal P T=some n∧0<n:=by
 unfold Jh6 at h
 split at h
 · exact ⟨_,by assumption,by simpa using h⟩
 · cases h
theorem JeR {o:Oper} {S:TypeId} {x:Operand} {f:Nat} {K:Out→Option R} {env:Env} (hd:a.defers=[]) (h:Rel P G F Bs st a.tmps w) (ho:o.op=.fieldAddr S x f)
 (hk:opK P env (.fieldAddr S x f) o.type (opd st) K=some res):∃ out,K out=some res∧Eff P G st a w o out:=by
 have hrx:=Jag h x
 simp only [opK] at hk
 split at hk
 · rename_i off fT hf
   obtain ⟨fs,fl,hu,hfl,rfl,rfl⟩:=Jfj hf
   obtain ⟨hpos,hk⟩:=Jaa hk
   obtain ⟨n,hn,hn0⟩:=JjQ hpos
   have hn0':n≠0:=by omega
   have run:∀ b o',a.eval x=.pointer (some ⟨b,o',none⟩)→(execOp a.eval o).run P w=.ok (.value (.pointer (some ⟨b,o' + fl.offset,none⟩))) w:=by
    intro b o' hv
    simp [execOp,ho,hv,Instr.fieldAt,run_underlying hu,hfl,Instr.sureAddr,fieldPlace,JaR hn,hn0',Jb0]
   split at hk
   · rename_i s o' Tb cs hx
     rw [hx] at hrx
     obtain ⟨h1,b,h2,h3⟩:=hrx
     refine ⟨_,hk,Jab (run b o' h3) (JbC hd h fun b' hb'=>?_)⟩
     rw [h2] at hb'; cases hb'; rfl
   · rename_i s cx T es i o' hx
     rw [hx] at hrx
     obtain ⟨g,n',cap,sz,h1,h2,h3,h4⟩:=hrx
     refine ⟨_,hk,Jab (run g _ h4) (JbC hd h ?_)⟩
     have:=JdX (P:=P) (off:=o' + fl.offset) h1 h2 h3
     rw [←Nat.add_assoc] at this
     exact this
   · rename_i cs hx
     rw [hx] at hrx
     have hrx':RP F w (.fb cs) (a.eval x):=hrx
     generalize hv:a.eval x=c at hrx'
     cases hrx' with
     | fb h1 h2 h3 =>
      rename_i xs b o'
      refine ⟨_,hk,Jab (run _ _ hv) (JaF hd h (.fb (h1.drop fl.offset) (JaQ fun y hy=>JaG h2 y (List.mem_of_mem_drop hy)) ?_))⟩
      rcases h3 with rfl | ⟨b2,o2,e,hb,hc⟩
      · exact .inl (by simp)
      · cases e
        refine .inr ⟨b,o' + fl.offset,rfl,hb,fun j v hj=>?_⟩
        rw [List.getElem?_drop] at hj
        have:=hc _ _ hj
        rwa [←Nat.add_assoc] at this
   · cases hk
 · cases hk
theorem JiJ {o:Oper} {T:TypeId} {x i:Operand} {K:Out→Option R} {env:Env} (hd:a.defers=[]) (h:Rel P G F Bs st a.tmps w) (ho:o.op=.index T x i)
 (hk:opK P env (.index T x i) o.type (opd st) K=some res):∃ out,K out=some res∧Eff P G st a w o out:=by
 have hrx:=Jag h x
 have hri:=Jag h i
 simp only [opK] at hk
 split at hk
 · rename_i s k n hu hx hi
   rw [hx] at hrx; rw [hi] at hri
   have e1:=Jbd hrx
   have e2:=Jbd hri
   obtain ⟨hin,hk⟩:=Jaa hk
   simp only [inR,Bool.and_eq_true,decide_eq_true_eq] at hin
   have hlt:n.toNat<s.size:=by omega
   have hrun:(execOp a.eval o).run P w=.ok (.value (.int .u8 (Jc6 s n))) w:=by
    have hb:s[n.toNat]? = some s[n.toNat]:=by simp [hlt]
    have hby:((s[n.toNat]).toNat:Int)=Jc6 s n:=by
     unfold Jc6
     rw [List.getD_eq_getElem?_getD,List.getElem?_eq_getElem (by simpa using hlt)]
     rfl
    simp [execOp,ho,e1,e2,Instr.index,asIntOf,run_underlying hu,hin.1,hb,hby]
   exact ⟨_,hk,Jab hrun (JaF hd h (.v _))⟩
 · cases hk
end
end Go.Proofs.YtmgfmlhdnadglaaGreatDoor.Th
set_option linter.unusedVariables false
set_option linter.unusedSimpArgs false
namespace Go.Proofs.YtmgfmlhdnadglaaGreatDoor.Th
open Go
variable {R:Type} {res:R}
section
variable {P:Program} {G:Gd} {F:Nat→Prop} {Bs:Nat→List Nat} {st:St} {a:Act} {w:World}
theorem RSs.split {l1 l2:List SV} {vs:List Value} {B:List Nat} (h:RSs P F w (l1++l2) vs B):∃ v1 v2 B1 B2,vs=v1++v2∧B=B1++B2∧RSs P F w l1 v1 B1∧RSs P F w l2 v2 B2:=by
 induction l1 generalizing vs B with
 | nil=>exact ⟨[],vs,[],B,rfl,rfl,.nil,h⟩
 | cons x l ih =>
  cases h with
  | cons h1 h2 =>
   obtain ⟨v1,v2,B1,B2,rfl,rfl,g1,g2⟩:=ih h2
   exact ⟨_::v1,v2,_++B1,B2,rfl,(List.append_assoc _ _ _).symm,.cons h1 g1,g2⟩
theorem RSs.join {l1 l2:List SV} {v1 v2:List Value} {B1 B2:List Nat} (h1:RSs P F w l1 v1 B1) (h2:RSs P F w l2 v2 B2):RSs P F w (l1++l2) (v1++v2) (B1++B2):=by
 induction l1 generalizing v1 B1 with
 | nil=>cases h1; exact h2
 | cons x l ih =>
  cases h1 with
  | cons p q=>rw [List.append_assoc]; exact .cons p (ih q)
theorem RSs.pure {l:List PV} {vs:List Value} (h:RPs F w l vs):RSs P F w (l.map .p) vs []:=by
 induction l generalizing vs with
 | nil=>cases h; exact .nil
 | cons x l ih=>cases h with | cons p q=>exact .cons (B:=[]) (.p p) (ih q)
theorem JcF {α:Type} (l:List α) (off n:Nat):l=l.take off++((l.drop off).take n++l.drop (off + n)):=by
 have h:(l.drop off).take n++(l.drop off).drop n=l.drop off:=List.take_append_drop n (l.drop off)
 rw [List.drop_drop] at h
 rw [h,List.take_append_drop]
theorem Jc2 {cs:List SV} {vs:List Value} {B:List Nat} (h:RSs P F w cs vs B) (off n:Nat) :
 ∃ B1 B2 B3,B=B1++(B2++B3)∧RSs P F w (cs.take off) (vs.take off) B1∧RSs P F w ((cs.drop off).take n) ((vs.drop off).take n) B2∧RSs P F w (cs.drop (off + n)) (vs.drop (off + n)) B3:=by
 have hc:=h.length
 rw [JcF cs off n] at h
 obtain ⟨v1,v23,B1,B23,e1,rfl,g1,g23⟩:=h.split
 obtain ⟨v2,v3,B2,B3,e2,rfl,g2,g3⟩:=g23.split
 have l1:v1.length=min off vs.length:=by rw [←g1.length,List.length_take,hc]
 have l2:v2.length=min n (vs.length - off):=by rw [←g2.length,List.length_take,List.length_drop,hc]
 have q1:vs.take off=v1:=by
  rw [e1]
  rcases Nat.le_total off vs.length with q | q
  · rw [show off=v1.length by omega,List.take_left]
  · have:v23=[]:=by
     have:=congrArg List.length e1
     rw [List.length_append] at this
     exact List.length_eq_zero_iff.1 (by omega)
    rw [this,List.append_nil,List.take_of_length_le (by omega)]
 have q2:vs.drop off=v23:=by
  rw [e1]
  rcases Nat.le_total off vs.length with q | q
  · rw [show off=v1.length by omega,List.drop_left]
  · have:v23=[]:=by
     have:=congrArg List.length e1
     rw [List.length_append] at this
     exact List.length_eq_zero_iff.1 (by omega)
    rw [this,List.append_nil,List.drop_eq_nil_of_le (by omega)]
 have hl23:v23.length=vs.length - off:=by rw [←q2,List.length_drop]
 have q3:v23.take n=v2:=by
  rw [e2]
  rcases Nat.le_total n (vs.length - off) with q | q
  · rw [show n=v2.length by omega,List.take_left]
  · have:v3=[]:=by
     have:=congrArg List.length e2
     rw [List.length_append,hl23] at this
     exact List.length_eq_zero_iff.1 (by omega)
    rw [this,List.append_nil,List.take_of_length_le (by omega)]
 have q4:v23.drop n=v3:=by
  rw [e2]
  rcases Nat.le_total n (vs.length - off) with q | q
  · rw [show n=v2.length by omega,List.drop_left]
  · have:v3=[]:=by
     have:=congrArg List.length e2
     rw [List.length_append,hl23] at this
     exact List.length_eq_zero_iff.1 (by omega)
    rw [this,List.append_nil,List.drop_eq_nil_of_le (by omega)]
 refine ⟨B1,B2,B3,rfl,by rw [q1]; exact g1,by rw [q2,q3]; exact g2,?_⟩
 have q5:vs.drop (off + n)=v3:=by rw [←List.drop_drop,q2,q4]
 rw [q5]; exact g3
theorem JhD {B1 B2 B3:List Nat} {b:Nat} (h:(b::(B1++(B2++B3))).Nodup):(b::(B1++B3)).Nodup∧(∀ x∈B2,x∉b::(B1++B3))∧B2.Nodup:=by
 rw [List.nodup_cons,List.nodup_append,List.nodup_append] at h
 obtain ⟨h0,h1,⟨h2,h3,h4⟩,h5⟩:=h
 refine ⟨List.nodup_cons.2 ⟨fun q=>h0 ?_,List.nodup_append.2 ⟨h1,h3,fun x hx y hy e=>h5 x hx y (List.mem_append_right _ hy) e⟩⟩,fun x hx q=>?_,h2⟩
 · rcases List.mem_append.1 q with q | q <;> simp [q]
 · rcases List.mem_cons.1 q with q | q
   · subst q; exact h0 (by simp [hx])
   · rcases List.mem_append.1 q with q | q
     · exact h5 x q x (List.mem_append_left _ hx) rfl
     · exact h4 x hx x q rfl
theorem Rel.freezeCells (h:Rel P G F Bs st a.tmps w) {s off n:Nat} {T:TypeId} {cs:List SV} {ys:List PV} (hs:st.fr s=.bx T cs) (hf:Jdu ((cs.drop off).take n)=some ys) :
 ∃ F' Bs' b cur,a.tmps.getD s undef=.pointer (some ⟨b,0,none⟩)∧w.heap[b]? = some (.cells cur T (0,0))∧cur.toList.length=cs.length ∧
  Rel P G F' Bs' (st.upS (bif Jch ((cs.drop off).take n) then [(s,.bx T (splice cs off ys))] else []) []) a.tmps w ∧
  RPs F' w ys ((cur.toList.drop off).take n)∧Jan ys=true∧ys.length=((cs.drop off).take n).length:=by
 obtain ⟨b,cur,B,e1,e2,e3,e4,e5⟩:=h.box_inv hs
 obtain ⟨B1,B2,B3,rfl,g1,g2,g3⟩:=Jc2 e3 off n
 have hone:∀ v∈(cur.toList.drop off).take n,v.oneCell'=true:=fun v hv=>e4 v (List.mem_of_mem_drop (List.mem_of_mem_take hv))
 have hlen:ys.length=((cs.drop off).take n).length:=(Jb1 g2 hf (F':=fun b=>F b∨b∈B2) (fun _ q=>.inl q) (fun _ q=>.inr q)).2.2
 cases ha:Jch ((cs.drop off).take n) with
 | false =>
  have hB2:=Jcz g2 hf ha
  subst hB2
  obtain ⟨r1,r2,r3⟩:=Jb1 g2 hf (F':=F) (fun _ q=>q) (by simp)
  exact ⟨F,Bs,b,cur,e1,e2,e3.length.symm,by rw [cond_false,Jak]; exact h,r1,r2 hone,r3⟩
 | true =>
  obtain ⟨r1,r2,r3⟩:=Jb1 g2 hf (F':=fun b=>F b∨b∈B2) (fun _ q=>.inl q) (fun _ q=>.inr q)
  have hnd:=h.nd s
  rw [e5] at hnd
  obtain ⟨n1,n2,n3⟩:=JhD hnd
  have m1:∀ {l:List SV} {v:List Value} {B:List Nat},RSs P F w l v B→RSs P (fun b=>F b∨b∈B2) w l v B:=fun h=>h.mono (fun _ q=>.inl q) fun _ _=>rfl
  have hcs:RSs P (fun b=>F b∨b∈B2) w (splice cs off ys) cur.toList (B1++([]++B3)):=by
   have:=(m1 g1).join ((RSs.pure (P:=P) r1).join (m1 g3))
   rw [←JcF cur.toList off n] at this
   unfold splice
   rw [List.append_assoc]
   have hdr:cs.drop (off + ys.length)=cs.drop (off + n):=by
    rw [hlen,List.length_take,List.length_drop]
    rcases Nat.le_total n (cs.length - off) with q | q
    · rw [Nat.min_eq_left q]
    · rw [Nat.min_eq_right q,List.drop_eq_nil_of_le (by omega),List.drop_eq_nil_of_le (by omega)]
   rw [hdr]; exact this
  have hmem:∀ x∈b::(B1++B3),x∈Bs s:=fun x hx=>by
   rw [e5]
   rcases List.mem_cons.1 hx with q | q
   · simp [q]
   · rcases List.mem_append.1 q with q | q <;> simp [q]
  have hmem2:∀ x∈B2,x∈Bs s:=fun x hx=>by rw [e5]; simp [hx]
  refine ⟨_,upB Bs s (b::(B1++B3)),b,cur,e1,e2,e3.length.symm,?_,r1,r2 hone,r3⟩
  rw [cond_true]
  refine h.turn (drop:=[]) (F':=fun b=>F b∨b∈B2) (w':=w) ?_ (fun x hx=>.inl (hmem x hx)) n1 (fun _ q=>.inl q)
   (fun x hx=>hx.imp id fun q=>⟨hmem2 x q,n2 x q⟩) (fun x hx q=>?_) (fun _ _ _=>rfl) (Nat.le_refl _) ⟨rfl,rfl,rfl⟩ (fun _ _ _ _ _=>.inr rfl) (fun _ _ _=>.inr ⟨T,cs,hs⟩)
  · rw [e1]; exact .bx e2 (by simpa using hcs) e4
  · rcases q with q | q
    · exact h.nf s x (hmem x hx) q
    · exact n2 x q hx
theorem JiL {o:Oper} {T:TypeId} {x:Operand} {n:Nat} {K:Out→Option R} (hd:a.defers=[]) (h:Rel P G F Bs st a.tmps w) (ho:o.op=.load T x) (hkn:JaH P T=true) (hag:Jai P T=true)
 (hsz:Jal P T=some n) (hk:JdN P n (opd st x) K=some res):∃ out,K out=some res∧Eff P G st a w o out:=by
 have hrx:=Jag h x
 have run:∀ (b off:Nat) (xs:List Value),a.eval x=.pointer (some ⟨b,off,none⟩)→xs.length=n→(∀ j v,xs[j]? = some v→w.cell? ⟨b,off + j,none⟩=some v)→(execOp a.eval o).run P w=.ok (.value (.agg xs.toArray)) w:=by
  intro b off xs hv hl hc
  simp [execOp,ho,hv,JcW hkn hag hsz hl hc]
 unfold JdN at hk
 split at hk
 · rename_i s off Tb cs hx
   rw [hx] at hrx
   obtain ⟨h1,b,h2,h3⟩:=hrx
   obtain ⟨hle,hk⟩:=Jaa hk
   have hle:off + n≤cs.length:=by simpa using hle
   split at hk
   · rename_i ys hy
     obtain ⟨F',Bs',b',cur,e1,e2,e3,e4,e5,e6,e7⟩:=h.freezeCells h1 hy
     rw [h2] at e1; cases e1
     refine ⟨_,hk,Jab (run b off _ h3 (by rw [List.length_take,List.length_drop]; omega) fun j v hj=>?_) (Jau hd e4 (.p (.agg e5 e6)))⟩
     rw [List.getElem?_take] at hj
     split at hj
     · rw [List.getElem?_drop] at hj
       rw [cell_of_row w b _ cur Tb _ e2]; simpa using hj
     · cases hj
   · cases hk
 · rename_i s cx T' es i off hx
   rw [hx] at hrx
   obtain ⟨g,n',cap,sz,h1,h2,h3,h4⟩:=hrx
   have hn:=JfR h h1
   obtain ⟨hk,hl,hm,_⟩:=JbO hk
   obtain ⟨hle,hk⟩:=Jaa hk
   have hle:off + n≤(cellsOf (es.getD i (.v (.bool false)))).length:=by simpa using hle
   obtain ⟨xs,g1,g2,g3,g4⟩:=JhT (h.place h1).1 h3 (JbA (d:=.v (.bool false)) (by omega:i<es.length))
   have hxl:=g1.length
   refine ⟨_,hk,Jab (run g (i * sz + off) ((xs.drop off).take n) h4 (by rw [List.length_take,List.length_drop]; omega) fun j v hj=>?_)
    (JaF hd h (.agg ((g1.drop off).take n) (JaQ fun y hy=>JaG g3 y (List.mem_of_mem_drop (List.mem_of_mem_take hy)))))⟩
   rw [List.getElem?_take] at hj
   split at hj
   · rw [List.getElem?_drop] at hj
     have:=g4 _ _ hj
     rwa [←Nat.add_assoc] at this
   · cases hj
 · rename_i cs hx
   rw [hx] at hrx
   obtain ⟨hle,hk⟩:=Jaa hk
   have hle:n≤cs.length:=by simpa using hle
   have hrx':RP F w (.fb cs) (a.eval x):=hrx
   generalize hv:a.eval x=c at hrx'
   cases hrx' with
   | fb h1 h2 h3 =>
    rename_i xs b off
    have hxl:=h1.length
    refine ⟨_,hk,Jab (run b off (xs.take n) hv (by rw [List.length_take]; omega) fun j v hj=>?_) (JaF hd h (.agg (h1.take n) (JaQ fun y hy=>JaG h2 y (List.mem_of_mem_take hy))))⟩
    rw [List.getElem?_take] at hj
    split at hj
    · exact h3.at j v hj
    · cases hj
 · cases hk
theorem Jew (F:Nat→Prop) (w:World):∀ (vs:List Value),RSs P F w (List.replicate vs.length .dead) vs []
 | []=>.nil
 | v::vs=>.cons (B:=[]) (.dead v) (Jew F w vs)
theorem Rel.takeCells (hd:a.defers=[]) (h:Rel P G F Bs st a.tmps w) {s off n:Nat} {T:TypeId} {cs:List SV} (hs:st.fr s=.bx T cs) (hle:off + n≤cs.length) :
 ∃ b cur,a.tmps.getD s undef=.pointer (some ⟨b,0,none⟩)∧w.heap[b]? = some (.cells cur T (0,0))∧cur.toList.length=cs.length ∧
  ∀ d,Lay P G st a w d ⟨.st ((cs.drop off).take n),none,[(s,.bx T (cs.take off++List.replicate n .dead++cs.drop (off + n)))],[]⟩ (.agg ((cur.toList.drop off).take n).toArray):=by
 obtain ⟨b,cur,B,e1,e2,e3,e4,e5⟩:=h.box_inv hs
 obtain ⟨B1,B2,B3,rfl,g1,g2,g3⟩:=Jc2 e3 off n
 have hone:∀ v∈(cur.toList.drop off).take n,v.oneCell'=true:=fun v hv=>e4 v (List.mem_of_mem_drop (List.mem_of_mem_take hv))
 have hl:=e3.length
 have hvl:((cur.toList.drop off).take n).length=n:=by rw [List.length_take,List.length_drop]; omega
 have hnd:=h.nd s
 rw [e5] at hnd
 obtain ⟨n1,n2,n3⟩:=JhD hnd
 have hmem:∀ x∈b::(B1++B3),x∈Bs s:=fun x hx=>by
  rw [e5]
  rcases List.mem_cons.1 hx with q | q
  · simp [q]
  · rcases List.mem_append.1 q with q | q <;> simp [q]
 have hmem2:∀ x∈B2,x∈Bs s:=fun x hx=>by rw [e5]; simp [hx]
 have hcs:RSs P F w (cs.take off++List.replicate n .dead++cs.drop (off + n)) cur.toList (B1++([]++B3)):=by
  have hdd:=Jew (P:=P) F w ((cur.toList.drop off).take n)
  rw [hvl] at hdd
  have:=g1.join (hdd.join g3)
  rw [←JcF cur.toList off n] at this
  rw [List.append_assoc]; exact this
 refine ⟨b,cur,e1,e2,hl.symm,fun d=>?_⟩
 have hturn:=h.turn (s:=s) (drop:=[]) (F':=F) (w':=w) (x:=.bx T (cs.take off++List.replicate n .dead++cs.drop (off + n))) (B:=b::(B1++B3)) (by rw [e1]; exact .bx e2 (by simpa using hcs) e4)
  (fun x hx=>.inl (hmem x hx)) n1 (fun _ q=>q) (fun _ q=>.inl q) (fun x hx=>h.nf s x (hmem x hx)) (fun _ _ _=>rfl) (Nat.le_refl _) ⟨rfl,rfl,rfl⟩ (fun _ _ _ _ _=>.inr rfl) (fun _ _ _=>.inr ⟨T,cs,hs⟩)
 refine JaE hd hturn (.st g2 hone) n3 (fun i x hx=>?_) (fun x hx=>h.nf s x (hmem2 x hx)) (fun x hx=>h.nw s x (hmem2 x hx)) (fun x hx=>h.lt s x (hmem2 x hx)) (by simp)
 by_cases hi:i=s
 · subst hi; rw [Jah]; exact n2 x hx
 · rw [Jaf _ _ hi]; exact h.dj s i x (Ne.symm hi) (hmem2 x hx)
theorem JjO {o:Oper} {T:TypeId} {x:Operand} {n:Nat} {K:Out→Option R} (hd:a.defers=[]) (h:Rel P G F Bs st a.tmps w) (ho:o.op=.load T x) (hkn:JaH P T=true) (hag:Jai P T=true)
 (hsz:Jal P T=some n) (hk:JgI n (opd st x) K=some res):∃ out,K out=some res∧Eff P G st a w o out:=by
 have hrx:=Jag h x
 unfold JgI at hk
 split at hk
 · rename_i s off Tb cs hx
   rw [hx] at hrx
   obtain ⟨h1,b,h2,h3⟩:=hrx
   obtain ⟨hle,hk⟩:=Jaa hk
   have hle:off + n≤cs.length:=by simpa using hle
   obtain ⟨b',cur,e1,e2,e3,e4⟩:=h.takeCells hd h1 hle
   rw [h2] at e1; cases e1
   refine ⟨_,hk,Jab ?_ (e4 o.dst)⟩
   have hrun:=JcW (P:=P) (w:=w) (b:=b) (off:=off) (xs:=(cur.toList.drop off).take n) hkn hag hsz (by rw [List.length_take,List.length_drop]; omega) fun j v hj=>by
    rw [List.getElem?_take] at hj
    split at hj
    · rw [List.getElem?_drop] at hj
      rw [cell_of_row w b _ cur Tb _ e2]; simpa using hj
    · cases hj
   simp [execOp,ho,h3,hrun]
 · cases hk
theorem JjL {o:Oper} {T:TypeId} {x:Operand} {K:Out→Option R} {env:Env} (hd:a.defers=[]) (h:Rel P G F Bs st a.tmps w) (ho:o.op=.load T x)
 (hk:opK P env (.load T x) o.type (opd st) K=some res):∃ out,K out=some res∧Eff P G st a w o out:=by
 simp only [opK] at hk
 cases hkn:JaH P T with
 | false=>rw [hkn] at hk; simp at hk
 | true =>
  rw [hkn] at hk
  simp only [Bool.not_true,cond_false] at hk
  cases hag:Jai P T with
  | false=>rw [hag] at hk; exact JiK hd h ho hkn hag hk
  | true =>
   rw [hag] at hk
   simp only [cond_true] at hk
   split at hk
   · rename_i n hn; exact JiL hd h ho hkn hag hn hk
   · cases hk
theorem Jee {T:TypeId} {xs:Array Value} {off:Nat} {v:Value} (hk:JaH P T=true) (ha:Jai P T=false) (hx:xs[off]? = some v):(part T xs off).run P w=.ok v w:=by
 obtain ⟨d,hd⟩:=Jhn hk
 simp [part,Jcu hd,ha,hx]
theorem JiQ {T:TypeId} {xs:Array Value} {off n:Nat} (hk:JaH P T=true) (ha:Jai P T=true) (hs:Jal P T=some n):(part T xs off).run P w=.ok (.agg (xs.extract off (off + n))) w:=by
 obtain ⟨d,hd⟩:=Jhn hk
 simp [part,Jcu hd,ha,JaR hs]
theorem JiI {o:Oper} {S:TypeId} {x:Operand} {f:Nat} {K:Out→Option R} {env:Env} (hd:a.defers=[]) (h:Rel P G F Bs st a.tmps w) (ho:o.op=.field S x f)
 (hk:opK P env (.field S x f) o.type (opd st) K=some res):∃ out,K out=some res∧Eff P G st a w o out:=by
 have hrx:=Jag h x
 simp only [opK] at hk
 split at hk
 · rename_i off T cs hf hx
   rw [hx] at hrx
   obtain ⟨fs,fl,hu,hfl,rfl,rfl⟩:=Jfj hf
   cases hkn:JaH P fl.type with
   | false=>rw [hkn] at hk; simp at hk
   | true =>
    rw [hkn] at hk
    simp only [Bool.not_true,cond_false] at hk
    have hrx':RP F w (.agg cs) (a.eval x):=hrx
    generalize hv:a.eval x=c at hrx'
    cases hrx' with
    | agg h1 h2 =>
     rename_i vs
     split at hk
     · rename_i n hn
       cases hag:Jai P fl.type with
       | true =>
        rw [hag] at hk
        simp only [cond_true] at hk
        obtain ⟨hle,hk⟩:=Jaa hk
        have e:vs.toArray.extract fl.offset (fl.offset + n)=((vs.drop fl.offset).take n).toArray:=by
         apply Array.ext'
         simp [List.extract,Nat.add_sub_cancel_left]
        have hrun:(execOp a.eval o).run P w=.ok (.value (.agg ((vs.drop fl.offset).take n).toArray)) w:=by
         simp [execOp,ho,hv,Instr.field,run_underlying hu,hfl,asAgg,JiQ hkn hag hn,e]
        exact ⟨_,hk,Jab hrun (JaF hd h (.agg ((h1.drop _).take _) (JaQ fun y hy=>JaG h2 y (List.mem_of_mem_drop (List.mem_of_mem_take hy)))))⟩
       | false =>
        rw [hag] at hk
        simp only [cond_false] at hk
        obtain ⟨hlt,hk⟩:=Jaa hk
        have hlt:fl.offset<cs.length:=by simpa using hlt
        obtain ⟨c,q1,q2⟩:=h1.get (JbA (d:=.v (.bool false)) hlt)
        have hrun:(execOp a.eval o).run P w=.ok (.value c) w:=by
         simp [execOp,ho,hv,Instr.field,run_underlying hu,hfl,asAgg,Jee (P:=P) (w:=w) hkn hag (xs:=vs.toArray) (by simpa using q1)]
        exact ⟨_,hk,Jab hrun (JaF hd h q2)⟩
     · cases hk
 · cases hk
end
end Go.Proofs.YtmgfmlhdnadglaaGreatDoor.Th
