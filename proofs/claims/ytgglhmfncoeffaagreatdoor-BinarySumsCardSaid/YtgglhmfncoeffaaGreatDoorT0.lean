/- Proved: what the evaluator of pure values says of a function's code, its calls keep (part 1; no further conditions). -/
import Derived.WalkKit
import Derived.Laws.AppendOwn
import Derived.Laws.OwnMore
import Derived.Laws.MakeOwn
import Derived.Laws.Tables
import Derived.Orders
import Derived.LoopN
import Derived.KernelRfl
import Derived.Lib.FrozenHead
set_option linter.unusedVariables false
namespace Go.Proofs.YtgglhmfncoeffaaGreatDoor.Th
open Go
inductive PV where
 | v (x:Value)
 | sh (es:List PV)
 | agg (cs:List PV)
 | clo (f:FuncId) (caps:List PV)
 | fb (cs:List PV)
 | fm (d:Option IntKind) (ks vs:List PV)
 deriving Inhabited
def Jad:PV→List PV
 | .agg cs=>cs
 | x=>[x]
def PV.leaf:PV→Bool
 | .v x=>x.oneCell'
 | .agg _=>false
 | _=>true
def Jat:List PV→Bool
 | []=>true
 | x::r=>x.leaf&&Jat r
inductive SV where
 | dead
 | nl
 | p (x:PV)
 | own (T:TypeId) (es:List PV)
 | bx (T:TypeId) (cs:List SV)
 | tup (l:List SV)
 | ob (T e:TypeId) (bs:ByteArray)
 | st (cs:List SV)
 | mp (d:Option IntKind) (ks vs:List PV)
 deriving Inhabited
inductive Ref where
 | o (s:Nat) (j:Option Nat)
 | b (s off:Nat)
 | e (s:Nat) (j:Option Nat) (T:TypeId) (i off:Nat)
 | c (s:Nat) (g:FuncId)
def Ref.root:Ref→Nat
 | .o s _=>s
 | .b s _=>s
 | .c s _=>s
 | .e s _ _ _ _=>s
def Ref.cell:Ref→Bool
 | .o _ (some _)=>true
 | .e _ (some _) _ _ _=>true
 | _=>false
inductive RV where
 | bad
 | nl
 | pv (x:PV)
 | own (s:Nat) (cx:Option (Nat × TypeId × List SV)) (T:TypeId) (es:List PV)
 | box (s off:Nat) (T:TypeId) (cs:List SV)
 | el (s:Nat) (cx:Option (Nat × TypeId × List SV)) (T:TypeId) (es:List PV) (i off:Nat)
 | tup (s:Nat) (l:List SV)
 | ob (s:Nat) (T e:TypeId) (bs:ByteArray)
 | st (s:Nat) (cs:List SV)
 | mp (s:Nat) (cx:Option (Nat × TypeId × List SV)) (d:Option IntKind) (ks vs:List PV)
 | cl (s:Nat) (g:FuncId) (T:TypeId) (cs:List SV)
abbrev Fr:=Nat→SV
structure St where
 fr:Fr
 ral:List (Nat × Ref)
def JaJ:List (Nat × Ref)→Nat→Option Ref
 | [],_=>none
 | (u,r)::l,t=>bif Nat.beq u t then some r else JaJ l t
def Jkl (s:Nat) (cx:Option (Nat × TypeId × List SV)):SV→RV
 | .own T es=>.own s cx T es
 | .mp d ks vs=>.mp s cx d ks vs
 | .p x=>.pv x
 | .nl=>.nl
 | _=>.bad
def Jld (s:Nat) (cx:Option (Nat × TypeId × List SV)) (T:TypeId) (i off:Nat):SV→RV
 | .own T' es=>bif Nat.beq T' T then .el s cx T es i off else .bad
 | _=>.bad
def Jd4 (fr:Fr):Ref→RV
 | .o s none=>Jkl s none (fr s)
 | .o s (some j)=>match fr s with
  | .bx T cs=>Jkl s (some (j,T,cs)) (cs.getD j .dead)
  | _=>.bad
 | .b s off=>match fr s with
  | .bx T cs=>.box s off T cs
  | .ob T e bs=>bif Nat.beq off 0 then .ob s T e bs else .bad
  | _=>.bad
 | .c s g=>match fr s with
  | .bx T cs=>.cl s g T cs
  | _=>.bad
 | .e s none T i off=>Jld s none T i off (fr s)
 | .e s (some j) T i off=>match fr s with
  | .bx Tb cs=>Jld s (some (j,Tb,cs)) T i off (cs.getD j .dead)
  | _=>.bad
def Jk5 (t:Nat):SV→RV
 | .dead=>.bad
 | .nl=>.nl
 | .p x=>.pv x
 | .own T es=>.own t none T es
 | .bx T cs=>.box t 0 T cs
 | .tup l=>.tup t l
 | .ob T e bs=>.ob t T e bs
 | .st cs=>.st t cs
 | .mp d ks vs=>.mp t none d ks vs
def look (st:St) (t:Nat):RV :=
 match JaJ st.ral t with
 | some r=>Jd4 st.fr r
 | none=>Jk5 t (st.fr t)
def cpv:Value→PV
 | .slice none 0 0=>.sh []
 | x=>.v x
def JhK:Value→RV
 | .slice none 0 0=>.nl
 | .agg cs=>bif Jat (cs.toList.map cpv) then .pv (.agg (cs.toList.map cpv)) else .bad
 | x=>.pv (.v x)
def opd (st:St):Operand→RV
 | .tmp t=>look st t
 | .const x=>JhK x
 | .func f=>.pv (.v (.func (.func f) #[] #[]))
 | .global _=>.bad
structure Out where
 dst:SV
 ref:Option Ref
 upd:List (Nat × SV)
 drop:List Nat
def Jd8 (fr:Fr) (i:Nat) (x:SV):Fr:=fun j=>bif Nat.beq j i then x else fr j
def JaL (fr:Fr):List (Nat × SV)→Fr
 | []=>fr
 | (i,x)::l=>JaL (Jd8 fr i x) l
def JaZ (l:List Nat) (s:Nat):Bool :=
 match l with
 | []=>false
 | x::r=>bif Nat.beq x s then true else JaZ r s
def Jam (d:Option Nat) (drop:List Nat) (t:Nat) (r:Ref):Bool :=
 (match d with | some d=>!(Nat.beq t d)&&!(Nat.beq r.root d) | none=>true)&&!(r.cell&&JaZ drop r.root)
def Jaf (d:Option Nat) (drop:List Nat):List (Nat × Ref)→List (Nat × Ref)
 | []=>[]
 | (t,r)::l=>bif Jam d drop t r then (t,r)::Jaf d drop l else Jaf d drop l
def St.put (st:St) (d:Option Nat) (o:Out):St :=
 { fr:=match d with
    | some d=>Jd8 (JaL st.fr o.upd) d o.dst
    | none=>JaL st.fr o.upd
   ral:=match d,o.ref with
    | some d,some r=>(d,r)::Jaf (some d) o.drop st.ral
    | d,_=>Jaf d o.drop st.ral }
def Out.fits (N:Nat × List Nat) (d:Option Nat) (o:Out):Bool :=
 match d with
 | some d=>Nat.blt d N.1&&!(JaZ N.2 d)&&(match o.ref with | some r=>!(Nat.beq r.root d) | none=>true)
 | none=>(match o.ref with | some _=>false | none=>true)
def Jaq (s:Nat) (cx:Option (Nat × TypeId × List SV)) (x:SV):Nat × SV :=
 match cx with
 | none=>(s,x)
 | some (j,T,cs)=>(s,.bx T (cs.set j x))
variable {R:Type}
def Jeg:IntKind→IntKind→Bool
 | .i8,.i8 | .i16,.i16 | .i32,.i32 | .i64,.i64 | .u8,.u8 | .u16,.u16 | .u32,.u32 | .u64,.u64=>true
 | _,_=>false
def Jkw (k:IntKind) (e:PV) (K:Int→Option R):Option R :=
 match e with
 | .v (.int k' x)=>bif Jeg k k' then K x else none
 | _=>none
def Jkv (e:PV) (K:Bool→Option R):Option R :=
 match e with
 | .v (.bool x)=>K x
 | _=>none
def Jkx (e:PV) (K:ByteArray→Option R):Option R :=
 match e with
 | .v (.string x)=>K x
 | _=>none
def JkQ (e:PV) (K:List PV→Option R):Option R :=
 match e with
 | .sh x=>K x
 | _=>none
def Jiy (e:PV) (K:List PV→Option R):Option R :=
 match e with
 | .agg x=>K x
 | _=>none
def Jep (cs:List PV) (K:PV→List PV→Option R):Option R :=
 match cs with
 | x::r=>K x r
 | []=>none
def JjD (cs:List PV) (K:Option R):Option R :=
 match cs with
 | []=>K
 | _=>none
inductive CK where
 | i (k:IntKind) | b | s | sl | o
def JgX (c:CK) (e:PV) (K:PV→Option R):Option R :=
 match c with
 | .i k=>Jkw k e fun x=>K (.v (.int k x))
 | .b=>Jkv e fun x=>K (.v (.bool x))
 | .s=>Jkx e fun x=>K (.v (.string x))
 | .sl=>JkQ e fun x=>K (.sh x)
 | .o=>bif e.leaf then K e else none
def JeA:List CK→List PV→(List PV→Option R)→Option R
 | [],cs,K=>JjD cs (K [])
 | c::r,cs,K=>Jep cs fun e cs=>JgX c e fun y=>JeA r cs fun ys=>K (y::ys)
def Jlc (ag:Bool) (ks:List CK) (e:PV) (K:List PV→Option R):Option R :=
 match ag with
 | true=>Jiy e fun cs=>JeA ks cs K
 | false=>match ks with
  | [c]=>JgX c e fun y=>K [y]
  | _=>none
def Jai (P:Program) (T:TypeId):Bool :=
 match P.underlying T with
 | some (.struct _)=>true
 | some (.array _ _)=>true
 | _=>false
def JaF (P:Program) (T:TypeId):Bool :=
 match P.underlying T with
 | some _=>true
 | none=>false
def cks (P:Program):Nat→TypeId→List CK
 | 0,_=>[]
 | n + 1,T =>
  match P.underlying T with
  | some (.int k)=>[.i k]
  | some .bool=>[.b]
  | some .string=>[.s]
  | some (.slice _)=>[.sl]
  | some (.struct fs)=>fs.toList.flatMap fun f=>cks P n f.type
  | some (.array m e)=>(List.replicate m (cks P n e)).flatten
  | _=>[.o]
def JfE (P:Program) (T:TypeId) (e:PV) (K:List PV→Option R):Option R :=
 Jlc (Jai P T) (cks P 20 T) e K
def mkE (ag:Bool) (ys:List PV):PV :=
 match ag with
 | true=>.agg ys
 | false=>ys.headD (.v (.bool false))
def Jal (P:Program) (T:TypeId):Option Nat:=(P.info? T).map (·.size)
def Jhr (P:Program) (S:TypeId) (f:Nat):Option (Nat × TypeId) :=
 match P.underlying S with
 | some (.struct fs)=>(fs[f]?).map fun x=>(x.offset,x.type)
 | _=>none
def Jbc (P:Program) (T:TypeId):Option TypeId :=
 match P.underlying T with
 | some (.slice e)=>some e
 | _=>none
def frz:SV→Option PV
 | .p x=>some x
 | .nl=>some (.sh [])
 | .own _ es=>some (.sh es)
 | .mp d ks vs=>some (.fm d ks vs)
 | _=>none
def Jdh:List SV→Option (List PV)
 | []=>some []
 | x::r=>match frz x,Jdh r with
  | some y,some ys=>some (y::ys)
  | _,_=>none
def Jct:List SV→Bool
 | []=>false
 | .own _ _::_=>true
 | .mp _ _ _::_=>true
 | _::r=>Jct r
def splice (cs:List SV) (off:Nat) (ys:List PV):List SV:=cs.take off++ys.map .p++cs.drop (off + ys.length)
def Jay (cs:List PV) (off:Nat) (ys:List PV):List PV:=cs.take off++ys++cs.drop (off + ys.length)
def zsv:Value→SV
 | .slice none 0 0=>.nl
 | x=>.p (.v x)
def Jcr (P:Program) (T:TypeId):Option (List Value) :=
 match P.info? T with
 | some i=>match i.zero with
  | some z=>bif Nat.beq z.cells.size i.size then some z.cells.toList else none
  | none=>none
 | none=>none
def JaU:List Value→Bool
 | []=>true
 | x::r=>x.oneCell'&&JaU r
def JfD (P:Program) (T:TypeId):Option PV :=
 match Jcr P T with
 | some zs=>bif JaU zs&&Nat.blt 0 zs.length&&(Jai P T||Nat.beq zs.length 1) then some (mkE (Jai P T) (zs.map cpv)) else none
 | none=>none
def JfY (op:BinOp) (k:IntKind) (a b:Int):Int :=
 match op with
 | .and=>k.wrap (BitVec.ofInt k.bits a &&& BitVec.ofInt k.bits b).toNat
 | .or=>k.wrap (BitVec.ofInt k.bits a ||| BitVec.ofInt k.bits b).toNat
 | .xor=>k.wrap (BitVec.ofInt k.bits a ^^^ BitVec.ofInt k.bits b).toNat
 | _=>k.wrap (BitVec.ofInt k.bits a &&& ~~~(BitVec.ofInt k.bits b)).toNat
def JkH (op:BinOp) (k:IntKind) (a b:Int) (K:PV→Option R):Option R :=
 match op with
 | .add=>K (.v (.int k (k.wrap (a + b))))
 | .sub=>K (.v (.int k (k.wrap (a - b))))
 | .mul=>K (.v (.int k (k.wrap (a * b))))
 | .quo=>bif decide (b=0) then none else K (.v (.int k (k.wrap (a.tdiv b))))
 | .rem=>bif decide (b=0) then none else K (.v (.int k (a.tmod b)))
 | .and=>K (.v (.int k (JfY .and k a b)))
 | .or=>K (.v (.int k (JfY .or k a b)))
 | .xor=>K (.v (.int k (JfY .xor k a b)))
 | .andNot=>K (.v (.int k (JfY .andNot k a b)))
 | .eql=>K (.v (.bool (a == b)))
 | .neq=>K (.v (.bool (a != b)))
 | .lss=>K (.v (.bool (decide (a<b))))
 | .leq=>K (.v (.bool (decide (a≤b))))
 | .gtr=>K (.v (.bool (decide (a>b))))
 | .geq=>K (.v (.bool (decide (a≥b))))
 | _=>none
def leN:Nat→Nat→Bool
 | 0,_=>true
 | n + 1,m=>match m with
  | 0=>false
  | m + 1=>leN n m
def Jlb (a b:ByteArray) (K:ByteArray→Option R):Option R :=
 bif leN (a.size + b.size) 9223372036854775807 then K (a++b) else none
def eqS (a b:ByteArray):Bool:=a.data.toList == b.data.toList
def ltS (a b:ByteArray):Bool:=Op.bytesLess a.data.toList b.data.toList
def JkI (op:BinOp) (a b:ByteArray) (K:PV→Option R):Option R :=
 match op with
 | .add=>Jlb a b fun c=>K (.v (.string c))
 | .eql=>K (.v (.bool (eqS a b)))
 | .neq=>K (.v (.bool (!eqS a b)))
 | .lss=>K (.v (.bool (ltS a b)))
 | .leq=>K (.v (.bool (ltS a b||eqS a b)))
 | .gtr=>K (.v (.bool (!(ltS a b||eqS a b))))
 | .geq=>K (.v (.bool (!ltS a b)))
 | _=>none
def shI (op:BinOp) (k:IntKind) (a b:Int) (K:PV→Option R):Option R :=
 match op with
 | .shl=>bif decide (b<0) then none else K (.v (.int k (k.wrap (a * 2 ^ (min b.toNat k.bits)))))
 | .shr=>bif decide (b<0) then none else K (.v (.int k (a.fdiv (2 ^ (min b.toNat k.bits)))))
 | _=>none
def JdI:BinOp→Bool
 | .shl=>true
 | .shr=>true
 | _=>false
def JiL (P:Program) (T:TypeId):Bool :=
 match P.underlying T with
 | some .bool=>true
 | _=>false
def JbI:PV→PV→Bool
 | .v (.int _ a),.v (.int _ b)=>a == b
 | .v (.string a),.v (.string b)=>eqS a b
 | .v (.bool a),.v (.bool b)=>a == b
 | _,_=>false
def JbR:List PV→List PV→Bool
 | x::xs,y::ys=>JbI x y&&JbR xs ys
 | _,_=>true
def Jed (P:Program):Nat→List Field→Bool
 | _,[]=>true
 | o,f::l=>Nat.beq f.offset o&&!(f.name == "_")&&(match P.underlying f.type with
  | some (.int _)=>true
  | some .string=>true
  | some .bool=>true
  | _=>false)&&Jed P (o + 1) l
def eqT (P:Program) (T:TypeId):Bool :=
 match P.underlying T with
 | some (.struct fs)=>Jed P 0 fs.toList&&!(P.stoodInHeld T)&&!(P.eqGuardType P.depth T)
 | _=>false
def eqO (op:BinOp) (b:Bool) (K:PV→Option R):Option R :=
 match op with
 | .eql=>K (.v (.bool b))
 | .neq=>K (.v (.bool (!b)))
 | _=>none
def Jla (P:Program) (op:BinOp) (T:TypeId) (x y:PV) (K:PV→Option R):Option R :=
 match x,y with
 | .v (.int k a),.v (.int k' b)=>bif JdI op then shI op k a b K else bif Jeg k k' then JkH op k a b K else none
 | .v (.string a),.v (.string b)=>JkI op a b K
 | .agg xa,.agg bs=>bif eqT P T then JeA (cks P 20 T) xa fun xs=>JeA (cks P 20 T) bs fun ys=>eqO op (JbR xs ys) K else none
 | .v (.bool a),.v (.bool b)=>bif JiL P T then (match op with
  | .eql=>K (.v (.bool (a == b)))
  | .neq=>K (.v (.bool (!(a == b))))
  | _=>none) else none
 | _,_=>none
def Je1 (s:ByteArray) (i:Int):Int:=((s.data.toList.getD i.toNat 0).toNat:Int)
def Jlo:PV→Bool
 | .v (.int .u8 _)=>true
 | _=>false
def u8n:PV→UInt8
 | .v (.int .u8 n)=>UInt8.ofNat n.toNat
 | _=>0
def JeY:List PV→Bool
 | []=>true
 | x::r=>Jlo x&&JeY r
def Jhn (es:List PV):ByteArray:=⟨(es.map u8n).toArray⟩
def JaA (s:ByteArray):List PV:=s.data.toList.map fun b=>.v (.int .u8 b.toNat)
structure FS where
 om:List Bool
 run:{R:Type}→List SV→(List SV→Option R)→Option R
abbrev Env:=Nat→Option FS
def Jbl (m:Bool):RV→Option (SV × List (Nat × SV) × List Nat)
 | .pv x=>some (.p x,[],[])
 | .nl=>bif m then some (.nl,[],[]) else some (.p (.sh []),[],[])
 | .own s cx T es=>bif m then some (.own T es,[Jaq s cx .dead],[]) else some (.p (.sh es),[Jaq s cx (.p (.sh es))],[])
 | .mp s cx d ks vs=>bif m then some (.mp d ks vs,[Jaq s cx .dead],[]) else some (.p (.fm d ks vs),[Jaq s cx (.p (.fm d ks vs))],[])
 | .box s off T cs=>bif m then (bif Nat.beq off 0 then some (.bx T cs,[],[s]) else none)
  else match Jdh cs with
   | some ys=>some (.p (.fb (ys.drop off)),[(s,.p (.fb ys))],[])
   | none=>none
 | .ob s T e bs=>bif m then some (.ob T e bs,[],[s]) else none
 | .st s cs=>bif m then none else match Jdh cs with
  | some ys=>some (.p (.agg ys),[(s,.p (.agg ys))],[])
  | none=>none
 | _=>none
def Jb6:List Bool→List RV→Option (List SV × List (Nat × SV) × List Nat)
 | _,[]=>some ([],[],[])
 | ms,r::rs=>match Jbl (ms.headD false) r,Jb6 ms.tail rs with
  | some (a,u,b),some (avs,us,bs)=>some (a::avs,u++us,b++bs)
  | _,_=>none
def Jao:List Nat→Bool
 | []=>true
 | x::r=>!(JaZ r x)&&Jao r
def JjC:List SV→SV
 | [x]=>x
 | l=>.tup l
def Jhy:List Nat→List SV→List (Nat × SV)
 | s::ss,x::xs=>(s,x)::Jhy ss xs
 | _,_=>[]
def JgV (fs:FS) (args:List RV) (K:Out→Option R):Option R :=
 match Jb6 fs.om args with
 | some (avs,us,bs) =>
  bif Jao (us.map (·.1)++bs) then
   fs.run avs fun res =>
    let n:=res.length - bs.length
    K ⟨JjC (res.take n),none,us++Jhy bs (res.drop n),bs⟩
  else none
 | none=>none
def JaG:List RV→Option (List SV)
 | []=>some []
 | .pv x::l=>(JaG l).map (.p x::·)
 | .nl::l=>(JaG l).map (.p (.sh [])::·)
 | .cl _ g _ cs::l=>match Jdh cs,JaG l with
  | some ys,some as=>some (.p (.clo g [.fb ys])::as)
  | _,_=>none
 | _::_=>none
def JiJ:List RV→Bool
 | []=>false
 | .cl _ _ _ _::_=>true
 | _::l=>JiJ l
def Jk0 (res:List SV) (K:Out→Option R):Option R :=
 match res with
 | [.p (.v x)]=>K ⟨.p (.v x),none,[],[]⟩
 | _=>none
def Jje (fs:FS) (args:List RV) (K:Out→Option R):Option R :=
 match JaG args with
 | some avs=>fs.run avs fun res=>Jk0 res K
 | none=>none
def JjN (fs:FS) (args:List RV) (K:Out→Option R):Option R :=
 bif JiJ args then Jje fs args K else JgV fs args K
def JbD (r:RV) (K:Out→Option R):Option R :=
 match r with
 | .pv y=>K ⟨.p y,none,[],[]⟩
 | .nl=>K ⟨.nl,none,[],[]⟩
 | .own s cx _ _=>K ⟨.dead,some (.o s (cx.map (·.1))),[],[]⟩
 | .mp s cx _ _ _=>K ⟨.dead,some (.o s (cx.map (·.1))),[],[]⟩
 | .box s off _ _=>K ⟨.dead,some (.b s off),[],[]⟩
 | .cl s g _ _=>K ⟨.dead,some (.c s g),[],[]⟩
 | .ob s _ _ _=>K ⟨.dead,some (.b s 0),[],[]⟩
 | .el s cx T _ i off=>K ⟨.dead,some (.e s (cx.map (·.1)) T i off),[],[]⟩
 | .tup s l=>K ⟨.tup l,none,[(s,.dead)],[]⟩
 | .st s l=>K ⟨.st l,none,[(s,.dead)],[]⟩
 | .bad=>none
def Jfa (x:Operand) (s:Nat):Bool :=
 match x with
 | .tmp t=>Nat.beq t s
 | _=>false
def Jax (x:Operand) (s:Nat) (cx:Option (Nat × TypeId × List SV)):Bool :=
 match cx with
 | none=>Jfa x s
 | some _=>false
def Jbj (x:Operand) (r:RV):Option (PV × List (Nat × SV)) :=
 match r with
 | .pv y=>some (y,[])
 | .nl=>some (.sh [],[])
 | .own s cx _ es=>some (.sh es,[Jaq s cx (.p (.sh es))])
 | .mp s cx d ks vs=>some (.fm d ks vs,[Jaq s cx (.p (.fm d ks vs))])
 | .box s off _ cs=>match Jdh cs with
  | some ys=>some (.fb (ys.drop off),[(s,.p (.fb ys))])
  | none=>none
 | .st s cs=>match Jdh cs with
  | some ys=>some (.agg ys,[(s,.p (.agg ys))])
  | none=>none
 | _=>none
def Ja2:List (Operand × RV)→Option (List PV × List (Nat × SV))
 | []=>some ([],[])
 | (x,r)::l=>match Jbj x r,Ja2 l with
  | some (y,u),some (ys,us)=>some (y::ys,u++us)
  | _,_=>none
def Jdg (P:Program) (S:TypeId):List (Nat × PV)→List PV→Option (List PV)
 | [],cs=>some cs
 | (f,y)::l,cs=>match Jhr P S f with
  | some (o,T)=>match Jal P T with
   | some n=>bif Nat.beq (Jad y).length n&&Nat.ble (o + n) cs.length&&Jat (Jad y) then Jdg P S l (Jay cs o (Jad y)) else none
   | none=>none
  | none=>none
def JdY:List (Nat × PV)→List PV→List PV
 | [],es=>es
 | (i,y)::l,es=>JdY l (es.set i y)
def JdS (n:Nat) (len:Nat):List (Nat × PV)→Bool
 | []=>true
 | (i,y)::l=>Nat.blt i len&&Nat.beq (Jad y).length n&&Jat (Jad y)&&JdS n len l
def inR (i:Int) (n:Nat):Bool:=decide (0≤i)&&decide (i<(n:Int))
def Jgk (lo hi:Int) (n:Nat):Bool:=decide (0≤lo)&&decide (lo≤hi)&&decide (hi≤(n:Int))
def JaB (x:Option RV) (dflt:Int):Option Int :=
 match x with
 | none=>some dflt
 | some (.pv (.v (.int _ n)))=>some n
 | _=>none
def Ja7 (n bytes:Nat):Bool:=decide (n * bytes≤140737488355328)&&decide (n≤140737488355328)
def Jht (n:Nat):List PV→Bool
 | []=>true
 | e::_=>Nat.beq (Jad e).length n
def JeI (P:Program) (T:TypeId):Bool :=
 match Jal P T with
 | some _=>true
 | none=>false
def Jbq (P:Program) (T:TypeId):Bool :=
 match Jcr P T with
 | some _=>true
 | none=>false
def JiE (P:Program) (T:TypeId):Bool :=
 match Jal P T with
 | some n=>Nat.blt 0 n
 | none=>false
def JbQ (P:Program):List Field→Bool
 | []=>true
 | f::l=>(match P.info? f.type with | some _=>true | none=>false)&&JbQ P l
def Jda (P:Program) (T:TypeId):Option Nat:=(P.info? T).map (·.bytes)
def out (x:SV):Out:=⟨x,none,[],[]⟩
def JaO (x:PV):Out:=⟨.p x,none,[],[]⟩
def Jhg (r:Ref):Out:=⟨.dead,some r,[],[]⟩
def Jlj (P:Program) (T:TypeId):Option CK :=
 match P.underlying T with
 | some (.array _ E)=>(match cks P 20 E with
  | [c]=>some c
  | _=>none)
 | _=>none
def Jj3 (c:CK) (x:SV) (K:Out→Option R):Option R :=
 match x with
 | .p y=>JgX c y fun z=>K (JaO z)
 | _=>none
def Jei (P:Program) (r:RV) (K:Out→Option R):Option R :=
 match r with
 | .box s off Tb cs=>bif Nat.blt off cs.length then (match Jlj P Tb with
  | some c=>Jj3 c (cs.getD off .dead) K
  | none=>(match cs.getD off .dead with
   | .p y=>K (JaO y)
   | .nl=>K (out .nl)
   | .own _ _=>K (Jhg (.o s (some off)))
   | .mp _ _ _=>K (Jhg (.o s (some off)))
   | _=>none)) else none
 | .el _ _ T' es i off=>JfE P T' (es.getD i (.v (.bool false))) fun ys=>bif Nat.blt off ys.length then K (JaO (ys.getD off (.v (.bool false)))) else none
 | .pv (.fb cs)=>Jep cs fun y _=>K (JaO y)
 | _=>none
def Jfk (r:RV) (K:Out→Option R):Option R :=
 match r with
 | .box s off Tb cs=>(match cs.getD off .dead with
  | .own _ es=>K ⟨.p (.sh es),none,[Jaq s (some (off,Tb,cs)) (.p (.sh es))],[]⟩
  | .nl=>K ⟨.p (.sh []),none,[],[]⟩
  | .p y=>K (JaO y)
  | _=>none)
 | _=>none
def Jej (P:Program) (n:Nat) (r:RV) (K:Out→Option R):Option R :=
 match r with
 | .box s off Tb cs=>bif Nat.ble (off + n) cs.length then (match Jdh ((cs.drop off).take n) with
  | some ys=>K ⟨.p (.agg ys),none,(bif Jct ((cs.drop off).take n) then [(s,.bx Tb (splice cs off ys))] else []),[]⟩
  | none=>none) else none
 | .el _ _ T' es i off=>JfE P T' (es.getD i (.v (.bool false))) fun ys=>bif Nat.ble (off + n) ys.length then K (JaO (.agg ((ys.drop off).take n))) else none
 | .pv (.fb cs)=>bif Nat.ble n cs.length then K (JaO (.agg (cs.take n))) else none
 | _=>none
def JeQ (P:Program) (r:RV) (x:Operand) (y:RV) (K:Out→Option R):Option R :=
 match r with
 | .box s off Tb cs=>bif Nat.blt off cs.length then (match y with
  | .pv z=>bif z.leaf then K ⟨.dead,none,[(s,.bx Tb (cs.set off (.p z)))],[s]⟩ else none
  | .nl=>K ⟨.dead,none,[(s,.bx Tb (cs.set off .nl))],[s]⟩
  | .own s2 cx2 T2 es2=>bif Nat.beq s2 s then none else bif Jax x s2 cx2
   then K ⟨.dead,none,[(s,.bx Tb (cs.set off (.own T2 es2))),(s2,.dead)],[s]⟩
   else K ⟨.dead,none,[(s,.bx Tb (cs.set off (.p (.sh es2)))),Jaq s2 cx2 (.p (.sh es2))],[s]⟩
  | .mp s2 cx2 d2 ks vs=>bif Nat.beq s2 s then none else bif Jax x s2 cx2
   then K ⟨.dead,none,[(s,.bx Tb (cs.set off (.mp d2 ks vs))),(s2,.dead)],[s]⟩
   else K ⟨.dead,none,[(s,.bx Tb (cs.set off (.p (.fm d2 ks vs)))),Jaq s2 cx2 (.p (.fm d2 ks vs))],[s]⟩
  | _=>none) else none
 | .el s cx T' es i off=>match y with
  | .pv z=>bif z.leaf then JfE P T' (es.getD i (.v (.bool false))) (fun ys=>bif Nat.blt off ys.length
   then K ⟨.dead,none,[Jaq s cx (.own T' (es.set i (mkE (Jai P T') (ys.set off z))))],[]⟩ else none) else none
  | .nl=>JfE P T' (es.getD i (.v (.bool false))) fun ys=>bif Nat.blt off ys.length
   then K ⟨.dead,none,[Jaq s cx (.own T' (es.set i (mkE (Jai P T') (ys.set off (.sh [])))))],[]⟩ else none
  | .own s2 cx2 _ es2=>bif Nat.beq s2 s then none else JfE P T' (es.getD i (.v (.bool false))) fun ys=>bif Nat.blt off ys.length
   then K ⟨.dead,none,[Jaq s cx (.own T' (es.set i (mkE (Jai P T') (ys.set off (.sh es2))))),Jaq s2 cx2 (.p (.sh es2))],[]⟩ else none
  | _=>none
 | _=>none
def JeR (P:Program) (n:Nat) (r:RV) (y:RV) (K:Out→Option R):Option R :=
 match y with
 | .pv (.agg zs)=>bif Nat.beq zs.length n&&Jat zs then (match r with
  | .box s off Tb cs=>bif Nat.ble (off + n) cs.length then K ⟨.dead,none,[(s,.bx Tb (splice cs off zs))],[s]⟩ else none
  | .el s cx T' es i off=>JfE P T' (es.getD i (.v (.bool false))) fun ys=>bif Nat.ble (off + n) ys.length
   then K ⟨.dead,none,[Jaq s cx (.own T' (es.set i (mkE (Jai P T') (Jay ys off zs))))],[]⟩ else none
  | _=>none) else none
 | .st s2 ds=>bif Nat.beq ds.length n then (match r with
  | .box s off Tb cs=>bif !(Nat.beq s2 s)&&Nat.ble (off + n) cs.length then K ⟨.dead,none,[(s,.bx Tb (cs.take off++ds++cs.drop (off + n))),(s2,.dead)],[s]⟩ else none
  | _=>none) else none
 | _=>none
def Jho (n:Nat) (r:RV) (K:Out→Option R):Option R :=
 match r with
 | .box s off Tb cs=>bif Nat.ble (off + n) cs.length then K ⟨.st ((cs.drop off).take n),none,[(s,.bx Tb (cs.take off++List.replicate n .dead++cs.drop (off + n)))],[]⟩ else none
 | _=>none
def psv:PV→SV
 | .v (.slice none 0 0)=>.nl
 | x=>.p x
def Jc (P:Program) (T:TypeId) (f:Nat) (r:RV) (K:Out→Option R):Option R :=
 match P.underlying T,Jcr P T,Jhr P T f with
 | some (.struct gs),some zs,some (o,ft)=>(match Jal P ft,r with
  | some n,.mp s none d ks vs=>bif Nat.beq n 1&&Nat.ble (o + 1) zs.length&&JaU zs&&JbQ P gs.toList then K ⟨.st ((zs.map fun v=>psv (.v v)).set o (.mp d ks vs)),none,[(s,.dead)],[]⟩ else none
  | _,_=>none)
 | _,_,_=>none
def Jdv (P:Program) (T:TypeId) (fs:List Nat) (vs:Option (List PV × List (Nat × SV))) (K:Out→Option R):Option R :=
 match P.underlying T,Jcr P T,vs with
 | some (.struct gs),some zs,some (ys,us)=>bif Jao (us.map (·.1))&&JaU zs&&JbQ P gs.toList then (match Jdg P T (fs.zip ys) (zs.map .v) with
  | some cs=>K ⟨.st (cs.map psv),none,us,[]⟩
  | none=>none) else none
 | _,_,_=>none
def Jcw (n bytes:Nat) (E:TypeId) (s x:RV) (K:Out→Option R):Option R :=
 match s with
 | .own s1 cx T es=>bif Nat.beq T E then (match x with
  | .nl=>K ⟨.own T es,none,[Jaq s1 cx .dead],[]⟩
  | .pv (.sh es2)=>bif Jht n es2&&Ja7 (es.length + es2.length) bytes then K ⟨.own T (es++es2),none,[Jaq s1 cx .dead],[]⟩ else none
  | .own s2 _ T2 es2=>bif Nat.beq T2 E&&!(Nat.beq s1 s2)&&Ja7 (es.length + es2.length) bytes then K ⟨.own T (es++es2),none,[Jaq s1 cx .dead],[]⟩ else none
  | _=>none) else none
 | .nl=>(match x with
  | .nl=>K (out .nl)
  | .pv (.sh es2)=>bif Jht n es2&&Ja7 es2.length bytes then K (out (.own E es2)) else none
  | .own _ _ T2 es2=>bif Nat.beq T2 E&&Ja7 es2.length bytes then K (out (.own E es2)) else none
  | _=>none)
 | _=>none
def JkV (x:RV) (K:Out→Option R):Option R :=
 match x with
 | .pv (.v (.string s))=>K (JaO (.v (.int .i64 (s.size:Int))))
 | .pv (.sh es)=>K (JaO (.v (.int .i64 (es.length:Int))))
 | .own _ _ _ es=>K (JaO (.v (.int .i64 (es.length:Int))))
 | .nl=>K (JaO (.v (.int .i64 0)))
 | .mp _ _ _ ks _=>K (JaO (.v (.int .i64 (ks.length:Int))))
 | _=>none
def u8T (P:Program) (E:TypeId):Bool :=
 match P.info? E with
 | some i=>(match i.zero with
  | some (.int .u8 n)=>Nat.beq i.size 1&&Nat.beq i.bytes 1&&decide (n=0)
  | _=>false)
 | none=>false
def Jbf (P:Program) (src dst:TypeId) (x:RV) (K:Out→Option R):Option R :=
 match P.underlying src,P.underlying dst,x with
 | some .string,some (.slice e),.pv (.v (.string s))=>(match P.underlying e with
  | some (.int .u8)=>bif u8T P e then (bif Ja7 s.size 1 then K (out (.own e (JaA s))) else none) else none
  | _=>none)
 | some (.slice _),some (.slice e),.own s none T es=>(match P.underlying e with
  | some (.int .u8)=>bif Nat.beq src dst&&Nat.beq T e&&u8T P e&&Nat.blt 0 es.length then K ⟨.own T es,none,[(s,.dead)],[]⟩ else none
  | _=>none)
 | _,_,_=>none
def JcE (E:TypeId) (s x:RV) (K:Out→Option R):Option R :=
 match x with
 | .pv (.v (.string b))=>(match s with
  | .own s1 cx T es=>bif Nat.beq T E then (bif Ja7 (es.length + b.size) 1 then K ⟨.own E (es++JaA b),none,[Jaq s1 cx .dead],[]⟩ else none) else none
  | .nl=>bif Ja7 b.size 1 then K (out (.own E (JaA b))) else none
  | _=>none)
 | _=>none
def JdJ (P:Program) (T:TypeId):Bool :=
 match P.underlying T with
 | some .string=>true
 | _=>false
def isSlice (P:Program) (T:TypeId):Bool :=
 match Jbc P T with
 | some _=>true
 | none=>false
def JiC:Option IntKind→Option IntKind→Bool
 | none,none=>true
 | some a,some b=>Jeg a b
 | _,_=>false
def Jb7 (d:Option IntKind) (k:PV):Bool :=
 match d,k with
 | none,.v (.string _)=>true
 | some k',.v (.int k _)=>Jeg k k'
 | _,_=>false
def Jg7 (P:Program) (T:TypeId):Option (Option IntKind × TypeId) :=
 match P.underlying T with
 | some (.map K E)=>(match P.underlying K with
  | some .string=>some (none,E)
  | some (.int k)=>some (some k,E)
  | _=>none)
 | _=>none
def JkW (P:Program) (tys:List TypeId) (x:RV):Bool :=
 match tys with
 | t::_=>(match x with
  | .pv (.v (.string _))=>JdJ P t
  | .mp _ _ _ _ _=>(match Jg7 P t with
   | some _=>true
   | none=>false)
  | _=>isSlice P t)
 | []=>false
def Jhv (a b:Int):Int:=if b<a then b else a
def Jlf (a b:Int):Int:=if a<b then b else a
def JaI (P:Program) (b:Builtin) (tys:List TypeId) (args:List RV) (K:Out→Option R):Option R :=
 match b,args with
 | .len,[x]=>bif JkW P tys x then JkV x K else none
 | .append,[s,x]=>(match tys with
  | [t,t2]=>bif Nat.beq t t2 then (match Jbc P t with
      | some E=>(match Jal P E,Jda P E with
       | some n,some bytes=>bif Nat.blt 0 n&&Jbq P E then Jcw n bytes E s x K else none
       | _,_=>none)
      | none=>none) else (match Jbc P t with
      | some E=>bif JdJ P t2&&u8T P E then JcE E s x K else none
      | none=>none)
  | _=>none)
 | .min,[.pv (.v (.int k a)),.pv (.v (.int k' b))]=>bif Jeg k k' then K (JaO (.v (.int k (Jhv a b)))) else none
 | .min,[.pv (.v (.int k a)),.pv (.v (.int k' b)),.pv (.v (.int k'' c))]=>bif Jeg k k'&&Jeg k k'' then K (JaO (.v (.int k (Jhv (Jhv a b) c)))) else none
 | .max,[.pv (.v (.int k a)),.pv (.v (.int k' b))]=>bif Jeg k k' then K (JaO (.v (.int k (Jlf a b)))) else none
 | _,_=>none
def unK (op:UnOp) (x:PV) (K:PV→Option R):Option R :=
 match op,x with
 | .neg,.v (.int k n)=>K (.v (.int k (k.wrap (0 - n))))
 | .not,.v (.bool b)=>K (.v (.bool (!b)))
 | .xor,.v (.int k n)=>K (.v (.int k (JfY .xor k (if k.signed then -1 else k.max) n)))
 | _,_=>none
def JcG (P:Program) (src:TypeId) (es:List PV) (K:Out→Option R):Option R :=
 match Jbc P src with
 | some e=>(match P.underlying e with
  | some (.int .u8)=>bif JeY es then K (JaO (.v (.string (Jhn es)))) else none
  | _=>none)
 | none=>none
def JjZ (P:Program) (T:TypeId):Bool :=
 match Jbc P T with
 | some e=>(match P.underlying e with
  | some (.int .u8)=>true
  | _=>false)
 | none=>false
def JfL (P:Program) (src dst:TypeId) (x:RV) (K:Out→Option R):Option R :=
 bif !(JaF P src) then none else
 match P.underlying dst,x with
 | some (.int k),.pv (.v (.int _ n))=>K (JaO (.v (.int k (k.wrap n))))
 | some .string,.pv (.v (.string s))=>K (JaO (.v (.string s)))
 | some .string,.pv (.v (.int _ n))=>K (JaO (.v (.string (Utf8.encode n))))
 | some .string,.pv (.sh es)=>JcG P src es K
 | some .string,.own _ _ _ es=>JcG P src es K
 | some .string,.nl=>JcG P src [] K
 | some (.slice _),.pv (.v (.string s))=>bif JdJ P src&&JjZ P dst&&Ja7 s.size 1 then K (JaO (.sh (JaA s))) else none
 | _,_=>none
def JdZ (P:Program) (T:TypeId) (x:RV) (lo hi:Option RV) (K:Out→Option R):Option R :=
 match P.underlying T,x with
 | some .string,.pv (.v (.string s))=>(match JaB lo 0,JaB hi (s.size:Int) with
  | some l,some h=>bif Jgk l h s.size then K (JaO (.v (.string (s.extract l.toNat h.toNat)))) else none
  | _,_=>none)
 | some (.slice E),.pv (.sh es)=>(match Jal P E,JaB lo 0,JaB hi (es.length:Int) with
  | some n,some l,some h=>bif Jht n es&&Jgk l h es.length then K (JaO (.sh ((es.take h.toNat).drop l.toNat))) else none
  | _,_,_=>none)
 | some (.slice E),.own s cx T' es=>(match Jal P E,JaB lo 0,JaB hi (es.length:Int) with
  | some n,some l,some h=>bif Nat.beq T' E&&Jgk l h es.length then K ⟨.p (.sh ((es.take h.toNat).drop l.toNat)),none,[Jaq s cx (.p (.sh es))],[]⟩ else none
  | _,_,_=>none)
 | some (.slice E),.nl=>bif JeI P E then (match JaB lo 0,JaB hi 0 with
  | some l,some h=>bif Jgk l h 0 then K (out .nl) else none
  | _,_=>none) else none
 | _,_=>none
def Jj9 {α:Type}:Option α→Bool
 | none=>true
 | some _=>false
def JbP (P:Program) (T:TypeId) (x:RV) (i:Int) (K:Out→Option R):Option R :=
 match P.underlying T,x with
 | some (.array m E),.box s off _ _=>(match Jal P E with
  | some n=>bif inR i m then K (Jhg (.b s (off + i.toNat * n))) else none
  | none=>none)
 | _,_=>none
def Jet (P:Program) (m:Nat) (E:TypeId) (cs:List PV) (i:Int) (K:Out→Option R):Option R :=
 match Jal P E with
 | some n=>bif JaF P E then (bif inR i m&&Nat.ble (i.toNat * n + n) cs.length then JfE P E (mkE (Jai P E) ((cs.drop (i.toNat * n)).take n)) (fun ys=>bif Nat.beq ys.length n then K (JaO (mkE (Jai P E) ys)) else none) else none) else none
 | none=>none
def Jcm (P:Program) (T:TypeId) (x i:RV) (K:Out→Option R):Option R :=
 match Jbc P T,i with
 | some E,.pv (.v (.int _ i))=>(match Jal P E with
  | some n=>(match x with
   | .own s cx T' es=>bif Nat.beq T' E then (bif inR i es.length then K (Jhg (.e s (cx.map (·.1)) T' i.toNat 0)) else none) else none
   | .pv (.sh es)=>bif inR i es.length then JfE P E (es.getD i.toNat (.v (.bool false))) (fun ys=>bif Nat.beq ys.length n then K (JaO (.fb ys)) else none) else none
   | _=>none)
  | none=>none)
 | none,.pv (.v (.int _ i))=>JbP P T x i K
 | _,_=>none
def Jg9 (k:PV):List PV→Bool
 | []=>false
 | x::ks=>bif JbI k x then true else Jg9 k ks
def Jh4 (k z:PV):List PV→List PV→PV
 | x::ks,v::vs=>bif JbI k x then v else Jh4 k z ks vs
 | _,_=>z
def Jc5 (k:PV):List PV→List PV
 | []=>[k]
 | x::ks=>bif JbI k x then k::ks else x::Jc5 k ks
def Jdi (k v:PV):List PV→List PV→List PV
 | x::ks,u::vs=>bif JbI k x then v::vs else u::Jdi k v ks vs
 | _,vs=>vs++[v]
def JiA (P:Program) (T:TypeId):Option PV :=
 match P.info? T with
 | some i=>match i.zero with
  | some (.agg cs)=>bif Jai P T&&Jat (cs.toList.map cpv) then some (.agg (cs.toList.map cpv)) else none
  | some x=>bif Jai P T then none else some (cpv x)
  | none=>none
 | none=>none
def Jj6 (ok:Bool) (y:PV) (b:Bool):Out :=
 match ok with
 | true=>out (.tup [.p y,.p (.v (.bool b))])
 | false=>JaO y
def JcO (P:Program) (E:TypeId) (k z:PV) (ks vs:List PV) (ok:Bool) (K:Out→Option R):Option R :=
 JfE P E (Jh4 k z ks vs) fun ys=>K (Jj6 ok (mkE (Jai P E) ys) (Jg9 k ks))
def JdN (P:Program) (T:TypeId) (x i:RV) (ok:Bool) (K:Out→Option R):Option R :=
 match Jg7 P T,i with
 | some (d,E),.pv k=>bif Jb7 d k then (match JiA P E with
  | some z=>(match x with
   | .mp _ _ d' ks vs=>bif JiC d' d then JcO P E k z ks vs ok K else none
   | .pv (.fm d' ks vs)=>bif JiC d' d then JcO P E k z ks vs ok K else none
   | _=>none)
  | none=>none) else none
 | _,_=>none
def Jc3 (P:Program) (T:TypeId) (x i:RV) (y:Operand) (r:RV) (K:Out→Option R):Option R :=
 match Jg7 P T,x,i,Jbj y r with
 | some (d,_),.mp s cx d' ks vs,.pv k,some (v,us)=>bif JiC d' d&&Jb7 d k&&Jao (s::us.map (·.1))
  then K ⟨.dead,none,us++[Jaq s cx (.mp d' (Jc5 k ks) (Jdi k v ks vs))],[]⟩ else none
 | _,_,_,_=>none
def opK (P:Program) (env:Env) (o:Op) (ty:TypeId) (ρ:Operand→RV) (K:Out→Option R):Option R :=
 match o with
 | .move x=>JbD (ρ x) K
 | .assign x=>(match ρ x with
  | .own s cx T es=>bif Jax x s cx then K ⟨.own T es,none,[(s,.dead)],[]⟩ else K ⟨.p (.sh es),none,[Jaq s cx (.p (.sh es))],[]⟩
  | .mp s cx d ks vs=>bif Jax x s cx then K ⟨.mp d ks vs,none,[(s,.dead)],[]⟩ else K ⟨.p (.fm d ks vs),none,[Jaq s cx (.p (.fm d ks vs))],[]⟩
  | .pv y=>K (JaO y)
  | .nl=>K (out .nl)
  | .tup s l=>K ⟨.tup l,none,[(s,.dead)],[]⟩
  | .st s l=>K ⟨.st l,none,[(s,.dead)],[]⟩
  | _=>none)
 | .pick c a b=>(match ρ c with
  | .pv (.v (.bool t))=>(match ρ a,ρ b with
   | .pv (.v (.bool x)),.pv (.v (.bool y))=>K (JaO (.v (.bool (bif t then x else y))))
   | ra,rb=>bif t then JbD ra K else JbD rb K)
  | _=>none)
 | .alloc T=>(match Jcr P T with
  | some zs=>bif JaU zs then K (out (.bx T (zs.map zsv))) else none
  | none=>none)
 | .box T x=>(match Jal P T with
  | some n=>(match ρ x with
   | .pv y=>bif Nat.beq (Jad y).length n&&Jat (Jad y) then K (out (.bx T ((Jad y).map .p))) else none
   | .nl=>bif Nat.beq n 1 then K (out (.bx T [.nl])) else none
   | .own s cx T2 es=>bif Nat.beq n 1 then (bif Jax x s cx then K ⟨.bx T [.own T2 es],none,[(s,.dead)],[]⟩ else K ⟨.bx T [.p (.sh es)],none,[Jaq s cx (.p (.sh es))],[]⟩) else none
   | .mp s cx d2 ks vs=>bif Nat.beq n 1&&Jax x s cx then K ⟨.bx T [.mp d2 ks vs],none,[(s,.dead)],[]⟩ else none
   | .st s cs=>bif Nat.beq cs.length n then K ⟨.bx T cs,none,[(s,.dead)],[]⟩ else none
   | _=>none)
  | none=>none)
 | .build T parts=>(match P.underlying T,Jcr P T,Ja2 (parts.toList.map fun q=>(q.2,ρ q.2)) with
  | some (.struct fs),some zs,some (ys,us)=>bif Jao (us.map (·.1))&&JaU zs&&JbQ P fs.toList then (match Jdg P T ((parts.toList.map (·.1)).zip ys) (zs.map cpv) with
   | some cs=>K ⟨.p (.agg cs),none,us,[]⟩
   | none=>none) else none
  | _,_,_=>none)
 | .buildSlice T len parts=>(match Jbc P T,Ja2 (parts.toList.map fun q=>(q.2,ρ q.2)) with
  | some E,some (ys,us)=>(match JfD P E,Jal P E with
   | some ze,some n=>bif Jao (us.map (·.1))&&Nat.ble (len * n) 1000&&JdS n len ((parts.toList.map (·.1)).zip ys)
    then K ⟨.own E (JdY ((parts.toList.map (·.1)).zip ys) (List.replicate len ze)),none,us,[]⟩ else none
   | _,_=>none)
  | _,_=>none)
 | .load T x=>bif !(JaF P T) then none else bif Jai P T then (match Jal P T with
  | some n=>Jej P n (ρ x) K
  | none=>none) else Jei P (ρ x) K
 | .store T x y=>bif Jai P T then (match Jal P T with
  | some n=>JeR P n (ρ x) (ρ y) K
  | none=>none) else (match Jal P T with
  | some n=>bif Nat.beq n 1 then JeQ P (ρ x) y (ρ y) K else none
  | none=>none)
 | .nilCheck x=>(match ρ x with
  | .box s off Tb cs=>JbD (.box s off Tb cs) K
  | .ob s T e bs=>JbD (.ob s T e bs) K
  | .el s cx T es i off=>JbD (.el s cx T es i off) K
  | .cl s g T cs=>JbD (.cl s g T cs) K
  | .pv (.fb cs)=>K (JaO (.fb cs))
  | .pv (.clo f cs)=>K (JaO (.clo f cs))
  | .pv (.v (.func (.func f) a b))=>K (JaO (.v (.func (.func f) a b)))
  | _=>none)
 | .binOp op T x y _=>(match ρ x,ρ y with
  | .pv a,.pv b=>Jla P op T a b fun z=>K (JaO z)
  | _,_=>none)
 | .unOp op _ x=>(match ρ x with
  | .pv a=>unK op a fun z=>K (JaO z)
  | _=>none)
 | .convert s d x=>JfL P s d (ρ x) K
 | .makeFunc (.func f) first caps=>(match first.toList,Ja2 (caps.toList.map fun q=>(q,ρ q)) with
  | [],some (ys,us)=>bif Jao (us.map (·.1)) then K ⟨.p (.clo f ys),none,us,[]⟩ else none
  | _,_=>none)
 | .makeSlice T l c=>(match Jbc P T,ρ l,ρ c with
  | some E,.pv (.v (.int _ l)),.pv (.v (.int _ c))=>(match JfD P E,Jda P E with
   | some ze,some bytes=>bif decide (0≤l)&&decide (l≤c)&&Ja7 c.toNat bytes then K (out (.own E (List.replicate l.toNat ze))) else none
   | _,_=>none)
  | _,_,_=>none)
 | .slice T x lo hi mx=>bif Jj9 mx then JdZ P T (ρ x) (lo.map ρ) (hi.map ρ) K else none
 | .fieldAddr S x f=>(match Jhr P S f with
  | some (o,fT)=>bif JiE P fT then (match ρ x with
   | .box s off _ _=>K (Jhg (.b s (off + o)))
   | .el s cx T _ i off=>K (Jhg (.e s (cx.map (·.1)) T i (off + o)))
   | .pv (.fb cs)=>K (JaO (.fb (cs.drop o)))
   | _=>none) else none
  | none=>none)
 | .field S x f=>(match Jhr P S f,ρ x with
  | some (o,T),.pv (.agg cs)=>bif !(JaF P T) then none else (match Jal P T with
   | some n=>bif Jai P T then (bif Nat.ble (o + n) cs.length then K (JaO (.agg ((cs.drop o).take n))) else none)
    else (bif Nat.blt o cs.length then K (JaO (cs.getD o (.v (.bool false)))) else none)
   | none=>none)
  | _,_=>none)
 | .indexAddr T x i=>Jcm P T (ρ x) (ρ i) K
 | .index T x i=>(match P.underlying T,ρ x,ρ i with
  | some .string,.pv (.v (.string s)),.pv (.v (.int _ i))=>bif inR i s.size then K (JaO (.v (.int .u8 (Je1 s i)))) else none
  | some (.array m E),.pv (.agg cs),.pv (.v (.int _ i))=>Jet P m E cs i K
  | _,_,_=>none)
 | .makeMap T r=>(match Jg7 P T,r with
  | some (d,_),none=>K (out (.mp d [] []))
  | _,_=>none)
 | .lookup T x i ok=>JdN P T (ρ x) (ρ i) ok K
 | .mapUpdate T m k v=>Jc3 P T (ρ m) (ρ k) v (ρ v) K
 | .insert T m k v=>Jc3 P T (ρ m) (ρ k) v (ρ v) K
 | .extract x i=>(match ρ x with
  | .tup s l=>(match l.getD i .dead with
   | .p y=>K (JaO y)
   | .nl=>K (out .nl)
   | .own T es=>K ⟨.own T es,none,[(s,.tup (l.set i .dead))],[]⟩
   | .mp d ks vs=>K ⟨.mp d ks vs,none,[(s,.tup (l.set i .dead))],[]⟩
   | .bx T cs=>K ⟨.bx T cs,none,[(s,.tup (l.set i .dead))],[]⟩
   | .ob T e bs=>K ⟨.ob T e bs,none,[(s,.tup (l.set i .dead))],[]⟩
   | .st cs=>K ⟨.st cs,none,[(s,.tup (l.set i .dead))],[]⟩
   | _=>none)
  | _=>none)
 | .call c=>(match c.callee with
  | .builtin b=>JaI P b c.argTypes.toList (c.args.toList.map ρ) K
  | .value f=>(match ρ f with
   | .pv (.v (.func (.func g) fi ca))=>(match fi.toList,ca.toList,env g with
    | [],[],some fs=>JjN fs (c.args.toList.map ρ) K
    | _,_,_=>none)
   | .pv (.clo g caps)=>(match env g with
    | some fs=>JgV fs (c.args.toList.map ρ++caps.map RV.pv) K
    | none=>none)
   | _=>none)
  | _=>none)
 | _=>none
end Go.Proofs.YtgglhmfncoeffaaGreatDoor.Th
set_option linter.unusedVariables false
namespace Go.Proofs.YtgglhmfncoeffaaGreatDoor.Th
open Go
variable {R:Type}
inductive Ex where
 | normal
 | exit (id:Nat)
 | ret
abbrev Kc (R:Type):=Ex→Fr→Option R
inductive Co where
 | id
 | own (T:TypeId)
 | sh
 | cs (l:List (Option TypeId))
def JkM:List (Option TypeId)→List SV→List SV
 | some T::l,.nl::xs=>.own T []::JkM l xs
 | _::l,x::xs=>x::JkM l xs
 | _,xs=>xs
def coe (c:Co) (x:SV):SV :=
 match c with
 | .id=>x
 | .own T=>match x with
  | .nl=>.own T []
  | y=>y
 | .sh=>match x with
  | .nl=>.p (.sh [])
  | .own _ es=>.p (.sh es)
  | .mp d ks vs=>.p (.fm d ks vs)
  | y=>y
 | .cs l=>match x with
  | .bx T cs=>.bx T (JkM l cs)
  | .st cs=>.st (JkM l cs)
  | y=>y
def lk:List (Nat × Co)→List SV→Fr
 | (s,_)::l,x::xs=>fun j=>bif Nat.beq j s then x else lk l xs j
 | _,_=>fun _=>.dead
def Jdk:List (Nat × Co)→Fr→List SV
 | [],_=>[]
 | (s,c)::l,fr=>coe c (fr s)::Jdk l fr
abbrev Lv:=List (Nat × Co)
structure Ann where
 loops:List (Nat × Lv × Lv)
 cuts:List (Nat × Lv × Lv)
 frz:List Nat
 rm:List Co
def Jd6:List (Nat × Lv × Lv)→Nat→Option (Lv × Lv)
 | [],_=>none
 | (k,x)::l,n=>bif Nat.beq k n then some x else Jd6 l n
def JaV:Code→Option Nat
 | .region id _ _=>some id
 | .seq a b=>match JaV a with
  | some i=>some i
  | none=>JaV b
 | .cond _ a b=>match JaV a with
  | some i=>some i
  | none=>JaV b
 | .block _ a=>JaV a
 | .loop a=>JaV a
 | _=>none
def Jev (l:List (Nat × Lv × Lv)) (c:Code):Option (Lv × Lv) :=
 match JaV c with
 | some i=>Jd6 l i
 | none=>none
def JdG (r:RV) (K:Out→Option R):Option R :=
 match Jbj (.tmp 0) r with
 | some (y,us)=>K ⟨.p y,none,us,[]⟩
 | none=>none
abbrev JeH (b:Bool) (r:RV) (K:Out→Option R):Option R :=
 match b with
 | true=>K ⟨.dead,none,[],[]⟩
 | false=>JbD r K
def Jcv (fz:List Nat) (d:Option Nat):Bool :=
 match d with
 | some d=>JaZ fz (1000000 + d)
 | none=>false
def Jjb (r:RV) (K:Out→Option R):Option R :=
 match r with
 | .own s none T es=>K ⟨.own T es,none,[(s,.dead)],[]⟩
 | .mp s none d ks vs=>K ⟨.mp d ks vs,none,[(s,.dead)],[]⟩
 | .box s 0 T cs=>K ⟨.bx T cs,none,[(s,.dead)],[]⟩
 | _=>none
def Jj0 (fz:List Nat) (d:Option Nat):Bool :=
 match d with
 | some d=>JaZ fz (7000000 + d)
 | none=>false
def JfX (fz:List Nat) (d:Option Nat):Bool :=
 match d with
 | some d=>JaZ fz (5000000 + d)
 | none=>false
def Jj1 (fz:List Nat) (d:Option Nat):Bool :=
 match d with
 | some d=>JaZ fz (3000000 + d)
 | none=>false
def Jfh (g:FuncId) (first:List Operand) (caps:List RV) (K:Out→Option R):Option R :=
 match first,caps with
 | [],[.box s off _ _]=>bif Nat.beq off 0 then K ⟨.dead,some (.c s g),[],[]⟩ else none
 | _,_=>none
def opF (P:Program) (env:Env) (fz:List Nat) (o:Oper) (ρ:Operand→RV) (K:Out→Option R):Option R :=
 match o.op with
 | .move x=>(match o.dst with
  | some d=>bif JaZ fz d then JdG (ρ x) K else JeH (JaZ fz (4000000 + d)) (ρ x) K
  | none=>JbD (ρ x) K)
 | .assign x=>bif JfX fz o.dst then Jjb (ρ x) K else opK P env (.assign x) o.type ρ K
 | .makeFunc (.func f) first caps=>bif Jj1 fz o.dst then Jfh f first.toList (caps.toList.map ρ) K else opK P env (.makeFunc (.func f) first caps) o.type ρ K
 | .convert src dst x=>bif Jcv fz o.dst then Jbf P src dst (ρ x) K else opK P env (.convert src dst x) o.type ρ K
 | .build T parts=>bif Jcv fz o.dst then Jdv P T (parts.toList.map (·.1)) (Ja2 (parts.toList.map fun q=>(q.2,ρ q.2))) K
  else bif JfX fz o.dst then (match parts.toList with
   | [q]=>Jc P T q.1 (ρ q.2) K
   | _=>none) else opK P env (.build T parts) o.type ρ K
 | .load T x=>bif Jcv fz o.dst&&Jai P T&&JaF P T then (match Jal P T with
  | some n=>Jho n (ρ x) K
  | none=>none) else bif Jj0 fz o.dst&&!(Jai P T)&&JaF P T then Jfk (ρ x) K else opK P env (.load T x) o.type ρ K
 | op=>opK P env op o.type ρ K
def JcA:Out:=⟨.p (.v (.tuple #[])),none,[],[]⟩
def goO (P:Program) (env:Env) (fz:List Nat) (N:Nat × List Nat) (o:Oper) (st:St) (K:St→Out→Option R):Option R :=
 opF P env fz o (opd st) fun r=>bif r.fits N o.dst then K st r else none
def skO (N:Nat × List Nat) (o:Oper) (st:St) (K:St→Out→Option R):Option R :=
 bif JcA.fits N o.dst then K st JcA else none
def Jhx (st:St) (d:Nat) (b:Bool):St:={ st with fr:=Jd8 st.fr d (.p (.v (.bool b))) }
def Ja0 (P:Program) (env:Env) (fz:List Nat) (N:Nat × List Nat) (ops:List Oper) (o:Oper) (st:St) (K:St→Out→Option R):Option R :=
 match o.guard with
 | none=>goO P env fz N o st K
 | some (j,want)=>match (ops[j]?).bind (·.dst) with
  | none=>none
  | some d=>match JaJ st.ral d with
   | some _=>none
   | none=>match st.fr d with
    | .p (.v (.bool t)) =>
     bif t then (bif want then goO P env fz N o (Jhx st d true) K else skO N o (Jhx st d true) K)
     else (bif want then skO N o (Jhx st d false) K else goO P env fz N o (Jhx st d false) K)
    | .p (.v (.tuple _))=>skO N o st K
    | _=>none
def Jhf (P:Program) (env:Env) (fz:List Nat) (N:Nat × List Nat) (ops:List Oper):List Oper→St→(St→Option R)→Option R
 | [],st,K=>K st
 | o::r,st,K=>Ja0 P env fz N ops o st fun st' out=>Jhf P env fz N ops r (st'.put o.dst out) K
structure Fp where
 rd:List Nat
 wr:List Nat
 calm:Bool
def Jli (st:St):Operand→List Nat
 | .tmp t=>match JaJ st.ral t with
  | some r=>[t,r.root]
  | none=>[t]
 | _=>[]
def rdOps (st:St):List Operand→List Nat
 | []=>[]
 | x::l=>Jli st x++rdOps st l
def Jhs (ops:List Oper) (o:Oper):List Nat :=
 match o.guard with
 | some (j,_)=>match (ops[j]?).bind (·.dst) with
  | some d=>[d]
  | none=>[]
 | none=>[]
def Jas (d:Option Nat) (drop:List Nat):List (Nat × Ref)→Bool
 | []=>true
 | (t,r)::l=>Jam d drop t r&&Jas d drop l
def JbV (drop:List Nat):List (Nat × Ref)→List Nat
 | []=>[]
 | (t,r)::l=>bif r.cell&&JaZ drop r.root then t::JbV drop l else JbV drop l
def JbJ (ops:List Oper) (o:Oper) (st:St) (r:Out):Fp :=
 { rd:=Jhs ops o++rdOps st o.op.operands.toList++(match r.ref with | some q=>[q.root] | none=>[])
   wr:=o.dst.toList++r.upd.map (·.1)++r.drop++JbV r.drop st.ral
   calm:=Jas o.dst [] st.ral }
def JcM:List Nat→List Nat→Bool
 | [],_=>false
 | x::r,b=>JaZ b x||JcM r b
def JiT (a b:Fp):Bool:=JcM a.wr b.wr||JcM a.wr b.rd||JcM a.rd b.wr
def JbY (o:Oper):List Nat:=(o.after.toList.filter fun e=>Region.binds .any e).map (·.on)
def JgR:List Oper→List (List Nat)→List (List Nat)
 | [],acc=>acc
 | o::r,acc=>JgR r (acc++[JbY o++(JbY o).flatMap fun i=>acc.getD i []])
def JiI (i:Nat):List Nat→Bool
 | []=>true
 | x::r=>Nat.blt x i&&JiI i r
def Ja4:Nat→List Oper→Bool
 | _,[]=>true
 | i,o::r=>JiI i (JbY o)&&Ja4 (i + 1) r
def JdT (fj:Fp) (bj:List Nat):Nat→List Fp→Bool
 | _,[]=>true
 | i,f::r=>(JaZ bj i||!(JiT f fj))&&JdT fj bj (i + 1) r
def Jcy:List Fp→List (List Nat)→List Fp→Bool
 | ahead,b::bs,f::fs=>f.calm&&JdT f b 0 ahead&&Jcy (ahead++[f]) bs fs
 | _,_,[]=>true
 | _,[],_::_=>false
def Jll (x:Nat):Nat:=Nat.shiftLeft 1 x
def tbN (m i:Nat):Bool:=Nat.beq (Nat.land (Nat.shiftRight m i) 1) 1
def JcR:List Nat→Nat
 | []=>0
 | x::l=>Nat.lor (Jll x) (JcR l)
def Jip (acc:List Nat):List Nat→Nat
 | []=>0
 | i::l=>Nat.lor (Nat.lor (Jll i) (acc.getD i 0)) (Jip acc l)
def JkE:List Oper→List Nat→List Nat
 | [],acc=>acc
 | o::r,acc=>JkE r (acc++[Jip acc (JbY o)])
def JcS (b:Nat):Nat→List Nat→Nat
 | _,[]=>0
 | i,m::r=>bif tbN b i then JcS b (Nat.succ i) r else Nat.lor m (JcS b (Nat.succ i) r)
def JkZ (b:Nat) (ws rs:List Nat) (w r:Nat):Bool:=Nat.beq (Nat.land w (Nat.lor (JcS b 0 ws) (JcS b 0 rs))) 0&&Nat.beq (Nat.land r (JcS b 0 ws)) 0
def Jfo:List Nat→List Nat→List Nat→List Fp→Bool
 | ws,rs,b::bs,f::fs=>f.calm&&JkZ b ws rs (JcR f.wr) (JcR f.rd)&&Jfo (ws++[JcR f.wr]) (rs++[JcR f.rd]) bs fs
 | _,_,_,[]=>true
 | _,_,[],_::_=>false
def JdR (ops:List Oper) (tr:List Fp):Bool:=Ja4 0 ops&&Jfo [] [] (JkE ops []) tr
def Jhe (P:Program) (env:Env) (fz:List Nat) (N:Nat × List Nat) (ops:List Oper):List Oper→St→List Fp→(St→List Fp→Option R)→Option R
 | [],st,tr,K=>K st tr
 | o::r,st,tr,K=>Ja0 P env fz N ops o st fun st' out=>Jhe P env fz N ops r (st'.put o.dst out) (tr++[JbJ ops o st' out]) K
def JgG (P:Program) (env:Env) (fz:List Nat) (N:Nat × List Nat) (ops:List Oper) (draw:Bool) (fr:Fr) (K:Fr→Option R):Option R :=
 bif draw then (bif P.follows .mixedOrders then Jhe P env fz N ops ops ⟨fr,[]⟩ [] fun st tr=>bif JdR ops tr then K st.fr else none else none)
 else Jhf P env fz N ops ops ⟨fr,[]⟩ fun st=>K st.fr
def Jdc (f:Fr→Kc R→Option R) (live out:Lv):Nat→List SV→Kc R→Option R
 | 0,_,_=>none
 | n + 1,vs,K=>f (lk live vs) fun e fr=>match e with
  | .normal=>Jdc f live out n (Jdk live fr) K
  | .exit i=>K (.exit i) (lk out (Jdk out fr))
  | .ret=>K .ret (lk out (Jdk out fr))
def JfU (f:Fr→Kc R→Option R) (live out:Lv) (vs:List SV) (K:Kc R):Option R :=
 f (lk live vs) fun e fr=>K e (lk out (Jdk out fr))
def evC (P:Program) (env:Env) (ann:Ann) (n:Nat) (N:Nat × List Nat):Code→Fr→Kc R→Option R
 | .skip,fr,K=>K .normal fr
 | .region _ ops draw,fr,K=>JgG P env ann.frz N ops.toList draw fr fun fr'=>K .normal fr'
 | .seq a b,fr,K=>evC P env ann n N a fr fun e fr'=>match e with
  | .normal=>(match Jev ann.cuts b with
   | some (live,out)=>JfU (fun f k=>evC P env ann n N b f k) live out (Jdk live fr') K
   | none=>evC P env ann n N b fr' K)
  | .exit i=>K (.exit i) fr'
  | .ret=>K .ret fr'
 | .cond c a b,fr,K=>(match opd ⟨fr,[]⟩ c with
  | .pv (.v (.bool t))=>bif t then evC P env ann n N a fr K else evC P env ann n N b fr K
  | _=>none)
 | .block id a,fr,K=>evC P env ann n N a fr fun e fr'=>match e with
  | .exit i=>bif Nat.beq i id then K .normal fr' else K (.exit i) fr'
  | .normal=>K .normal fr'
  | .ret=>K .ret fr'
 | .loop a,fr,K=>(match Jev ann.loops a with
  | some (live,out)=>Jdc (fun f k=>evC P env ann n N a f k) live out n (Jdk live fr) K
  | none=>none)
 | .exit i,fr,K=>K (.exit i) fr
 | .ret,fr,K=>K .ret fr
 | _,_,_=>none
def JhC (args:List SV):Fr:=fun j=>args.getD j .dead
def Jit (P:Program) (c:Co) (fr:Fr):ResultVar→Option SV
 | .tmp t=>match coe c (fr t) with
  | .p y=>some (.p y)
  | .own T es=>some (.own T es)
  | .mp d ks vs=>some (.mp d ks vs)
  | .bx T cs=>some (.bx T cs)
  | .ob T e bs=>some (.ob T e bs)
  | .st cs=>some (.st cs)
  | _=>none
 | .cell t _=>match coe c (fr t) with
  | .p y=>some (.p y)
  | .st cs=>some (.st cs)
  | _=>none
def JfK (P:Program) (c:Co) (T:TypeId) (t:Nat) (x:SV):Option Out :=
 match x with
 | .bx Tb cs=>bif JaF P T then (bif Jai P T then (match Jal P T with
  | some n=>(match c with
   | .cs _=>Jho n (.box t 0 Tb cs) some
   | _=>Jej P n (.box t 0 Tb cs) some)
  | none=>none) else Jei P (.box t 0 Tb cs) some) else none
 | _=>none
def Jj8:Out→Bool
 | ⟨_,none,_,_⟩=>true
 | _=>false
def Jbz (P:Program) (N:Nat × List Nat):List Co→List ResultVar→Fr→Option Fr
 | _,[],fr=>some fr
 | cs,.tmp _::r,fr=>Jbz P N cs.tail r fr
 | cs,.cell t T::r,fr=>match JfK P (cs.headD .sh) T t (fr t) with
  | some o=>bif o.fits N (some t)&&Jj8 o then Jbz P N cs.tail r (St.put ⟨fr,[]⟩ (some t) o).fr else none
  | none=>none
def JiF (P:Program) (fr:Fr):List Co→List ResultVar→Option (List SV)
 | _,[]=>some []
 | cs,x::r=>match Jit P (cs.headD .sh) fr x,JiF P fr cs.tail r with
  | some y,some ys=>some (y::ys)
  | _,_=>none
def JaC:List ResultVar→List Nat
 | []=>[]
 | .tmp t::r=>t::JaC r
 | .cell t _::r=>t::JaC r
def JaM:Nat→List SV→List Nat
 | _,[]=>[]
 | i,.bx _ _::r=>i::JaM (i + 1) r
 | i,.ob _ _ _::r=>i::JaM (i + 1) r
 | i,_::r=>JaM (i + 1) r
def JfJ (fr:Fr):List Nat→Option (List SV)
 | []=>some []
 | i::r=>match fr i,JfJ fr r with
  | .bx T cs,some l=>some (.bx T cs::l)
  | .ob T e bs,some l=>some (.ob T e bs::l)
  | _,_=>none
def Jhq (P:Program) (ann:Ann) (fn:Func) (args:List SV) (fr:Fr) (K:List SV→Option R):Option R :=
 match Jbz P (fn.ntmps,JaM 0 args) ann.rm fn.results.toList fr with
 | none=>none
 | some fr=>match JiF P fr ann.rm fn.results.toList,JfJ fr (JaM 0 args) with
  | some rs,some bs=>bif Jao (JaC fn.results.toList++JaM 0 args)&&Nat.ble rs.length 4 then K (rs++bs) else none
  | _,_=>none
def Jhp (P:Program) (env:Env) (ann:Ann) (n:Nat) (fn:Func) (args:List SV) (K:List SV→Option R):Option R :=
 match fn.body with
 | some c=>bif Nat.ble args.length fn.ntmps then evC P env ann n (fn.ntmps,JaM 0 args) c (JhC args) fun e fr=>match e with
  | .exit _=>none
  | .normal=>Jhq P ann fn args fr K
  | .ret=>Jhq P ann fn args fr K
  else none
 | none=>none
def Jkz:Code→List Nat→Code
 | c,[]=>c
 | .seq a b,i::l=>bif Nat.beq i 0 then Jkz a l else Jkz b l
 | .cond _ a b,i::l=>bif Nat.beq i 0 then Jkz a l else Jkz b l
 | .block _ a,_::l=>Jkz a l
 | .loop a,_::l=>Jkz a l
 | c,_=>c
def Jlv (fn:Func):Code:=fn.body.getD .skip
end Go.Proofs.YtgglhmfncoeffaaGreatDoor.Th
set_option linter.unusedVariables false
set_option linter.unusedSimpArgs false
namespace Go.Proofs.YtgglhmfncoeffaaGreatDoor.Th
open Go
def DetK {α:Type} (f:(R:Type)→(α→Option R)→Option R):Prop:=(∀ (R:Type) (K:α→Option R),f R K=none)∨∃ a,∀ (R:Type) (K:α→Option R),f R K=K a
section
variable {α β:Type}
theorem Ja:DetK (fun R (K:α→Option R)=>none):=.inl fun _ _=>rfl
theorem Jac (a:α):DetK (fun R (K:α→Option R)=>K a):=.inr ⟨a,fun _ _=>rfl⟩
theorem Jae {c:Bool} {f g:(R:Type)→(α→Option R)→Option R} (hf:DetK f) (hg:DetK g):DetK (fun R K=>bif c then f R K else g R K):=by cases c; exact hg; exact hf
theorem Jan {f:(R:Type)→(α→Option R)→Option R} {g:α→(R:Type)→(β→Option R)→Option R} (hf:DetK f) (hg:∀ a,DetK (g a)):DetK (fun R K=>f R fun a=>g a R K):=by
 rcases hf with hf | ⟨a,hf⟩
 · exact .inl fun R K=>hf R _
 · rcases hg a with h | ⟨b,h⟩
   · exact .inl fun R K=>(hf R _).trans (h R K)
   · exact .inr ⟨b,fun R K=>(hf R _).trans (h R K)⟩
theorem DetK.some {f:(R:Type)→(α→Option R)→Option R} (h:DetK f) {R:Type} {K:α→Option R} {res:R} (hk:f R K=some res):∃ a,K a=some res∧∀ (R':Type) (K':α→Option R'),f R' K'=K' a:=by
 rcases h with h | ⟨a,h⟩
 · rw [h] at hk; cases hk
 · exact ⟨a,(h R K).symm.trans hk,h⟩
theorem Jec {f:(R:Type)→(α→Option R)→Option R} (go:∀ (R:Type) (K:α→Option R) (res:R),f R K=some res→∃ a,∀ (R':Type) (K':α→Option R'),f R' K'=K' a):DetK f:=by
 cases hq:f α (fun a=>some a) with
 | none =>
  refine .inl fun R K=>?_
  cases h:f R K with
  | none=>first | rfl | exact h
  | some r=>obtain ⟨a,q⟩:=go R K r h; rw [q] at hq; cases hq
 | some r=>obtain ⟨a,q⟩:=go _ _ r hq; exact .inr ⟨a,q⟩
theorem Ji2 (k:IntKind) (e:PV):DetK (fun R K=>@Jkw R k e K):=by
 rcases e with x | _ | _ | _ | _ <;> first | exact Ja | skip
 cases x <;> first | exact Ja | exact Jae (Jac _) Ja
theorem Ji1 (e:PV):DetK (fun R K=>@Jkv R e K):=by
 rcases e with x | _ | _ | _ | _ <;> first | exact Ja | skip
 cases x <;> first | exact Ja | exact Jac _
theorem Ji4 (e:PV):DetK (fun R K=>@Jkx R e K):=by
 rcases e with x | _ | _ | _ | _ <;> first | exact Ja | skip
 cases x <;> first | exact Ja | exact Jac _
theorem Ji3 (e:PV):DetK (fun R K=>@JkQ R e K):=by cases e <;> first | exact Ja | exact Jac _
theorem JhQ (e:PV):DetK (fun R K=>@Jiy R e K):=by cases e <;> first | exact Ja | exact Jac _
theorem JeE (c:CK) (e:PV):DetK (fun R K=>@JgX R c e K):=by
 cases c with
 | i k=>exact Jan (f:=fun R K=>Jkw k e K) (g:=fun x R K=>K (PV.v (Value.int k x))) (Ji2 k e) fun x=>Jac _
 | b=>exact Jan (f:=fun R K=>Jkv e K) (g:=fun x R K=>K (PV.v (Value.bool x))) (Ji1 e) fun x=>Jac _
 | s=>exact Jan (f:=fun R K=>Jkx e K) (g:=fun x R K=>K (PV.v (Value.string x))) (Ji4 e) fun x=>Jac _
 | sl=>exact Jan (f:=fun R K=>JkQ e K) (g:=fun x R K=>K (PV.sh x)) (Ji3 e) fun x=>Jac _
 | o=>exact Jae (Jac _) Ja
theorem Jdn:∀ (ks:List CK) (cs:List PV),DetK (fun R K=>@JeA R ks cs K)
 | [],[]=>Jac _
 | [],_::_=>Ja
 | _::_,[]=>Ja
 | c::r,x::cs=>Jan (f:=fun R K=>JgX c x K) (g:=fun y R K=>JeA r cs fun ys=>K (y::ys)) (JeE c x) fun y=>Jan (f:=fun R K=>JeA r cs K) (g:=fun ys R K=>K (y::ys)) (Jdn r cs) fun ys=>Jac _
theorem JiZ (ag:Bool) (ks:List CK) (e:PV):DetK (fun R K=>@Jlc R ag ks e K):=by
 cases ag with
 | true=>exact Jan (f:=fun R K=>Jiy e K) (g:=fun cs R K=>JeA ks cs K) (JhQ e) fun cs=>Jdn ks cs
 | false =>
  match ks with
  | []=>exact Ja
  | [c]=>exact Jan (f:=fun R K=>JgX c e K) (g:=fun y R K=>K [y]) (JeE c e) fun y=>Jac _
  | _::_::_=>exact Ja
theorem Jgn (P:Program) (T:TypeId) (e:PV):DetK (fun R K=>@JfE R P T e K):=JiZ _ _ e
theorem Jbx (P:Program) (T:TypeId) (e:PV) (c:List PV→Bool) (o:List PV→Out):DetK (fun R (K:Out→Option R)=>JfE P T e fun ys=>bif c ys then K (o ys) else none) :=
 Jan (f:=fun R K=>JfE P T e K) (g:=fun ys R K=>bif c ys then K (o ys) else none) (Jgn P T e) fun ys=>Jae (Jac _) Ja
theorem JbH (r:RV):DetK (fun R K=>@JbD R r K):=by cases r <;> first | exact Ja | exact Jac _
theorem JiV (op:BinOp) (k:IntKind) (a b:Int):DetK (fun R K=>@JkH R op k a b K):=by
 cases op <;> first | exact Ja | exact Jac _ | exact Jae Ja (Jac _)
theorem JjT (op:BinOp) (k:IntKind) (a b:Int):DetK (fun R K=>@shI R op k a b K):=by
 cases op <;> first | exact Ja | exact Jae Ja (Jac _)
theorem JiY (a b:ByteArray):DetK (fun R K=>@Jlb R a b K):=Jae (Jac _) Ja
theorem JiX (op:BinOp) (a b:ByteArray):DetK (fun R K=>@JkI R op a b K):=by
 cases op <;> first | exact Ja | exact Jac _ | exact Jan (f:=fun R K=>Jlb a b K) (g:=fun c R K=>K (PV.v (Value.string c))) (JiY a b) fun c=>Jac _
theorem JiW (P:Program) (op:BinOp) (T:TypeId) (x y:PV):DetK (fun R K=>@Jla R P op T x y K):=by
 by_cases hxy:∃ xa bs,x=.agg xa∧y=.agg bs
 · obtain ⟨xa,bs,rfl,rfl⟩:=hxy
   refine Jae ?_ Ja
   exact Jan (f:=fun R K=>JeA (cks P 20 T) xa K) (g:=fun xs R K=>JeA (cks P 20 T) bs fun ys=>eqO op (JbR xs ys) K) (Jdn _ _) fun xs =>
    Jan (f:=fun R K=>JeA (cks P 20 T) bs K) (g:=fun ys R K=>eqO op (JbR xs ys) K) (Jdn _ _) fun ys=>by cases op <;> first | exact Ja | exact Jac _
 rcases x with x | _ | xa | _ | _ <;> first | exact Ja | skip
 rotate_left
 · cases y <;> first | exact Ja | exact absurd ⟨_,_,rfl,rfl⟩ hxy
 cases x <;> first | exact Ja | skip
 all_goals
  rcases y with y | _ | _ | _ | _ <;> first | exact Ja | skip
  cases y <;> first
   | exact Ja
   | exact Jae (JjT _ _ _ _) (Jae (JiV _ _ _ _) Ja)
   | exact JiX _ _ _
   | (refine Jae ?_ Ja; cases op <;> first | exact Ja | exact Jac _)
theorem Jg0 (P:Program) (r:RV):DetK (fun R K=>@Jei R P r K):=by
 cases r with
 | box s off T cs =>
  refine Jae ?_ Ja
  generalize cs.getD off .dead=y
  generalize Jlj P T=e
  cases e with
  | none=>cases y <;> first | exact Ja | exact Jac _
  | some c=>cases y <;> first | exact Ja | exact Jan (f:=fun R K=>JgX c _ K) (g:=fun z R K=>K (JaO z)) (JeE c _) fun z=>Jac _
 | el s cx T es i off=>exact Jbx _ _ _ _ _
 | pv x =>
  cases x <;> first | exact Ja | skip
  rename_i cs
  cases cs <;> first | exact Ja | exact Jac _
 | _=>exact Ja
theorem Jg1 (P:Program) (n:Nat) (r:RV):DetK (fun R K=>@Jej R P n r K):=by
 cases r with
 | box s off T cs =>
  refine Jae ?_ Ja
  generalize Jdh ((cs.drop off).take n)=y
  cases y <;> first | exact Ja | exact Jac _
 | el s cx T es i off=>exact Jbx _ _ _ _ _
 | pv x =>
  cases x <;> first | exact Ja | exact Jae (Jac _) Ja
 | _=>exact Ja
theorem JfR (P:Program) (r:RV) (x:Operand) (y:RV):DetK (fun R K=>@JeQ R P r x y K):=by
 cases r with
 | box s off T cs =>
  refine Jae ?_ Ja
  cases y <;> first | exact Ja | exact Jac _ | exact Jae (Jac _) Ja | exact Jae Ja (Jae (Jac _) (Jac _))
 | el s cx T es i off =>
  cases y <;> first
   | exact Ja
   | exact Jbx _ _ _ _ _
   | exact Jae (Jbx _ _ _ _ _) Ja
   | exact Jae Ja (Jbx _ _ _ _ _)
 | _=>cases y <;> exact Ja
theorem JfS (P:Program) (n:Nat) (r y:RV):DetK (fun R K=>@JeR R P n r y K):=by
 cases y with
 | pv y =>
  cases y with
  | agg zs =>
   refine Jae ?_ Ja
   cases r <;> first
    | exact Ja
    | exact Jae (Jac _) Ja
    | exact Jbx _ _ _ _ _
  | _=>exact Ja
 | st s2 ds =>
  refine Jae ?_ Ja
  cases r <;> first | exact Ja | exact Jae (Jac _) Ja
 | _=>exact Ja
theorem JhP (n:Nat) (r:RV):DetK (fun R K=>@Jho R n r K):=by
 cases r <;> first | exact Ja | exact Jae (Jac _) Ja
theorem JfP (P:Program) (T:TypeId) (fs:List Nat) (v:Option (List PV × List (Nat × SV))):DetK (fun R K=>@Jdv R P T fs v K):=by
 unfold Jdv
 generalize P.underlying T=u
 generalize Jcr P T=z
 rcases u with _ | u
 · exact Ja
 cases u <;> first | exact Ja | skip
 rcases z with _ | z <;> rcases v with _ | ⟨ys,us⟩ <;> first | exact Ja | skip
 refine Jae ?_ Ja
 generalize Jdg P T _ _=f
 cases f <;> first | exact Ja | exact Jac _
theorem JfO (P:Program) (T:TypeId) (f:Nat) (r:RV):DetK (fun R K=>@Jc R P T f r K):=by
 unfold Jc
 generalize P.underlying T=u
 generalize Jcr P T=z
 generalize Jhr P T f=q
 rcases u with _ | u
 · exact Ja
 cases u <;> first | exact Ja | skip
 rcases z with _ | z <;> rcases q with _ | ⟨o,ft⟩ <;> first | exact Ja | skip
 simp only []
 generalize Jal P ft=n
 cases n <;> cases r <;> first | exact Ja | skip
 rename_i cx _ _ _
 cases cx <;> first | exact Ja | exact Jae (Jac _) Ja
theorem JfN (n bytes:Nat) (E:TypeId) (s x:RV):DetK (fun R K=>@Jcw R n bytes E s x K):=by
 cases s with
 | own s1 cx T es =>
  refine Jae ?_ Ja
  cases x <;> first | exact Ja | exact Jac _ | exact Jae (Jac _) Ja | skip
  rename_i y
  cases y <;> first | exact Ja | exact Jae (Jac _) Ja
 | nl =>
  cases x <;> first | exact Ja | exact Jac _ | exact Jae (Jac _) Ja | skip
  rename_i y
  cases y <;> first | exact Ja | exact Jae (Jac _) Ja
 | _=>exact Ja
theorem Je6 (E:TypeId) (s x:RV):DetK (fun R K=>@JcE R E s x K):=by
 unfold JcE
 cases x <;> first | exact Ja | skip
 rename_i y
 rcases y with y | _ | _ | _ | _ <;> first | exact Ja | skip
 cases y <;> first | exact Ja | skip
 cases s <;> first | exact Ja | exact Jae (Jae (Jac _) Ja) Ja | exact Jae (Jac _) Ja
theorem Ji5 (x:RV):DetK (fun R K=>@JkV R x K):=by
 cases x <;> first | exact Ja | exact Jac _ | skip
 rename_i y
 rcases y with y | _ | _ | _ | _ <;> first | exact Ja | exact Jac _ | skip
 cases y <;> first | exact Ja | exact Jac _
theorem Je7 (P:Program) (b:Builtin) (tys:List TypeId) (args:List RV):DetK (fun R K=>@JaI R P b tys args K):=by
 have go:∀ (R:Type) (K:Out→Option R) (res:R),JaI P b tys args K=some res→∃ a,∀ (R':Type) (K':Out→Option R'),JaI P b tys args K'=K' a:=by
  intro R K res h
  unfold JaI at h
  split at h
  · cases hc:JkW P tys ‹RV› with
    | false=>rw [hc] at h; cases h
    | true =>
     rw [hc,cond_true] at h
     obtain ⟨a,_,q⟩:=(Ji5 _).some h
     exact ⟨a,fun R' K'=>by unfold JaI; simp only [hc,cond_true]; exact q R' K'⟩
  · split at h
    · rename_i t t2
      cases hc:Nat.beq t t2 with
      | false =>
       rw [hc,cond_false] at h
       split at h
       · rename_i E hE
         cases hd:(JdJ P t2&&u8T P E) with
         | false=>rw [hd] at h; cases h
         | true =>
          rw [hd,cond_true] at h
          obtain ⟨a,_,q⟩:=(Je6 _ _ _).some h
          exact ⟨a,fun R' K'=>by unfold JaI; simp only [hc,hE,hd,cond_true,cond_false]; exact q R' K'⟩
       · cases h
      | true =>
       rw [hc,cond_true] at h
       split at h
       · rename_i E hE
         split at h
         · rename_i n bytes h1 h2
           cases hd:(Nat.blt 0 n&&Jbq P E) with
           | false=>rw [hd] at h; cases h
           | true =>
            rw [hd,cond_true] at h
            obtain ⟨a,_,q⟩:=(JfN _ _ _ _ _).some h
            exact ⟨a,fun R' K'=>by unfold JaI; simp only [hc,hE,h1,h2,hd,cond_true]; exact q R' K'⟩
         · cases h
       · cases h
    · cases h
  · rename_i k a k' b
    cases hc:Jeg k k' with
    | false=>rw [hc] at h; cases h
    | true=>exact ⟨_,fun R' K'=>by unfold JaI; simp only [hc,cond_true]; rfl⟩
  · rename_i k a k' b k'' c
    cases hc:(Jeg k k'&&Jeg k k'') with
    | false=>rw [hc] at h; cases h
    | true=>exact ⟨_,fun R' K'=>by unfold JaI; simp only [hc,cond_true]; rfl⟩
  · rename_i k a k' b
    cases hc:Jeg k k' with
    | false=>rw [hc] at h; cases h
    | true=>exact ⟨_,fun R' K'=>by unfold JaI; simp only [hc,cond_true]; rfl⟩
  · cases h
 exact Jec go
theorem JjU (op:UnOp) (x:PV):DetK (fun R K=>@unK R op x K):=by
 cases op <;> (rcases x with x | _ | _ | _ | _ <;> first | exact Ja | (cases x <;> first | exact Ja | exact Jac _))
theorem Jea (P:Program) (src:TypeId) (es:List PV):DetK (fun R K=>@JcG R P src es K):=by
 unfold JcG
 cases h:Jbc P src with
 | none=>exact Ja
 | some e =>
  simp only []
  generalize P.underlying e=u
  rcases u with _ | u
  · exact Ja
  · cases u <;> first | exact Ja | skip
    rename_i k
    cases k <;> first | exact Ja | exact Jae (Jac _) Ja
theorem JhO (P:Program) (src dst:TypeId) (x:RV):DetK (fun R K=>@JfL R P src dst x K):=by
 unfold JfL
 refine Jae Ja ?_
 generalize P.underlying dst=u
 rcases u with _ | u
 · exact Ja
 cases u <;> first
  | exact Ja
  | (cases x <;> first
      | exact Ja
      | exact Jea _ _ _
      | (rename_i y; rcases y with y | _ | _ | _ | _ <;> first
          | exact Ja
          | exact Jea _ _ _
          | (cases y <;> first | exact Ja | exact Jac _ | exact Jae (Jac _) Ja)))
theorem Je9 (P:Program) (src dst:TypeId) (x:RV):DetK (fun R K=>@Jbf R P src dst x K):=by
 have go:∀ (R:Type) (K:Out→Option R) (res:R),Jbf P src dst x K=some res→∃ a,∀ (R':Type) (K':Out→Option R'),Jbf P src dst x K'=K' a:=by
  intro R K res h
  unfold Jbf at h
  split at h
  · rename_i e s h1 h2
    split at h
    · rename_i h3
      cases c1:u8T P e with
      | false=>rw [c1] at h; cases h
      | true =>
       cases c2:Ja7 s.size 1 with
       | false=>rw [c1,c2] at h; cases h
       | true=>exact ⟨_,fun R' K'=>by unfold Jbf; simp only [h1,h2,h3,c1,c2,cond_true]; rfl⟩
    · cases h
  · rename_i e0 e s T es h1 h2
    split at h
    · rename_i h3
      cases c1:(Nat.beq src dst&&Nat.beq T e&&u8T P e&&Nat.blt 0 es.length) with
      | false=>rw [c1] at h; cases h
      | true=>exact ⟨_,fun R' K'=>by unfold Jbf; simp only [h1,h2,h3,c1,cond_true]; rfl⟩
    · cases h
  · cases h
 exact Jec go
theorem Jg2 (P:Program) (T:TypeId) (x:RV) (lo hi:Option RV):DetK (fun R K=>@JdZ R P T x lo hi K):=by
 unfold JdZ
 generalize P.underlying T=u
 rcases u with _ | u
 · exact Ja
 cases u <;> first | exact Ja | skip
 · cases x <;> first | exact Ja | skip
   rename_i y
   rcases y with y | _ | _ | _ | _ <;> first | exact Ja | skip
   cases y <;> first | exact Ja | skip
   rename_i s
   simp only []
   generalize JaB lo 0=l
   generalize JaB hi (s.size:Int)=h
   cases l <;> cases h <;> first | exact Ja | exact Jae (Jac _) Ja
 · rename_i E
   cases x <;> first | exact Ja | skip
   · refine Jae ?_ Ja
     generalize JaB lo 0=l
     generalize JaB hi 0=h
     cases l <;> cases h <;> first | exact Ja | exact Jae (Jac _) Ja
   · rename_i y
     cases y <;> first | exact Ja | skip
     rename_i es
     simp only []
     generalize Jal P E=n
     generalize JaB lo 0=l
     generalize JaB hi (es.length:Int)=h
     cases n <;> cases l <;> cases h <;> first | exact Ja | exact Jae (Jac _) Ja
   · rename_i s cx T' es
     simp only []
     generalize Jal P E=n
     generalize JaB lo 0=l
     generalize JaB hi (es.length:Int)=h
     cases n <;> cases l <;> cases h <;> first | exact Ja | exact Jae (Jac _) Ja
theorem Jd5 (P:Program) (T:TypeId) (x i:RV):DetK (fun R K=>@Jcm R P T x i K):=by
 unfold Jcm
 generalize Jbc P T=e
 cases e with
 | none =>
  cases i <;> first | exact Ja | skip
  rename_i y
  rcases y with y | _ | _ | _ | _ <;> first | exact Ja | skip
  cases y <;> first | exact Ja | skip
  show DetK (fun R K=>@JbP R P T x _ K)
  unfold JbP
  generalize P.underlying T=u
  rcases u with _ | u
  · exact Ja
  cases u <;> first | exact Ja | skip
  cases x <;> first | exact Ja | skip
  rename_i m E _ _ _ _
  simp only []
  generalize Jal P E=n
  cases n <;> first | exact Ja | exact Jae (Jac _) Ja
 | some E =>
 cases i <;> first | exact Ja | skip
 rename_i y
 rcases y with y | _ | _ | _ | _ <;> first | exact Ja | skip
 cases y <;> first | exact Ja | skip
 simp only []
 generalize Jal P E=n
 cases n <;> first | exact Ja | skip
 cases x <;> first | exact Ja | exact Jae (Jae (Jac _) Ja) Ja | skip
 rename_i y
 cases y <;> first | exact Ja | exact Jae (Jbx _ _ _ _ _) Ja
theorem JfM (P:Program) (m:Nat) (E:TypeId) (cs:List PV) (i:Int):DetK (fun R K=>@Jet R P m E cs i K):=by
 unfold Jet
 generalize Jal P E=n
 cases n <;> first | exact Ja | exact Jae (Jae (Jbx _ _ _ _ _) Ja) Ja
def JbF (env:Env):Prop:=∀ g fs,env g=some fs→∀ args,DetK (fun R K=>@FS.run fs R args K)
theorem Je8 {fs:FS} (hd:∀ args,DetK (fun R K=>@FS.run fs R args K)) (args:List RV):DetK (fun R K=>@JgV R fs args K):=by
 unfold JgV
 generalize Jb6 fs.om args=q
 rcases q with _ | ⟨avs,us,bs⟩
 · exact Ja
 exact Jae (Jan (f:=fun R K=>@FS.run fs R avs K) (g:=fun res R K=>K (Out.mk (JjC (res.take (res.length - bs.length))) none (us++Jhy bs (res.drop (res.length - bs.length))) bs)) (hd avs) fun res=>Jac _) Ja
theorem JhN {fs:FS} (hd:∀ args,DetK (fun R K=>@FS.run fs R args K)) (args:List RV):DetK (fun R K=>@JjN R fs args K):=by
 refine Jae ?_ (Je8 hd args)
 unfold Jje
 generalize JaG args=q
 rcases q with _ | avs
 · exact Ja
 refine Jan (f:=fun R K=>@FS.run fs R avs K) (g:=fun res R K=>@Jk0 R res K) (hd avs) fun res=>?_
 rcases res with _ | ⟨x,_ | ⟨y,l⟩⟩ <;> first | exact Ja | skip
 · rcases x with _ | _ | y | _ <;> first | exact Ja | skip
   cases y <;> first | exact Ja | exact Jac _
 · exact Jec fun R K res h=>by simp [Jk0] at h
theorem JfQ (P:Program) (T:TypeId) (x i:RV) (ok:Bool):DetK (fun R K=>@JdN R P T x i ok K):=by
 unfold JdN
 generalize Jg7 P T=m
 rcases m with _ | ⟨d,E⟩
 · exact Ja
 cases i <;> first | exact Ja | skip
 rename_i k
 refine Jae ?_ Ja
 generalize JiA P E=z
 cases z <;> first | exact Ja | skip
 rename_i z
 have h1:∀ (b:Bool) (ks vs:List PV),DetK (fun R K=>bif b then @JcO R P E k z ks vs ok K else none):=fun b ks vs=>Jae (Jan (f:=fun R K=>@JfE R P E (Jh4 k z ks vs) K) (g:=fun ys R K=>K (Jj6 ok (mkE (Jai P E) ys) (Jg9 k ks))) (Jgn _ _ _) fun ys=>Jac _) Ja
 rcases x with _ | _ | y | _ | _ | _ | _ | _ | _ | ⟨s,cx,d',ks,vs⟩ <;> first | exact Ja | exact h1 _ _ _ | skip
 cases y <;> first | exact Ja | exact h1 _ _ _
theorem Jdz (P:Program) (T:TypeId) (x i:RV) (y:Operand) (r:RV):DetK (fun R K=>@Jc3 R P T x i y r K):=by
 unfold Jc3
 generalize Jg7 P T=m
 generalize Jbj y r=v
 rcases m with _ | ⟨d,E⟩
 · exact Ja
 cases x <;> first | exact Ja | skip
 cases i <;> first | exact Ja | skip
 rcases v with _ | ⟨v,us⟩
 · exact Ja
 exact Jae (Jac _) Ja
theorem JjS (P:Program) {env:Env} (henv:JbF env) (o:Op) (ty:TypeId) (ρ:Operand→RV):DetK (fun R K=>@opK R P env o ty ρ K):=by
 cases o with
 | move x=>exact JbH _
 | assign x =>
  simp only [opK]
  generalize ρ x=r
  cases r <;> first | exact Ja | exact Jac _ | exact Jae (Jac _) (Jac _)
 | pick c a b =>
  simp only [opK]
  generalize ρ c=rc
  generalize ρ a=ra
  generalize ρ b=rb
  rcases rc with _ | _ | y | _ | _ | _ | _ | _ <;> first | exact Ja | skip
  rcases y with y | _ | _ | _ | _ <;> first | exact Ja | skip
  cases y <;> first | exact Ja | skip
  rename_i t
  refine Jec fun R K res h=>?_
  simp only [] at h
  split at h
  · exact ⟨_,fun R' K'=>rfl⟩
  · cases t with
    | true =>
     rw [cond_true] at h
     obtain ⟨q,_,hq⟩:=(JbH _).some h
     exact ⟨q,fun R' K'=>hq R' K'⟩
    | false =>
     rw [cond_false] at h
     obtain ⟨q,_,hq⟩:=(JbH _).some h
     exact ⟨q,fun R' K'=>hq R' K'⟩
 | alloc T =>
  simp only [opK]
  generalize Jcr P T=z
  cases z <;> first | exact Ja | exact Jae (Jac _) Ja
 | box T x =>
  simp only [opK]
  generalize Jal P T=n
  generalize ρ x=r
  cases n <;> cases r <;> first | exact Ja | exact Jae (Jac _) Ja | exact Jae (Jae (Jac _) (Jac _)) Ja
 | build T parts =>
  simp only [opK]
  generalize P.underlying T=u
  generalize Jcr P T=z
  generalize Ja2 (parts.toList.map fun q=>(q.2,ρ q.2))=v
  rcases u with _ | u
  · exact Ja
  cases u <;> first | exact Ja | skip
  rcases z with _ | z <;> rcases v with _ | ⟨ys,us⟩ <;> first | exact Ja | skip
  refine Jae ?_ Ja
  generalize Jdg P T _ _=f
  cases f <;> first | exact Ja | exact Jac _
 | buildSlice T len parts =>
  simp only [opK]
  generalize Jbc P T=u
  generalize Ja2 (parts.toList.map fun q=>(q.2,ρ q.2))=v
  rcases u with _ | E <;> rcases v with _ | ⟨ys,us⟩ <;> first | exact Ja | skip
  simp only []
  generalize JfD P E=z
  generalize Jal P E=n
  cases z <;> cases n <;> first | exact Ja | exact Jae (Jac _) Ja
 | load T x =>
  simp only [opK]
  refine Jae Ja (Jae ?_ (Jg0 _ _))
  generalize Jal P T=n
  cases n <;> first | exact Ja | exact Jg1 _ _ _
 | store T x y =>
  simp only [opK]
  refine Jae ?_ ?_
  · generalize Jal P T=n
    cases n <;> first | exact Ja | exact JfS _ _ _ _
  · generalize Jal P T=n
    cases n <;> first | exact Ja | exact Jae (JfR _ _ _ _) Ja
 | nilCheck x =>
  simp only [opK]
  generalize ρ x=r
  cases r <;> first | exact Ja | exact JbH _ | skip
  rename_i y
  rcases y with y | _ | _ | _ | _ <;> first | exact Ja | exact Jac _ | skip
  cases y <;> first | exact Ja | skip
  rename_i f a b
  cases f <;> first | exact Ja | exact Jac _
 | binOp op T x y yT =>
  simp only [opK]
  generalize ρ x=rx
  generalize ρ y=ry
  cases rx <;> cases ry <;> first | exact Ja | exact Jan (f:=fun R K=>Jla P op T _ _ K) (g:=fun z R K=>K (JaO z)) (JiW _ _ _ _ _) fun z=>Jac _
 | unOp op T x =>
  simp only [opK]
  generalize ρ x=rx
  cases rx <;> first | exact Ja | exact Jan (f:=fun R K=>unK op _ K) (g:=fun z R K=>K (JaO z)) (JjU _ _) fun z=>Jac _
 | convert s d x=>exact JhO _ _ _ _
 | makeFunc f first caps =>
  cases f <;> first | exact Ja | skip
  simp only [opK]
  generalize first.toList=l
  generalize Ja2 (caps.toList.map fun q=>(q,ρ q))=v
  rcases l with _ | ⟨_,_⟩ <;> rcases v with _ | ⟨ys,us⟩ <;> first | exact Ja | exact Jae (Jac _) Ja
 | makeSlice T l c =>
  simp only [opK]
  generalize Jbc P T=u
  generalize ρ l=rl
  generalize ρ c=rc
  rcases u with _ | E <;> first | exact Ja | skip
  rcases rl with _ | _ | y | _ | _ | _ | _ | _ <;> first | exact Ja | skip
  rcases y with y | _ | _ | _ | _ <;> first | exact Ja | skip
  cases y <;> first | exact Ja | skip
  rcases rc with _ | _ | y | _ | _ | _ | _ | _ <;> first | exact Ja | skip
  rcases y with y | _ | _ | _ | _ <;> first | exact Ja | skip
  cases y <;> first | exact Ja | skip
  simp only []
  generalize JfD P E=z
  generalize Jda P E=n
  cases z <;> cases n <;> first | exact Ja | exact Jae (Jac _) Ja
 | slice T x lo hi mx=>exact Jae (Jg2 _ _ _ _ _) Ja
 | fieldAddr S x f =>
  simp only [opK]
  generalize Jhr P S f=q
  generalize ρ x=r
  rcases q with _ | ⟨o,fT⟩
  · exact Ja
  refine Jae ?_ Ja
  cases r <;> first | exact Ja | exact Jac _ | skip
  rename_i y
  cases y <;> first | exact Ja | exact Jac _
 | field S x f =>
  simp only [opK]
  generalize Jhr P S f=q
  generalize ρ x=r
  rcases q with _ | ⟨o,T⟩
  · exact Ja
  cases r <;> first | exact Ja | skip
  rename_i y
  cases y <;> first | exact Ja | skip
  refine Jae Ja ?_
  generalize Jal P T=n
  cases n <;> first | exact Ja | exact Jae (Jae (Jac _) Ja) (Jae (Jac _) Ja)
 | indexAddr T x i=>exact Jd5 _ _ _ _
 | index T x i =>
  simp only [opK]
  generalize P.underlying T=u
  generalize ρ x=rx
  generalize ρ i=ri
  rcases u with _ | u
  · exact Ja
  have ok:∀ (y:RV) (f:(k:IntKind)→Int→(R:Type)→(Out→Option R)→Option R),(∀ k i,DetK (f k i))→DetK (fun R (K:Out→Option R)=>match y with | .pv (.v (.int k i))=>f k i R K | _=>none):=by
   intro y f hf
   rcases y with _ | _ | y | _ | _ | _ | _ | _ <;> first | exact Ja | skip
   rcases y with y | _ | _ | _ | _ <;> first | exact Ja | skip
   cases y <;> first | exact Ja | exact hf _ _
  cases u <;> first | exact Ja | skip
  all_goals
   rcases rx with _ | _ | y | _ | _ | _ | _ | _ <;> first | exact Ja | skip
   rcases y with y | _ | _ | _ | _ <;> first | exact Ja | skip
  · cases y <;> first | exact Ja | skip
    rcases ri with _ | _ | y | _ | _ | _ | _ | _ <;> first | exact Ja | skip
    rcases y with y | _ | _ | _ | _ <;> first | exact Ja | skip
    cases y <;> first | exact Ja | exact Jae (Jac _) Ja
  all_goals
   rcases ri with _ | _ | y | _ | _ | _ | _ | _ <;> first | exact Ja | skip
   rcases y with y | _ | _ | _ | _ <;> first | exact Ja | skip
   cases y <;> first | exact Ja | exact JfM _ _ _ _ _
 | makeMap T r =>
  simp only [opK]
  generalize Jg7 P T=m
  rcases m with _ | ⟨d,E⟩ <;> cases r <;> first | exact Ja | exact Jac _
 | lookup T x i ok=>exact JfQ _ _ _ _ _
 | mapUpdate T m k v=>exact Jdz _ _ _ _ _ _
 | insert T m k v=>exact Jdz _ _ _ _ _ _
 | extract x i =>
  simp only [opK]
  generalize ρ x=r
  cases r <;> first | exact Ja | skip
  rename_i s l
  simp only []
  generalize l.getD i .dead=y
  cases y <;> first | exact Ja | exact Jac _
 | call c =>
  obtain ⟨callee,args,tys⟩:=c
  simp only [opK]
  cases callee <;> first | exact Ja | exact Je7 _ _ _ _ | skip
  rename_i f
  simp only []
  generalize ρ f=r
  rcases r with _ | _ | y | _ | _ | _ | _ | _ <;> first | exact Ja | skip
  rcases y with y | _ | _ | _ | _ <;> first | exact Ja | skip
  · cases y <;> first | exact Ja | skip
    rename_i fn fi ca
    cases fn <;> first | exact Ja | skip
    rename_i g
    simp only []
    generalize fi.toList=l1
    generalize ca.toList=l2
    cases he:env g <;> cases l1 <;> cases l2 <;> first | exact Ja | exact JhN (henv _ _ he) _
  · rename_i g caps
    simp only []
    cases he:env g <;> first | exact Ja | exact Je8 (henv _ _ he) _
 | _=>exact Ja
theorem JjR (P:Program) {env:Env} (henv:JbF env) (fz:List Nat) (o:Oper) (ρ:Operand→RV):DetK (fun R K=>@opF R P env fz o ρ K):=by
 have h:=JjS P henv o.op o.type ρ
 unfold opF
 generalize o.op=op at h ⊢
 cases op <;> first | exact h | skip
 case assign x =>
  refine Jae ?_ h
  generalize ρ x=r
  cases r with
  | own s cx T es=>cases cx <;> first | exact Ja | exact Jac _
  | mp s cx d ks vs=>cases cx <;> first | exact Ja | exact Jac _
  | box s off T cs=>cases off <;> first | exact Ja | exact Jac _
  | _=>exact Ja
 case makeFunc f first caps =>
  cases f <;> first | exact h | skip
  refine Jae ?_ h
  generalize first.toList=l
  generalize caps.toList.map ρ=cs
  rcases l with _ | ⟨_,_⟩
  · rcases cs with _ | ⟨x,_ | ⟨y,l⟩⟩ <;> first | exact Ja | skip
    · cases x <;> first | exact Ja | exact Jae (Jac _) Ja
    · exact Jec fun R K res h=>by cases x <;> simp [Jfh] at h
  · exact Ja
 case convert src dst x=>exact Jae (Je9 _ _ _ _) h
 case build T parts =>
  refine Jae (JfP _ _ _ _) (Jae ?_ h)
  generalize parts.toList=l
  rcases l with _ | ⟨q,_ | ⟨q2,l⟩⟩
  · exact Ja
  · exact JfO _ _ _ _
  · exact Ja
 case load T x =>
  refine Jae ?_ (Jae ?_ h)
  · generalize Jal P T=n
    cases n <;> first | exact Ja | exact JhP _ _
  · generalize ρ x=r
    cases r <;> first | exact Ja | skip
    rename_i s off Tb cs
    show DetK (fun R K=>@Jfk R (.box s off Tb cs) K)
    unfold Jfk
    simp only []
    generalize cs.getD off .dead=y
    cases y <;> first | exact Ja | exact Jac _
 rename_i x
 simp only []
 generalize o.dst=d
 cases d with
 | none=>exact JbH _
 | some d =>
  refine Jae ?_ (by cases JaZ fz (4000000 + d) <;> first | exact Jac _ | exact JbH _)
  unfold JdG
  generalize Jbj (.tmp 0) (ρ x)=v
  rcases v with _ | ⟨y,us⟩ <;> first | exact Ja | exact Jac _
end
theorem Jdf {ρ ρ':Operand→RV}:∀ {l:List Operand},(∀ x∈l,ρ x=ρ' x)→(l.map fun q=>(q,ρ q))=(l.map fun q=>(q,ρ' q))
 | [],_=>rfl
 | x::l,h=>by rw [List.map_cons,List.map_cons,h x (List.mem_cons_self ..),Jdf fun y hy=>h y (List.mem_cons_of_mem _ hy)]
theorem Jg8 {ρ ρ':Operand→RV} {l:List Operand} (h:∀ x∈l,ρ x=ρ' x):l.map ρ=l.map ρ':=List.map_congr_left h
theorem Ji {R:Type} (P:Program) (env:Env) (o:Op) (ty:TypeId) {ρ ρ':Operand→RV} (h:∀ x∈o.operands.toList,ρ x=ρ' x) (K:Out→Option R):opK P env o ty ρ K=opK P env o ty ρ' K:=by
 cases o with
 | call c =>
  obtain ⟨callee,args,tys⟩:=c
  simp only [Op.operands,Call.operands] at h
  have hargs:args.toList.map ρ=args.toList.map ρ':=Jg8 fun x hx=>h x (by simp [hx])
  cases callee with
  | value f =>
   have hf:ρ f=ρ' f:=h f (by simp)
   simp only [opK,hf,hargs]
  | builtin b=>simp only [opK,hargs]
  | _=>rfl
 | build T parts =>
  have:(parts.toList.map fun q=>(q.2,ρ q.2))=(parts.toList.map fun q=>(q.2,ρ' q.2)) :=
   List.map_congr_left fun q hq=>by rw [h q.2 (by simp only [Op.operands]; exact List.mem_map.2 ⟨q,hq,rfl⟩)]
  simp only [opK,this]
 | buildSlice T n parts =>
  have:(parts.toList.map fun q=>(q.2,ρ q.2))=(parts.toList.map fun q=>(q.2,ρ' q.2)) :=
   List.map_congr_left fun q hq=>by rw [h q.2 (by simp only [Op.operands]; exact List.mem_map.2 ⟨q,hq,rfl⟩)]
  simp only [opK,this]
 | makeFunc f first caps =>
  have:(caps.toList.map fun q=>(q,ρ q))=(caps.toList.map fun q=>(q,ρ' q)):=Jdf fun x hx=>h x (by simp [Op.operands,hx])
  cases f <;> simp only [opK,this]
 | slice T x lo hi mx =>
  have hx:ρ x=ρ' x:=h x (by simp [Op.operands])
  have hlo:lo.map ρ=lo.map ρ':=by
   cases lo with
   | none=>rfl
   | some y=>simp only [Option.map_some]; rw [h y (by simp [Op.operands])]
  have hhi:hi.map ρ=hi.map ρ':=by
   cases hi with
   | none=>rfl
   | some y=>simp only [Option.map_some]; rw [h y (by simp [Op.operands])]
  simp only [opK,hx,hlo,hhi]
 | pick c a b =>
  have h1:ρ c=ρ' c:=h c (by simp [Op.operands])
  have h2:ρ a=ρ' a:=h a (by simp [Op.operands])
  have h3:ρ b=ρ' b:=h b (by simp [Op.operands])
  simp only [opK,h1,h2,h3]
 | store T a v =>
  have h1:ρ a=ρ' a:=h a (by simp [Op.operands])
  have h2:ρ v=ρ' v:=h v (by simp [Op.operands])
  simp only [opK,h1,h2]
 | binOp op T a v yT =>
  have h1:ρ a=ρ' a:=h a (by simp [Op.operands])
  have h2:ρ v=ρ' v:=h v (by simp [Op.operands])
  simp only [opK,h1,h2]
 | makeSlice T a v =>
  have h1:ρ a=ρ' a:=h a (by simp [Op.operands])
  have h2:ρ v=ρ' v:=h v (by simp [Op.operands])
  simp only [opK,h1,h2]
 | lookup T a v ok =>
  have h1:ρ a=ρ' a:=h a (by simp [Op.operands])
  have h2:ρ v=ρ' v:=h v (by simp [Op.operands])
  simp only [opK,h1,h2]
 | mapUpdate T a b v =>
  have h1:ρ a=ρ' a:=h a (by simp [Op.operands])
  have h2:ρ b=ρ' b:=h b (by simp [Op.operands])
  have h3:ρ v=ρ' v:=h v (by simp [Op.operands])
  simp only [opK,h1,h2,h3]
 | insert T a b v =>
  have h1:ρ a=ρ' a:=h a (by simp [Op.operands])
  have h2:ρ b=ρ' b:=h b (by simp [Op.operands])
  have h3:ρ v=ρ' v:=h v (by simp [Op.operands])
  simp only [opK,h1,h2,h3]
 | indexAddr T a v =>
  have h1:ρ a=ρ' a:=h a (by simp [Op.operands])
  have h2:ρ v=ρ' v:=h v (by simp [Op.operands])
  simp only [opK,h1,h2]
 | index T a v =>
  have h1:ρ a=ρ' a:=h a (by simp [Op.operands])
  have h2:ρ v=ρ' v:=h v (by simp [Op.operands])
  simp only [opK,h1,h2]
 | move x=>have hx:ρ x=ρ' x:=h x (by simp [Op.operands]); simp only [opK,hx]
 | assign x=>have hx:ρ x=ρ' x:=h x (by simp [Op.operands]); simp only [opK,hx]
 | box T x=>have hx:ρ x=ρ' x:=h x (by simp [Op.operands]); simp only [opK,hx]
 | load T x=>have hx:ρ x=ρ' x:=h x (by simp [Op.operands]); simp only [opK,hx]
 | nilCheck x=>have hx:ρ x=ρ' x:=h x (by simp [Op.operands]); simp only [opK,hx]
 | unOp op T x=>have hx:ρ x=ρ' x:=h x (by simp [Op.operands]); simp only [opK,hx]
 | convert s d x=>have hx:ρ x=ρ' x:=h x (by simp [Op.operands]); simp only [opK,hx]
 | fieldAddr S x f=>have hx:ρ x=ρ' x:=h x (by simp [Op.operands]); simp only [opK,hx]
 | field S x f=>have hx:ρ x=ρ' x:=h x (by simp [Op.operands]); simp only [opK,hx]
 | extract x i=>have hx:ρ x=ρ' x:=h x (by simp [Op.operands]); simp only [opK,hx]
 | alloc T=>rfl
 | _=>rfl
theorem Jh9 {R:Type} (P:Program) (env:Env) (fz:List Nat) (o:Oper) {ρ ρ':Operand→RV} (h:∀ x∈o.op.operands.toList,ρ x=ρ' x) (K:Out→Option R):opF P env fz o ρ K=opF P env fz o ρ' K:=by
 have hk:=Ji P env o.op o.type h K
 unfold opF
 generalize o.op=op at h hk ⊢
 cases op <;> first | exact hk | skip
 case build T parts =>
  have:(parts.toList.map fun q=>(q.2,ρ q.2))=(parts.toList.map fun q=>(q.2,ρ' q.2)) :=
   List.map_congr_left fun q hq=>by rw [h q.2 (by simp only [Op.operands]; exact List.mem_map.2 ⟨q,hq,rfl⟩)]
  have hq:∀ q∈parts.toList,ρ q.2=ρ' q.2:=fun q hq=>h q.2 (by simp only [Op.operands]; exact List.mem_map.2 ⟨q,hq,rfl⟩)
  have hm:(match parts.toList with
   | [q]=>Jc P T q.1 (ρ q.2) K
   | _=>none)=(match parts.toList with
   | [q]=>Jc P T q.1 (ρ' q.2) K
   | _=>none):=by
   generalize parts.toList=l at hq
   rcases l with _ | ⟨q,_ | ⟨q2,l⟩⟩
   · rfl
   · simp only [hq q (by simp)]
   · rfl
  show (bif Jcv fz o.dst then _ else bif JfX fz o.dst then (match parts.toList with
   | [q]=>Jc P T q.1 (ρ q.2) K
   | _=>none) else opK P env (.build T parts) o.type ρ K)=_
  rw [this,hk,hm]
  try rfl
 case load T x =>
  have hx:ρ x=ρ' x:=h x (by simp [Op.operands])
  simp only [hx,hk]
 case assign x =>
  have hx:ρ x=ρ' x:=h x (by simp [Op.operands])
  simp only [hx,hk]
 case convert src dst x =>
  have hx:ρ x=ρ' x:=h x (by simp [Op.operands])
  simp only [hx,hk]
 case makeFunc f first caps =>
  cases f <;> first | exact hk | skip
  have:caps.toList.map ρ=caps.toList.map ρ':=List.map_congr_left fun q hq=>h q (by simp only [Op.operands]; simp [Array.mem_toList_iff.1 hq])
  simp only [this,hk]
 rename_i x
 have hx:ρ x=ρ' x:=h x (by simp [Op.operands])
 simp only [hx]
theorem Jbi {l:List Nat} {s:Nat}:JaZ l s=true↔s∈l:=by
 induction l with
 | nil=>simp [JaZ]
 | cons x l ih =>
  simp only [JaZ,List.mem_cons]
  cases h:Nat.beq x s with
  | true=>simp only [cond_true,true_iff]; exact .inl (Nat.eq_of_beq_eq_true h).symm
  | false =>
   simp only [cond_false,ih]
   constructor
   · exact .inr
   · rintro (rfl | q)
     · rw [Nat.beq_refl] at h; cases h
     · exact q
theorem JkG (n:Nat):Nat.beq n n=true:=Nat.beq_refl n
theorem JgS {a b:Nat} (h:a≠b):Nat.beq a b=false:=by
 cases hq:Nat.beq a b with
 | false=>rfl
 | true=>exact absurd (Nat.eq_of_beq_eq_true hq) h
theorem Jcn:∀ {a b:List Nat},JcM a b=false→∀ x∈a,x∉b
 | [],b,_,x,hx=>by cases hx
 | y::a,b,h,x,hx=>by
  simp only [JcM,Bool.or_eq_false_iff] at h
  rcases List.mem_cons.1 hx with rfl | hx
  · intro q; rw [Jbi.2 q] at h; cases h.1
  · exact Jcn h.2 x hx
structure NoClash (a b:Fp):Prop where
 ww:∀ x∈a.wr,x∉b.wr
 wr:∀ x∈a.wr,x∉b.rd
 rw:∀ x∈a.rd,x∉b.wr
theorem Jj7 {a b:Fp} (h:JiT a b=false):NoClash a b:=by
 simp only [JiT,Bool.or_eq_false_iff] at h
 exact ⟨Jcn h.1.1,Jcn h.1.2,Jcn h.2⟩
theorem Jd0 (fr:Fr) (i:Nat) (x:SV):Jd8 fr i x i=x:=by simp only [Jd8,JkG,cond_true]
theorem JcB (fr:Fr) {i j:Nat} (x:SV) (h:j≠i):Jd8 fr i x j=fr j:=by simp only [Jd8,JgS h,cond_false]
theorem Ja6:∀ (l:List (Nat × SV)) (fr:Fr) (j:Nat),j∉l.map (·.1)→JaL fr l j=fr j
 | [],fr,j,_=>rfl
 | (i,x)::l,fr,j,h=>by
  simp only [List.map_cons,List.mem_cons,not_or] at h
  rw [JaL,Ja6 l _ j h.2,JcB _ _ h.1]
theorem Jd1:∀ (l:List (Nat × SV)) (fr fr':Fr) (j:Nat),j∈l.map (·.1)→JaL fr l j=JaL fr' l j
 | [],fr,fr',j,h=>by cases h
 | (i,x)::l,fr,fr',j,h=>by
  rw [JaL,JaL]
  by_cases hj:j∈l.map (·.1)
  · exact Jd1 l _ _ j hj
  · rw [Ja6 l _ j hj,Ja6 l _ j hj]
    have:j=i:=by
     rcases List.mem_cons.1 h with q | q
     · exact q
     · exact absurd q hj
    rw [this,Jd0,Jd0]
def Jer (d:Option Nat) (r:Out):List Nat:=d.toList++r.upd.map (·.1)++r.drop
def wrS (d:Option Nat) (r:Out) (st:St):List Nat:=Jer d r++JbV r.drop st.ral
theorem Jbs {st:St} {d:Option Nat} {r:Out} {j:Nat} (h:j∉Jer d r):(st.put d r).fr j=st.fr j:=by
 simp only [Jer,List.mem_append,not_or] at h
 cases d with
 | none=>exact Ja6 _ _ _ h.1.2
 | some d =>
  simp only [St.put]
  rw [JcB _ _ (by simpa using h.1.1),Ja6 _ _ _ h.1.2]
theorem Jfx {st st':St} {d:Option Nat} {r:Out} {j:Nat} (h:j∈d.toList++r.upd.map (·.1)):(st.put d r).fr j=(st'.put d r).fr j:=by
 rw [List.mem_append] at h
 cases d with
 | none=>exact Jd1 _ _ _ _ (by simpa using h)
 | some d =>
  simp only [St.put]
  by_cases hj:j=d
  · rw [hj,Jd0,Jd0]
  · rw [JcB _ _ hj,JcB _ _ hj]
    exact Jd1 _ _ _ _ (h.resolve_left (by simpa using hj))
theorem Ja9 {d:Option Nat} {drop:List Nat}:∀ {l:List (Nat × Ref)},Jas d drop l=true↔∀ x∈l,Jam d drop x.1 x.2=true
 | []=>by simp [Jas]
 | (t,r)::l=>by simp only [Jas,Bool.and_eq_true,List.mem_cons,Ja9,forall_eq_or_imp]
theorem Jff {drop:List Nat} {t:Nat} {q:Ref}:Jam none drop t q=!(q.cell&&JaZ drop q.root):=by simp [Jam]
theorem Jbh {d:Option Nat} {drop:List Nat}:∀ {l:List (Nat × Ref)},Jas d [] l=true→Jaf d drop l=Jaf none drop l
 | [],_=>rfl
 | (t,r)::l,h=>by
  simp only [Jas,Bool.and_eq_true] at h
  have e:Jam d drop t r=Jam none drop t r:=by
   have h1:=h.1
   unfold Jam at h1 ⊢
   cases d with
   | none=>rfl
   | some d =>
    simp only [Bool.and_eq_true] at h1
    simp only [h1.1.1,h1.1.2,Bool.true_and]
  rw [Jaf,Jaf,e,Jbh h.2]
theorem Jby {drop:List Nat}:∀ {l:List (Nat × Ref)} {x:Nat × Ref},x∈Jaf none drop l↔x∈l∧(x.2.cell&&JaZ drop x.2.root)=false
 | [],x=>by simp [Jaf]
 | (t,r)::l,x=>by
  have ih:=Jby (drop:=drop) (l:=l) (x:=x)
  rw [Jaf,Jff]
  cases hq:(r.cell&&JaZ drop r.root) with
  | true =>
   simp only [Bool.not_true,cond_false,ih,List.mem_cons]
   constructor
   · rintro ⟨a,b⟩; exact ⟨.inr a,b⟩
   · rintro ⟨a | a,b⟩
     · subst a; rw [hq] at b; cases b
     · exact ⟨a,b⟩
  | false =>
   simp only [Bool.not_false,cond_true,List.mem_cons,ih]
   constructor
   · rintro (a | a)
     · subst a; exact ⟨.inl rfl,hq⟩
     · exact ⟨.inr a.1,a.2⟩
   · rintro ⟨a | a,b⟩
     · exact .inl a
     · exact .inr ⟨a,b⟩
theorem Jc8 {drop:List Nat} {t:Nat}:∀ {l:List (Nat × Ref)},t∉JbV drop l→JaJ (Jaf none drop l) t=JaJ l t
 | [],_=>rfl
 | (u,r)::l,h=>by
  rw [Jaf,Jff]
  cases hq:(r.cell&&JaZ drop r.root) with
  | true =>
   simp only [JbV,hq,cond_true,List.mem_cons,not_or] at h
   rw [Bool.not_true,cond_false,Jc8 h.2,JaJ,JgS (Ne.symm h.1),cond_false]
  | false =>
   simp only [JbV,hq,cond_false] at h
   rw [Bool.not_false,cond_true,JaJ,JaJ,Jc8 h]
theorem JcP {drop:List Nat}:∀ {l:List (Nat × Ref)} {t:Nat},t∈JbV drop l↔∃ q,(t,q)∈l∧(q.cell&&JaZ drop q.root)=true
 | [],t=>by simp [JbV]
 | (u,r)::l,t=>by
  have ih:=JcP (drop:=drop) (l:=l) (t:=t)
  cases hq:(r.cell&&JaZ drop r.root) with
  | true =>
   simp only [JbV,hq,cond_true,List.mem_cons,ih]
   constructor
   · rintro (a | ⟨q,a,b⟩)
     · subst a; exact ⟨r,.inl rfl,hq⟩
     · exact ⟨q,.inr a,b⟩
   · rintro ⟨q,a | a,b⟩
     · cases a; exact .inl rfl
     · exact .inr ⟨q,a,b⟩
  | false =>
   simp only [JbV,hq,cond_false,ih,List.mem_cons]
   constructor
   · rintro ⟨q,a,b⟩; exact ⟨q,.inr a,b⟩
   · rintro ⟨q,a | a,b⟩
     · cases a; rw [hq] at b; cases b
     · exact ⟨q,a,b⟩
theorem Jeh {d e:List Nat}:∀ (l:List (Nat × Ref)),Jaf none d (Jaf none e l)=Jaf none e (Jaf none d l)
 | []=>rfl
 | (t,r)::l=>by
  have ih:=Jeh (d:=d) (e:=e) l
  simp only [Jaf]
  cases h1:Jam none d t r <;> cases h2:Jam none e t r <;> simp [Jaf,h1,h2,ih]
def Jb5 (d:Option Nat) (r:Out) (l:List (Nat × Ref)):List (Nat × Ref):=match d,r.ref with
 | some d,some q=>(d,q)::l
 | _,_=>l
theorem JbE {st:St} {d:Option Nat} {r:Out} (h:Jas d [] st.ral=true):(st.put d r).ral=Jb5 d r (Jaf none r.drop st.ral):=by
 simp only [St.put,Jb5]
 cases d with
 | none=>simp only [Jbh h]
 | some d =>
  cases hq:r.ref with
  | none=>simp only [Jbh h]
  | some q=>simp only [Jbh h]
theorem Jiu {d:Option Nat} {r:Out} {l:List (Nat × Ref)} {t:Nat} (h:t∉d.toList):JaJ (Jb5 d r l) t=JaJ l t:=by
 unfold Jb5
 cases d with
 | none=>rfl
 | some d =>
  cases r.ref with
  | none=>rfl
  | some q =>
   have:d≠t:=by rintro rfl; exact h (by simp)
   simp only [JaJ,JgS this,cond_false]
def Uq (st:St):Prop:=(st.ral.map (·.1)).Nodup
theorem Jcj:∀ {l:List (Nat × Ref)} {t:Nat} {q:Ref},(l.map (·.1)).Nodup→(JaJ l t=some q↔(t,q)∈l)
 | [],t,q,_=>by simp [JaJ]
 | (u,r)::l,t,q,h=>by
  simp only [List.map_cons,List.nodup_cons] at h
  rw [JaJ]
  by_cases e:u=t
  · subst e
    rw [JkG,cond_true]
    constructor
    · intro hq; cases hq; exact List.mem_cons_self ..
    · intro hq
      rcases List.mem_cons.1 hq with hq | hq
      · cases hq; rfl
      · exact absurd (List.mem_map.2 ⟨_,hq,rfl⟩) h.1
  · rw [JgS e,cond_false,Jcj h.2,List.mem_cons]
    constructor
    · exact .inr
    · rintro (hq | hq)
      · cases hq; exact absurd rfl e
      · exact hq
theorem JdL (d:Option Nat) (drop:List Nat):∀ (l:List (Nat × Ref)),(Jaf d drop l).Sublist l
 | []=>.slnil
 | (t,r)::l=>by
  rw [Jaf]
  cases Jam d drop t r with
  | true=>exact (JdL d drop l).cons_cons _
  | false=>exact (JdL d drop l).cons _
theorem JdK {d:Nat} {drop:List Nat}:∀ {l:List (Nat × Ref)} {x:Nat × Ref},x∈Jaf (some d) drop l→x.1≠d
 | (t,r)::l,x,h=>by
  rw [Jaf] at h
  cases hk:Jam (some d) drop t r with
  | false=>rw [hk] at h; exact JdK h
  | true =>
   rw [hk,cond_true] at h
   rcases List.mem_cons.1 h with rfl | h
   · intro e
     have e:t=d:=e
     subst e
     simp [Jam] at hk
   · exact JdK h
theorem Uq.put {st:St} (h:Uq st) (d:Option Nat) (r:Out):Uq (st.put d r):=by
 have hs:∀ d,((Jaf d r.drop st.ral).map (·.1)).Nodup:=fun d=>List.Nodup.sublist ((JdL d r.drop st.ral).map _) h
 unfold Uq
 simp only [St.put]
 cases d with
 | none=>exact hs none
 | some d =>
  cases r.ref with
  | none=>exact hs (some d)
  | some q =>
   simp only [List.map_cons,List.nodup_cons]
   refine ⟨fun hm=>?_,hs (some d)⟩
   obtain ⟨x,hx,e⟩:=List.mem_map.1 hm
   exact JdK hx e
structure Eqv (s s':St):Prop where
 fr:s.fr=s'.fr
 mem:∀ x,x∈s.ral↔x∈s'.ral
 u1:Uq s
 u2:Uq s'
theorem Eqv.refl {s:St} (h:Uq s):Eqv s s:=⟨rfl,fun _=>Iff.rfl,h,h⟩
theorem Eqv.trans {a b c:St} (h:Eqv a b) (g:Eqv b c):Eqv a c:=⟨h.fr.trans g.fr,fun x=>(h.mem x).trans (g.mem x),h.u1,g.u2⟩
theorem Eqv.rf {s s':St} (h:Eqv s s') (t:Nat):JaJ s.ral t=JaJ s'.ral t:=by
 cases hq:JaJ s.ral t with
 | some q=>rw [Jcj h.u1,h.mem,←Jcj h.u2] at hq; exact hq.symm
 | none =>
  cases hq':JaJ s'.ral t with
  | none=>rfl
  | some q=>rw [Jcj h.u2,←h.mem,←Jcj h.u1,hq] at hq'; cases hq'
theorem Eqv.look {s s':St} (h:Eqv s s') (t:Nat):look s t=look s' t:=by unfold Th.look; rw [h.rf t,h.fr]
theorem Eqv.opd {s s':St} (h:Eqv s s') (x:Operand):opd s x=opd s' x:=by cases x <;> simp only [Th.opd,h.look]
theorem Eqv.rdOps {s s':St} (h:Eqv s s'):∀ l,rdOps s l=rdOps s' l
 | []=>rfl
 | x::l=>by simp only [Th.rdOps,h.rdOps l]; cases x <;> simp only [Jli,h.rf]
theorem Eqv.keep {s s':St} (h:Eqv s s') {d:Option Nat} {drop:List Nat}:Jas d drop s.ral=Jas d drop s'.ral:=by
 rw [Bool.eq_iff_iff,Ja9,Ja9]
 exact ⟨fun q x hx=>q x ((h.mem x).2 hx),fun q x hx=>q x ((h.mem x).1 hx)⟩
structure FEq (f g:Fp):Prop where
 rd:f.rd=g.rd
 wr:∀ x,x∈f.wr↔x∈g.wr
 calm:f.calm=g.calm
theorem FEq.refl (f:Fp):FEq f f:=⟨rfl,fun _=>Iff.rfl,rfl⟩
theorem FEq.symm {f g:Fp} (h:FEq f g):FEq g f:=⟨h.rd.symm,fun x=>(h.wr x).symm,h.calm.symm⟩
theorem FEq.trans {f g k:Fp} (h:FEq f g) (h2:FEq g k):FEq f k:=⟨h.rd.trans h2.rd,fun x=>(h.wr x).trans (h2.wr x),h.calm.trans h2.calm⟩
theorem NoClash.feq {a b a' b':Fp} (h:NoClash a b) (ha:FEq a a') (hb:FEq b b'):NoClash a' b' :=
 ⟨fun x hx hy=>h.ww x ((ha.wr x).2 hx) ((hb.wr x).2 hy),fun x hx hy=>h.wr x ((ha.wr x).2 hx) (by rw [hb.rd]; exact hy),fun x hx hy=>h.rw x (by rw [ha.rd]; exact hx) ((hb.wr x).2 hy)⟩
theorem Eqv.fp {s s':St} (h:Eqv s s') (ops:List Oper) (o:Oper) (r:Out):FEq (JbJ ops o s r) (JbJ ops o s' r):=by
 refine ⟨by simp only [JbJ,h.rdOps],fun x=>?_,by simp only [JbJ,h.keep]⟩
 simp only [JbJ,List.mem_append,JcP,h.mem]
theorem Eqv.put {s s':St} (h:Eqv s s') {d:Option Nat} {r:Out} (hk:Jas d [] s.ral=true):Eqv (s.put d r) (s'.put d r):=by
 have hk':Jas d [] s'.ral=true:=by rw [←h.keep]; exact hk
 refine ⟨?_,fun x=>?_,h.u1.put d r,h.u2.put d r⟩
 · simp only [St.put,h.fr]
 · rw [JbE hk,JbE hk']
   unfold Jb5
   cases d with
   | none=>simp only [Jby,h.mem x]
   | some d =>
    cases r.ref with
    | none=>simp only [Jby,h.mem x]
    | some q=>simp only [List.mem_cons,Jby,h.mem x]
section
variable (P:Program) (env:Env) (fz:List Nat) (N:Nat × List Nat) (ops:List Oper)
def JgP (o:Oper) (st:St) (r:Out):Prop:=∀ (R:Type) (K:St→Out→Option R),Ja0 P env fz N ops o st K=K st r
variable {P env fz N ops}
theorem Jck {st:St} {d:Nat} {t:Bool} (h:st.fr d=.p (.v (.bool t))):Jhx st d t=st:=by
 cases st with
 | mk fr ral =>
  simp only [Jhx]
  congr 1
  funext j
  by_cases hj:j=d
  · subst hj; rw [Jd0]; exact h.symm
  · rw [JcB _ _ hj]
theorem JfW (henv:JbF env) {o:Oper} {st:St} {R:Type} {K:St→Out→Option R} {res:R} (h:goO P env fz N o st K=some res) :
 ∃ r,K st r=some res∧∀ (R':Type) (K':St→Out→Option R'),goO P env fz N o st K'=K' st r:=by
 unfold goO at h
 obtain ⟨r,h1,h2⟩:=(JjR P henv fz o (opd st)).some h
 cases hf:r.fits N o.dst with
 | false=>rw [hf] at h1; cases h1
 | true =>
  rw [hf,cond_true] at h1
  exact ⟨r,h1,fun R' K'=>by unfold goO; rw [h2,hf,cond_true]⟩
theorem Jgc {o:Oper} {st:St} {R:Type} {K:St→Out→Option R} {res:R} (h:skO N o st K=some res) :
 ∃ r,K st r=some res∧∀ (R':Type) (K':St→Out→Option R'),skO N o st K'=K' st r:=by
 unfold skO at h
 cases hf:JcA.fits N o.dst with
 | false=>rw [hf] at h; cases h
 | true =>
  rw [hf,cond_true] at h
  exact ⟨_,h,fun R' K'=>by unfold skO; rw [hf,cond_true]⟩
theorem JeP (henv:JbF env) {o:Oper} {st:St} {R:Type} {K:St→Out→Option R} {res:R} (h:Ja0 P env fz N ops o st K=some res):∃ r,K st r=some res∧JgP P env fz N ops o st r:=by
 unfold Ja0 at h
 split at h
 · rename_i hg
   obtain ⟨r,h1,h2⟩:=JfW henv h
   exact ⟨r,h1,fun R' K'=>by unfold Ja0; rw [hg]; exact h2 R' K'⟩
 · rename_i j want hg
   split at h
   · cases h
   · rename_i d hd
     split at h
     · cases h
     · rename_i hr
       split at h
       · rename_i t ht
         cases t with
         | true =>
          rw [cond_true,Jck ht] at h
          cases want with
          | true =>
           rw [cond_true] at h
           obtain ⟨r,h1,h2⟩:=JfW henv h
           exact ⟨r,h1,fun R' K'=>by unfold Ja0; rw [hg]; simp only [hd,hr,ht,cond_true]; rw [Jck ht]; exact h2 R' K'⟩
          | false =>
           rw [cond_false] at h
           obtain ⟨r,h1,h2⟩:=Jgc h
           exact ⟨r,h1,fun R' K'=>by unfold Ja0; rw [hg]; simp only [hd,hr,ht,cond_true,cond_false]; rw [Jck ht]; exact h2 R' K'⟩
         | false =>
          rw [cond_false,Jck ht] at h
          cases want with
          | true =>
           rw [cond_true] at h
           obtain ⟨r,h1,h2⟩:=Jgc h
           exact ⟨r,h1,fun R' K'=>by unfold Ja0; rw [hg]; simp only [hd,hr,ht,cond_true,cond_false]; rw [Jck ht]; exact h2 R' K'⟩
          | false =>
           rw [cond_false] at h
           obtain ⟨r,h1,h2⟩:=JfW henv h
           exact ⟨r,h1,fun R' K'=>by unfold Ja0; rw [hg]; simp only [hd,hr,ht,cond_false]; rw [Jck ht]; exact h2 R' K'⟩
       · rename_i c ht
         obtain ⟨r,h1,h2⟩:=Jgc h
         exact ⟨r,h1,fun R' K'=>by unfold Ja0; rw [hg]; simp only [hd,hr,ht]; exact h2 R' K'⟩
       · cases h
theorem Jcz {o:Oper} {st st':St} (hgd:∀ d∈Jhs ops o,JaJ st.ral d=JaJ st'.ral d∧st.fr d=st'.fr d) (hop:∀ x∈o.op.operands.toList,opd st x=opd st' x) {r:Out}
 (h:JgP P env fz N ops o st r):JgP P env fz N ops o st' r:=by
 have hgo:∀ (R:Type) (K:Out→Option R),goO P env fz N o st (fun _ r=>K r)=goO P env fz N o st' (fun _ r=>K r):=fun R K=>by
  unfold goO; exact Jh9 P env fz o hop _
 intro R K
 have h0:Ja0 P env fz N ops o st (fun _ r=>K st' r)=K st' r:=h R fun _ r=>K st' r
 rw [←h0]
 unfold Ja0
 split
 · exact (hgo R fun r=>K st' r).symm
 · rename_i j want hg
   simp only [Jhs,hg] at hgd
   split
   · rfl
   · rename_i d hd
     simp only [hd,List.mem_singleton,forall_eq] at hgd
     rw [hgd.1]
     split
     · rfl
     · rw [hgd.2]
       split
       · rename_i t ht
         have e1:goO P env fz N o st' K=goO P env fz N o st (fun _ r=>K st' r):=(hgo R fun r=>K st' r).symm
         have e2:skO N o st' K=skO N o st (fun _ r=>K st' r):=rfl
         have ht2:st.fr d=.p (.v (.bool t)):=hgd.2.trans ht
         cases t <;> cases want <;> simp only [cond_true,cond_false] <;> rw [Jck ht,Jck ht2] <;> first | exact e1 | exact e2
       · rfl
       · rfl
end
end Go.Proofs.YtgglhmfncoeffaaGreatDoor.Th
set_option linter.unusedVariables false
set_option linter.unusedSimpArgs false
namespace Go.Proofs.YtgglhmfncoeffaaGreatDoor.Th
open Go
section
variable {P:Program} {env:Env} {fz:List Nat} {N:Nat × List Nat} {ops:List Oper}
theorem JgL {d:Option Nat} {r:Out} {st:St} {t:Nat} (h:t∉wrS d r st):t∉Jer d r∧t∉JbV r.drop st.ral:=by
 unfold wrS at h; rw [List.mem_append,not_or] at h; exact h
theorem JkO {d:Option Nat} {r:Out} {t:Nat} (h:t∉Jer d r):t∉d.toList∧t∉r.drop:=by
 unfold Jer at h; simp only [List.mem_append,not_or] at h; exact ⟨h.1.1,h.2⟩
theorem Jir {st:St}:∀ {l:List Operand} {t:Nat},Operand.tmp t∈l→t∈rdOps st l∧∀ q,JaJ st.ral t=some q→q.root∈rdOps st l
 | x::l,t,h=>by
  rcases List.mem_cons.1 h with rfl | h
  · simp only [rdOps,Jli]
    cases hq:JaJ st.ral t with
    | none=>exact ⟨by simp,fun q e=>by cases e⟩
    | some q=>exact ⟨by simp,fun q' e=>by cases e; simp⟩
  · obtain ⟨h1,h2⟩:=Jir h
    exact ⟨List.mem_append_right _ h1,fun q e=>List.mem_append_right _ (h2 q e)⟩
theorem Jcq {st:St} {d:Option Nat} {r:Out} (hk:Jas d [] st.ral=true) {t:Nat} (ht:t∉wrS d r st):JaJ (st.put d r).ral t=JaJ st.ral t:=by
 obtain ⟨h1,h2⟩:=JgL ht
 rw [JbE hk,Jiu (JkO h1).1,Jc8 h2]
theorem Jh1 {st:St} {d:Option Nat} {r:Out} (hk:Jas d [] st.ral=true) {t:Nat} (ht:t∉wrS d r st) (hr:∀ q,JaJ st.ral t=some q→q.root∉wrS d r st):look (st.put d r) t=look st t:=by
 have hf:=Jcq hk ht
 unfold look
 rw [hf]
 cases hq:JaJ st.ral t with
 | none=>simp only [Jbs (JgL ht).1]
 | some q =>
  have:=Jbs (st:=st) (JgL (hr q hq)).1
  cases q with
  | o s j=>cases j <;> simp only [Jd4,Ref.root] at this ⊢ <;> rw [this]
  | b s off=>simp only [Jd4,Ref.root] at this ⊢; rw [this]
  | c s g=>simp only [Jd4,Ref.root] at this ⊢; rw [this]
  | e s j T i off=>cases j <;> simp only [Jd4,Ref.root] at this ⊢ <;> rw [this]
theorem Jc7 {st:St} {d:Option Nat} {r:Out} (hk:Jas d [] st.ral=true):∀ {l:List Operand},(∀ t,Operand.tmp t∈l→t∉wrS d r st)→rdOps (st.put d r) l=rdOps st l
 | [],_=>rfl
 | x::l,h=>by
  rw [rdOps,rdOps,Jc7 hk fun t ht=>h t (List.mem_cons_of_mem _ ht)]
  congr 1
  cases x with
  | tmp t=>simp only [Jli,Jcq hk (h t (List.mem_cons_self ..))]
  | _=>rfl
theorem JfC {o:Oper} {st:St} {d:Option Nat} {ra r:Out} (hk:Jas d [] st.ral=true)
 (hrd:∀ t,(t∈Jhs ops o∨Operand.tmp t∈o.op.operands.toList)→t∉wrS d ra st) (hroot:∀ t q,(t∈Jhs ops o∨Operand.tmp t∈o.op.operands.toList)→JaJ st.ral t=some q→q.root∉wrS d ra st) :
 JgP P env fz N ops o (st.put d ra) r↔JgP P env fz N ops o st r:=by
 have hg:∀ t∈Jhs ops o,JaJ (st.put d ra).ral t=JaJ st.ral t∧(st.put d ra).fr t=st.fr t:=fun t ht =>
  ⟨Jcq hk (hrd t (.inl ht)),Jbs (JgL (hrd t (.inl ht))).1⟩
 have ho:∀ x∈o.op.operands.toList,opd (st.put d ra) x=opd st x:=fun x hx=>by
  cases x with
  | tmp t=>exact Jh1 hk (hrd t (.inr hx)) fun q e=>hroot t q (.inr hx) e
  | _=>rfl
 exact ⟨fun h=>Jcz hg ho h,fun h=>Jcz (fun t ht=>⟨(hg t ht).1.symm,(hg t ht).2.symm⟩) (fun x hx=>(ho x hx).symm) h⟩
theorem Jcd {d:Option Nat} {drop:List Nat} {t:Nat} {q:Ref} (h1:t∉d.toList) (h2:q.root∉d.toList) (h3:q.root∉drop):Jam d drop t q=true:=by
 unfold Jam
 have:JaZ drop q.root=false:=by
  cases h:JaZ drop q.root with
  | false=>rfl
  | true=>exact absurd (Jbi.1 h) h3
 rw [this]
 cases d with
 | none=>simp
 | some d =>
  have e1:Nat.beq t d=false:=JgS (by rintro rfl; exact h1 (by simp))
  have e2:Nat.beq q.root d=false:=JgS (by intro e; exact h2 (by simp [e]))
  simp [e1,e2]
theorem Jfm {st:St} {d:Option Nat} {ra:Out} {D:List Nat} (hk:Jas d [] st.ral=true) (hD:∀ x∈ra.drop,x∉D) (hr:∀ d' q,d=some d'→ra.ref=some q→q.root∉D) (x:Nat) :
 x∈JbV D (st.put d ra).ral↔x∈JbV D st.ral:=by
 rw [JbE hk,JcP,JcP]
 have low:(∃ q,(x,q)∈Jaf none ra.drop st.ral∧(q.cell&&JaZ D q.root)=true)↔(∃ q,(x,q)∈st.ral∧(q.cell&&JaZ D q.root)=true):=by
  constructor
  · rintro ⟨q,a,b⟩; exact ⟨q,(Jby.1 a).1,b⟩
  · rintro ⟨q,a,b⟩
    refine ⟨q,Jby.2 ⟨a,?_⟩,b⟩
    simp only [Bool.and_eq_true] at b
    cases hm:JaZ ra.drop q.root with
    | false=>simp
    | true=>exact absurd (Jbi.1 b.2) (hD _ (Jbi.1 hm))
 unfold Jb5
 cases d with
 | none=>exact low
 | some d' =>
  cases hq:ra.ref with
  | none=>exact low
  | some q0 =>
   simp only [List.mem_cons]
   refine Iff.trans ⟨?_,?_⟩ low
   · rintro ⟨q,a | a,b⟩
     · cases a
       simp only [Bool.and_eq_true] at b
       exact absurd (Jbi.1 b.2) (hr _ q0 rfl hq)
     · exact ⟨q,a,b⟩
   · rintro ⟨q,a,b⟩; exact ⟨q,.inr a,b⟩
theorem JhJ {st:St} {d d2:Option Nat} {ra:Out} (hk:Jas d [] st.ral=true) (h:Jas d2 [] (st.put d ra).ral=true) (hD:∀ x∈ra.drop,x∉d2.toList) (hL:∀ t∈JbV ra.drop st.ral,t∉d2.toList) :
 Jas d2 [] st.ral=true:=by
 rw [Ja9] at h ⊢
 intro x hx
 by_cases hl:(x.2.cell&&JaZ ra.drop x.2.root)=true
 · refine Jcd (hL x.1 (JcP.2 ⟨x.2,hx,hl⟩)) (hD _ ?_) (by simp)
   simp only [Bool.and_eq_true] at hl
   exact Jbi.1 hl.2
 · refine h x ?_
   rw [JbE hk]
   have hm:x∈Jaf none ra.drop st.ral:=Jby.2 ⟨hx,by simpa using hl⟩
   unfold Jb5
   cases d with
   | none=>exact hm
   | some d=>cases ra.ref with
    | none=>exact hm
    | some q=>exact List.mem_cons_of_mem _ hm
theorem JjO {st:St} {d d2:Option Nat} {rb:Out} (hk:Jas d2 [] st.ral=true) (h:Jas d [] st.ral=true) (hd:∀ x∈d2.toList,x∉d.toList) (hr:∀ q,rb.ref=some q→q.root∉d.toList) :
 Jas d [] (st.put d2 rb).ral=true:=by
 rw [JbE hk,Ja9]
 rw [Ja9] at h
 have low:∀ x∈Jaf none rb.drop st.ral,Jam d [] x.1 x.2=true:=fun x hx=>h x (Jby.1 hx).1
 unfold Jb5
 intro x hx
 cases hd2:d2 with
 | none=>rw [hd2] at hx; exact low x hx
 | some e =>
  cases hq:rb.ref with
  | none=>rw [hd2,hq] at hx; exact low x hx
  | some q =>
   rw [hd2,hq] at hx
   rcases List.mem_cons.1 hx with rfl | hx
   · exact Jcd (hd e (by rw [hd2]; simp)) (hr q hq) (by simp)
   · exact low x hx
theorem Jlz {a b:Oper} {st:St} {ra rb:Out} (hu:Uq st) (h1:JgP P env fz N ops a st ra) (k1:(JbJ ops a st ra).calm=true) (h2:JgP P env fz N ops b (st.put a.dst ra) rb) (k2:(JbJ ops b (st.put a.dst ra) rb).calm=true)
 (hn:NoClash (JbJ ops a st ra) (JbJ ops b (st.put a.dst ra) rb)) :
 JgP P env fz N ops b st rb∧FEq (JbJ ops b st rb) (JbJ ops b (st.put a.dst ra) rb)∧JgP P env fz N ops a (st.put b.dst rb) ra∧FEq (JbJ ops a (st.put b.dst rb) ra) (JbJ ops a st ra) ∧
  Eqv ((st.put a.dst ra).put b.dst rb) ((st.put b.dst rb).put a.dst ra):=by
 have ka:Jas a.dst [] st.ral=true:=k1
 have kb1:Jas b.dst [] (st.put a.dst ra).ral=true:=k2
 have inA:∀ {t},t∈Jer a.dst ra→t∈(JbJ ops a st ra).wr:=fun {t} q=>List.mem_append_left _ q
 have inB:∀ {t},t∈Jer b.dst rb→t∈(JbJ ops b (st.put a.dst ra) rb).wr:=fun {t} q=>List.mem_append_left _ q
 have dA:∀ {t},t∈a.dst.toList→t∈Jer a.dst ra:=fun {t} q=>by unfold Jer; simp only [List.mem_append]; exact .inl (.inl q)
 have dB:∀ {t},t∈b.dst.toList→t∈Jer b.dst rb:=fun {t} q=>by unfold Jer; simp only [List.mem_append]; exact .inl (.inl q)
 have pA:∀ {t},t∈ra.drop→t∈Jer a.dst ra:=fun {t} q=>by unfold Jer; simp only [List.mem_append]; exact .inr q
 have pB:∀ {t},t∈rb.drop→t∈Jer b.dst rb:=fun {t} q=>by unfold Jer; simp only [List.mem_append]; exact .inr q
 have refB:∀ q,rb.ref=some q→q.root∈(JbJ ops b (st.put a.dst ra) rb).rd:=fun q e=>by simp only [JbJ,e,List.mem_append]; exact .inr (by simp)
 have refA:∀ q,ra.ref=some q→q.root∈(JbJ ops a st ra).rd:=fun q e=>by simp only [JbJ,e,List.mem_append]; exact .inr (by simp)
 have bt:∀ t,(t∈Jhs ops b∨Operand.tmp t∈b.op.operands.toList)→t∉wrS a.dst ra st:=fun t ht q=>by
  refine hn.wr t q ?_
  simp only [JbJ,List.mem_append]
  rcases ht with ht | ht
  · exact .inl (.inl ht)
  · exact .inl (.inr (Jir ht).1)
 have hrf:∀ t,t∉wrS a.dst ra st→JaJ (st.put a.dst ra).ral t=JaJ st.ral t:=fun t ht=>Jcq ka ht
 have gdNone:∀ {o:Oper} {s:St} {r:Out},JgP P env fz N ops o s r→∀ t∈Jhs ops o,JaJ s.ral t=none:=fun {o s r} hs t ht=>by
  have h0:=hs Unit fun _ _=>some ()
  unfold Jhs at ht
  split at ht
  · rename_i j want hg
    split at ht
    · rename_i d hd
      simp only [List.mem_singleton] at ht
      subst ht
      unfold Ja0 at h0
      rw [hg] at h0
      simp only [hd] at h0
      cases hq:JaJ s.ral t with
      | none=>rfl
      | some q=>rw [hq] at h0; cases h0
    · cases ht
  · cases ht
 have bq:∀ t q,(t∈Jhs ops b∨Operand.tmp t∈b.op.operands.toList)→JaJ st.ral t=some q→q.root∉wrS a.dst ra st:=fun t q ht hq hx=>by
  rcases ht with ht | ht
  · have:=gdNone h2 t ht
    rw [hrf t (bt t (.inl ht)),hq] at this
    cases this
  · refine hn.wr q.root hx ?_
    simp only [JbJ,List.mem_append]
    exact .inl (.inr ((Jir ht).2 q (by rw [hrf t (bt t (.inr ht))]; exact hq)))
 have sb:JgP P env fz N ops b st rb:=(JfC ka bt bq).1 h2
 have kb:Jas b.dst [] st.ral=true:=JhJ ka kb1 (fun x hx q=>hn.ww x (inA (pA hx)) (inB (dB q))) (fun t ht q=>hn.ww t (List.mem_append_right _ ht) (inB (dB q)))
 have lb:∀ x,x∈JbV rb.drop (st.put a.dst ra).ral↔x∈JbV rb.drop st.ral:=Jfm ka (fun x hx q=>hn.ww x (inA (pA hx)) (inB (pB q))) (fun d' q e1 e2 q'=>hn.rw q.root (refA q e2) (inB (pB q')))
 have efb:FEq (JbJ ops b st rb) (JbJ ops b (st.put a.dst ra) rb):=by
  refine ⟨?_,fun x=>?_,?_⟩
  · simp only [JbJ]; rw [Jc7 ka fun t ht=>bt t (.inr ht)]
  · simp only [JbJ,List.mem_append,lb]
  · simp only [JbJ]; rw [kb,kb1]
 have hn':=hn.feq (FEq.refl _) efb.symm
 have at_:∀ t,(t∈Jhs ops a∨Operand.tmp t∈a.op.operands.toList)→t∉wrS b.dst rb st:=fun t ht=>by
  refine hn'.rw t ?_
  simp only [JbJ,List.mem_append]
  rcases ht with ht | ht
  · exact .inl (.inl ht)
  · exact .inl (.inr (Jir ht).1)
 have aq:∀ t q,(t∈Jhs ops a∨Operand.tmp t∈a.op.operands.toList)→JaJ st.ral t=some q→q.root∉wrS b.dst rb st:=fun t q ht hq=>by
  rcases ht with ht | ht
  · rw [gdNone h1 t ht] at hq; cases hq
  · refine hn'.rw q.root ?_
    simp only [JbJ,List.mem_append]
    exact .inl (.inr ((Jir ht).2 q hq))
 have sa:JgP P env fz N ops a (st.put b.dst rb) ra:=(JfC kb at_ aq).2 h1
 have ka2:Jas a.dst [] (st.put b.dst rb).ral=true:=JjO kb ka (fun x hx q=>hn.ww x (inA (dA q)) (inB (dB hx))) (fun q e q'=>hn.wr q.root (inA (dA q')) (refB q e))
 have la:∀ x,x∈JbV ra.drop (st.put b.dst rb).ral↔x∈JbV ra.drop st.ral:=Jfm kb (fun x hx q=>hn.ww x (inA (pA q)) (inB (pB hx))) (fun d' q e1 e2 q'=>hn.wr q.root (inA (pA q')) (refB q e2))
 have efa:FEq (JbJ ops a (st.put b.dst rb) ra) (JbJ ops a st ra):=by
  refine ⟨?_,fun x=>?_,?_⟩
  · simp only [JbJ]; rw [Jc7 kb fun t ht=>at_ t (.inr ht)]
  · simp only [JbJ,List.mem_append,la]
  · simp only [JbJ]; rw [ka,ka2]
 refine ⟨sb,efb,sa,efa,?_⟩
 have ww:∀ x∈Jer a.dst ra,x∉Jer b.dst rb:=fun x hx q=>hn.ww x (inA hx) (inB q)
 refine ⟨?_,?_,(hu.put _ _).put _ _,(hu.put _ _).put _ _⟩
 · funext j
   by_cases hb:j∈Jer b.dst rb
   · have ha:j∉Jer a.dst ra:=fun q=>ww j q hb
     rw [Jbs (st:=st.put b.dst rb) ha]
     by_cases hb2:j∈b.dst.toList++rb.upd.map (·.1)
     · exact Jfx hb2
     · -- a slot that is dropped alone
       have:∀ s:St,(s.put b.dst rb).fr j=s.fr j:=fun s=>by
        rw [List.mem_append,not_or] at hb2
        cases hd:b.dst with
        | none=>exact Ja6 _ _ _ hb2.2
        | some d =>
         simp only [St.put]
         rw [JcB _ _ (by rw [hd] at hb2; simpa using hb2.1),Ja6 _ _ _ hb2.2]
       rw [this,this,Jbs ha]
   · rw [Jbs (st:=st.put a.dst ra) hb]
     by_cases ha2:j∈a.dst.toList++ra.upd.map (·.1)
     · exact Jfx ha2
     · have:∀ s:St,(s.put a.dst ra).fr j=s.fr j:=fun s=>by
        rw [List.mem_append,not_or] at ha2
        cases hd:a.dst with
        | none=>exact Ja6 _ _ _ ha2.2
        | some d =>
         simp only [St.put]
         rw [JcB _ _ (by rw [hd] at ha2; simpa using ha2.1),Ja6 _ _ _ ha2.2]
       rw [this,this,Jbs hb]
 · intro x
   rw [JbE kb1,JbE ka2,JbE ka,JbE kb]
   have addK:∀ {d:Option Nat} {r:Out} {D:List Nat} {l:List (Nat × Ref)},(∀ q,r.ref=some q→q.root∉D)→Jaf none D (Jb5 d r l)=Jb5 d r (Jaf none D l):=by
    intro d r D l hr
    unfold Jb5
    cases d with
    | none=>rfl
    | some d =>
     cases hq:r.ref with
     | none=>rfl
     | some q =>
      simp only [Jaf]
      rw [Jcd (d:=none) (t:=d) (by simp) (by simp) (hr q hq),cond_true]
   rw [addK (fun q e q'=>hn.rw q.root (refA q e) (inB (pB q'))),addK (fun q e q'=>hn.wr q.root (inA (pA q')) (refB q e)),Jeh]
   unfold Jb5
   cases a.dst <;> cases ra.ref <;> cases b.dst <;> cases rb.ref <;> first | exact Iff.rfl | (simp only [List.mem_cons]; constructor <;> (rintro (h | h | h) <;> simp [h]))
structure Ev where
 i:Nat
 o:Oper
 r:Out
 f:Fp
variable (P env fz N ops)
inductive Runs:List Ev→St→St→Prop
 | nil (st:St):Runs [] st st
 | cons {i:Nat} {o:Oper} {r:Out} {f:Fp} {l:List Ev} {st s':St}:JgP P env fz N ops o st r→f.calm=true→FEq f (JbJ ops o st r)→Runs l (st.put o.dst r) s'→Runs (⟨i,o,r,f⟩::l) st s'
variable {P env fz N ops}
theorem Runs.eqv {l:List Ev} {st s':St} (h:Runs P env fz N ops l st s'):∀ {st2:St},Eqv st st2→∃ s2,Runs P env fz N ops l st2 s2∧Eqv s' s2:=by
 induction h with
 | nil st=>intro st2 e; exact ⟨st2,.nil _,e⟩
 | @cons i o r f l st s' h1 h2 h3 h4 ih =>
  intro st2 e
  have hk:Jas o.dst [] st.ral=true:=by rw [h3.calm] at h2; exact h2
  obtain ⟨s2,q1,q2⟩:=ih (e.put hk)
  refine ⟨s2,.cons ?_ h2 (h3.trans (e.fp _ _ _)) q1,q2⟩
  exact Jcz (fun d _=>⟨e.rf d,by rw [e.fr]⟩) (fun x _=>e.opd x) h1
theorem Runs.uq {l:List Ev} {st s':St} (h:Runs P env fz N ops l st s'):Uq st→Uq s':=by
 induction h with
 | nil st=>exact id
 | cons _ _ _ _ ih=>exact fun hu=>ih (hu.put _ _)
theorem Runs.front {y:Ev} {l:List Ev}:∀ {pre:List Ev} {st s':St},Uq st→Runs P env fz N ops (pre++y::l) st s'→(∀ x∈pre,NoClash x.f y.f)→∃ s2,Runs P env fz N ops (y::(pre++l)) st s2∧Eqv s' s2
 | [],st,s',hu,h,_=>⟨s',h,.refl (h.uq hu)⟩
 | x::pre,st,s',hu,h,hn=>by
  cases h with
  | @cons i a ra f _ _ _ h1 h2 h3 h4 =>
   obtain ⟨s2,q1,q2⟩:=Runs.front (hu.put _ _) h4 fun x hx=>hn x (List.mem_cons_of_mem _ hx)
   cases q1 with
   | @cons j b rb g _ _ _ k1 k2 k3 k4 =>
    have hnc:NoClash f g:=hn ⟨i,a,ra,f⟩ (List.mem_cons_self ..)
    obtain ⟨e1,e2,e3,e4,e5⟩:=Jlz hu h1 (by rw [←h3.calm]; exact h2) k1 (by rw [←k3.calm]; exact k2) (hnc.feq h3 k3)
    obtain ⟨s3,r1,r2⟩:=k4.eqv e5
    exact ⟨s3,.cons e1 k2 (k3.trans e2.symm) (.cons e3 h2 (h3.trans e4.symm) r1),q2.trans r2⟩
end
end Go.Proofs.YtgglhmfncoeffaaGreatDoor.Th
set_option linter.unusedVariables false
set_option linter.unusedSimpArgs false
namespace Go.Proofs.YtgglhmfncoeffaaGreatDoor.Th
open Go
section
variable {P:Program} {env:Env} {fz:List Nat} {N:Nat × List Nat} {ops:List Oper}
theorem Jf (henv:JbF env) (o:Oper) (st:St):DetK (fun R (K:Out→Option R)=>Ja0 P env fz N ops o st fun _ r=>K r) :=
 Jec fun R K res h=>by
  obtain ⟨r,_,h2⟩:=JeP henv h
  exact ⟨r,fun R' K'=>h2 R' fun _ r=>K' r⟩
theorem Jim (henv:JbF env) {o:Oper} {st:St} {R:Type} (K:St→Out→Option R):Ja0 P env fz N ops o st K=Ja0 P env fz N ops o st fun _ r=>K st r:=by
 cases h:Ja0 P env fz N ops o st K with
 | some res =>
  obtain ⟨r,h1,h2⟩:=JeP henv h
  rw [h2 R fun _ r=>K st r,h1]
 | none =>
  cases h':Ja0 P env fz N ops o st (fun _ r=>K st r) with
  | none=>rfl
  | some res =>
   obtain ⟨r,h1,h2⟩:=JeP henv h'
   rw [h2 R K] at h
   have h1:K st r=some res:=h1
   rw [h1] at h; cases h
theorem Jgr (henv:JbF env):∀ (l:List Oper) (st:St),DetK (fun R K=>@Jhf R P env fz N ops l st K)
 | [],st=>Jac st
 | o::l,st=>by
  have:(fun (R:Type) (K:St→Option R)=>Jhf P env fz N ops (o::l) st K)=fun R K=>Ja0 P env fz N ops o st fun _ r=>Jhf P env fz N ops l (st.put o.dst r) K:=by
   funext R K
   simp only [Jhf]
   rw [Jim henv]
  rw [this]
  exact Jan (f:=fun R (K:Out→Option R)=>Ja0 P env fz N ops o st fun _ r=>K r) (g:=fun r R K=>Jhf P env fz N ops l (st.put o.dst r) K) (Jf henv o st) fun r=>Jgr henv l _
theorem Jgq (henv:JbF env):∀ (l:List Oper) (st:St) (tr:List Fp),DetK (fun R (K:St × List Fp→Option R)=>@Jhe R P env fz N ops l st tr fun s t=>K (s,t))
 | [],st,tr=>Jac (st,tr)
 | o::l,st,tr=>by
  have:(fun (R:Type) (K:St × List Fp→Option R)=>Jhe P env fz N ops (o::l) st tr fun s t=>K (s,t))=fun R K=>Ja0 P env fz N ops o st fun _ r=>Jhe P env fz N ops l (st.put o.dst r) (tr++[JbJ ops o st r]) fun s t=>K (s,t):=by
   funext R K
   simp only [Jhe]
   rw [Jim henv]
  rw [this]
  exact Jan (f:=fun R (K:Out→Option R)=>Ja0 P env fz N ops o st fun _ r=>K r) (g:=fun r R K=>Jhe P env fz N ops l (st.put o.dst r) (tr++[JbJ ops o st r]) fun s t=>K (s,t)) (Jf henv o st) fun r=>Jgq henv l _ _
theorem Ji6 (henv:JbF env) (draw:Bool) (fr:Fr):DetK (fun R K=>@JgG R P env fz N ops draw fr K):=by
 unfold JgG
 refine Jae (Jae ?_ Ja) ?_
 · exact Jan (f:=fun R (K:St × List Fp→Option R)=>Jhe P env fz N ops ops ⟨fr,[]⟩ [] fun s t=>K (s,t)) (g:=fun x R K=>bif JdR ops x.2 then K x.1.fr else none) (Jgq henv ops _ _) fun x=>Jae (Jac _) Ja
 · exact Jan (f:=fun R K=>Jhf P env fz N ops ops ⟨fr,[]⟩ K) (g:=fun s R K=>K s.fr) (Jgr henv ops _) fun s=>Jac _
def JhA (f:(R:Type)→Kc R→Option R):Prop:=DetK (fun R (K:Ex × Fr→Option R)=>f R fun e fr=>K (e,fr))
theorem JaN (e:Ex) (fr:Fr):JhA (fun R K=>K e fr):=Jac (e,fr)
theorem JbG:JhA (fun R K=>none):=Ja
theorem JcJ {f:(R:Type)→Kc R→Option R} {g:Ex→Fr→(R:Type)→Kc R→Option R} (hf:JhA f) (hg:∀ e fr,JhA (g e fr)):JhA (fun R K=>f R fun e fr=>g e fr R K) :=
 Jan (f:=fun R (K:Ex × Fr→Option R)=>f R fun e fr=>K (e,fr)) (g:=fun x R (K:Ex × Fr→Option R)=>g x.1 x.2 R fun e fr=>K (e,fr)) hf fun x=>hg x.1 x.2
theorem Jgm {c:Bool} {f g:(R:Type)→Kc R→Option R} (hf:JhA f) (hg:JhA g):JhA (fun R K=>bif c then f R K else g R K):=by cases c; exact hg; exact hf
theorem Jeb {f:(R:Type)→Fr→Kc R→Option R} (hf:∀ fr,JhA (fun R K=>f R fr K)) (live out:Lv):∀ (n:Nat) (vs:List SV),JhA (fun R K=>Jdc (f R) live out n vs K)
 | 0,vs=>JbG
 | n + 1,vs=>JcJ (f:=fun R K=>f R (lk live vs) K) (g:=fun e fr R K=>match e with
  | .normal=>Jdc (f R) live out n (Jdk live fr) K
  | .exit i=>K (.exit i) (lk out (Jdk out fr))
  | .ret=>K .ret (lk out (Jdk out fr))) (hf _) fun e fr=>by
   cases e with
   | normal=>exact Jeb hf live out n _
   | exit i=>exact JaN _ _
   | ret=>exact JaN _ _
theorem JjQ (henv:JbF env) (ann:Ann) (n:Nat):∀ (c:Code) (fr:Fr),JhA (fun R K=>@evC R P env ann n N c fr K):=by
 intro c
 induction c with
 | skip=>intro fr; exact JaN _ _
 | exit i=>intro fr; exact JaN _ _
 | ret=>intro fr; exact JaN _ _
 | region id ops draw =>
  intro fr
  exact Jan (f:=fun R K=>JgG P env ann.frz N ops.toList draw fr K) (g:=fun fr' R (K:Ex × Fr→Option R)=>K (.normal,fr')) (Ji6 henv draw fr) fun fr'=>Jac _
 | seq a b iha ihb =>
  intro fr
  refine JcJ (f:=fun R K=>evC P env ann n N a fr K) (g:=fun e fr' R K=>match e with
   | .normal=>(match Jev ann.cuts b with
    | some (live,out)=>JfU (fun f k=>evC P env ann n N b f k) live out (Jdk live fr') K
    | none=>evC P env ann n N b fr' K)
   | .exit i=>K (.exit i) fr'
   | .ret=>K .ret fr') (iha fr) fun e fr'=>?_
  cases e with
  | normal =>
   simp only []
   generalize Jev ann.cuts b=q
   rcases q with _ | ⟨live,out⟩
   · exact ihb fr'
   · exact JcJ (f:=fun R K=>evC P env ann n N b (lk live (Jdk live fr')) K) (g:=fun e fr R K=>K e (lk out (Jdk out fr))) (ihb _) fun e fr=>JaN _ _
  | exit i=>exact JaN _ _
  | ret=>exact JaN _ _
 | cond c a b iha ihb =>
  intro fr
  unfold evC
  generalize opd ⟨fr,[]⟩ c=r
  rcases r with _ | _ | y | _ | _ | _ | _ | _ <;> first | exact JbG | skip
  rcases y with y | _ | _ | _ | _ <;> first | exact JbG | skip
  cases y <;> first | exact JbG | exact Jgm (iha fr) (ihb fr)
 | block id a ih =>
  intro fr
  refine JcJ (f:=fun R K=>evC P env ann n N a fr K) (g:=fun e fr' R K=>match e with
   | .exit i=>bif Nat.beq i id then K .normal fr' else K (.exit i) fr'
   | .normal=>K .normal fr'
   | .ret=>K .ret fr') (ih fr) fun e fr'=>?_
  cases e with
  | normal=>exact JaN _ _
  | exit i=>exact Jgm (JaN _ _) (JaN _ _)
  | ret=>exact JaN _ _
 | loop a ih =>
  intro fr
  unfold evC
  generalize Jev ann.loops a=q
  rcases q with _ | ⟨live,out⟩
  · exact JbG
  · exact Jeb (f:=fun R f k=>evC P env ann n N a f k) ih live out n _
 | _=>intro fr; exact JbG
theorem Jgp (ann:Ann) (fn:Func) (args:List SV) (fr:Fr):DetK (fun R K=>@Jhq R P ann fn args fr K):=by
 unfold Jhq
 generalize Jbz P (fn.ntmps,JaM 0 args) ann.rm fn.results.toList fr=q
 rcases q with _ | fr
 · exact Ja
 simp only []
 generalize JiF P fr ann.rm fn.results.toList=a
 generalize JfJ fr (JaM 0 args)=b
 cases a <;> cases b <;> first | exact Ja | exact Jae (Jac _) Ja
theorem Ji0 (henv:JbF env) (ann:Ann) (n:Nat) (fn:Func) (args:List SV):DetK (fun R K=>@Jhp R P env ann n fn args K):=by
 unfold Jhp
 generalize fn.body=c
 rcases c with _ | c
 · exact Ja
 refine Jae ?_ Ja
 refine Jan (f:=fun R (K:Ex × Fr→Option R)=>evC P env ann n (fn.ntmps,JaM 0 args) c (JhC args) fun e fr=>K (e,fr)) (g:=fun x R K=>match x.1 with
  | .exit _=>none
  | .normal=>Jhq P ann fn args x.2 K
  | .ret=>Jhq P ann fn args x.2 K) (JjQ henv ann n c _) fun x=>?_
 rcases x with ⟨e,fr⟩
 cases e with
 | exit i=>exact Ja
 | normal=>exact Jgp ann fn args fr
 | ret=>exact Jgp ann fn args fr
end
end Go.Proofs.YtgglhmfncoeffaaGreatDoor.Th
set_option linter.unusedVariables false
namespace Go.Proofs.YtgglhmfncoeffaaGreatDoor.Th
open Go
def Jbw (es:List PV):List PV:=es.flatMap Jad
theorem JkF {a b:Nat} (h:a≠b):Nat.beq a b=false:=by
 cases hb:Nat.beq a b with
 | false=>rfl
 | true=>exact absurd (Nat.eq_of_beq_eq_true hb) h
theorem Jl (a:Nat):Nat.beq a a=true:=Nat.beq_refl a
theorem neB {a b:Nat} (h:Nat.beq a b=false):a≠b:=fun e=>by rw [e,Jl] at h; cases h
theorem eqB {a b:Nat} (h:Nat.beq a b=true):a=b:=Nat.eq_of_beq_eq_true h
def CellsAt (F:Nat→Prop) (w:World) (a:Option Addr) (xs:List Value):Prop :=
 xs=[]∨∃ b off,a=some ⟨b,off,none⟩∧F b∧∀ j x,xs[j]? = some x→w.cell? ⟨b,off + j,none⟩=some x
def JkB (es:Array MapEntry) (kv vv:List Value):Prop:=es.toList.map (·.key)=kv∧es.toList.map (·.val)=vv
def Jja (size:Nat) (cur:Array Value) (fz:Nat × Nat):Prop:=fz=(0,0)∨(size=1∧cur.size≤fz.1)
def ownsG (w:World) (e:TypeId) (size:Nat) (v:Value) (n:Nat) (xs:List Value):Prop :=
 xs.length=n * size ∧
 ((v=.slice none 0 0∧n=0) ∨
  ∃ g cap cur fz,v=.slice (some ⟨g,0,none⟩) n cap∧Jja size cur fz∧w.heap[g]? = some (.cells cur e fz)∧n≤cap∧cap≤maxLen∧cur.size=cap * size∧cur.toList.take (n * size)=xs)
section
variable {w:World} {base:Nat} {e:TypeId} {size:Nat} {v:Value} {n:Nat} {xs:List Value}
theorem ownsG.of (h:w.ownsRow base e size v n xs):ownsG w e size v n xs:=by
 refine ⟨h.1,?_⟩
 rcases h.2 with hn | ⟨g,cap,cur,hv,_,hg,rest⟩
 · exact .inl hn
 · exact .inr ⟨g,cap,cur,(0,0),hv,.inl rfl,hg,rest⟩
theorem ownsG.lt (h:ownsG w e size v n xs):∀ k,v.ownBlock=some k→k<w.heap.size:=by
 intro k hk
 rcases h.2 with ⟨rfl,_⟩ | ⟨g,cap,cur,fz,rfl,_,hg,_⟩
 · simp [Value.ownBlock] at hk
 · simp [Value.ownBlock] at hk
   subst hk
   exact (Array.getElem?_eq_some_iff.1 hg).1
theorem ownsG.cells (h:ownsG w e size v n xs) {g:Nat} (hg:v.ownBlock=some g):∀ j u,xs[j]? = some u→w.cell? ((⟨g,0,none⟩:Addr).add j)=some u:=by
 intro j u hu
 rcases h.2 with ⟨rfl,_⟩ | ⟨g',cap,cur,fz,rfl,_,hgg,_,_,_,htake⟩
 · simp [Value.ownBlock] at hg
 · simp [Value.ownBlock] at hg
   subst hg
   have hadd:(⟨g',0,none⟩:Addr).add j=⟨g',j,none⟩:=by unfold Addr.add; split <;> simp_all
   rw [hadd,cell_of_row w g' j cur e fz hgg]
   rw [←htake,List.getElem?_take] at hu
   split at hu
   · simpa using hu
   · cases hu
theorem ownsG.cellAt {g cap:Nat} (h:ownsG w e size (.slice (some ⟨g,0,none⟩) n cap) n xs) (j:Nat) (hj:j<n * size):w.cell? ⟨g,j,none⟩=xs[j]? := by
 rcases h.2 with ⟨h',_⟩ | ⟨g',cap',cur,fz,h',_,hg,_,_,_,htake⟩
 · simp at h'
 · simp only [Value.slice.injEq,Option.some.injEq,Addr.mk.injEq,and_true,true_and] at h'
   obtain ⟨rfl,rfl⟩:=h'
   rw [cell_of_row w g j cur e fz hg,←htake,List.getElem?_take,if_pos hj]
   simp
theorem ownsG.nil (w:World) (e:TypeId) (size:Nat):ownsG w e size (.slice none 0 0) 0 []:=⟨by simp,.inl ⟨rfl,rfl⟩⟩
end
theorem JaQ (P:Program) (g o:Nat) (t:TypeId) (size:Nat) (fz:Nat × Nat):∀ (vs:List Value) (i:Nat) (cur:Array Value) (w:World),w.heap[g]? = some (.cells cur t fz)→Jja size cur fz→o + i + vs.length≤cur.size→(∀ v∈vs,v.oneCell'=true) →
 (storeCells ⟨g,o,none⟩ vs i).run P w=.ok () (w.setRow g (cur.toList.take (o + i)++vs++cur.toList.drop (o + i + vs.length)).toArray)
 | [],i,cur,w,hg,_,_,_=>by
  simp only [storeCells,List.append_nil,List.length_nil,Nat.add_zero,List.take_append_drop,Array.toArray_toList]
  rw [setRow_self w g cur t fz hg]
  rfl
 | v::rest,i,cur,w,hg,hfz,hl,h1=>by
  have hi:o + i<cur.size:=by simp at hl; omega
  have hadd:(⟨g,o,none⟩:Addr).add i=⟨g,o + i,none⟩:=by unfold Addr.add; split <;> simp_all
  have hcell:w.cell? ⟨g,o + i,none⟩=some cur[o + i]:=by simp [World.cell?,hg,hi]
  have hfro:w.frozen? ⟨g,o + i,none⟩=false:=by
   obtain ⟨lo,hi'⟩:=fz
   simp only [World.frozen?,hg,Bool.and_eq_false_iff,decide_eq_false_iff_not]
   rcases hfz with q | ⟨_,q⟩
   · cases q; right; omega
   · left; simp only at q; omega
  have hst:(store ((⟨g,o,none⟩:Addr).add i) v).run P w=.ok () (w.setRow g (cur.setIfInBounds (o + i) v)):=by
   rw [hadd,run_store P w _ v _ (h1 v (by simp)),hcell]
   simp [hfro,setCell_eq_setRow w g (o + i) cur t fz v hg]
  have ih:=JaQ P g o t size fz rest (i + 1) (cur.setIfInBounds (o + i) v) (w.setRow g (cur.setIfInBounds (o + i) v)) (setRow_heap w g cur _ t _ hg) (by simpa [Jja] using hfz) (by simp at hl ⊢; omega) (fun x hx=>h1 x (by simp [hx]))
  simp only [storeCells,Sem.run_bind,hst,Result.andThen_ok,ih,setRow_setRow]
  congr 3
  have e:=list_seg_step cur.toList (o + i) v rest (by simp at hl ⊢; omega)
  simpa [Array.toList_setIfInBounds,Nat.add_assoc] using e
mutual
inductive RP (F:Nat→Prop) (w:World):PV→Value→Prop
 | v (x:Value):RP F w (.v x) x
 | agg {cs:List PV} {vs:List Value}:RPs F w cs vs→Jat cs=true→RP F w (.agg cs) (.agg vs.toArray)
 | sh {es:List PV} {xs:List Value} {a:Option Addr} {n cap sz:Nat}:RPs F w (Jbw es) xs→(∀ e∈es,(Jad e).length=sz∧Jat (Jad e)=true)→0<sz →
  CellsAt F w a xs→n=es.length→n≤cap→cap≤maxLen→RP F w (.sh es) (.slice a n cap)
 | clo {f:FuncId} {caps:List PV} {vs:List Value}:RPs F w caps vs→RP F w (.clo f caps) (.func (.func f) #[] vs.toArray)
 | fb {cs:List PV} {xs:List Value} {b off:Nat}:RPs F w cs xs→Jat cs=true→CellsAt F w (some ⟨b,off,none⟩) xs→RP F w (.fb cs) (.pointer (some ⟨b,off,none⟩))
 | fm {d:Option IntKind} {ks vs:List PV} {kv vv:List Value} {b:Nat} {es:Array MapEntry} {clock:Nat}:RPs F w ks kv→RPs F w vs vv→F b→w.heap[b]? = some (.map es clock)→JkB es kv vv →
  (∀ k∈ks,Jb7 d k=true)→RP F w (.fm d ks vs) (.map (some b))
inductive RPs (F:Nat→Prop) (w:World):List PV→List Value→Prop
 | nil:RPs F w [] []
 | cons {x:PV} {c:Value} {l:List PV} {cs:List Value}:RP F w x c→RPs F w l cs→RPs F w (x::l) (c::cs)
end
mutual
inductive RS (P:Program) (F:Nat→Prop) (w:World):SV→Value→List Nat→Prop
 | dead (c:Value):RS P F w .dead c []
 | nl:RS P F w .nl (.slice none 0 0) []
 | p {x:PV} {c:Value}:RP F w x c→RS P F w (.p x) c []
 | own {T:TypeId} {es:List PV} {c:Value} {xs:List Value} {i:TypeInfo} {z:Value}:P.info? T=some i→i.zero=some z→z.cells.size=i.size→0<i.size →
  ownsG w T i.size c es.length xs→RPs F w (Jbw es) xs→(∀ e∈es,(Jad e).length=i.size∧Jat (Jad e)=true)→RS P F w (.own T es) c c.ownBlock.toList
 | bx {T:TypeId} {cs:List SV} {b:Nat} {cur:Array Value} {B:List Nat}:w.heap[b]? = some (.cells cur T (0,0))→RSs P F w cs cur.toList B→(∀ x∈cur.toList,x.oneCell'=true) →
  RS P F w (.bx T cs) (.pointer (some ⟨b,0,none⟩)) (b::B)
 | tup {l:List SV} {vs:List Value} {B:List Nat}:RSs P F w l vs B→RS P F w (.tup l) (.tuple vs.toArray) B
 | ob {T e:TypeId} {bs:ByteArray} {b:Nat} {p v:Value}:w.heap[b]? = some (.cells #[p,v] T (0,0))→(p=.pointer none∨p=.pointer (some ⟨b,0,none⟩)) →
  w.ownsRowF 0 e 1 v bs.size (Lib.byteCells bs.data.toList)→v.ownBlock≠some b→RS P F w (.ob T e bs) (.pointer (some ⟨b,0,none⟩)) (b::v.ownBlock.toList)
 | st {cs:List SV} {vs:List Value} {B:List Nat}:RSs P F w cs vs B→(∀ x∈vs,x.oneCell'=true)→RS P F w (.st cs) (.agg vs.toArray) B
 | mp {d:Option IntKind} {ks vs:List PV} {kv vv:List Value} {b:Nat} {es:Array MapEntry} {clock:Nat}:RPs F w ks kv→RPs F w vs vv→w.heap[b]? = some (.map es clock)→JkB es kv vv →
  (∀ k∈ks,Jb7 d k=true)→RS P F w (.mp d ks vs) (.map (some b)) [b]
inductive RSs (P:Program) (F:Nat→Prop) (w:World):List SV→List Value→List Nat→Prop
 | nil:RSs P F w [] [] []
 | cons {x:SV} {c:Value} {l:List SV} {cs:List Value} {B Bs:List Nat}:RS P F w x c B→RSs P F w l cs Bs→RSs P F w (x::l) (c::cs) (B++Bs)
end
theorem JgW {w w':World} {b off:Nat} (h:w'.heap[b]? = w.heap[b]?):w'.cell? ⟨b,off,none⟩=w.cell? ⟨b,off,none⟩ :=
 World.cell?_of_block (w:=w) (w':=w') (a:=⟨b,off,none⟩) h
theorem CellsAt.mono {F F':Nat→Prop} {w w':World} {a:Option Addr} {xs:List Value} (h:CellsAt F w a xs) (hF:∀ b,F b→F' b)
 (hw:∀ b,F b→w'.heap[b]? = w.heap[b]?):CellsAt F' w' a xs:=by
 rcases h with h | ⟨b,off,ha,hb,hc⟩
 · exact .inl h
 · exact .inr ⟨b,off,ha,hF b hb,fun j x hj=>by rw [JgW (hw b hb)]; exact hc j x hj⟩
section
variable {F F':Nat→Prop} {w w':World}
theorem RP.mono {x:PV} {c:Value} (h:RP F w x c) (hF:∀ b,F b→F' b) (hw:∀ b,F b→w'.heap[b]? = w.heap[b]?):RP F' w' x c:=by
 refine RP.rec (motive_1:=fun x c _=>RP F' w' x c) (motive_2:=fun l cs _=>RPs F' w' l cs) ?_ ?_ ?_ ?_ ?_ ?_ ?_ ?_ h
 · intro x; exact .v x
 · intro cs vs _ hl ih; exact .agg ih hl
 · intro es xs a n cap sz _ h1 h2 h3 h4 h5 h6 ih; exact .sh ih h1 h2 (h3.mono hF hw) h4 h5 h6
 · intro f caps vs _ ih; exact .clo ih
 · intro cs xs b off _ hl hc ih; exact .fb ih hl (hc.mono hF hw)
 · intro d ks vs kv vv b es clock _ _ hb hm he hk i1 i2; exact .fm i1 i2 (hF b hb) (by rw [hw b hb]; exact hm) he hk
 · exact .nil
 · intro x c l cs _ _ i1 i2; exact .cons i1 i2
theorem RPs.mono {x:List PV} {c:List Value} (h:RPs F w x c) (hF:∀ b,F b→F' b) (hw:∀ b,F b→w'.heap[b]? = w.heap[b]?):RPs F' w' x c:=by
 induction x generalizing c with
 | nil=>cases h; exact .nil
 | cons x l ih=>cases h with | cons h1 h2=>exact .cons (h1.mono hF hw) (ih h2)
end
theorem Jhh {w w':World} {T:TypeId} {size:Nat} {c:Value} {n:Nat} {xs:List Value} (h:ownsG w T size c n xs)
 (hw:∀ b,b∈c.ownBlock.toList→w'.heap[b]? = w.heap[b]?):ownsG w' T size c n xs:=by
 refine ⟨h.1,?_⟩
 rcases h.2 with hn | ⟨g,cap,cur,fz,rfl,hb,hg,rest⟩
 · exact .inl hn
 · exact .inr ⟨g,cap,cur,fz,rfl,hb,by rw [hw g (by simp [Value.ownBlock])]; exact hg,rest⟩
theorem Jf8 {w w':World} {T:TypeId} {size:Nat} {c:Value} {n:Nat} {xs:List Value} (h:w.ownsRowF 0 T size c n xs)
 (hw:∀ b,b∈c.ownBlock.toList→w'.heap[b]? = w.heap[b]?):w'.ownsRowF 0 T size c n xs:=by
 refine ⟨h.1,?_⟩
 rcases h.2 with hn | ⟨g,cap,cur,fz,rfl,hb,hg,rest⟩
 · exact .inl hn
 · exact .inr ⟨g,cap,cur,fz,rfl,hb,by rw [hw g (by simp [Value.ownBlock])]; exact hg,rest⟩
section
variable {P:Program} {F F':Nat→Prop} {w w':World}
theorem RS.mono {x:SV} {c:Value} {B:List Nat} (h:RS P F w x c B) (hF:∀ b,F b→F' b) (hw:∀ b,(F b∨b∈B)→w'.heap[b]? = w.heap[b]?):RS P F' w' x c B:=by
 have key:∀ {x:SV} {c:Value} {B:List Nat},RS P F w x c B→(∀ b,(F b∨b∈B)→w'.heap[b]? = w.heap[b]?)→RS P F' w' x c B:=by
  intro x c B h
  refine RS.rec (motive_1:=fun x c B _=>(∀ b,(F b∨b∈B)→w'.heap[b]? = w.heap[b]?)→RS P F' w' x c B)
   (motive_2:=fun l cs B _=>(∀ b,(F b∨b∈B)→w'.heap[b]? = w.heap[b]?)→RSs P F' w' l cs B) ?_ ?_ ?_ ?_ ?_ ?_ ?_ ?_ ?_ ?_ ?_ h
  · intro c _; exact .dead c
  · intro _; exact .nl
  · intro x c hx hw; exact .p (hx.mono hF fun b hb=>hw b (.inl hb))
  · intro T es c xs i z h1 h2 h3 h4 h5 h6 h7 hw
    exact .own h1 h2 h3 h4 (Jhh h5 fun b hb=>hw b (.inr hb)) (h6.mono hF fun b hb=>hw b (.inl hb)) h7
  · intro T cs b cur B hb _ ho ih hw
    exact .bx (by rw [hw b (.inr (by simp))]; exact hb) (ih fun b' hb'=>hw b' (hb'.imp id fun h=>List.mem_cons_of_mem _ h)) ho
  · intro l vs B _ ih hw; exact .tup (ih hw)
  · intro T e bs b p v hb hp ho hne hw
    exact .ob (by rw [hw b (.inr (by simp))]; exact hb) hp (Jf8 ho fun b' hb'=>hw b' (.inr (List.mem_cons_of_mem _ hb'))) hne
  · intro cs vs B _ ho ih hw; exact .st (ih hw) ho
  · intro d ks vs kv vv b es clock h1 h2 hm he hk hw
    exact .mp (h1.mono hF fun b hb=>hw b (.inl hb)) (h2.mono hF fun b hb=>hw b (.inl hb)) (by rw [hw b (.inr (by simp))]; exact hm) he hk
  · intro _; exact .nil
  · intro x c l cs B Bs _ _ i1 i2 hw
    exact .cons (i1 fun b hb=>hw b (hb.imp id fun h=>List.mem_append_left _ h)) (i2 fun b hb=>hw b (hb.imp id fun h=>List.mem_append_right _ h))
 exact key h hw
theorem RSs.mono {x:List SV} {c:List Value} {B:List Nat} (h:RSs P F w x c B) (hF:∀ b,F b→F' b) (hw:∀ b,(F b∨b∈B)→w'.heap[b]? = w.heap[b]?):RSs P F' w' x c B:=by
 induction x generalizing c B with
 | nil=>cases h; exact .nil
 | cons x l ih =>
  cases h with
  | cons h1 h2=>exact .cons (h1.mono hF fun b hb=>hw b (hb.imp id fun h=>List.mem_append_left _ h)) (ih h2 fun b hb=>hw b (hb.imp id fun h=>List.mem_append_right _ h))
end
structure Keep (W:World) (A:Nat→Prop) (w:World):Prop where
 os:w.os=W.os
 tape:w.tape=W.tape
 output:w.output=W.output
 size:W.heap.size≤w.heap.size
 block:∀ b,b<W.heap.size→¬ A b→w.heap[b]? = W.heap[b]?
def JcU (P:Program) (fr:Fr) (tm:Array Value) (w:World):Ref→Value→Prop
 | .o s none,c=>c=tm.getD s undef
 | .o s (some j),c=>∀ T cs b cur T' f,fr s=.bx T cs→tm.getD s undef=.pointer (some ⟨b,0,none⟩)→w.heap[b]? = some (.cells cur T' f)→cur.toList[j]? = some c
 | .b s off,c=>∀ b,tm.getD s undef=.pointer (some ⟨b,0,none⟩)→c=.pointer (some ⟨b,off,none⟩)
 | .c s g,c=>∀ b,tm.getD s undef=.pointer (some ⟨b,0,none⟩)→c=.func (.func g) #[] #[.pointer (some ⟨b,0,none⟩)]
 | .e s none T i off,c=>∃ g n cap,tm.getD s undef=.slice (some ⟨g,0,none⟩) n cap∧i<n∧∃ sz,Jal P T=some sz∧c=.pointer (some ⟨g,i * sz + off,none⟩)
 | .e s (some j) T i off,c=>∀ Tb cs b cur T' f,fr s=.bx Tb cs→tm.getD s undef=.pointer (some ⟨b,0,none⟩)→w.heap[b]? = some (.cells cur T' f) →
  ∃ g n cap,cur.toList[j]? = some (.slice (some ⟨g,0,none⟩) n cap)∧i<n∧∃ sz,Jal P T=some sz∧c=.pointer (some ⟨g,i * sz + off,none⟩)
structure GInv where
 ok:(Nat→Prop)→World→Prop
 st:∀ (F F':Nat→Prop) (W w:World),ok F W→(∀ b,F b→F' b)→(∀ b,F b→b<W.heap.size)→(∀ b,F b→w.heap[b]? = W.heap[b]?)→ok F' w
def GInv.none:GInv:=⟨fun _ _=>True,fun _ _ _ _ _ _ _ _=>trivial⟩
structure Gd where
 W:World
 A:Nat→Prop
 F0:Nat→Prop
 N:Nat × List Nat
 V:Nat→Value
 I:GInv
 hI:∀ (F:Nat→Prop) (w:World),(∀ b,F0 b→F b)→Keep W A w→I.ok F w
 D:List Deferred:=[]
structure Rel (P:Program) (G:Gd) (F:Nat→Prop) (Bs:Nat→List Nat) (st:St) (tm:Array Value) (w:World):Prop where
 sz:tm.size=G.N.1
 sl:∀ i,RS P F w (st.fr i) (tm.getD i undef) (Bs i)
 nd:∀ i,(Bs i).Nodup
 dj:∀ i j b,i≠j→b∈Bs i→b∉Bs j
 nf:∀ i b,b∈Bs i→¬ F b
 nw:∀ i b,b∈Bs i→G.W.heap.size≤b∨G.A b
 lt:∀ i b,b∈Bs i→b<w.heap.size
 fl:∀ b,F b→b<w.heap.size
 f0:∀ b,G.F0 b→F b
 fn:∀ b,F b→G.F0 b∨G.W.heap.size≤b∨G.A b
 kb:Keep G.W G.A w
 rf:∀ t r,(t,r)∈st.ral→JcU P st.fr tm w r (tm.getD t undef)
 pn:∀ i∈G.N.2,tm.getD i undef=G.V i
def upB (Bs:Nat→List Nat) (s:Nat) (B:List Nat):Nat→List Nat:=fun i=>if i=s then B else Bs i
theorem Jaj (Bs:Nat→List Nat) (s:Nat) (B:List Nat):upB Bs s B s=B:=by simp [upB]
theorem Jah (Bs:Nat→List Nat) {s i:Nat} (B:List Nat) (h:i≠s):upB Bs s B i=Bs i:=by simp [upB,h]
theorem JaT (fr:Fr) (s:Nat) (x:SV):Jd8 fr s x s=x:=by simp [Jd8]
theorem Jau (fr:Fr) {s i:Nat} (x:SV) (h:i≠s):Jd8 fr s x i=fr i:=by
 simp [Jd8,JkF h]
theorem Jbg {tm:Array Value} {d:Nat} {c:Value} (h:d<tm.size):(tm.setIfInBounds d c).getD d undef=c:=by simp [h]
theorem Jaz {tm:Array Value} {d i:Nat} {c:Value} (h:i≠d):(tm.setIfInBounds d c).getD i undef=tm.getD i undef:=by
 simp [Array.getElem?_setIfInBounds_ne (Ne.symm h)]
theorem Jfy {t:Nat} {r:Ref}:∀ {l:List (Nat × Ref)},JaJ l t=some r→(t,r)∈l
 | [],h=>by simp [JaJ] at h
 | (u,q)::l,h=>by
  simp only [JaJ] at h
  cases hu:Nat.beq u t with
  | true =>
   simp only [hu,cond_true,Option.some.injEq] at h
   have:=Nat.eq_of_beq_eq_true hu
   subst this; subst h
   exact List.mem_cons_self
  | false =>
   simp only [hu,cond_false] at h
   exact List.mem_cons_of_mem _ (Jfy h)
theorem Jcp {d:Option Nat} {drop:List Nat} {t:Nat} {r:Ref}:∀ {l:List (Nat × Ref)},(t,r)∈Jaf d drop l→(t,r)∈l∧Jam d drop t r=true
 | [],h=>by simp [Jaf] at h
 | (u,q)::l,h=>by
  simp only [Jaf] at h
  cases hk:Jam d drop u q with
  | false =>
   simp only [hk,cond_false] at h
   exact ⟨List.mem_cons_of_mem _ (Jcp h).1,(Jcp h).2⟩
  | true =>
   simp only [hk,cond_true,List.mem_cons] at h
   rcases h with h | h
   · cases h; exact ⟨List.mem_cons_self,hk⟩
   · exact ⟨List.mem_cons_of_mem _ (Jcp h).1,(Jcp h).2⟩
theorem Jjd {d:Nat} {drop:List Nat} {t:Nat} {r:Ref} (h:Jam (some d) drop t r=true):t≠d∧r.root≠d:=by
 simp only [Jam,Bool.and_eq_true,Bool.not_eq_true'] at h
 exact ⟨neB h.1.1,neB h.1.2⟩
theorem JbK (d:Option Nat) (drop:List Nat):∀ l:List (Nat × Ref),Jaf d [] (Jaf none drop l)=Jaf d drop l
 | []=>rfl
 | (t,r)::l=>by
  have ih:=JbK d drop l
  have e:Jam d drop t r=(Jam none drop t r&&Jam d [] t r):=by
   cases d <;> simp [Jam,JaZ,Bool.and_comm]
  simp only [Jaf]
  cases h1:Jam none drop t r <;> cases h2:Jam d [] t r <;> simp [e,h1,h2,Jaf,ih]
def St.upS (st:St) (us:List (Nat × SV)) (drop:List Nat):St:={ fr:=JaL st.fr us,ral:=Jaf none drop st.ral }
theorem Jko (st:St) (d:Option Nat) (x:SV) (r:Option Ref) (us:List (Nat × SV)) (drop:List Nat) :
 st.put d ⟨x,r,us,drop⟩=(st.upS us drop).put d ⟨x,r,[],[]⟩:=by
 cases d <;> cases r <;> simp [St.put,St.upS,JaL,JbK]
section
variable {P:Program} {G:Gd} {F:Nat→Prop} {Bs:Nat→List Nat} {st:St} {tm:Array Value} {w:World}
theorem Rel.put (h:Rel P G F Bs st tm w) {d:Nat} {x:SV} {c:Value} {B:List Nat} {r:Option Ref} (hd:d<G.N.1) (hpn:d∉G.N.2)
 (hx:RS P F w x c B) (hn:B.Nodup) (hj:∀ i b,i≠d→b∈B→b∉Bs i) (hf:∀ b∈B,¬ F b) (hw:∀ b∈B,G.W.heap.size≤b∨G.A b) (hl:∀ b∈B,b<w.heap.size)
 (hr:∀ q,r=some q→q.root≠d∧JcU P st.fr tm w q c) :
 Rel P G F (upB Bs d B) (st.put (some d) ⟨x,r,[],[]⟩) (tm.setIfInBounds d c) w:=by
 have hsz:d<tm.size:=by rw [h.sz]; exact hd
 have frd:∀ i,i≠d→Jd8 st.fr d x i=st.fr i:=fun i hi=>Jau _ _ hi
 have ref:∀ (q:Ref) (c':Value),q.root≠d→JcU P st.fr tm w q c'→JcU P (Jd8 st.fr d x) (tm.setIfInBounds d c) w q c':=by
  intro q c' hq hok
  cases q with
  | o s j =>
   have hs:s≠d:=hq
   cases j <;> simp only [JcU,frd s hs,Jaz hs] at hok ⊢ <;> exact hok
  | b s off=>have hs:s≠d:=hq; simp only [JcU,Jaz hs] at hok ⊢; exact hok
  | c s g=>have hs:s≠d:=hq; simp only [JcU,Jaz hs] at hok ⊢; exact hok
  | e s j T i off =>
   have hs:s≠d:=hq
   cases j <;> simp only [JcU,frd s hs,Jaz hs] at hok ⊢ <;> exact hok
 have hfr:(st.put (some d) ⟨x,r,[],[]⟩).fr=Jd8 st.fr d x:=rfl
 refine ⟨by simp [h.sz],?_,?_,?_,?_,?_,?_,h.fl,h.f0,h.fn,h.kb,?_,fun i hi=>by
  have hne:i≠d:=fun e=>by subst e; exact hpn hi
  rw [Jaz hne]; exact h.pn i hi⟩
 · intro i
   rw [hfr]
   by_cases hi:i=d
   · subst hi; rw [JaT,Jaj,Jbg hsz]; exact hx
   · rw [frd i hi,Jah _ _ hi,Jaz hi]; exact h.sl i
 · intro i
   by_cases hi:i=d
   · subst hi; rw [Jaj]; exact hn
   · rw [Jah _ _ hi]; exact h.nd i
 · intro i j b hij hb
   by_cases hi:i=d
   · subst hi
     rw [Jaj] at hb
     rw [Jah _ _ (Ne.symm hij)]
     exact hj j b (Ne.symm hij) hb
   · rw [Jah _ _ hi] at hb
     by_cases hj':j=d
     · subst hj'; rw [Jaj]; exact fun hb'=>hj i b hi hb' hb
     · rw [Jah _ _ hj']; exact h.dj i j b hij hb
 · intro i b hb
   by_cases hi:i=d
   · subst hi; rw [Jaj] at hb; exact hf b hb
   · rw [Jah _ _ hi] at hb; exact h.nf i b hb
 · intro i b hb
   by_cases hi:i=d
   · subst hi; rw [Jaj] at hb; exact hw b hb
   · rw [Jah _ _ hi] at hb; exact h.nw i b hb
 · intro i b hb
   by_cases hi:i=d
   · subst hi; rw [Jaj] at hb; exact hl b hb
   · rw [Jah _ _ hi] at hb; exact h.lt i b hb
 · intro t q hm
   rw [hfr]
   have old:∀ t q,(t,q)∈Jaf (some d) [] st.ral→JcU P (Jd8 st.fr d x) (tm.setIfInBounds d c) w q ((tm.setIfInBounds d c).getD t undef):=by
    intro t q hm
    obtain ⟨hm,hk⟩:=Jcp hm
    obtain ⟨ht,hq⟩:=Jjd hk
    rw [Jaz ht]
    exact ref q _ hq (h.rf t q hm)
   cases r with
   | none=>exact old t q hm
   | some q0 =>
    simp only [St.put,List.mem_cons] at hm
    rcases hm with hm | hm
    · cases hm
      obtain ⟨h1,h2⟩:=hr q rfl
      rw [Jbg hsz]
      exact ref q _ h1 h2
    · exact old t q hm
theorem RS.bx_mem {T:TypeId} {cs:List SV} {b:Nat} {B:List Nat} (h:RS P F w (.bx T cs) (.pointer (some ⟨b,0,none⟩)) B):b∈B:=by
 generalize hc:(Value.pointer (some ⟨b,0,none⟩))=c at h
 cases h with
 | bx _ _ _=>simp at hc; simp [hc]
theorem JdP {l:List Nat} {s:Nat} (hl:s∈l):JaZ l s=true:=by
 induction l with
 | nil=>simp at hl
 | cons y l ih =>
  simp only [JaZ]
  cases hy:Nat.beq y s with
  | true=>simp
  | false =>
   simp only [cond_false]
   rcases List.mem_cons.1 hl with h1 | h1
   · exact absurd h1.symm (neB hy)
   · exact ih h1
theorem Jh8 {l:List Nat} {s:Nat} (h:JaZ l s=true):s∈l:=by
 induction l with
 | nil=>simp [JaZ] at h
 | cons y l ih =>
  simp only [JaZ] at h
  cases hy:Nat.beq y s with
  | true=>rw [eqB hy]; exact List.mem_cons_self
  | false=>rw [hy] at h; exact List.mem_cons_of_mem _ (ih h)
theorem Rel.turn (h:Rel P G F Bs st tm w) {s:Nat} {x:SV} {B:List Nat} {F':Nat→Prop} {w':World} {drop:List Nat}
 (hx:RS P F' w' x (tm.getD s undef) B) (hB:∀ b∈B,b∈Bs s∨(¬ (∃ i,b∈Bs i)∧(G.W.heap.size≤b∨G.A b)∧b<w'.heap.size)) (hn:B.Nodup)
 (hF:∀ b,F b→F' b) (hF':∀ b,F' b→F b∨(b∈Bs s∧b∉B))
 (hnf:∀ b∈B,¬ F' b)
 (hw:∀ b,b<w.heap.size→b∉Bs s→w'.heap[b]? = w.heap[b]?) (hz:w.heap.size≤w'.heap.size)
 (hos:w'.os=w.os∧w'.tape=w.tape∧w'.output=w.output)
 (hbox:∀ T cs b,st.fr s=.bx T cs→tm.getD s undef=.pointer (some ⟨b,0,none⟩)→s∈drop∨w'.heap[b]? = w.heap[b]?)
 (hxb:∀ T cs,x=.bx T cs→s∈drop∨∃ T' cs',st.fr s=.bx T' cs') :
 Rel P G F' (upB Bs s B) (st.upS [(s,x)] drop) tm w':=by
 have keepF:∀ i,i≠s→∀ b,(F b∨b∈Bs i)→w'.heap[b]? = w.heap[b]? := by
  intro i hi b hb
  rcases hb with hb | hb
  · exact hw b (h.fl b hb) fun hs=>h.nf s b hs hb
  · exact hw b (h.lt i b hb) (h.dj i s b hi hb)
 have hfr:(st.upS [(s,x)] drop).fr=Jd8 st.fr s x:=rfl
 refine ⟨h.sz,?_,?_,?_,?_,?_,?_,?_,fun b hb=>hF b (h.f0 b hb),?_,?_,?_,h.pn⟩
 · intro i
   rw [hfr]
   by_cases hi:i=s
   · subst hi; rw [JaT,Jaj]; exact hx
   · rw [Jau _ _ hi,Jah _ _ hi]; exact (h.sl i).mono hF (keepF i hi)
 · intro i
   by_cases hi:i=s
   · subst hi; rw [Jaj]; exact hn
   · rw [Jah _ _ hi]; exact h.nd i
 · intro i j b hij hb
   by_cases hi:i=s
   · subst hi
     rw [Jaj] at hb
     rw [Jah _ _ (Ne.symm hij)]
     rcases hB b hb with hb | hb
     · exact h.dj _ _ b hij hb
     · exact fun hc=>hb.1 ⟨j,hc⟩
   · rw [Jah _ _ hi] at hb
     by_cases hj:j=s
     · subst hj
       rw [Jaj]
       intro hc
       rcases hB b hc with hc | hc
       · exact h.dj _ _ b hij hb hc
       · exact hc.1 ⟨i,hb⟩
     · rw [Jah _ _ hj]; exact h.dj i j b hij hb
 · intro i b hb
   by_cases hi:i=s
   · subst hi; rw [Jaj] at hb; exact hnf b hb
   · rw [Jah _ _ hi] at hb
     intro hf
     rcases hF' b hf with hf | ⟨hf,_⟩
     · exact h.nf i b hb hf
     · exact h.dj i s b hi hb hf
 · intro i b hb
   by_cases hi:i=s
   · subst hi
     rw [Jaj] at hb
     rcases hB b hb with hb | hb
     · exact h.nw _ b hb
     · exact hb.2.1
   · rw [Jah _ _ hi] at hb; exact h.nw i b hb
 · intro i b hb
   by_cases hi:i=s
   · subst hi
     rw [Jaj] at hb
     rcases hB b hb with hb | hb
     · exact Nat.lt_of_lt_of_le (h.lt _ b hb) hz
     · exact hb.2.2
   · rw [Jah _ _ hi] at hb; exact Nat.lt_of_lt_of_le (h.lt i b hb) hz
 · intro b hb
   rcases hF' b hb with hb | ⟨hb,_⟩
   · exact Nat.lt_of_lt_of_le (h.fl b hb) hz
   · exact Nat.lt_of_lt_of_le (h.lt s b hb) hz
 · intro b hb
   rcases hF' b hb with hb | ⟨hb,_⟩
   · exact h.fn b hb
   · exact .inr (h.nw s b hb)
 · refine ⟨hos.1.trans h.kb.os,hos.2.1.trans h.kb.tape,hos.2.2.trans h.kb.output,Nat.le_trans h.kb.size hz,fun b hb hA=>?_⟩
   rw [hw b (Nat.lt_of_lt_of_le hb h.kb.size) fun hs=>?_]
   · exact h.kb.block b hb hA
   · rcases h.nw s b hs with h1 | h1
     · omega
     · exact hA h1
 · intro t q hm
   rw [hfr]
   obtain ⟨hm,hk⟩:=Jcp hm
   have hok:=h.rf t q hm
   have box:∀ u T cs b,st.fr u=.bx T cs→tm.getD u undef=.pointer (some ⟨b,0,none⟩)→u∉drop→w'.heap[b]? = w.heap[b]? := by
    intro u T cs b hu ht hnd
    by_cases hus:u=s
    · subst hus
      exact (hbox T cs b hu ht).resolve_left hnd
    · have hsl:=h.sl u
      rw [hu,ht] at hsl
      exact keepF u hus b (.inr hsl.bx_mem)
   have nodrop:q.cell=true→q.root∉drop:=by
    intro hc hd
    simp [Jam,hc,JdP hd] at hk
   have fro:∀ u T cs,Jd8 st.fr s x u=.bx T cs→u∉drop→∃ T' cs',st.fr u=.bx T' cs':=by
    intro u T cs hu hnd
    by_cases hus:u=s
    · subst hus
      rw [JaT] at hu
      exact (hxb T cs hu).resolve_left hnd
    · rw [Jau _ _ hus] at hu; exact ⟨T,cs,hu⟩
   cases q with
   | b u off=>exact hok
   | c u g=>exact hok
   | o u j =>
    cases j with
    | none=>exact hok
    | some j =>
     have hnd:u∉drop:=nodrop rfl
     intro T cs b cur T' f hu ht hb
     obtain ⟨T1,cs1,hu1⟩:=fro u T cs hu hnd
     rw [box u T1 cs1 b hu1 ht hnd] at hb
     exact hok T1 cs1 b cur T' f hu1 ht hb
   | e u j T i off =>
    cases j with
    | none=>exact hok
    | some j =>
     have hnd:u∉drop:=nodrop rfl
     intro Tb cs b cur T' f hu ht hb
     obtain ⟨T1,cs1,hu1⟩:=fro u Tb cs hu hnd
     rw [box u T1 cs1 b hu1 ht hnd] at hb
     exact hok T1 cs1 b cur T' f hu1 ht hb
end
abbrev blk (c:Value):List Nat:=c.ownBlock.toList
def Jky:SV→Bool
 | .own _ _=>true
 | .mp _ _ _=>true
 | _=>false
def blkX:SV→Value→List Nat
 | .own _ _,c=>blk c
 | .mp _ _ _,.map (some b)=>[b]
 | _,_=>[]
theorem RS.blkX {P:Program} {F:Nat→Prop} {w:World} {x:SV} {c:Value} {B:List Nat} (h:RS P F w x c B) (hx:Jky x=true):B=blkX x c:=by
 cases h <;> first | rfl | (simp [Jky] at hx)
def JcC (fr:Fr) (tm:Array Value) (w:World) (s:Nat) (cx:Option (Nat × TypeId × List SV)) (x:SV) (cv:Value):Prop :=
 match cx with
 | none=>fr s=x∧tm.getD s undef=cv
 | some (j,Tb,cs)=>fr s=.bx Tb cs∧cs[j]? = some x ∧
  ∃ b cur,tm.getD s undef=.pointer (some ⟨b,0,none⟩)∧w.heap[b]? = some (.cells cur Tb (0,0))∧cur.toList[j]? = some cv
abbrev Ja8 (fr:Fr) (tm:Array Value) (w:World) (s:Nat) (cx:Option (Nat × TypeId × List SV)) (T:TypeId) (es:List PV) (cv:Value):Prop:=JcC fr tm w s cx (.own T es) cv
def RVR (P:Program) (F:Nat→Prop) (fr:Fr) (tm:Array Value) (w:World):RV→Value→Prop
 | .bad,_=>True
 | .nl,c=>c=.slice none 0 0
 | .pv x,c=>RP F w x c
 | .own s cx T es,c=>Ja8 fr tm w s cx T es c
 | .box s off T cs,c=>fr s=.bx T cs∧∃ b,tm.getD s undef=.pointer (some ⟨b,0,none⟩)∧c=.pointer (some ⟨b,off,none⟩)
 | .el s cx T es i off,c=>∃ g n cap sz,Ja8 fr tm w s cx T es (.slice (some ⟨g,0,none⟩) n cap)∧i<n∧Jal P T=some sz∧c=.pointer (some ⟨g,i * sz + off,none⟩)
 | .tup s l,c=>fr s=.tup l∧tm.getD s undef=c
 | .ob s T e bs,c=>fr s=.ob T e bs∧tm.getD s undef=c
 | .st s cs,c=>fr s=.st cs∧tm.getD s undef=c
 | .mp s cx d ks vs,c=>JcC fr tm w s cx (.mp d ks vs) c
 | .cl s g T cs,c=>fr s=.bx T cs∧∃ b,tm.getD s undef=.pointer (some ⟨b,0,none⟩)∧c=.func (.func g) #[] #[.pointer (some ⟨b,0,none⟩)]
section
variable {P:Program} {F:Nat→Prop} {w:World}
theorem RSs.get {cs:List SV} {vs:List Value} {B:List Nat} (h:RSs P F w cs vs B):∀ {j:Nat} {x:SV},cs[j]? = some x →
 ∃ c Bj pre post,vs[j]? = some c∧RS P F w x c Bj∧B=pre++Bj++post ∧
  ∀ (F':Nat→Prop) (w':World) (x':SV) (c':Value) (B':List Nat),(∀ b,F b→F' b)→(∀ b,(F b∨b∈pre∨b∈post)→w'.heap[b]? = w.heap[b]?) →
   RS P F' w' x' c' B'→RSs P F' w' (cs.set j x') (vs.set j c') (pre++B'++post):=by
 induction cs generalizing vs B with
 | nil=>intro j x hj; simp at hj
 | cons y l ih =>
  intro j x hj
  cases h with
  | cons h1 h2 =>
   rename_i c cs' B1 B2
   cases j with
   | zero =>
    simp at hj; subst hj
    refine ⟨c,B1,[],B2,by simp,h1,by simp,fun F' w' x' c' B' hF hw hx=>?_⟩
    simpa using RSs.cons hx (h2.mono hF fun b hb=>hw b (hb.imp id .inr))
   | succ j =>
    simp at hj
    obtain ⟨c',Bj,pre,post,e1,e2,e3,e4⟩:=ih h2 hj
    refine ⟨c',Bj,B1++pre,post,by simpa using e1,e2,by simp [e3],fun F' w' x' c'' B' hF hw hx=>?_⟩
    have:=RSs.cons (h1.mono hF fun b hb=>hw b (hb.imp id fun q=>.inl (List.mem_append_left _ q)))
     (e4 F' w' x' c'' B' hF (fun b hb=>hw b (hb.imp id (Or.imp (List.mem_append_right _) id))) hx)
    simpa using this
theorem JcQ {α:Type} {l:List α} {j:Nat} {x:α} (h:l[j]? = some x):j<l.length:=by
 rcases Nat.lt_or_ge j l.length with q | q
 · exact q
 · rw [List.getElem?_eq_none q] at h; cases h
theorem JgH {α:Type} {l:List α} {j:Nat} {x:α} (h:l[j]? = some x):l.set j x=l:=by
 apply List.ext_getElem?
 intro k
 by_cases hk:k=j
 · subst hk; rw [h,List.getElem?_set_self (JcQ h)]
 · rw [List.getElem?_set_ne (Ne.symm hk)]
theorem RSs.length {cs:List SV} {vs:List Value} {B:List Nat} (h:RSs P F w cs vs B):cs.length=vs.length:=by
 induction cs generalizing vs B with
 | nil=>cases h; rfl
 | cons y l ih=>cases h with | cons _ h2=>simp [ih h2]
theorem RPs.length {cs:List PV} {vs:List Value} (h:RPs F w cs vs):cs.length=vs.length:=by
 induction cs generalizing vs with
 | nil=>cases h; rfl
 | cons y l ih=>cases h with | cons _ h2=>simp [ih h2]
theorem RPs.get {cs:List PV} {vs:List Value} (h:RPs F w cs vs):∀ {j:Nat} {x:PV},cs[j]? = some x→∃ c,vs[j]? = some c∧RP F w x c:=by
 induction cs generalizing vs with
 | nil=>intro j x hj; simp at hj
 | cons y l ih =>
  intro j x hj
  cases h with
  | cons h1 h2 =>
   cases j with
   | zero=>simp at hj; subst hj; exact ⟨_,by simp,h1⟩
   | succ j=>simp at hj; obtain ⟨c,e1,e2⟩:=ih h2 hj; exact ⟨c,by simpa using e1,e2⟩
theorem RPs.append {a b:List PV} {x y:List Value} (h1:RPs F w a x) (h2:RPs F w b y):RPs F w (a++b) (x++y):=by
 induction a generalizing x with
 | nil=>cases h1; exact h2
 | cons _ _ ih=>cases h1 with | cons a b=>exact .cons a (ih b)
theorem RPs.take {a:List PV} {x:List Value} (h:RPs F w a x) (n:Nat):RPs F w (a.take n) (x.take n):=by
 induction a generalizing x n with
 | nil=>cases h; simpa using RPs.nil
 | cons _ _ ih=>cases h with | cons a b=>cases n with | zero=>exact .nil | succ n=>exact .cons a (ih b n)
theorem RPs.drop {a:List PV} {x:List Value} (h:RPs F w a x) (n:Nat):RPs F w (a.drop n) (x.drop n):=by
 induction a generalizing x n with
 | nil=>cases h; simpa using RPs.nil
 | cons _ _ ih=>cases h with | cons a b=>cases n with | zero=>exact .cons a b | succ n=>exact ih b n
theorem RPs.set {a:List PV} {x:List Value} (h:RPs F w a x) {p:PV} {c:Value} (hp:RP F w p c) (n:Nat):RPs F w (a.set n p) (x.set n c):=by
 induction a generalizing x n with
 | nil=>cases h; simpa using RPs.nil
 | cons _ _ ih=>cases h with | cons a b=>cases n with | zero=>exact .cons hp b | succ n=>exact .cons a (ih b n)
end
section
variable {P:Program} {G:Gd} {F:Nat→Prop} {Bs:Nat→List Nat} {st:St} {tm:Array Value} {w:World}
theorem getD_some {cs:List SV} {j:Nat} {x:SV} (h:cs.getD j .dead=x) (hx:x≠.dead):cs[j]? = some x:=by
 rw [List.getD_eq_getElem?_getD] at h
 cases hc:cs[j]? with
 | none=>rw [hc] at h; exact absurd h.symm hx
 | some y=>rw [hc] at h; simpa using h
theorem Rel.box_inv (h:Rel P G F Bs st tm w) {s:Nat} {T:TypeId} {cs:List SV} (hs:st.fr s=.bx T cs) :
 ∃ b cur B,tm.getD s undef=.pointer (some ⟨b,0,none⟩)∧w.heap[b]? = some (.cells cur T (0,0))∧RSs P F w cs cur.toList B∧(∀ x∈cur.toList,x.oneCell'=true)∧Bs s=b::B:=by
 have:=h.sl s
 rw [hs] at this
 generalize hc:tm.getD s undef=c at this
 generalize hB:Bs s=B at this
 cases this with
 | bx h1 h2 h3=>exact ⟨_,_,_,rfl,h1,h2,h3,rfl⟩
theorem Rel.own_inv (h:Rel P G F Bs st tm w) {s:Nat} {T:TypeId} {es:List PV} (hs:st.fr s=.own T es):RS P F w (.own T es) (tm.getD s undef) (Bs s)∧Bs s=blk (tm.getD s undef):=by
 have:=h.sl s
 rw [hs] at this
 refine ⟨this,?_⟩
 generalize hB:Bs s=B at this
 cases this with
 | own _ _ _ _ _ _ _=>rfl
theorem Rel.ob_inv (h:Rel P G F Bs st tm w) {s:Nat} {T e:TypeId} {bs:ByteArray} (hs:st.fr s=.ob T e bs):∃ b,tm.getD s undef=.pointer (some ⟨b,0,none⟩):=by
 have:=h.sl s
 rw [hs] at this
 generalize tm.getD s undef=c at this
 generalize Bs s=B at this
 cases this with
 | ob _ _ _ _=>exact ⟨_,rfl⟩
theorem Rel.placeX (h:Rel P G F Bs st tm w) {s:Nat} {cx:Option (Nat × TypeId × List SV)} {x:SV} {cv:Value} (ho:Jky x=true) (hp:JcC st.fr tm w s cx x cv) :
 RS P F w x cv (blkX x cv)∧(∀ b∈blkX x cv,b∈Bs s):=by
 cases cx with
 | none =>
  obtain ⟨h1,rfl⟩:=hp
  have h2:=h.sl s
  rw [h1] at h2
  have h3:=h2.blkX ho
  rw [←h3]
  exact ⟨h2,fun b hb=>hb⟩
 | some q =>
  obtain ⟨j,Tb,cs⟩:=q
  obtain ⟨h1,h2,b,cur,h3,h4,h5⟩:=hp
  obtain ⟨b',cur',B,e1,e2,e3,e4,e5⟩:=h.box_inv h1
  rw [h3] at e1
  cases e1
  rw [h4] at e2
  cases e2
  obtain ⟨c,Bj,pre,post,f1,f2,f3,f4⟩:=e3.get h2
  rw [h5] at f1
  cases f1
  have hb:=f2.blkX ho
  rw [←hb]
  exact ⟨f2,fun x hx=>by rw [e5,f3]; simp [hx]⟩
theorem Rel.place (h:Rel P G F Bs st tm w) {s:Nat} {cx:Option (Nat × TypeId × List SV)} {T:TypeId} {es:List PV} {cv:Value} (hp:Ja8 st.fr tm w s cx T es cv) :
 RS P F w (.own T es) cv (blk cv)∧(∀ b∈blk cv,b∈Bs s):=h.placeX rfl hp
theorem Jjg (h:Rel P G F Bs st tm w) (t:Nat):RVR P F st.fr tm w (look st t) (tm.getD t undef):=by
 unfold look
 cases hr:JaJ st.ral t with
 | none =>
  simp only []
  have hs:=h.sl t
  cases hf:st.fr t with
  | dead=>trivial
  | nl =>
   rw [hf] at hs
   generalize tm.getD t undef=c at hs ⊢
   generalize Bs t=B at hs
   cases hs; rfl
  | p x =>
   rw [hf] at hs
   generalize tm.getD t undef=c at hs ⊢
   generalize Bs t=B at hs
   cases hs with | p h=>exact h
  | own T es=>exact ⟨hf,rfl⟩
  | bx T cs =>
   obtain ⟨b,cur,B,e1,_⟩:=h.box_inv hf
   exact ⟨hf,b,e1,e1⟩
  | tup l=>exact ⟨hf,rfl⟩
  | ob T e bs=>exact ⟨hf,rfl⟩
  | st cs=>exact ⟨hf,rfl⟩
  | mp d ks vs=>exact ⟨hf,rfl⟩
 | some r =>
  simp only []
  have hok:=h.rf t r (Jfy hr)
  have ownCase:∀ (s:Nat) (x:SV),st.fr s=x→tm.getD t undef=tm.getD s undef→RVR P F st.fr tm w (Jkl s none x) (tm.getD t undef):=by
   intro s x hx hc
   have hs:=h.sl s
   rw [hx] at hs
   cases x with
   | own T es=>exact ⟨hx,hc.symm⟩
   | mp d ks vs=>exact ⟨hx,hc.symm⟩
   | p y =>
    rw [hc]
    generalize tm.getD s undef=c at hs ⊢
    generalize Bs s=B at hs
    cases hs with | p h=>exact h
   | nl =>
    rw [hc]
    generalize tm.getD s undef=c at hs ⊢
    generalize Bs s=B at hs
    cases hs; rfl
   | _=>trivial
  cases r with
  | o s j =>
   cases j with
   | none=>exact ownCase s _ rfl hok
   | some j =>
    simp only [Jd4]
    cases hf:st.fr s with
    | bx T cs =>
     obtain ⟨b,cur,B,e1,e2,e3,e4,e5⟩:=h.box_inv hf
     have hc:=hok T cs b cur T _ hf e1 e2
     simp only []
     cases hx:cs.getD j .dead with
     | own T' es=>exact ⟨hf,getD_some hx (by simp),b,cur,e1,e2,hc⟩
     | mp d ks vs=>exact ⟨hf,getD_some hx (by simp),b,cur,e1,e2,hc⟩
     | p y =>
      obtain ⟨c,Bj,pre,post,f1,f2,_⟩:=e3.get (getD_some hx (by simp))
      rw [hc] at f1
      simp only [Option.some.injEq] at f1
      show RP F w y (tm.getD t undef)
      rw [f1]
      cases f2 with | p h=>exact h
     | nl =>
      obtain ⟨c,Bj,pre,post,f1,f2,_⟩:=e3.get (getD_some hx (by simp))
      rw [hc] at f1
      simp only [Option.some.injEq] at f1
      show tm.getD t undef=_
      rw [f1]
      cases f2; rfl
     | _=>trivial
    | _=>trivial
  | b s off =>
   simp only [Jd4]
   cases hf:st.fr s with
   | bx T cs =>
    obtain ⟨b,cur,B,e1,_⟩:=h.box_inv hf
    exact ⟨hf,b,e1,hok b e1⟩
   | ob T e bs =>
    have hs:=h.sl s
    rw [hf] at hs
    simp only []
    cases ho:Nat.beq off 0 with
    | false=>trivial
    | true =>
     have ho:=eqB ho
     subst ho
     refine ⟨hf,?_⟩
     generalize hc:tm.getD s undef=cs at hs
     generalize Bs s=B at hs
     cases hs with
     | ob _ _ _ _=>exact (hok _ hc).symm
   | _=>trivial
  | c s g =>
   simp only [Jd4]
   cases hf:st.fr s with
   | bx T cs =>
    obtain ⟨b,cur,B,e1,_⟩:=h.box_inv hf
    exact ⟨hf,b,e1,hok b e1⟩
   | _=>trivial
  | e s j T i off =>
   cases j with
   | none =>
    simp only [Jd4]
    cases hf:st.fr s with
    | own T' es =>
     simp only [Jld]
     cases hT:Nat.beq T' T with
     | false=>trivial
     | true =>
      rw [eqB hT] at hf
      obtain ⟨g,n,cap,e1,e2,sz,e3,e4⟩:=hok
      exact ⟨g,n,cap,sz,⟨hf,e1⟩,e2,e3,e4⟩
    | _=>trivial
   | some j =>
    simp only [Jd4]
    cases hf:st.fr s with
    | bx Tb cs =>
     simp only []
     cases hx:cs.getD j .dead with
     | own T' es =>
      simp only [Jld]
      cases hT:Nat.beq T' T with
      | false=>trivial
      | true =>
       rw [eqB hT] at hx
       obtain ⟨b,cur,B,e1,e2,e3,e4,e5⟩:=h.box_inv hf
       obtain ⟨g,n,cap,f1,f2,sz,f3,f4⟩:=hok Tb cs b cur Tb _ hf e1 e2
       exact ⟨g,n,cap,sz,⟨hf,getD_some hx (by simp),b,cur,e1,e2,f1⟩,f2,f3,f4⟩
     | _=>trivial
    | _=>trivial
theorem Jcs (F:Nat→Prop) (w:World):RP F w (.sh []) (.slice none 0 0) :=
 .sh (xs:=[]) (sz:=1) .nil (by simp) (by decide) (.inl rfl) rfl (Nat.le_refl _) (Nat.zero_le _)
theorem JeD (F:Nat→Prop) (w:World) (x:Value):RP F w (cpv x) x:=by
 unfold cpv
 split
 · exact Jcs F w
 · exact .v x
theorem JcI (F:Nat→Prop) (w:World):∀ l:List Value,RPs F w (l.map cpv) l
 | []=>.nil
 | x::l=>.cons (JeD F w x) (JcI F w l)
theorem Jag {a:Act} (h:Rel P G F Bs st a.tmps w) (x:Operand):RVR P F st.fr a.tmps w (opd st x) (a.eval x):=by
 cases x with
 | tmp t=>exact Jjg h t
 | const x =>
  simp only [opd,Act.eval,JhK]
  split
  · rfl
  · rename_i cs
    cases hl:Jat (cs.toList.map cpv) with
    | false=>rw [cond_false]; trivial
    | true =>
     have:=RP.agg (JcI F w cs.toList) hl
     rw [cond_true]
     simpa [RVR] using this
  · exact RP.v _
 | global g=>trivial
 | func f=>exact RP.v _
theorem Rel.turnPlX (h:Rel P G F Bs st tm w) {s:Nat} {cx:Option (Nat × TypeId × List SV)} {x0:SV} {cv:Value} (ho:Jky x0=true) (hp:JcC st.fr tm w s cx x0 cv)
 {x:SV} {B:List Nat} {F':Nat→Prop} {w':World}
 (hx:RS P F' w' x cv B) (hB:∀ b∈B,b∈blkX x0 cv) (hn:B.Nodup)
 (hF:∀ b,F b→F' b) (hF':∀ b,F' b→F b∨(b∈blkX x0 cv∧b∉B)) (hnf:∀ b∈B,¬ F' b)
 (hw:∀ b,b<w.heap.size→b∉blkX x0 cv→w'.heap[b]? = w.heap[b]?) (hz:w.heap.size≤w'.heap.size)
 (hos:w'.os=w.os∧w'.tape=w.tape∧w'.output=w.output) (hnb:∀ T cs,x≠.bx T cs) :
 ∃ Bs',Rel P G F' Bs' (st.upS [Jaq s cx x] []) tm w'∧(∀ i b,b∈Bs' i→b∈Bs i)∧(∀ b,b∈blkX x0 cv→b∉B→∀ i,b∉Bs' i):=by
 have hpl:=h.placeX ho hp
 cases cx with
 | none =>
  obtain ⟨h1,rfl⟩:=hp
  refine ⟨upB Bs s B,h.turn (drop:=[]) hx (fun b hb=>.inl (hpl.2 b (hB b hb))) hn hF (fun b hb=>(hF' b hb).imp id fun q=>⟨hpl.2 b q.1,q.2⟩) hnf
   (fun b hb hs=>hw b hb fun q=>hs (hpl.2 b q)) hz hos (fun T cs b hs=>by rw [h1] at hs; rw [hs] at ho; cases ho) (fun T cs e=>absurd e (hnb T cs)),?_,?_⟩
  · intro i b hb
    by_cases hi:i=s
    · subst hi; rw [Jaj] at hb; exact hpl.2 b (hB b hb)
    · rw [Jah _ _ hi] at hb; exact hb
  · intro b hb hnb i
    by_cases hi:i=s
    · subst hi; rw [Jaj]; exact hnb
    · rw [Jah _ _ hi]; exact h.dj s i b (Ne.symm hi) (hpl.2 b hb)
 | some q =>
  obtain ⟨j,Tb,cs⟩:=q
  obtain ⟨h1,h2,b,cur,h3,h4,h5⟩:=hp
  obtain ⟨b',cur',B0,e1,e2,e3,e4,e5⟩:=h.box_inv h1
  rw [h3] at e1
  cases e1
  rw [h4] at e2
  cases e2
  obtain ⟨c,Bj,pre,post,f1,f2,f3,f4⟩:=e3.get h2
  rw [h5] at f1
  cases f1
  have hb:Bj=blkX x0 cv:=f2.blkX ho
  subst hb
  have hnd:=h.nd s
  rw [e5,f3] at hnd
  have hbn:b∉blkX x0 cv:=by
   have:=(List.nodup_cons.1 hnd).1
   intro hb; exact this (by simp [hb])
  have hbl:b<w.heap.size:=h.lt s b (by rw [e5]; exact List.mem_cons_self)
  have hb':w'.heap[b]? = w.heap[b]? := hw b hbl hbn
  have hnd2:=(List.nodup_cons.1 hnd).2
  rw [List.append_assoc,List.nodup_append,List.nodup_append] at hnd2
  have hpre:∀ b1∈pre,b1∉blkX x0 cv:=fun b1 r q=>(hnd2.2.2 b1 r b1 (List.mem_append_left _ q)) rfl
  have hpost:∀ b1∈post,b1∉blkX x0 cv:=fun b1 r q=>(hnd2.2.1.2.2 b1 q b1 r) rfl
  have hmem:∀ b1,b1∈pre∨b1∈post→b1∈Bs s:=fun b1 q=>by rw [e5,f3]; rcases q with q | q <;> simp [q]
  have e3':=f4 F' w' x cv B hF (fun b1 hb1=>by
   rcases hb1 with q | q
   · exact hw b1 (h.fl b1 q) fun r=>h.nf s b1 (hpl.2 b1 r) q
   · exact hw b1 (h.lt s b1 (hmem b1 q)) (q.elim (hpre b1) (hpost b1))) hx
  rw [JgH h5] at e3'
  have hbxr:RS P F' w' (.bx Tb (cs.set j x)) (tm.getD s undef) (b::(pre++B++post)):=by
   rw [h3]; exact .bx (by rw [hb']; exact h4) e3' e4
  have hmem':∀ b1∈b::(pre++B++post),b1∈Bs s:=by
   intro b1 hb1
   rcases List.mem_cons.1 hb1 with q | q
   · subst q; rw [e5]; exact List.mem_cons_self
   · rcases List.mem_append.1 q with q | q
     · rcases List.mem_append.1 q with q | q
       · exact hmem b1 (.inl q)
       · exact hpl.2 b1 (hB b1 q)
     · exact hmem b1 (.inr q)
  have hnot:∀ b1,b1∈blkX x0 cv→b1∉B→b1∉b::(pre++B++post):=by
   intro b1 hb1 hnB hc
   rcases List.mem_cons.1 hc with q | q
   · subst q; exact hbn hb1
   · rcases List.mem_append.1 q with q | q
     · rcases List.mem_append.1 q with q | q
       · exact hpre b1 q hb1
       · exact hnB q
     · exact hpost b1 q hb1
  have hnd':(b::(pre++B++post)).Nodup:=by
   have h0:=(List.nodup_cons.1 hnd).1
   rw [List.append_assoc]
   refine List.nodup_cons.2 ⟨?_,List.nodup_append.2 ⟨hnd2.1,List.nodup_append.2 ⟨hn,hnd2.2.1.2.1,?_⟩,?_⟩⟩
   · intro q
     apply h0
     rcases List.mem_append.1 q with q | q
     · simp [q]
     · rcases List.mem_append.1 q with q | q
       · simp [hB b q]
       · simp [q]
   · intro b1 q b2 r e; subst e; exact hnd2.2.1.2.2 b1 (hB b1 q) b1 r rfl
   · intro b1 q b2 r e
     subst e
     rcases List.mem_append.1 r with r | r
     · exact hnd2.2.2 b1 q b1 (List.mem_append_left _ (hB b1 r)) rfl
     · exact hnd2.2.2 b1 q b1 (List.mem_append_right _ r) rfl
  refine ⟨upB Bs s (b::(pre++B++post)),h.turn (drop:=[]) hbxr (fun b1 hb1=>.inl (hmem' b1 hb1)) hnd' hF
   (fun b1 hb1=>(hF' b1 hb1).imp id fun q=>⟨hpl.2 b1 q.1,hnot b1 q.1 q.2⟩) ?_ (fun b1 hb1 hs=>hw b1 hb1 fun q=>hs (hpl.2 b1 q)) hz hos
   (fun T' cs' b1 hs ht=>by rw [h3] at ht; cases ht; exact .inr hb') (fun T' cs' _=>.inr ⟨Tb,cs,h1⟩),?_,?_⟩
  · intro b1 hb1 hf
    rcases hF' b1 hf with q | q
    · exact h.nf s b1 (hmem' b1 hb1) q
    · exact hnot b1 q.1 q.2 hb1
  · intro i b1 hb1
    by_cases hi:i=s
    · subst hi; rw [Jaj] at hb1; exact hmem' b1 hb1
    · rw [Jah _ _ hi] at hb1; exact hb1
  · intro b1 hb1 hnb1 i
    by_cases hi:i=s
    · subst hi; rw [Jaj]; exact hnot b1 hb1 hnb1
    · rw [Jah _ _ hi]; exact h.dj s i b1 (Ne.symm hi) (hpl.2 b1 hb1)
theorem Rel.turnPl (h:Rel P G F Bs st tm w) {s:Nat} {cx:Option (Nat × TypeId × List SV)} {T:TypeId} {es:List PV} {cv:Value} (hp:Ja8 st.fr tm w s cx T es cv)
 {x:SV} {B:List Nat} {F':Nat→Prop} {w':World}
 (hx:RS P F' w' x cv B) (hB:∀ b∈B,b∈blk cv) (hn:B.Nodup)
 (hF:∀ b,F b→F' b) (hF':∀ b,F' b→F b∨(b∈blk cv∧b∉B)) (hnf:∀ b∈B,¬ F' b)
 (hw:∀ b,b<w.heap.size→b∉blk cv→w'.heap[b]? = w.heap[b]?) (hz:w.heap.size≤w'.heap.size)
 (hos:w'.os=w.os∧w'.tape=w.tape∧w'.output=w.output) (hnb:∀ T cs,x≠.bx T cs) :
 ∃ Bs',Rel P G F' Bs' (st.upS [Jaq s cx x] []) tm w'∧(∀ i b,b∈Bs' i→b∈Bs i)∧(∀ b,b∈blk cv→b∉B→∀ i,b∉Bs' i) :=
 h.turnPlX rfl hp hx hB hn hF hF' hnf hw hz hos hnb
end
def SRel (P:Program) (G:Gd) (st:St) (a:Act) (w:World):Prop:=a.defers=G.D∧∃ F Bs,Rel P G F Bs st a.tmps w
def Lay (P:Program) (G:Gd) (st:St) (a:Act) (w:World) (d:Option Nat) (r:Out) (c:Value):Prop :=
 r.fits G.N d=true→SRel P G (st.put d r) (a.put d c) w
section
variable {P:Program} {G:Gd} {F:Nat→Prop} {Bs:Nat→List Nat} {st:St} {a:Act} {w:World}
theorem Jcf:∀ l:List (Nat × Ref),Jaf none [] l=l
 | []=>rfl
 | (t,r)::l=>by
  have:Jam none [] t r=true:=by simp [Jam,JaZ]
  simp [Jaf,this,Jcf l]
theorem Jak (st:St):st.upS [] []=st:=by simp [St.upS,JaL,Jcf]
theorem Jb3 (fr:Fr) (u v:List (Nat × SV)):JaL fr (u++v)=JaL (JaL fr u) v:=by
 induction u generalizing fr with
 | nil=>rfl
 | cons x u ih=>exact ih _
theorem Jb2 (st:St) (u v:List (Nat × SV)) (dr:List Nat):(st.upS u []).upS v dr=st.upS (u++v) dr:=by
 simp [St.upS,Jb3,Jcf]
theorem Jav {d:Option Nat} {x:SV} {r:Option Ref} {us:List (Nat × SV)} {drop:List Nat} {c:Value} {B:List Nat} (hd:a.defers=G.D)
 (h:Rel P G F Bs (st.upS us drop) a.tmps w) (hx:RS P F w x c B) (hn:B.Nodup) (hj:∀ i b,b∈B→b∉Bs i) (hf:∀ b∈B,¬ F b)
 (hw:∀ b∈B,G.W.heap.size≤b∨G.A b) (hl:∀ b∈B,b<w.heap.size)
 (hr:∀ q,r=some q→JcU P (st.upS us drop).fr a.tmps w q c):Lay P G st a w d ⟨x,r,us,drop⟩ c:=by
 intro hfit
 cases d with
 | none =>
  cases r with
  | some q=>simp [Out.fits] at hfit
  | none=>exact ⟨hd,F,Bs,h⟩
 | some d =>
  simp only [Out.fits,Bool.and_eq_true] at hfit
  have hlt:d<G.N.1:=by have:=hfit.1.1; simp only [Nat.blt_eq] at this; exact this
  have hpn:d∉G.N.2:=fun hm=>by have:=hfit.1.2; rw [JdP hm] at this; simp at this
  refine ⟨hd,F,upB Bs d B,?_⟩
  rw [Jko]
  exact h.put hlt hpn hx hn (fun i b _ hb=>hj i b hb) hf hw hl fun q hq=>by
   subst hq
   have:=hfit.2
   simp only [Bool.not_eq_true'] at this
   exact ⟨neB this,hr q rfl⟩
theorem Jar {d:Option Nat} {x:SV} {us:List (Nat × SV)} {drop:List Nat} {c:Value} (hd:a.defers=G.D)
 (h:Rel P G F Bs (st.upS us drop) a.tmps w) (hx:RS P F w x c []):Lay P G st a w d ⟨x,none,us,drop⟩ c :=
 Jav hd h hx (by simp) (by simp) (by simp) (by simp) (by simp) (by simp)
theorem JaE {d:Option Nat} {x:PV} {c:Value} (hd:a.defers=G.D) (h:Rel P G F Bs st a.tmps w) (hx:RP F w x c):Lay P G st a w d (JaO x) c :=
 Jar hd (by rw [Jak]; exact h) (.p hx)
theorem JaY {d:Option Nat} {q:Ref} {c:Value} (hd:a.defers=G.D) (h:Rel P G F Bs st a.tmps w) (hx:JcU P st.fr a.tmps w q c):Lay P G st a w d (Jhg q) c :=
 Jav hd (by rw [Jak]; exact h) (.dead c) (by simp) (by simp) (by simp) (by simp) (by simp) fun q' e=>by cases e; rw [Jak]; exact hx
theorem Rel.empty (h:Rel P G F Bs st a.tmps w) (s:Nat):Rel P G F (upB Bs s []) (st.upS [(s,.dead)] []) a.tmps w :=
 h.turn (drop:=[]) (.dead _) (by simp) (by simp) (fun _ q=>q) (fun _ q=>.inl q) (by simp) (fun _ _ _=>rfl) (Nat.le_refl _) ⟨rfl,rfl,rfl⟩
  (fun _ _ _ _ _=>.inr rfl) (fun _ _ e=>by cases e)
theorem JeV {s:Nat} {cx:Option (Nat × TypeId × List SV)} {x:SV} {c:Value} (h:JcC st.fr a.tmps w s cx x c) :
 JcU P st.fr a.tmps w (.o s (cx.map (·.1))) c:=by
 cases cx with
 | none=>exact h.2.symm
 | some q =>
  obtain ⟨j,Tb,cs⟩:=q
  obtain ⟨h1,h2,b,cur,h3,h4,h5⟩:=h
  intro T' cs' b' cur' T'' f hs ht hb
  rw [h3] at ht; cases ht
  rw [h4] at hb; cases hb
  exact h5
theorem Jes {s:Nat} {cx:Option (Nat × TypeId × List SV)} {T:TypeId} {es:List PV} {g n cap sz i off:Nat} (h:Ja8 st.fr a.tmps w s cx T es (.slice (some ⟨g,0,none⟩) n cap))
 (hi:i<n) (hsz:Jal P T=some sz):JcU P st.fr a.tmps w (.e s (cx.map (·.1)) T i off) (.pointer (some ⟨g,i * sz + off,none⟩)):=by
 cases cx with
 | none=>exact ⟨g,n,cap,h.2,hi,sz,hsz,rfl⟩
 | some q =>
  obtain ⟨j,Tb,cs⟩:=q
  obtain ⟨h1,h2,b,cur,h3,h4,h5⟩:=h
  intro T' cs' b' cur' T'' f hs ht hb
  rw [h3] at ht; cases ht
  rw [h4] at hb; cases hb
  exact ⟨g,n,cap,h5,hi,sz,hsz,rfl⟩
variable {R:Type} {res:R}
theorem Jco {d:Option Nat} {s:Nat} {x:SV} {c:Value} (hd:a.defers=G.D) (h:Rel P G F Bs st a.tmps w) (hs:st.fr s=x) (hc:a.tmps.getD s undef=c) :
 Lay P G st a w d ⟨x,none,[(s,.dead)],[]⟩ c:=by
 have h1:=h.sl s
 rw [hs,hc] at h1
 refine Jav hd (h.empty s) h1 (h.nd s) (fun i b hb=>?_) (h.nf s) (h.nw s) (h.lt s) (by simp)
 by_cases hi:i=s
 · subst hi; rw [Jaj]; simp
 · rw [Jah _ _ hi]; exact h.dj s i b (Ne.symm hi) hb
theorem JhZ {d:Option Nat} {s:Nat} {l:List SV} {c:Value} (hd:a.defers=G.D) (h:Rel P G F Bs st a.tmps w) (hs:st.fr s=.tup l) (hc:a.tmps.getD s undef=c) :
 Lay P G st a w d ⟨.tup l,none,[(s,.dead)],[]⟩ c:=by
 have h1:=h.sl s
 rw [hs,hc] at h1
 refine Jav hd (h.empty s) h1 (h.nd s) (fun i b hb=>?_) (h.nf s) (h.nw s) (h.lt s) (by simp)
 by_cases hi:i=s
 · subst hi; rw [Jaj]; simp
 · rw [Jah _ _ hi]; exact h.dj s i b (Ne.symm hi) hb
theorem Jbr {rv:RV} {c:Value} {K:Out→Option R} (hd:a.defers=G.D) (h:Rel P G F Bs st a.tmps w) (hr:RVR P F st.fr a.tmps w rv c) (hk:JbD rv K=some res) (d:Option Nat) :
 ∃ out,K out=some res∧Lay P G st a w d out c:=by
 cases rv with
 | bad=>simp [JbD] at hk
 | nl=>exact ⟨_,hk,Jar hd (by rw [Jak]; exact h) (by rw [show c=_ from hr]; exact .nl)⟩
 | pv x=>exact ⟨_,hk,JaE hd h hr⟩
 | own s cx T es=>exact ⟨_,hk,JaY hd h (JeV hr)⟩
 | box s off T cs =>
  obtain ⟨h1,b,h2,h3⟩:=hr
  exact ⟨_,hk,JaY hd h fun b' hb'=>by rw [h2] at hb'; cases hb'; exact h3⟩
 | el s cx T es i off =>
  obtain ⟨g,n,cap,sz,h1,h2,h3,rfl⟩:=hr
  exact ⟨_,hk,JaY hd h (Jes h1 h2 h3)⟩
 | tup s l=>exact ⟨_,hk,JhZ hd h hr.1 hr.2⟩
 | cl s g T cs =>
  obtain ⟨h1,b,h2,h3⟩:=hr
  exact ⟨_,hk,JaY hd h fun b' hb'=>by rw [h2] at hb'; cases hb'; exact h3⟩
 | ob s T e bs=>exact ⟨_,hk,JaY hd h fun b' hb'=>by rw [hr.2] at hb'; exact hb'⟩
 | st s l=>exact ⟨_,hk,Jco hd h hr.1 hr.2⟩
 | mp s cx d ks vs=>exact ⟨_,hk,JaY hd h (JeV hr)⟩
theorem RS.frozen {F':Nat→Prop} {T:TypeId} {es:List PV} {c:Value} {B:List Nat} (h:RS P F w (.own T es) c B) (hF:∀ b,F b→F' b) (hb:∀ b∈blk c,F' b):RP F' w (.sh es) c:=by
 cases h with
 | own h1 h2 h3 h4 h5 h6 h7 =>
  rename_i xs i z
  have h6':=h6.mono (w':=w) hF fun _ _=>rfl
  rcases h5.2 with ⟨rfl,hn⟩ | ⟨g,cap,cur,fz,rfl,hg0,hg,hnc,hcm,hcs,htake⟩
  · have hes:es=[]:=List.length_eq_zero_iff.1 hn
    subst hes
    exact Jcs _ _
  · refine .sh h6' h7 h4 (.inr ⟨g,0,rfl,hb g (by simp [blk,Value.ownBlock]),fun j x hj=>?_⟩) rfl hnc hcm
    rw [Nat.zero_add,cell_of_row w g j cur T _ hg]
    rw [←htake,List.getElem?_take] at hj
    split at hj
    · simpa using hj
    · cases hj
theorem RS.frozenM {F':Nat→Prop} {d:Option IntKind} {ks vs:List PV} {c:Value} {B:List Nat} (h:RS P F w (.mp d ks vs) c B) (hF:∀ b,F b→F' b) (hb:∀ b∈B,F' b):RP F' w (.fm d ks vs) c:=by
 cases h with
 | mp h1 h2 h3 h4 h5=>exact .fm (h1.mono (w':=w) hF fun _ _=>rfl) (h2.mono (w':=w) hF fun _ _=>rfl) (hb _ (by simp)) h3 h4 h5
theorem JdH {s:Nat} {cx:Option (Nat × TypeId × List SV)} {d:Option IntKind} {ks vs:List PV} {cv:Value} {tm:Array Value} (h:Rel P G F Bs st tm w)
 (hp:JcC st.fr tm w s cx (.mp d ks vs) cv) :
 ∃ F' Bs',Rel P G F' Bs' (st.upS [Jaq s cx (.p (.fm d ks vs))] []) tm w∧RP F' w (.fm d ks vs) cv∧(∀ b,F b→F' b)∧(∀ i b,b∈Bs' i→b∈Bs i):=by
 obtain ⟨h1,h2⟩:=h.placeX rfl hp
 have hfr:RP (fun b=>F b∨b∈blkX (.mp d ks vs) cv) w (.fm d ks vs) cv:=h1.frozenM (fun _ q=>.inl q) (fun _ q=>.inr q)
 obtain ⟨Bs',r1,r2,r3⟩:=h.turnPlX rfl hp (F':=fun b=>F b∨b∈blkX (.mp d ks vs) cv) (w':=w) (x:=.p (.fm d ks vs)) (B:=[]) (.p hfr) (by simp) (by simp) (fun _ q=>.inl q)
  (fun b q=>q.imp id fun r=>⟨r,by simp⟩) (by simp) (fun _ _ _=>rfl) (Nat.le_refl _) ⟨rfl,rfl,rfl⟩ (by simp)
 exact ⟨_,Bs',r1,hfr,fun _ q=>.inl q,r2⟩
theorem Jbp {s:Nat} {cx:Option (Nat × TypeId × List SV)} {T:TypeId} {es:List PV} {cv:Value} {tm:Array Value} (h:Rel P G F Bs st tm w)
 (hp:Ja8 st.fr tm w s cx T es cv) :
 ∃ F' Bs',Rel P G F' Bs' (st.upS [Jaq s cx (.p (.sh es))] []) tm w∧RP F' w (.sh es) cv∧(∀ b,F b→F' b)∧(∀ i b,b∈Bs' i→b∈Bs i):=by
 obtain ⟨h1,h2⟩:=h.place hp
 have hfr:RP (fun b=>F b∨b∈blk cv) w (.sh es) cv:=h1.frozen (fun _ q=>.inl q) (fun _ q=>.inr q)
 obtain ⟨Bs',r1,r2,r3⟩:=h.turnPl hp (F':=fun b=>F b∨b∈blk cv) (w':=w) (x:=.p (.sh es)) (B:=[]) (.p hfr) (by simp) (by simp) (fun _ q=>.inl q)
  (fun b q=>q.imp id fun r=>⟨r,by simp⟩) (by simp) (fun _ _ _=>rfl) (Nat.le_refl _) ⟨rfl,rfl,rfl⟩ (by simp)
 exact ⟨_,Bs',r1,hfr,fun _ q=>.inl q,r2⟩
theorem JaH {l:List PV} (h:Jat l=true):∀ x∈l,x.leaf=true:=by
 induction l with
 | nil=>simp
 | cons y l ih =>
  simp only [Jat,Bool.and_eq_true] at h
  intro x hx
  rcases List.mem_cons.1 hx with rfl | hx
  · exact h.1
  · exact ih h.2 x hx
theorem JaP {l:List PV} (h:∀ x∈l,x.leaf=true):Jat l=true:=by
 induction l with
 | nil=>rfl
 | cons y l ih=>simp only [Jat,Bool.and_eq_true]; exact ⟨h y (by simp),ih fun x hx=>h x (by simp [hx])⟩
theorem JbT {x:PV} {c:Value} (h:RP F w x c) (ho:c.oneCell'=true):x.leaf=true:=by
 cases h <;> first | exact ho | rfl | (simp [Value.oneCell'] at ho)
theorem Jcl:∀ {cs:List SV} {vs:List Value} {B:List Nat} {ys:List PV} {F':Nat→Prop},RSs P F w cs vs B→Jdh cs=some ys→(∀ b,F b→F' b)→(∀ b∈B,F' b) →
 RPs F' w ys vs∧((∀ v∈vs,v.oneCell'=true)→Jat ys=true)∧ys.length=cs.length
 | [],vs,B,ys,F',h,hf,_,_=>by
  cases h
  simp [Jdh] at hf; subst hf
  exact ⟨.nil,fun _=>rfl,rfl⟩
 | x::cs,vs,B,ys,F',h,hf,hF,hB=>by
  cases h with
  | cons h1 h2 =>
   rename_i c vs' B1 B2
   simp only [Jdh] at hf
   cases hx:frz x with
   | none=>simp [hx] at hf
   | some y =>
    cases hr:Jdh cs with
    | none=>simp [hx,hr] at hf
    | some ys' =>
     simp only [hx,hr,Option.some.injEq] at hf
     subst hf
     obtain ⟨g1,g2,g3⟩:=Jcl h2 hr hF fun b hb=>hB b (List.mem_append_right _ hb)
     have hy:RP F' w y c:=by
      cases x with
      | p z=>simp [frz] at hx; subst hx; cases h1 with | p q=>exact q.mono (w':=w) hF fun _ _=>rfl
      | nl=>simp [frz] at hx; subst hx; cases h1; exact Jcs _ _
      | own T es =>
       simp [frz] at hx; subst hx
       have hb1:B1=blk c:=by cases h1 with | own _ _ _ _ _ _ _=>rfl
       exact h1.frozen hF fun b hb=>hB b (List.mem_append_left _ (by rw [hb1]; exact hb))
      | mp d ks vs =>
       simp [frz] at hx; subst hx
       exact h1.frozenM hF fun b hb=>hB b (List.mem_append_left _ hb)
      | _=>simp [frz] at hx
     refine ⟨.cons hy g1,fun ho=>?_,by simp [g3]⟩
     simp only [Jat,Bool.and_eq_true]
     exact ⟨JbT hy (ho c (by simp)),g2 fun v hv=>ho v (by simp [hv])⟩
theorem JcY:∀ {cs:List SV} {vs:List Value} {B:List Nat} {ys:List PV},RSs P F w cs vs B→Jdh cs=some ys→Jct cs=false→B=[]
 | [],vs,B,ys,h,_,_=>by cases h; rfl
 | x::cs,vs,B,ys,h,hf,ha=>by
  cases h with
  | cons h1 h2 =>
   rename_i c vs' B1 B2
   simp only [Jdh] at hf
   cases hx:frz x with
   | none=>simp [hx] at hf
   | some y =>
    cases hr:Jdh cs with
    | none=>simp [hx,hr] at hf
    | some ys' =>
     cases x with
     | p z=>simp only [Jct] at ha; cases h1; rw [JcY h2 hr ha]; rfl
     | nl=>simp only [Jct] at ha; cases h1; rw [JcY h2 hr ha]; rfl
     | own T es=>simp [Jct] at ha
     | mp d ks vs=>simp [Jct] at ha
     | _=>simp [frz] at hx
theorem JdC {tm:Array Value} (h:Rel P G F Bs st tm w) {s off:Nat} {T:TypeId} {cs:List SV} {ys:List PV} (hs:st.fr s=.bx T cs) (hf:Jdh cs=some ys) :
 ∃ F' Bs' b,tm.getD s undef=.pointer (some ⟨b,0,none⟩)∧Rel P G F' Bs' (st.upS [(s,.p (.fb ys))] []) tm w∧RP F' w (.fb (ys.drop off)) (.pointer (some ⟨b,off,none⟩)) ∧
  (∀ b,F b→F' b)∧(∀ i b,b∈Bs' i→b∈Bs i)∧(∀ b,F' b→F b∨b∈Bs s):=by
 obtain ⟨b,cur,B,e1,e2,e3,e4,e5⟩:=h.box_inv hs
 obtain ⟨h1,h2,h3⟩:=Jcl (F':=fun b=>F b∨b∈Bs s) e3 hf (fun _ q=>.inl q) (fun b q=>.inr (by rw [e5]; exact List.mem_cons_of_mem _ q))
 have hl:=h2 e4
 have cell:∀ j,w.cell? ⟨b,j,none⟩=cur.toList[j]? := fun j=>by rw [cell_of_row w b j cur T _ e2]; simp
 have hfb:∀ off,RP (fun b=>F b∨b∈Bs s) w (.fb (ys.drop off)) (.pointer (some ⟨b,off,none⟩)):=fun off=>by
  refine .fb (h1.drop off) (JaP fun y hy=>JaH hl y (List.mem_of_mem_drop hy)) (.inr ⟨b,off,rfl,.inr (by rw [e5]; exact List.mem_cons_self),fun j x hj=>?_⟩)
  rw [List.getElem?_drop] at hj
  rw [cell,hj]
 have hturn:=h.turn (s:=s) (drop:=[]) (F':=fun b=>F b∨b∈Bs s) (w':=w) (x:=.p (.fb ys)) (B:=[]) (by rw [e1]; exact .p (by have:=hfb 0; rwa [List.drop_zero] at this)) (by simp) (by simp) (fun _ q=>.inl q)
  (fun b q=>q.imp id fun r=>⟨r,by simp⟩) (by simp) (fun _ _ _=>rfl) (Nat.le_refl _) ⟨rfl,rfl,rfl⟩ (fun _ _ _ _ _=>.inr rfl) (fun _ _ e=>by cases e)
 refine ⟨_,_,b,e1,hturn,hfb off,fun _ q=>.inl q,fun i b hb=>?_,fun _ q=>q⟩
 by_cases hi:i=s
 · subst hi; rw [Jaj] at hb; cases hb
 · rw [Jah _ _ hi] at hb; exact hb
theorem Rel.freezeSt {tm:Array Value} (h:Rel P G F Bs st tm w) {s:Nat} {cs:List SV} {ys:List PV} (hs:st.fr s=.st cs) (hf:Jdh cs=some ys) :
 ∃ F' Bs',Rel P G F' Bs' (st.upS [(s,.p (.agg ys))] []) tm w∧RP F' w (.agg ys) (tm.getD s undef)∧(∀ b,F b→F' b)∧(∀ i b,b∈Bs' i→b∈Bs i)∧(∀ b,F' b→F b∨b∈Bs s):=by
 have hsl:=h.sl s
 rw [hs] at hsl
 generalize hc:tm.getD s undef=c at hsl ⊢
 generalize hB:Bs s=B at hsl
 cases hsl with
 | st e1 e2 =>
  rename_i vs
  obtain ⟨h1,h2,h3⟩:=Jcl (F':=fun b=>F b∨b∈Bs s) e1 hf (fun _ q=>.inl q) (fun b q=>.inr (by rw [hB]; exact q))
  have ha:RP (fun b=>F b∨b∈Bs s) w (.agg ys) (.agg vs.toArray):=.agg h1 (h2 e2)
  have hturn:=h.turn (s:=s) (drop:=[]) (F':=fun b=>F b∨b∈Bs s) (w':=w) (x:=.p (.agg ys)) (B:=[]) (by rw [hc]; exact .p ha) (by simp) (by simp) (fun _ q=>.inl q)
   (fun b q=>q.imp id fun r=>⟨r,by simp⟩) (by simp) (fun _ _ _=>rfl) (Nat.le_refl _) ⟨rfl,rfl,rfl⟩ (fun _ _ _ _ _=>.inr rfl) (fun _ _ e=>by cases e)
  refine ⟨_,_,hturn,ha,fun _ q=>.inl q,fun i b hb=>?_,fun b q=>by rw [←hB]; exact q⟩
  by_cases hi:i=s
  · subst hi; rw [Jaj] at hb; cases hb
  · rw [Jah _ _ hi] at hb; exact hb
theorem JaD (s:Nat) (cx:Option (Nat × TypeId × List SV)) (x:SV):(Jaq s cx x).1=s:=by
 cases cx with
 | none=>rfl
 | some q=>rfl
theorem JiG {F1:Nat→Prop} {fr fr1:Fr} {tm:Array Value} {x:Operand} {rv:RV} {y:PV} {u:List (Nat × SV)} {c:Value} (hv:Jbj x rv=some (y,u))
 (hfr:∀ i∈u.map (·.1),fr1 i=fr i) (hF:∀ b,F b→F1 b) (h:RVR P F fr tm w rv c):RVR P F1 fr1 tm w rv c:=by
 cases rv with
 | pv z=>exact RP.mono (w':=w) h hF fun _ _=>rfl
 | nl=>exact h
 | own s cx T es =>
  simp only [Jbj,Option.some.injEq,Prod.mk.injEq] at hv
  obtain ⟨_,rfl⟩:=hv
  have hs:fr1 s=fr s:=hfr s (by simp [JaD])
  cases cx with
  | none=>exact ⟨by rw [hs]; exact h.1,h.2⟩
  | some q =>
   obtain ⟨j,Tb,cs⟩:=q
   exact ⟨by rw [hs]; exact h.1,h.2⟩
 | mp s cx d ks vs =>
  simp only [Jbj,Option.some.injEq,Prod.mk.injEq] at hv
  obtain ⟨_,rfl⟩:=hv
  have hs:fr1 s=fr s:=hfr s (by simp [JaD])
  cases cx with
  | none=>exact ⟨by rw [hs]; exact h.1,h.2⟩
  | some q =>
   obtain ⟨j,Tb,cs⟩:=q
   exact ⟨by rw [hs]; exact h.1,h.2⟩
 | box s off T cs =>
  simp only [Jbj] at hv
  split at hv
  · simp only [Option.some.injEq,Prod.mk.injEq] at hv
    obtain ⟨_,rfl⟩:=hv
    have hs:fr1 s=fr s:=hfr s (by simp)
    exact ⟨by rw [hs]; exact h.1,h.2⟩
  · cases hv
 | st s cs =>
  simp only [Jbj] at hv
  split at hv
  · simp only [Option.some.injEq,Prod.mk.injEq] at hv
    obtain ⟨_,rfl⟩:=hv
    have hs:fr1 s=fr s:=hfr s (by simp)
    exact ⟨by rw [hs]; exact h.1,h.2⟩
  · cases hv
 | _=>simp [Jbj] at hv
theorem Jap (fr:Fr):∀ (u:List (Nat × SV)) (i:Nat),i∉u.map (·.1)→JaL fr u i=fr i
 | [],i,_=>rfl
 | (s,x)::u,i,hi=>by
  simp only [List.map_cons,List.mem_cons,not_or] at hi
  rw [JaL,Jap _ u i hi.2,Jau _ _ hi.1]
theorem JdA {u v:List Nat} (h:Jao (u++v)=true):Jao u=true∧Jao v=true∧∀ i∈u,i∉v:=by
 induction u with
 | nil=>exact ⟨rfl,h,by simp⟩
 | cons x u ih =>
  simp only [List.cons_append,Jao,Bool.and_eq_true,Bool.not_eq_true'] at h
  obtain ⟨h1,h2,h3⟩:=ih h.2
  have hx:x∉u++v:=fun hm=>by rw [JdP hm] at h; simp at h
  refine ⟨?_,h2,?_⟩
  · simp only [Jao,Bool.and_eq_true,Bool.not_eq_true']
    refine ⟨?_,h1⟩
    cases hm:JaZ u x with
    | false=>rfl
    | true=>exact absurd (List.mem_append_left _ (Jh8 hm)) hx
  · intro i hi
    rcases List.mem_cons.1 hi with rfl | hi
    · exact fun hm=>hx (List.mem_append_right _ hm)
    · exact h3 i hi
theorem Jd2 {tm:Array Value} {x:Operand} {rv:RV} {c:Value} {y:PV} {u:List (Nat × SV)} (h:Rel P G F Bs st tm w) (hr:RVR P F st.fr tm w rv c) (hv:Jbj x rv=some (y,u)) :
 ∃ F' Bs',Rel P G F' Bs' (st.upS u []) tm w∧RP F' w y c∧(∀ b,F b→F' b)∧(∀ i b,b∈Bs' i→b∈Bs i):=by
 cases rv with
 | pv z =>
  simp only [Jbj,Option.some.injEq,Prod.mk.injEq] at hv
  obtain ⟨rfl,rfl⟩:=hv
  exact ⟨F,Bs,by rw [Jak]; exact h,hr,fun _ q=>q,fun _ _ q=>q⟩
 | nl =>
  simp only [Jbj,Option.some.injEq,Prod.mk.injEq] at hv
  obtain ⟨rfl,rfl⟩:=hv
  exact ⟨F,Bs,by rw [Jak]; exact h,by rw [show c=_ from hr]; exact Jcs F w,fun _ q=>q,fun _ _ q=>q⟩
 | own s cx T es =>
  simp only [Jbj,Option.some.injEq,Prod.mk.injEq] at hv
  obtain ⟨rfl,rfl⟩:=hv
  exact Jbp h hr
 | mp s cx d ks vs =>
  simp only [Jbj,Option.some.injEq,Prod.mk.injEq] at hv
  obtain ⟨rfl,rfl⟩:=hv
  exact JdH h hr
 | box s off T cs =>
  simp only [Jbj] at hv
  split at hv
  · rename_i ys hy
    simp only [Option.some.injEq,Prod.mk.injEq] at hv
    obtain ⟨rfl,rfl⟩:=hv
    obtain ⟨h1,b,h2,h3⟩:=hr
    obtain ⟨F',Bs',b',q1,q2,q3,q4,q5,q6⟩:=JdC (off:=off) h h1 hy
    rw [h2] at q1
    cases q1
    exact ⟨F',Bs',q2,by rw [h3]; exact q3,q4,q5⟩
  · cases hv
 | st s cs =>
  simp only [Jbj] at hv
  split at hv
  · rename_i ys hy
    simp only [Option.some.injEq,Prod.mk.injEq] at hv
    obtain ⟨rfl,rfl⟩:=hv
    obtain ⟨F',Bs',r1,r2,r3,r4,r5⟩:=h.freezeSt hr.1 hy
    exact ⟨F',Bs',r1,by rw [←hr.2]; exact r2,r3,r4⟩
  · cases hv
 | _=>simp [Jbj] at hv
theorem JbN {tm:Array Value}:∀ {l:List (Operand × RV)} {vs:List Value} {st:St} {F:Nat→Prop} {Bs:Nat→List Nat} {ys:List PV} {us:List (Nat × SV)},
 Rel P G F Bs st tm w→(∀ (j:Nat) (q:Operand × RV),l[j]? = some q→∃ c,vs[j]? = some c∧RVR P F st.fr tm w q.2 c)→vs.length=l.length→Ja2 l=some (ys,us) →
 Jao (us.map (·.1))=true →
 ∃ F' Bs',Rel P G F' Bs' (st.upS us []) tm w∧RPs F' w ys vs∧(∀ b,F b→F' b)∧(∀ i b,b∈Bs' i→b∈Bs i)
 | [],vs,st,F,Bs,ys,us,h,hv,hl,hk,hd=>by
  simp [Ja2] at hk
  obtain ⟨rfl,rfl⟩:=hk
  have:vs=[]:=List.length_eq_zero_iff.1 (by simpa using hl)
  subst this
  exact ⟨F,Bs,by rw [Jak]; exact h,.nil,fun _ q=>q,fun _ _ q=>q⟩
 | (x,r)::l,vs,st,F,Bs,ys,us,h,hv,hl,hk,hd=>by
  cases vs with
  | nil=>simp at hl
  | cons c vs =>
   have hr:RVR P F st.fr tm w r c:=by
    obtain ⟨c',e,q⟩:=hv 0 (x,r) rfl
    simp at e; subst e; exact q
   simp only [Ja2] at hk
   cases hy:Jbj x r with
   | none=>simp [hy] at hk
   | some q =>
    obtain ⟨y,u⟩:=q
    cases hys:Ja2 l with
    | none=>simp [hy,hys] at hk
    | some q2 =>
     obtain ⟨ys',us'⟩:=q2
     simp only [hy,hys,Option.some.injEq,Prod.mk.injEq] at hk
     obtain ⟨rfl,rfl⟩:=hk
     rw [List.map_append] at hd
     obtain ⟨d1,d2,d3⟩:=JdA hd
     obtain ⟨F1,Bs1,r1,r2,r3,r4⟩:=Jd2 h hr hy
     have hsub:∀ {l:List (Operand × RV)} {ys:List PV} {us:List (Nat × SV)},Ja2 l=some (ys,us)→∀ (j:Nat) (q:Operand × RV),l[j]? = some q →
      ∃ y u,Jbj q.1 q.2=some (y,u)∧∀ i∈u.map (·.1),i∈us.map (·.1):=by
      intro l
      induction l with
      | nil=>intro ys us _ j q hj; simp at hj
      | cons p l ih =>
       obtain ⟨x,r⟩:=p
       intro ys us hk j q hj
       simp only [Ja2] at hk
       cases hy:Jbj x r with
       | none=>simp [hy] at hk
       | some q1 =>
        cases hys:Ja2 l with
        | none=>simp [hy,hys] at hk
        | some q2 =>
         simp only [hy,hys,Option.some.injEq,Prod.mk.injEq] at hk
         obtain ⟨rfl,rfl⟩:=hk
         cases j with
         | zero=>simp at hj; subst hj; exact ⟨q1.1,q1.2,hy,fun i hi=>by simp at hi ⊢; exact .inl hi⟩
         | succ j =>
          simp at hj
          obtain ⟨y,u,e1,e2⟩:=ih hys j q hj
          exact ⟨y,u,e1,fun i hi=>by have:=e2 i hi; simp at this ⊢; exact .inr this⟩
     have hv':∀ (j:Nat) (q:Operand × RV),l[j]? = some q→∃ c,vs[j]? = some c∧RVR P F1 (st.upS u []).fr tm w q.2 c:=by
      intro j q hj
      obtain ⟨c',e,hq⟩:=hv (j + 1) q (by simpa using hj)
      obtain ⟨yq,uq,e1,e2⟩:=hsub hys j q hj
      exact ⟨c',by simpa using e,JiG e1 (fun i hi=>Jap _ _ _ fun hm=>d3 i hm (e2 i hi)) r3 hq⟩
     obtain ⟨F2,Bs2,s1,s2,s3,s4⟩:=JbN r1 hv' (by simpa using hl) hys d2
     refine ⟨F2,Bs2,?_,.cons (r2.mono (w':=w) s3 fun _ _=>rfl) s2,fun b q=>s3 b (r3 b q),fun i b q=>r4 i b (s4 i b q)⟩
     rw [←Jb2]; exact s1
end
end Go.Proofs.YtgglhmfncoeffaaGreatDoor.Th
set_option linter.unusedVariables false
set_option linter.unusedSimpArgs false
namespace Go.Proofs.YtgglhmfncoeffaaGreatDoor.Th
open Go
variable {R:Type} {res:R}
theorem JbC {a b:IntKind} (h:Jeg a b=true):a=b:=by cases a <;> cases b <;> first | rfl | (simp [Jeg] at h)
theorem Jab {b:Bool} {x:Option R} (h:(bif b then x else none)=some res):b=true∧x=some res:=by
 cases b with
 | false=>simp at h
 | true=>exact ⟨rfl,h⟩
theorem Jbd {b:Bool} {x:Option R} (h:(bif b then none else x)=some res):b=false∧x=some res:=by
 cases b with
 | true=>simp at h
 | false=>exact ⟨rfl,h⟩
theorem JjJ:∀ n m:Nat,leN n m=decide (n≤m)
 | 0,m=>by simp [leN]
 | n + 1,0=>by simp [leN]
 | n + 1,m + 1=>by simp [leN,JjJ n m]
theorem JkU {n m:Nat} (h:leN n m=true):n≤m:=by rw [JjJ] at h; exact of_decide_eq_true h
theorem Jfe {k:IntKind} {e:PV} {K:Int→Option R} (h:Jkw k e K=some res):∃ x,e=.v (.int k x)∧K x=some res:=by
 unfold Jkw at h
 split at h
 · obtain ⟨h1,h2⟩:=Jab h
   rw [JbC h1]; exact ⟨_,rfl,h2⟩
 · cases h
theorem JcH {c:CK} {e:PV} {K:PV→Option R} (h:JgX c e K=some res):K e=some res∧e.leaf=true:=by
 cases c with
 | i k=>obtain ⟨x,rfl,hx⟩:=Jfe h; exact ⟨hx,rfl⟩
 | b=>simp only [JgX] at h; unfold Jkv at h; split at h <;> first | exact ⟨h,rfl⟩ | cases h
 | s=>simp only [JgX] at h; unfold Jkx at h; split at h <;> first | exact ⟨h,rfl⟩ | cases h
 | sl=>simp only [JgX] at h; unfold JkQ at h; split at h <;> first | exact ⟨h,rfl⟩ | cases h
 | o=>exact ⟨(Jab h).2,(Jab h).1⟩
theorem Jbv {cs:List PV} {K:PV→List PV→Option R} (h:Jep cs K=some res):∃ x r,cs=x::r∧K x r=some res:=by
 unfold Jep at h
 split at h
 · exact ⟨_,_,rfl,h⟩
 · cases h
theorem Je3:∀ {ks:List CK} {cs:List PV} {K:List PV→Option R},JeA ks cs K=some res→K cs=some res∧Jat cs=true
 | [],cs,K,h=>by
  simp only [JeA,JjD] at h
  split at h
  · exact ⟨h,rfl⟩
  · cases h
 | c::ks,cs,K,h=>by
  simp only [JeA] at h
  obtain ⟨x,r,rfl,h1⟩:=Jbv h
  obtain ⟨h2,hl⟩:=JcH h1
  obtain ⟨h3,hr⟩:=Je3 h2
  exact ⟨h3,by simp [Jat,hl,hr]⟩
theorem Jba {e:PV} (h:e.leaf=true):Jad e=[e]:=by
 cases e <;> first | rfl | (simp [PV.leaf] at h)
theorem Jbm {P:Program} {T:TypeId} {e:PV} {K:List PV→Option R} (h:JfE P T e K=some res) :
 K (Jad e)=some res∧Jat (Jad e)=true∧e=mkE (Jai P T) (Jad e)∧(Jai P T=false→e.leaf=true):=by
 unfold JfE at h
 cases ha:Jai P T with
 | true =>
  rw [ha] at h
  simp only [Jlc] at h
  unfold Jiy at h
  split at h
  · obtain ⟨h1,h2⟩:=Je3 h
    exact ⟨h1,h2,rfl,by simp⟩
  · cases h
 | false =>
  rw [ha] at h
  simp only [Jlc] at h
  split at h
  · obtain ⟨h1,h2⟩:=JcH h
    rw [Jba h2]
    exact ⟨h1,by simp [Jat,h2],rfl,fun _=>h2⟩
  · cases h
section
variable {P:Program} {G:Gd} {F:Nat→Prop} {Bs:Nat→List Nat} {st:St} {a:Act} {w:World}
theorem Jbk {x c:Value} (h:RP F w (.v x) c):c=x:=by cases h; rfl
theorem Jdp {x:PV} {c:Value} (h:RP F w x c) (hl:x.leaf=true):c.oneCell'=true:=by
 cases h <;> first | exact hl | rfl | (simp [PV.leaf] at hl)
theorem Jcg {l:List PV} {cs:List Value} (h:RPs F w l cs) (hl:Jat l=true):∀ c∈cs,c.oneCell'=true:=by
 induction l generalizing cs with
 | nil=>cases h; simp
 | cons x l ih =>
  cases h with
  | cons h1 h2 =>
   simp only [Jat,Bool.and_eq_true] at hl
   intro c hc
   rcases List.mem_cons.1 hc with rfl | hc
   · exact Jdp h1 hl.1
   · exact ih h2 hl.2 c hc
theorem JdU {c:Value} (h:c.oneCell'=true):c.cells=#[c]:=by
 cases c <;> first | rfl | (simp [Value.oneCell'] at h)
theorem Jdx {x:PV} {c:Value} (h:RP F w x c) (hl:Jat (Jad x)=true):RPs F w (Jad x) c.cells.toList:=by
 cases hx:x.leaf with
 | true =>
  rw [Jba hx,JdU (Jdp h hx)]
  exact .cons h .nil
 | false =>
  cases h with
  | agg h1 h2=>exact h1
  | v x=>simp [Jad,Jat,hx] at hl
  | _=>simp [PV.leaf] at hx
def Eff (P:Program) (G:Gd) (st:St) (a:Act) (w:World) (o:Oper) (r:Out):Prop :=
 r.fits G.N o.dst=true→∃ c w',((execOp a.eval o).run P w=.ok (.value c) w'∨((execOp a.eval o).run P w=.ok .skip w'∧c=undef))∧SRel P G (st.put o.dst r) (a.put o.dst c) w'
theorem Eff.wp {o:Oper} {r:Out} (h:Eff P G st a w o r) (hf:r.fits G.N o.dst=true) {next:Act→World→Prop} {Q:Exit→Act→World→Prop}
 (hn:∀ a' w',SRel P G (st.put o.dst r) a' w'→next a' w'):o.wp P a w next Q:=by
 obtain ⟨c,w',hr,hs⟩:=h hf
 unfold Oper.wp
 rcases hr with hr | ⟨hr,rfl⟩
 · rw [hr]; exact hn _ _ hs
 · rw [hr]; exact hn _ _ hs
theorem Jaa {o:Oper} {r:Out} {c:Value} (hr:(execOp a.eval o).run P w=.ok (.value c) w) (hl:Lay P G st a w o.dst r c):Eff P G st a w o r :=
 fun hf=>⟨c,w,.inl hr,hl hf⟩
theorem JjB {d:Option Nat} {s:Nat} {T:TypeId} {es:List PV} {c:Value} (hd:a.defers=G.D) (h:Rel P G F Bs st a.tmps w) (hs:st.fr s=.own T es) (hc:a.tmps.getD s undef=c) :
 Lay P G st a w d ⟨.own T es,none,[(s,.dead)],[]⟩ c:=by
 obtain ⟨h1,h2⟩:=h.own_inv hs
 rw [hc] at h1
 refine Jav hd (h.empty s) h1 (h.nd s) (fun i b hb=>?_) (h.nf s) (h.nw s) (h.lt s) (by simp)
 by_cases hi:i=s
 · subst hi; rw [Jaj]; simp
 · rw [Jah _ _ hi]; exact h.dj s i b (Ne.symm hi) hb
theorem Jb {x:Operand} {s:Nat} {cx:Option (Nat × TypeId × List SV)} (h:Jax x s cx=true):x=.tmp s∧cx=none:=by
 cases cx with
 | some q=>simp [Jax] at h
 | none =>
  simp only [Jax,Jfa] at h
  split at h
  · rename_i t; rw [eqB h]; exact ⟨rfl,rfl⟩
  · cases h
theorem Jib {o:Oper} {x:Operand} {K:Out→Option R} {env:Env} (hd:a.defers=G.D) (h:Rel P G F Bs st a.tmps w) (ho:o.op=.assign x) (hk:opK P env (.assign x) o.type (opd st) K=some res) :
 ∃ out,K out=some res∧Eff P G st a w o out:=by
 have hrun:(execOp a.eval o).run P w=.ok (.value (a.eval x)) w:=by simp [execOp,ho]
 have hr:=Jag h x
 simp only [opK] at hk
 cases hx:opd st x with
 | own s cx T es =>
  rw [hx] at hk hr
  simp only [] at hk
  cases hdi:Jax x s cx with
  | true =>
   rw [hdi] at hk
   obtain ⟨rfl,rfl⟩:=Jb hdi
   exact ⟨_,hk,Jaa hrun (JjB hd h hr.1 hr.2)⟩
  | false =>
   rw [hdi] at hk
   obtain ⟨F',Bs',r1,r2,r3,r4⟩:=Jbp h hr
   exact ⟨_,hk,Jaa hrun (Jar hd r1 (.p r2))⟩
 | mp s cx d ks vs =>
  rw [hx] at hk hr
  simp only [] at hk
  cases hdi:Jax x s cx with
  | true =>
   rw [hdi] at hk
   obtain ⟨rfl,rfl⟩:=Jb hdi
   exact ⟨_,hk,Jaa hrun (Jco hd h hr.1 hr.2)⟩
  | false =>
   rw [hdi] at hk
   obtain ⟨F',Bs',r1,r2,r3,r4⟩:=JdH h hr
   exact ⟨_,hk,Jaa hrun (Jar hd r1 (.p r2))⟩
 | pv y=>rw [hx] at hk hr; exact ⟨_,hk,Jaa hrun (JaE hd h hr)⟩
 | nl=>rw [hx] at hk hr; exact ⟨_,hk,Jaa hrun (Jar hd (by rw [Jak]; exact h) (by rw [show a.eval x=_ from hr]; exact .nl))⟩
 | tup s l=>rw [hx] at hk hr; exact ⟨_,hk,Jaa hrun (JhZ hd h hr.1 hr.2)⟩
 | st s l=>rw [hx] at hk hr; exact ⟨_,hk,Jaa hrun (Jco hd h hr.1 hr.2)⟩
 | _=>rw [hx] at hk; cases hk
theorem Jf6 {o:Oper} {x:Operand} {K:Out→Option R} (hd:a.defers=G.D) (h:Rel P G F Bs st a.tmps w) (ho:o.op=.move x) (hk:JbD (opd st x) K=some res) :
 ∃ out,K out=some res∧Eff P G st a w o out:=by
 have hrun:(execOp a.eval o).run P w=.ok (.value (a.eval x)) w:=by simp [execOp,ho]
 obtain ⟨out,h1,h2⟩:=Jbr hd h (Jag h x) hk o.dst
 exact ⟨out,h1,Jaa hrun h2⟩
theorem Jkg {o:Oper} {x:Operand} {K:Out→Option R} (hd:a.defers=G.D) (h:Rel P G F Bs st a.tmps w) (ho:o.op=.assign x) (hk:Jjb (opd st x) K=some res) :
 ∃ out,K out=some res∧Eff P G st a w o out:=by
 have hr:=Jag h x
 have hrun:(execOp a.eval o).run P w=.ok (.value (a.eval x)) w:=by simp [execOp,ho]
 unfold Jjb at hk
 split at hk
 · rename_i s T es hx
   rw [hx] at hr
   exact ⟨_,hk,Jaa hrun (Jco hd h hr.1 hr.2)⟩
 · rename_i s d ks vs hx
   rw [hx] at hr
   exact ⟨_,hk,Jaa hrun (Jco hd h hr.1 hr.2)⟩
 · rename_i s T cs hx
   rw [hx] at hr
   obtain ⟨h1,b,h2,h3⟩:=hr
   exact ⟨_,hk,Jaa hrun (Jco hd h h1 (by rw [h2,h3]))⟩
 · cases hk
theorem Jie {o:Oper} {x:Operand} {K:Out→Option R} (hd:a.defers=G.D) (h:Rel P G F Bs st a.tmps w) (ho:o.op=.move x) (hk:K ⟨.dead,none,[],[]⟩=some res) :
 ∃ out,K out=some res∧Eff P G st a w o out:=by
 have hrun:(execOp a.eval o).run P w=.ok (.value (a.eval x)) w:=by simp [execOp,ho]
 exact ⟨_,hk,Jaa hrun (Jar hd (by rw [Jak]; exact h) (.dead _))⟩
theorem Jif {o:Oper} {x:Operand} {K:Out→Option R} (hd:a.defers=G.D) (h:Rel P G F Bs st a.tmps w) (ho:o.op=.move x) (hk:JdG (opd st x) K=some res) :
 ∃ out,K out=some res∧Eff P G st a w o out:=by
 have hrun:(execOp a.eval o).run P w=.ok (.value (a.eval x)) w:=by simp [execOp,ho]
 unfold JdG at hk
 cases hv:Jbj (.tmp 0) (opd st x) with
 | none=>rw [hv] at hk; cases hk
 | some q =>
  obtain ⟨y,us⟩:=q
  rw [hv] at hk
  obtain ⟨F',Bs',r1,r2,r3,r4⟩:=Jd2 h (Jag h x) hv
  exact ⟨_,hk,Jaa hrun (Jar hd r1 (.p r2))⟩
theorem Jkj {o:Oper} {c x y:Operand} {K:Out→Option R} {env:Env} (hd:a.defers=G.D) (h:Rel P G F Bs st a.tmps w) (ho:o.op=.pick c x y) (hk:opK P env (.pick c x y) o.type (opd st) K=some res) :
 ∃ out,K out=some res∧Eff P G st a w o out:=by
 have hrc:=Jag h c
 have hrx:=Jag h x
 have hry:=Jag h y
 simp only [opK] at hk
 split at hk
 · rename_i t hc
   rw [hc] at hrc
   have hcv:a.eval c=.bool t:=Jbk hrc
   have hrun:(execOp a.eval o).run P w=.ok (.value (if t then a.eval x else a.eval y)) w:=by
    simp [execOp,ho,hcv,asBool]
   split at hk
   · rename_i bx by' hx hy
     rw [hx] at hrx; rw [hy] at hry
     have hxv:a.eval x=.bool bx:=Jbk hrx
     have hyv:a.eval y=.bool by':=Jbk hry
     refine ⟨_,hk,Jaa hrun (JaE hd h ?_)⟩
     rw [hxv,hyv]
     have:(if t=true then Value.bool bx else Value.bool by')=.bool (bif t then bx else by'):=by cases t <;> rfl
     rw [this]; exact .v _
   · cases t with
     | true =>
      obtain ⟨out,h1,h2⟩:=Jbr hd h hrx hk o.dst
      exact ⟨out,h1,Jaa hrun h2⟩
     | false =>
      obtain ⟨out,h1,h2⟩:=Jbr hd h hry hk o.dst
      exact ⟨out,h1,Jaa hrun h2⟩
 · cases hk
theorem JhG {op:BinOp} {k:IntKind} {x y:Int} {K:PV→Option R} (hsh:JdI op=false) (hk:JkH op k x y K=some res) :
 ∃ v,K (.v v)=some res∧∀ T,(Go.binOp op T (.int k x) (.int k y)).run P w=.ok v w:=by
 cases op <;> simp only [JkH] at hk
 case quo =>
  obtain ⟨h1,h2⟩:=Jbd hk
  have hy:y≠0:=of_decide_eq_false h1
  exact ⟨_,h2,fun T=>by simp [Go.binOp,Op.intDiv,hy]⟩
 case rem =>
  obtain ⟨h1,h2⟩:=Jbd hk
  have hy:y≠0:=of_decide_eq_false h1
  exact ⟨_,h2,fun T=>by simp [Go.binOp,Op.intDiv,hy]⟩
 all_goals first
  | (cases hk; done)
  | (refine ⟨_,hk,fun T=>?_⟩; simp [Go.binOp,Op.intArith,Op.intCmp,Op.intBits,JfY]; done)
  | (simp [JdI] at hsh; done)
theorem Jjw {op:BinOp} {k k':IntKind} {x y:Int} {K:PV→Option R} (hk:shI op k x y K=some res) :
 ∃ v,K (.v v)=some res∧∀ T,(Go.binOp op T (.int k x) (.int k' y)).run P w=.ok v w:=by
 cases op <;> simp only [shI] at hk
 case shl =>
  obtain ⟨h1,h2⟩:=Jbd hk
  have hy:¬ y<0:=of_decide_eq_false h1
  exact ⟨_,h2,fun T=>by simp [Go.binOp,Op.shift,hy]⟩
 case shr =>
  obtain ⟨h1,h2⟩:=Jbd hk
  have hy:¬ y<0:=of_decide_eq_false h1
  exact ⟨_,h2,fun T=>by simp [Go.binOp,Op.shift,hy]⟩
 all_goals cases hk
theorem JhH {op:BinOp} {x y:ByteArray} {K:PV→Option R} (hk:JkI op x y K=some res) :
 ∃ v,K (.v v)=some res∧∀ T,(Go.binOp op T (.string x) (.string y)).run P w=.ok v w:=by
 cases op <;> simp only [JkI] at hk
 case add =>
  unfold Jlb at hk
  obtain ⟨h1,h2⟩:=Jab hk
  have hle:¬ (((x.size + y.size:Nat):Int)>IntKind.i64.max):=by
   have:=JkU h1
   have e:IntKind.i64.max=9223372036854775807:=rfl
   omega
  refine ⟨_,h2,fun T=>?_⟩
  simp only [Go.binOp,Op.stringOp,if_neg hle]
  rfl
 all_goals first
  | (cases hk; done)
  | (refine ⟨_,hk,fun T=>?_⟩; simp [Go.binOp,Op.stringOp,eqS,ltS,ByteArray.toList_eq]; done)
theorem JkR (op:BinOp) (T:TypeId) (x y:Operand) (k k':IntKind) (m n:Int):(eqGuard op T x y (.int k m) (.int k' n)).run P w=.ok () w:=by cases op <;> rfl
theorem JkS (op:BinOp) (T:TypeId) (x y:Operand) (m n:ByteArray):(eqGuard op T x y (.string m) (.string n)).run P w=.ok () w:=by cases op <;> rfl
theorem JjI (op:BinOp) (T:TypeId) (x y:Operand) (m n:Bool):(eqGuard op T x y (.bool m) (.bool n)).run P w=.ok () w:=by cases op <;> rfl
theorem JiM {T:TypeId} (h:JiL P T=true):P.underlying T=some .bool:=by
 unfold JiL at h
 split at h
 · assumption
 · cases h
theorem Jfb (d:Nat) {T:TypeId} (hu:P.underlying T=some .bool) (m n:Bool):(Op.equalIn (d + 1) T (.bool m) (.bool n)).run P w=.ok (m == n) w:=by
 simp [Op.equalIn,run_underlying hu]
theorem Jg3 {T:TypeId} (hu:P.underlying T=some .bool) (m n:Bool):(Op.equal T (.bool m) (.bool n)).run P w=.ok (m == n) w :=
 Jfb 9999 hu m n
theorem Jls {o:Oper} {op:UnOp} {T:TypeId} {x:Operand} {K:Out→Option R} {env:Env} (hd:a.defers=G.D) (h:Rel P G F Bs st a.tmps w) (ho:o.op=.unOp op T x)
 (hk:opK P env (.unOp op T x) o.type (opd st) K=some res):∃ out,K out=some res∧Eff P G st a w o out:=by
 have hrx:=Jag h x
 simp only [opK] at hk
 split at hk
 · rename_i u hx
   rw [hx] at hrx
   unfold unK at hk
   split at hk
   · have e1:=Jbk hrx
     exact ⟨_,hk,Jaa (by simp [execOp,ho,e1,Op.unary,Op.intArith]) (JaE hd h (.v _))⟩
   · have e1:=Jbk hrx
     exact ⟨_,hk,Jaa (by simp [execOp,ho,e1,Op.unary]) (JaE hd h (.v _))⟩
   · have e1:=Jbk hrx
     exact ⟨_,hk,Jaa (by simp [execOp,ho,e1,Op.unary,Op.intBits,JfY]) (JaE hd h (.v _))⟩
   · cases hk
 · cases hk
theorem Jhc {o:Oper} {x:Operand} {i:Nat} {K:Out→Option R} {env:Env} (hd:a.defers=G.D) (h:Rel P G F Bs st a.tmps w) (ho:o.op=.extract x i)
 (hk:opK P env (.extract x i) o.type (opd st) K=some res):∃ out,K out=some res∧Eff P G st a w o out:=by
 have hrx:=Jag h x
 simp only [opK] at hk
 split at hk
 · rename_i s l hx
   rw [hx] at hrx
   obtain ⟨h1,h2⟩:=hrx
   have hs:=h.sl s
   rw [h1,h2] at hs
   generalize hB:Bs s=B at hs
   generalize hv:a.eval x=c at hs
   cases hs with
   | tup hl =>
    rename_i vs
    have run:∀ c,vs[i]? = some c→(execOp a.eval o).run P w=.ok (.value c) w:=by
     intro c hc
     simp [execOp,ho,hv,Instr.extract,hc]
    have leave:∀ (y:SV),l.getD i .dead=y→y≠.dead→∀ (hk:K ⟨y,none,[(s,.tup (l.set i .dead))],[]⟩=some res),∃ out,K out=some res∧Eff P G st a w o out:=by
     intro y hy hyd hk
     obtain ⟨c,Bj,pre,post,f1,f2,f3,f4⟩:=hl.get (getD_some hy hyd)
     have hnd:=h.nd s
     rw [hB,f3,List.append_assoc,List.nodup_append,List.nodup_append] at hnd
     have hmem:∀ b,b∈pre++post→b∈Bs s:=fun b hb=>by rw [hB,f3]; rcases List.mem_append.1 hb with q | q <;> simp [q]
     have hmemj:∀ b,b∈Bj→b∈Bs s:=fun b hb=>by rw [hB,f3]; simp [hb]
     have hnot:∀ b,b∈Bj→b∉pre++post:=by
      intro b hb hc
      rcases List.mem_append.1 hc with q | q
      · exact hnd.2.2 b q b (List.mem_append_left _ hb) rfl
      · exact hnd.2.1.2.2 b hb b q rfl
     have e4:=f4 F w .dead c [] (fun _ q=>q) (fun _ _=>rfl) (.dead c)
     rw [JgH f1,List.append_nil] at e4
     have hrt:RS P F w (.tup (l.set i .dead)) (a.tmps.getD s undef) (pre++post):=by
      rw [h2,hv]
      have:=RS.tup (P:=P) e4
      simpa using this
     have r1:=h.turn (drop:=[]) (F':=F) (w':=w) hrt (fun b hb=>.inl (hmem b hb)) (List.nodup_append.2 ⟨hnd.1,hnd.2.1.2.1,fun b1 q b2 r e=>hnd.2.2 b1 q b2 (List.mem_append_right _ r) e⟩)
      (fun _ q=>q) (fun _ q=>.inl q) (fun b hb=>h.nf s b (hmem b hb)) (fun _ _ _=>rfl) (Nat.le_refl _) ⟨rfl,rfl,rfl⟩ (fun _ _ _ _ _=>.inr rfl) (fun _ _ e=>by cases e)
     refine ⟨_,hk,Jaa (run c (by simpa using f1)) (Jav hd r1 f2 hnd.2.1.1 (fun j b hb=>?_) (fun b hb=>h.nf s b (hmemj b hb)) (fun b hb=>h.nw s b (hmemj b hb)) (fun b hb=>h.lt s b (hmemj b hb)) (by simp))⟩
     by_cases hj:j=s
     · subst hj; rw [Jaj]; exact hnot b hb
     · rw [Jah _ _ hj]; exact h.dj s j b (Ne.symm hj) (hmemj b hb)
    split at hk
    · rename_i y hy
      obtain ⟨c,Bj,pre,post,f1,f2,f3,f4⟩:=hl.get (getD_some hy (by simp))
      cases f2 with
      | p h3=>exact ⟨_,hk,Jaa (run c (by simpa using f1)) (JaE hd h h3)⟩
    · rename_i hy
      obtain ⟨c,Bj,pre,post,f1,f2,f3,f4⟩:=hl.get (getD_some hy (by simp))
      cases f2 with
      | nl=>exact ⟨_,hk,Jaa (run _ (by simpa using f1)) (Jar hd (by rw [Jak]; exact h) .nl)⟩
    · rename_i T es hy; exact leave _ hy (by simp) hk
    · rename_i d ks vs' hy; exact leave _ hy (by simp) hk
    · rename_i T cs hy; exact leave _ hy (by simp) hk
    · rename_i T e bs hy; exact leave _ hy (by simp) hk
    · rename_i cs hy; exact leave _ hy (by simp) hk
    · cases hk
 · cases hk
theorem Jf7 {o:Oper} {x:Operand} {K:Out→Option R} {env:Env} (hd:a.defers=G.D) (h:Rel P G F Bs st a.tmps w) (ho:o.op=.nilCheck x)
 (hk:opK P env (.nilCheck x) o.type (opd st) K=some res):∃ out,K out=some res∧Eff P G st a w o out:=by
 have hrx:=Jag h x
 simp only [opK] at hk
 have go:∀ c,a.eval x=c→(∃ b,c=.pointer (some b))∨(∃ f u v,c=.func (.func f) u v)→(execOp a.eval o).run P w=.ok (.value c) w:=by
  intro c hc hf
  rcases hf with ⟨b,rfl⟩ | ⟨f,u,v,rfl⟩ <;> simp [execOp,ho,hc]
 split at hk
 · rename_i s off T cs hx
   rw [hx] at hrx
   obtain ⟨out,h1,h2⟩:=Jbr hd h hrx hk o.dst
   obtain ⟨_,b,_,e⟩:=hrx
   exact ⟨out,h1,Jaa (go _ rfl (.inl ⟨_,e⟩)) h2⟩
 · rename_i s T e bs hx
   rw [hx] at hrx
   obtain ⟨out,h1,h2⟩:=Jbr hd h hrx hk o.dst
   obtain ⟨b,e1⟩:=h.ob_inv hrx.1
   exact ⟨out,h1,Jaa (go _ rfl (.inl ⟨_,hrx.2.symm.trans e1⟩)) h2⟩
 · rename_i s cx T es i off hx
   rw [hx] at hrx
   obtain ⟨out,h1,h2⟩:=Jbr hd h hrx hk o.dst
   obtain ⟨g,n,cap,sz,_,_,_,e⟩:=hrx
   exact ⟨out,h1,Jaa (go _ rfl (.inl ⟨_,e⟩)) h2⟩
 · rename_i s g T cs hx
   rw [hx] at hrx
   obtain ⟨out,h1,h2⟩:=Jbr hd h hrx hk o.dst
   obtain ⟨_,b,_,e⟩:=hrx
   exact ⟨out,h1,Jaa (go _ rfl (.inr ⟨_,_,_,e⟩)) h2⟩
 · rename_i cs hx
   rw [hx] at hrx
   have hrx':RP F w (.fb cs) (a.eval x):=hrx
   refine ⟨_,hk,Jaa (go _ rfl (.inl ?_)) (JaE hd h hrx')⟩
   generalize a.eval x=c at hrx'
   cases hrx' with | fb _ _ _=>exact ⟨_,rfl⟩
 · rename_i f cs hx
   rw [hx] at hrx
   have hrx':RP F w (.clo f cs) (a.eval x):=hrx
   refine ⟨_,hk,Jaa (go _ rfl (.inr ?_)) (JaE hd h hrx')⟩
   generalize a.eval x=c at hrx'
   cases hrx' with | clo _=>exact ⟨_,_,_,rfl⟩
 · rename_i f u v hx
   rw [hx] at hrx
   exact ⟨_,hk,Jaa (go _ rfl (.inr ⟨_,_,_,Jbk hrx⟩)) (JaE hd h hrx)⟩
 · cases hk
end
end Go.Proofs.YtgglhmfncoeffaaGreatDoor.Th
