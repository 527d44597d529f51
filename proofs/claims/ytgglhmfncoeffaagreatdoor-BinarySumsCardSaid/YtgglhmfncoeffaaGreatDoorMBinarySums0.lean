/- Proved: part 4 of the proof that the law BinarySums returns true at all its arguments (no further conditions). -/
import Derived.WalkKit
import Derived.Test.YtgglhmfncoeffaaGreatDoorT2
import Derived.Test.YtgglhmfncoeffaaGreatDoorProg
import Derived.Recover
set_option linter.unusedVariables false
set_option linter.unusedSimpArgs false
namespace Go.Proofs.YtgglhmfncoeffaaGreatDoor.C54
abbrev W:=BitVec 32
def poly:W:=0xedb88320#32
def stp (x:W):W:=if x.getLsbD 0 then (x >>> 1) ^^^ poly else x >>> 1
def UaS:Nat→W→W
 | 0,x=>x
 | n + 1,x=>UaS n (stp x)
theorem Ui2 (a b:W):stp (a ^^^ b)=stp a ^^^ stp b:=by
 unfold stp
 rw [BitVec.getLsbD_xor,BitVec.ushiftRight_xor_distrib]
 cases a.getLsbD 0 <;> cases b.getLsbD 0
 · simp
 · simp [BitVec.xor_assoc]
 · simp only [Bool.xor_false,if_true,Bool.false_eq_true,if_false]
   rw [BitVec.xor_assoc,BitVec.xor_comm (b >>> 1),BitVec.xor_assoc]
 · simp only [Bool.xor_true,Bool.not_true,if_true,Bool.false_eq_true,if_false]
   rw [BitVec.xor_comm (b >>> 1) poly,←BitVec.xor_assoc,BitVec.xor_assoc (a >>> 1) poly poly,BitVec.xor_self,BitVec.xor_zero]
theorem Ucn:∀ (n:Nat) (a b:W),UaS n (a ^^^ b)=UaS n a ^^^ UaS n b
 | 0,_,_=>rfl
 | n + 1,a,b=>by rw [UaS,Ui2,Ucn n]; rfl
theorem Ua1:∀ (m n:Nat) (a:W),UaS (m + n) a=UaS n (UaS m a)
 | 0,n,a=>by rw [Nat.zero_add]; rfl
 | m + 1,n,a=>by rw [Nat.add_right_comm]; exact Ua1 m n _
theorem Ucm:∀ (n:Nat) (x:W),(∀ i,i<n→x.getLsbD i=false)→UaS n x=x >>> n
 | 0,x,_=>by simp [UaS]
 | n + 1,x,h=>by
  have h0:stp x=x >>> 1:=by unfold stp; rw [h 0 (by omega)]; rfl
  rw [UaS,h0,Ucm n _ (fun i hi=>by rw [BitVec.getLsbD_ushiftRight]; exact h (1 + i) (by omega)),←BitVec.shiftRight_add,Nat.add_comm]
def upd (c:W) (b:BitVec 8):W:=UaS 8 (c ^^^ b.setWidth 32)
def crc (c:W) (l:List (BitVec 8)):W:=l.foldl upd c
theorem Uec (c:W) (l m:List (BitVec 8)):crc c (l++m)=crc (crc c l) m:=by unfold crc; rw [List.foldl_append]
theorem Ui5 (c:W) (b:BitVec 8):upd c b=(c >>> 8) ^^^ UaS 8 ((c.setWidth 8 ^^^ b).setWidth 32):=by
 have e:c ^^^ b.setWidth 32=((c >>> 8) <<< 8) ^^^ (c.setWidth 8 ^^^ b).setWidth 32:=by
  apply BitVec.eq_of_getLsbD_eq
  intro i hi
  simp only [BitVec.getLsbD_xor,BitVec.getLsbD_setWidth,BitVec.getLsbD_shiftLeft,BitVec.getLsbD_ushiftRight]
  by_cases h8:i<8
  · simp [h8,hi]
  · simp [h8,hi,BitVec.getLsbD_of_ge b i (by omega),show 8 + (i - 8)=i by omega]
 have l:UaS 8 ((c >>> 8) <<< 8)=c >>> 8:=by
  rw [Ucm 8 _ (fun i hi=>by rw [BitVec.getLsbD_shiftLeft]; simp [hi])]
  apply BitVec.eq_of_getLsbD_eq
  intro i hi
  simp only [BitVec.getLsbD_shiftLeft,BitVec.getLsbD_ushiftRight]
  by_cases h:i + 8<32
  · simp [show 8 + i - 8=i by omega,show 8 + i<32 by omega]
  · simp [show ¬ (8 + i<32) by omega,BitVec.getLsbD_of_ge c (8 + i) (by omega)]
 unfold upd
 rw [e,Ucn,l]
def le4 (c:W):List (BitVec 8):=[c.setWidth 8,(c >>> 8).setWidth 8,(c >>> 16).setWidth 8,(c >>> 24).setWidth 8]
theorem Ubq (c:W) (k:Nat) (b:BitVec 8) (m:W) (hk:k + 8≤32) (hm:∀ i,i<32→m.getLsbD i=(decide (k≤i∧i<k + 8)&&b.getLsbD (i - k))):UaS k c ^^^ b.setWidth 32=UaS k (c ^^^ m):=by
 rw [Ucn,Ucm k m (fun i hi=>by rw [hm i (by omega)]; simp; omega)]
 congr 1
 apply BitVec.eq_of_getLsbD_eq
 intro i hi
 rw [BitVec.getLsbD_ushiftRight,BitVec.getLsbD_setWidth]
 by_cases h:k + i<32
 · rw [hm _ h]
   by_cases h8:i<8
   · simp [hi,h8,show k + i - k=i by omega]
   · simp [hi,BitVec.getLsbD_of_ge b i (by omega)] <;> omega
 · simp [BitVec.getLsbD_of_ge m (k + i) (by omega),BitVec.getLsbD_of_ge b i (by omega)]
theorem Uid (r c:W):crc r (le4 c)=UaS 32 (r ^^^ c):=by
 have m (k:Nat):W:=(((c >>> k).setWidth 8).setWidth 32) <<< k
 have hm:∀ k,k≤24→∀ i,i<32→((((c >>> k).setWidth 8).setWidth 32:W) <<< k).getLsbD i=(decide (k≤i∧i<k + 8)&&((c >>> k).setWidth 8:BitVec 8).getLsbD (i - k)):=by
  intro k hk i hi
  simp only [BitVec.getLsbD_shiftLeft,BitVec.getLsbD_setWidth]
  by_cases h1:i<k
  · simp [h1,show ¬ k≤i by omega]
  · by_cases h2:i - k<8
    · simp [hi,h1,h2,show i - k<32 by omega,show k≤i by omega,show i<k + 8 by omega]
    · simp [h2]
 have e:c=((c.setWidth 8).setWidth 32:W) ^^^ ((((c >>> 8).setWidth 8).setWidth 32:W) <<< 8) ^^^ ((((c >>> 16).setWidth 8).setWidth 32:W) <<< 16) ^^^ ((((c >>> 24).setWidth 8).setWidth 32:W) <<< 24):=by
  apply BitVec.eq_of_getLsbD_eq
  intro i hi
  simp only [BitVec.getLsbD_xor,hm 8 (by omega) i hi,hm 16 (by omega) i hi,hm 24 (by omega) i hi,BitVec.getLsbD_setWidth,BitVec.getLsbD_ushiftRight]
  have hc:i<8∨(8≤i∧i<16)∨(16≤i∧i<24)∨(24≤i∧i<32):=by omega
  rcases hc with h | h | h | h
  · simp [hi,h,show ¬ 8≤i by omega,show ¬ 16≤i by omega,show ¬ 24≤i by omega]
  · simp [hi,show ¬ i<8 by omega,h.1,show i<8 + 8 by omega,show i - 8<8 by omega,show ¬ 16≤i by omega,show ¬ 24≤i by omega,show 8 + (i - 8)=i by omega]
  · simp [hi,show ¬ i<8 by omega,show ¬ i<8 + 8 by omega,h.1,show i<16 + 8 by omega,show i - 16<8 by omega,show ¬ 24≤i by omega,show 16 + (i - 16)=i by omega]
  · simp [hi,show ¬ i<8 by omega,show ¬ i<8 + 8 by omega,show ¬ i<16 + 8 by omega,h.1,show i<24 + 8 by omega,show i - 24<8 by omega,show 24 + (i - 24)=i by omega]
 have s8:=fun x:W=>Ubq x 8 ((c >>> 8).setWidth 8) _ (by omega) (hm 8 (by omega))
 have s16:=fun x:W=>Ubq x 16 ((c >>> 16).setWidth 8) _ (by omega) (hm 16 (by omega))
 have s24:=fun x:W=>Ubq x 24 ((c >>> 24).setWidth 8) _ (by omega) (hm 24 (by omega))
 show upd (upd (upd (upd r _) _) _) _=_
 unfold upd
 rw [s8,←Ua1,s16,←Ua1,s24,←Ua1]
 congr 1
 conv=>rhs; rw [e]
 simp only [BitVec.xor_assoc]
theorem Ui1 (r:W):crc r (le4 (~~~ r))=0xdebb20e3#32:=by
 have h:r ^^^ ~~~ r=BitVec.allOnes 32:=by
  apply BitVec.eq_of_getLsbD_eq
  intro i hi
  rw [BitVec.getLsbD_allOnes,BitVec.getLsbD_xor,BitVec.getLsbD_not]
  simp [hi]
 rw [Uid,h]
 decide +kernel
end Go.Proofs.YtgglhmfncoeffaaGreatDoor.C54
set_option linter.unusedVariables false
namespace Go.Proofs.YtgglhmfncoeffaaGreatDoor.C54
open Go Th
def ux {n:Nat} (x:BitVec n):Int:=(x.toNat:Int)
theorem Ugm (n:Nat) (h:n<4294967296):IntKind.u32.wrap (n:Int)=(n:Int):=by
 unfold IntKind.wrap
 simp only [IntKind.bits,IntKind.signed,Bool.false_and,if_false,Bool.false_eq_true]
 omega
theorem UmM (n:Nat) (h:n<256):IntKind.u8.wrap (n:Int)=(n:Int):=by
 unfold IntKind.wrap
 simp only [IntKind.bits,IntKind.signed,Bool.false_and,if_false,Bool.false_eq_true]
 omega
theorem Ul (n:Nat):IntKind.u8.wrap (n:Int)=((n % 256:Nat):Int):=by
 unfold IntKind.wrap
 simp only [IntKind.bits,IntKind.signed,Bool.false_and,if_false,Bool.false_eq_true]
 omega
theorem Ugn (x:W):IntKind.u32.wrap (ux x)=ux x:=Ugm _ x.isLt
theorem UgR (x:BitVec 8):IntKind.u8.wrap (ux x)=ux x:=UmM _ x.isLt
theorem UgQ (x:BitVec 8):IntKind.u32.wrap (ux x)=ux (x.setWidth 32):=by
 unfold ux
 rw [Ugm _ (Nat.lt_of_lt_of_le x.isLt (by decide)),BitVec.toNat_setWidth,Nat.mod_eq_of_lt (Nat.lt_of_lt_of_le x.isLt (by decide))]
theorem Uea (x:W):IntKind.u8.wrap (ux x)=ux (x.setWidth 8):=by
 unfold ux
 rw [Ul,BitVec.toNat_setWidth]
theorem Uat {n:Nat} (x:BitVec n):BitVec.ofInt n (ux x)=x:=by unfold ux; rw [BitVec.ofInt_natCast,BitVec.ofNat_toNat,BitVec.setWidth_eq]
theorem UcO (x y:W):JfY .xor .u32 (ux x) (ux y)=ux (x ^^^ y):=by
 show IntKind.u32.wrap ((BitVec.ofInt 32 (ux x) ^^^ BitVec.ofInt 32 (ux y)).toNat:Int)=_
 rw [Uat,Uat]; exact Ugn _
theorem Ui8 (x y:W):JfY .and .u32 (ux x) (ux y)=ux (x &&& y):=by
 show IntKind.u32.wrap ((BitVec.ofInt 32 (ux x) &&& BitVec.ofInt 32 (ux y)).toNat:Int)=_
 rw [Uat,Uat]; exact Ugn _
theorem Ui6 (x y:BitVec 8):JfY .xor .u8 (ux x) (ux y)=ux (x ^^^ y):=by
 show IntKind.u8.wrap ((BitVec.ofInt 8 (ux x) ^^^ BitVec.ofInt 8 (ux y)).toNat:Int)=_
 rw [Uat,Uat]; exact UgR _
theorem Ue (x:W) (k:Nat) (hk:k≤32):Int.fdiv (ux x) (2 ^ (min ((k:Nat):Int).toNat IntKind.u32.bits))=ux (x >>> k):=by
 have e:min ((k:Nat):Int).toNat IntKind.u32.bits=k:=by
  show min ((k:Nat):Int).toNat 32=k
  rw [Int.toNat_natCast]; omega
 rw [e]
 unfold ux
 rw [BitVec.toNat_ushiftRight,Nat.shiftRight_eq_div_pow]
 have:((2:Int) ^ k)=((2 ^ k:Nat):Int):=by simp
 rw [this,Int.fdiv_eq_ediv_of_nonneg _ (Int.natCast_nonneg _),Int.natCast_ediv]
theorem Uk8 (x:W):(ux (x &&& 1#32) == (1:Int))=x.getLsbD 0:=by
 have h:x &&& 1#32=if x.getLsbD 0 then 1#32 else 0#32:=by
  apply BitVec.eq_of_getLsbD_eq
  intro i hi
  rw [BitVec.getLsbD_and]
  by_cases h0:i=0
  · subst h0; cases hx:x.getLsbD 0 <;> simp
  · have h1:(1#32:W).getLsbD i=false:=by simp [h0]
    rw [h1,Bool.and_false]
    cases hx:x.getLsbD 0 <;> simp [h0]
 rw [h]
 cases hx:x.getLsbD 0 <;> simp [ux]
theorem Uhm (x:W):JfY .xor .u32 (if IntKind.u32.signed then -1 else IntKind.u32.max) (ux x)=ux (~~~ x):=by
 have e:(if IntKind.u32.signed then -1 else IntKind.u32.max)=ux (BitVec.allOnes 32):=by decide
 rw [e,UcO,BitVec.allOnes_xor]
end Go.Proofs.YtgglhmfncoeffaaGreatDoor.C54
set_option linter.unusedVariables false
set_option linter.unusedSimpArgs false
namespace Go.Proofs.YtgglhmfncoeffaaGreatDoor
open Go Th Go.Proofs
theorem UjW:∀ cv:Array Value,JjM Tryz.prog ⟨.fn (.func 25) cv,#[]⟩:=by
 intro cv
 refine ⟨.func 25,cv,25,#[]++cv,rfl,fun w=>⟨?_,?_⟩⟩
 · have hn:¬ Tryz.f25.name = "runtime.NumGoroutine" := by decide
   have hb:¬ Tryz.f25.body=none:=by intro e; cases e
   simp [invoke,callFunc,go_sem,Tryz.func25,hn,hb]
 · refine callsD_of_wpS (fn:=Tryz.f25) Tryz.func25 rfl fun c₀ cs hm=>?_
   have hsz:18≤((#[]++cv)++Array.replicate (Tryz.f25.ntmps - (#[]++cv).size) undef).size:=by
    simp only [Array.size_append,Array.size_replicate]
    have:Tryz.f25.ntmps=18:=rfl
    omega
   generalize ((#[]++cv)++Array.replicate (Tryz.f25.ntmps - (#[]++cv).size) undef)=tm at hsz ⊢
   have hrec:recoverD (c₀::cs)=none:=by simp only [recoverD,hm]
   have set_get:∀ (t:Array Value) (d:Nat) (v:Value),18≤t.size→d<18→(t.setIfInBounds d v).getD d undef=v:=fun t d v h1 h2=>Jbg (by omega)
   have set_sz:∀ (t:Array Value) (d:Nat) (v:Value),18≤t.size→18≤(t.setIfInBounds d v).size:=fun t d v h=>by simpa using h
   refine wpS_seq (wpS_region ?_)
   show wpOpsS _ _ _ [0,1] _ _ _
   simp only [wpOpsS,List.getElem?_toArray,List.getElem?_cons_zero,List.getElem?_cons_succ,Region.wanted,Bool.true_eq_false,if_true]
   simp only [execOp,resolve,invoke,builtin,Sem.run_bind,Sem.run_pure,Result.andThen_ok,hrec,Act.put,Act.eval]
   rw [set_get _ _ _ hsz (by decide)]
   simp only [Oper.upon]
   simp only [Exit.thenS]
   refine wpS_seq (wpS_region ?_)
   show wpOpsS _ _ _ [0,1] _ _ _
   simp only [wpOpsS,List.getElem?_toArray,List.getElem?_cons_zero,List.getElem?_cons_succ,Region.wanted,Bool.true_eq_false,if_true]
   simp only [execOp,Sem.run_bind,Sem.run_pure,Result.andThen_ok,Act.put,Act.eval,Oper.upon]
   have h6:=set_sz tm 6 .nilIface hsz
   have h3:=set_sz (tm.setIfInBounds 6 .nilIface) 3 .nilIface h6
   rw [set_get (tm.setIfInBounds 6 .nilIface) 3 .nilIface h6 (by decide)]
   have h7:=set_sz _ 7 .nilIface h3
   rw [set_get _ 7 .nilIface h3 (by decide)]
   have hb:((Sem.run Tryz.prog (eqGuard BinOp.neq 20 (Operand.tmp 7) (Operand.const Value.nilIface) Value.nilIface Value.nilIface) w).andThen fun a w'=>Sem.run Tryz.prog (binOp BinOp.neq 20 Value.nilIface Value.nilIface) w')=.ok (.bool false) w:=by
    rw [eqGuard_nil_constR]
    have hd:∃ n,Op.maxDepth=n + 1:=⟨_,rfl⟩
    obtain ⟨n,hn⟩:=hd
    have he:Sem.run Tryz.prog (Op.equalIn (n + 1) 20 Value.nilIface Value.nilIface) w=.ok true w:=by
     simp [Op.equalIn,run_underlying Tryz.underlying20]
    simp [binOp,Op.equal,go_sem,hn,he]
   simp only [hb,Result.andThen_ok,Sem.run_pure]
   have h8:=set_get _ 8 (.bool false) h7 (by decide)
   refine wpS_cond (t:=false) ?_ ?_
   · simp only [Act.eval]
     exact h8
   rw [if_neg (by decide)]
   refine wpS_of_wp (wp_skip ?_)
   unfold bodyPostS
   simp only []
   have hr:∀ t:Array Value,(results Tryz.f25 t).run Tryz.prog w=.ok (.tuple #[]) w:=fun t=>by
    have h0:Tryz.f25.results=#[]:=by kernel_rfl
    unfold results
    rw [h0]
    simp
   exact ⟨trivial,.returning,by rw [←hm],.tuple #[],hr _,by simp⟩
end Go.Proofs.YtgglhmfncoeffaaGreatDoor
set_option linter.unusedVariables false
set_option maxRecDepth 100000
namespace Go.Proofs.YtgglhmfncoeffaaGreatDoor
open Go Th Go.Proofs
abbrev GI:GInv:=GInv.none
end Go.Proofs.YtgglhmfncoeffaaGreatDoor
set_option linter.unusedVariables false
set_option maxRecDepth 100000
namespace Go.Proofs.YtgglhmfncoeffaaGreatDoor
open Go Th Go.Proofs
noncomputable section
variable {R:Type}
def UhD:Ann:={ loops:=[],cuts:=[],frz:=[],rm:=[.id] }
abbrev UjC (n:Nat):Env:=eN
theorem UeJ (n:Nat):EnvOK Tryz.prog GI (UjC n):=.nil
def p15 (n:Nat) (x1:Int) (k0:Int→O R):O R :=
 bif decide ((8:Int)<0) then none else (let v2:=Int.fdiv x1 (2 ^ (min ((8:Int)).toNat IntKind.u32.bits)); bif decide ((8:Int)<0) then none else (let v3:=IntKind.u32.wrap ((JfY .and .u32 x1 16711935) * 2 ^ (min ((8:Int)).toNat IntKind.u32.bits)); let v4:=JfY .or .u32 (JfY .and .u32 v2 16711935) v3; bif decide ((16:Int)<0) then none else (let v5:=Int.fdiv v4 (2 ^ (min ((16:Int)).toNat IntKind.u32.bits)); bif decide ((16:Int)<0) then none else (let v6:=IntKind.u32.wrap (v4 * 2 ^ (min ((16:Int)).toNat IntKind.u32.bits)); k0 (JfY .or .u32 v5 v6)))))
abbrev Un4 (n:Nat):Orc R:=oN
abbrev UmP (n:Nat):Orc R:=oN
abbrev K15 (R:Type) (n:Nat):=Jd (R:=R) Tryz.prog (UjC n) UhD n (15,[]) (Un4 n) (UmP n)
theorem Up (n:Nat):JfF (K15 R n) (JaS UhD (Jlv Tryz.f15)):=pO pN (by kernel_rfl)
abbrev t15:Sl (List SV):=(.c (sP (Jlw .u32)) .n)
abbrev f15 (n:Nat) (K:List SV→O R):t15.T (O R):=fun x1=>p15 n x1 (fun y1=>K [.p (.v (.int .u32 y1))])
abbrev UnB (n:Nat):FS:=fT [false] t15 (f15 n)
theorem UoE (n:Nat):FSound Tryz.prog GI 15 (UnB n):=gd UhD n (UeJ n) Tryz.func15 (.cons (UeJ n) t15 (f15 n) (@fun R K _=>by show _=_; exact (JkP (lo:=Un4 n) (cu:=UmP n) (c:=Jlv Tryz.f15) (by kernel_rfl) (Up (R:=R) n) K).trans (by kernel_rfl)) .nil) (by kernel_rfl)
def Uls:Ann:={ loops:=[],cuts:=[],frz:=[],rm:=[.id] }
abbrev Um4 (n:Nat):Env:=eC 15 (UnB n) eN
theorem Uhg (n:Nat):EnvOK Tryz.prog GI (Um4 n):=.cons (.nil) (UoE n)
def p9 (n:Nat) (x1:Int) (k0:Int→O R):O R :=
 bif decide ((1:Int)<0) then none else (let v2:=Int.fdiv x1 (2 ^ (min ((1:Int)).toNat IntKind.u32.bits)); bif decide ((1:Int)<0) then none else (let v3:=IntKind.u32.wrap ((JfY .and .u32 x1 1431655765) * 2 ^ (min ((1:Int)).toNat IntKind.u32.bits)); let v4:=JfY .or .u32 (JfY .and .u32 v2 1431655765) v3; bif decide ((2:Int)<0) then none else (let v5:=Int.fdiv v4 (2 ^ (min ((2:Int)).toNat IntKind.u32.bits)); bif decide ((2:Int)<0) then none else (let v6:=IntKind.u32.wrap ((JfY .and .u32 v4 858993459) * 2 ^ (min ((2:Int)).toNat IntKind.u32.bits)); let v7:=JfY .or .u32 (JfY .and .u32 v5 858993459) v6; bif decide ((4:Int)<0) then none else (let v8:=Int.fdiv v7 (2 ^ (min ((4:Int)).toNat IntKind.u32.bits)); bif decide ((4:Int)<0) then none else (let v9:=IntKind.u32.wrap ((JfY .and .u32 v7 252645135) * 2 ^ (min ((4:Int)).toNat IntKind.u32.bits)); let v10:=JfY .or .u32 (JfY .and .u32 v8 252645135) v9; p15 n v10 (fun y11=>k0 y11)))))))
abbrev lo9 (n:Nat):Orc R:=oN
abbrev cu9 (n:Nat):Orc R:=oN
abbrev K9 (R:Type) (n:Nat):=Jd (R:=R) Tryz.prog (Um4 n) Uls n (26,[]) (lo9 n) (cu9 n)
theorem pa9 (n:Nat):JfF (K9 R n) (JaS Uls (Jlv Tryz.f9)):=pO pN (by kernel_rfl)
abbrev t9:Sl (List SV):=(.c (sP (Jlw .u32)) .n)
abbrev f9 (n:Nat) (K:List SV→O R):t9.T (O R):=fun x1=>p9 n x1 (fun y1=>K [.p (.v (.int .u32 y1))])
abbrev fs9 (n:Nat):FS:=fT [false] t9 (f9 n)
theorem ok9 (n:Nat):FSound Tryz.prog GI 9 (fs9 n):=gd Uls n (Uhg n) Tryz.func9 (.cons (Uhg n) t9 (f9 n) (@fun R K _=>by show _=_; exact (JkP (lo:=lo9 n) (cu:=cu9 n) (c:=Jlv Tryz.f9) (by kernel_rfl) (pa9 (R:=R) n) K).trans (by kernel_rfl)) .nil) (by kernel_rfl)
def Ueb:Ann:={ loops:=[(4,ids [0,3,4,10],ids [0,2,4]),(8,ids [0,3,4,5,6,10,15],ids [0,2,3,4,5,6,10]),(17,ids [0,4,7,32,33],ids [2,7])],cuts:=[],frz:=[],rm:=[.id] }
abbrev UlG (n:Nat):Env:=eC 9 (fs9 n) eN
theorem Uhc (n:Nat):EnvOK Tryz.prog GI (UlG n):=.cons (.nil) (ok9 n)
def UdY (n:Nat) (l0:ByteArray→Int→List SV→Int→Int→Int→Int→O R) (x1:ByteArray) (x2:Int) (x3:List SV) (x4 x5 x6 x7:Int) (k0:ByteArray→Int→List SV→Int→Int→Int→O R):O R :=
 bif (decide (x7<8)) then (bif (JfY .and .u32 x5 1 == 1) then (bif decide ((1:Int)<0) then none else (let v8:=Int.fdiv x5 (2 ^ (min ((1:Int)).toNat IntKind.u32.bits)); l0 x1 x2 x3 x4 (JfY .xor .u32 v8 x2) x6 (IntKind.i64.wrap (x7 + 1)))) else (bif decide ((1:Int)<0) then none else (let v9:=Int.fdiv x5 (2 ^ (min ((1:Int)).toNat IntKind.u32.bits)); l0 x1 x2 x3 x4 v9 x6 (IntKind.i64.wrap (x7 + 1))))) else (k0 x1 x2 x3 x4 x5 x6)
def UbB (n:Nat):Nat→ByteArray→Int→List SV→Int→Int→Int→Int→(ByteArray→Int→List SV→Int→Int→Int→O R)→O R
 | 0,_,_,_,_,_,_,_,_=>none
 | m + 1,x1,x2,x3,x4,x5,x6,x7,k0=>UdY n (fun x1 x2 x3 x4 x5 x6 x7=>UbB n m x1 x2 x3 x4 x5 x6 x7 k0) x1 x2 x3 x4 x5 x6 x7 k0
def Ul1 (n:Nat) (x1:ByteArray) (x2:Int) (x3:List SV) (x4 x5 x6 x7:Int) (k0:ByteArray→Int→List SV→Int→Int→Int→O R):O R:=UbB n n x1 x2 x3 x4 x5 x6 x7 k0
def UdX (n:Nat) (l0:ByteArray→Int→List SV→Int→O R) (x1:ByteArray) (x2:Int) (x3:List SV) (x4:Int) (k0:ByteArray→List SV→O R):O R :=
 bif (decide (x4<256)) then (Ul1 n x1 x2 x3 x4 (IntKind.u32.wrap (x4)) x4 0 (fun y5 y6 y7 y8 y9 y10=>bif (inR y8 256) then (bif (Nat.blt (0 + (y8:Int).toNat * 1) y7.length) then (l0 y5 y6 (y7.set (0 + (y8:Int).toNat * 1) (.p (.v (.int .u32 y9)))) (IntKind.i64.wrap (y10 + 1))) else none) else none)) else (k0 x1 x3)
def Ubi (n:Nat):Nat→ByteArray→Int→List SV→Int→(ByteArray→List SV→O R)→O R
 | 0,_,_,_,_,_=>none
 | m + 1,x1,x2,x3,x4,k0=>UdX n (fun x1 x2 x3 x4=>Ubi n m x1 x2 x3 x4 k0) x1 x2 x3 x4 k0
def Ul0 (n:Nat) (x1:ByteArray) (x2:Int) (x3:List SV) (x4:Int) (k0:ByteArray→List SV→O R):O R:=Ubi n n x1 x2 x3 x4 k0
def Uck (n:Nat) (l0:ByteArray→List SV→Int→Int→Int→O R) (x1:ByteArray) (x2:List SV) (x3 x4 x5:Int) (k0:Int→O R):O R :=
 bif (decide (x5<x4)) then (bif decide ((8:Int)<0) then none else (let v6:=Int.fdiv x3 (2 ^ (min ((8:Int)).toNat IntKind.u32.bits)); bif (inR x5 (x1).size) then (let v7:=JfY .xor .u8 (IntKind.u8.wrap (x3)) (Je1 x1 x5); bif (inR v7 256) then (bif (Nat.blt (0 + (v7:Int).toNat * 1) x2.length) then (JlA (x2.getD (0 + (v7:Int).toNat * 1) .dead) fun c8=>Jkw .u32 c8 fun e9=>l0 x1 x2 (JfY .xor .u32 v6 e9) x4 (IntKind.i64.wrap (x5 + 1))) else none) else none) else none)) else (k0 x3)
def Uaw (n:Nat):Nat→ByteArray→List SV→Int→Int→Int→(Int→O R)→O R
 | 0,_,_,_,_,_,_=>none
 | m + 1,x1,x2,x3,x4,x5,k0=>Uck n (fun x1 x2 x3 x4 x5=>Uaw n m x1 x2 x3 x4 x5 k0) x1 x2 x3 x4 x5 k0
def Uhw (n:Nat) (x1:ByteArray) (x2:List SV) (x3 x4 x5:Int) (k0:Int→O R):O R:=Uaw n n x1 x2 x3 x4 x5 k0
def p5 (n:Nat) (x1:ByteArray) (k0:Int→O R):O R :=
 p9 n 79764919 (fun y2=>Ul0 n x1 y2 (List.replicate 256 (.p (.v (.int .u32 0)))) 0 (fun y3 y4=>Uhw n y3 y4 4294967295 ((y3).size:Int) 0 (fun y5=>let v6:=JfY .xor .u32 (if IntKind.u32.signed then -1 else IntKind.u32.max) y5; k0 v6)))
abbrev E5 (n:Nat):Code→Fr→Kc R→O R:=evC Tryz.prog (UlG n) Ueb n (50,[])
noncomputable def Ujq:Code:=Jkz (Jlv Tryz.f5) [1,1,1,0,1,0,0]
abbrev Uej:Sl (List SV):=(cS (.c (sP (Jlw .u32)) (.c (JlC 44) (cI .n))))
abbrev UiK (n m:Nat) (K:Kc R):Uej.T (O R):=fun x1 x2 x3 x4=>Ubi n m x1 x2 x3 x4 (fun y1 y2=>xL Ueb 4 K (.exit 0) [vS y1,dD,.bx 44 y2])
abbrev Ulu (n:Nat) (K:Kc R) (l0:Uej.T (O R)):Uej.T (O R):=fun x1 x2 x3 x4=>UdX n l0 x1 x2 x3 x4 (fun y1 y2=>xL Ueb 4 K (.exit 0) [vS y1,dD,.bx 44 y2])
noncomputable def Ujr:Code:=Jkz (Jlv Tryz.f5) [1,1,1,0,1,0,0,1,1,0,0,1,1,0,1,0,0]
abbrev Uek:Sl (List SV):=(cS (.c (sP (Jlw .u32)) (.c (JlC 44) (cI (.c (sP (Jlw .u32)) (cI (cI .n)))))))
abbrev UiL (n m:Nat) (K:Kc R):Uek.T (O R):=fun x1 x2 x3 x4 x5 x6 x7=>UbB n m x1 x2 x3 x4 x5 x6 x7 (fun y1 y2 y3 y4 y5 y6=>xL Ueb 8 K (.exit 2) [vS y1,dD,.p (.v (.int .u32 y2)),.bx 44 y3,vI y4,.p (.v (.int .u32 y5)),vI y6])
abbrev Ulv (n:Nat) (K:Kc R) (l0:Uek.T (O R)):Uek.T (O R):=fun x1 x2 x3 x4 x5 x6 x7=>UdY n l0 x1 x2 x3 x4 x5 x6 x7 (fun y1 y2 y3 y4 y5 y6=>xL Ueb 8 K (.exit 2) [vS y1,dD,.p (.v (.int .u32 y2)),.bx 44 y3,vI y4,.p (.v (.int .u32 y5)),vI y6])
noncomputable def Ug7:Code:=Jkz (Jlv Tryz.f5) [1,1,1,1,1,0,1,0,0]
abbrev UbO:Sl (List SV):=(cS (.c (JlC 44) (.c (sP (Jlw .u32)) (cI (cI .n)))))
abbrev Ufr (n m:Nat) (K:Kc R):UbO.T (O R):=fun x1 x2 x3 x4 x5=>Uaw n m x1 x2 x3 x4 x5 (fun y1=>xL Ueb 17 K (.exit 4) [dD,.p (.v (.int .u32 y1))])
abbrev Ujk (n:Nat) (K:Kc R) (l0:UbO.T (O R)):UbO.T (O R):=fun x1 x2 x3 x4 x5=>Uck n l0 x1 x2 x3 x4 x5 (fun y1=>xL Ueb 17 K (.exit 4) [dD,.p (.v (.int .u32 y1))])
abbrev lo5 (n:Nat):Orc R:=oL Ueb (E5 n) n 17 Ug7 UbO (Ufr n n) (oL Ueb (E5 n) n 8 Ujr Uek (UiL n n) (oL Ueb (E5 n) n 4 Ujq Uej (UiK n n) oN))
abbrev cu5 (n:Nat):Orc R:=oN
abbrev K5 (R:Type) (n:Nat):=Jd (R:=R) Tryz.prog (UlG n) Ueb n (50,[]) (lo5 n) (cu5 n)
theorem Um (n:Nat):K5 R n (false,8,Ujr):=Jk4 (lo:=lo5 n) (cu:=cu5 n) (pO pN (by kernel_rfl)) Uek (UiL n n) (Jji (F:=UiL n) Uek (Ulv n) (fun K _ _ _ _ _ _ _=>rfl) (fun _ _=>rfl) (fun L K _ _ _ _ _ _ _=>by show _=_; kernel_rfl) n) fun _ _=>rfl
theorem Ul9 (n:Nat):K5 R n (false,4,Ujq):=Jk4 (lo:=lo5 n) (cu:=cu5 n) (pO (pC (Um n) pN) (by kernel_rfl)) Uej (UiK n n) (Jji (F:=UiK n) Uej (Ulu n) (fun K _ _ _ _=>rfl) (fun _ _=>rfl) (fun L K _ _ _ _=>by show _=_; kernel_rfl) n) fun _ _=>rfl
theorem UkY (n:Nat):K5 R n (false,17,Ug7):=Jk4 (lo:=lo5 n) (cu:=cu5 n) (pO pN (by kernel_rfl)) UbO (Ufr n n) (Jji (F:=Ufr n) UbO (Ujk n) (fun K _ _ _ _ _=>rfl) (fun _ _=>rfl) (fun L K _ _ _ _ _=>by show _=_; kernel_rfl) n) fun _ _=>rfl
theorem pa5 (n:Nat):JfF (K5 R n) (JaS Ueb (Jlv Tryz.f5)):=pO (pC (Ul9 n) (pC (UkY n) pN)) (by kernel_rfl)
abbrev t5:Sl (List SV):=(cS .n)
abbrev f5 (n:Nat) (K:List SV→O R):t5.T (O R):=fun x1=>p5 n x1 (fun y1=>K [.p (.v (.int .u32 y1))])
abbrev fs5 (n:Nat):FS:=fT [false] t5 (f5 n)
theorem ok5 (n:Nat):FSound Tryz.prog GI 5 (fs5 n):=gd Ueb n (Uhc n) Tryz.func5 (.cons (Uhc n) t5 (f5 n) (@fun R K _=>by show _=_; exact (JkP (lo:=lo5 n) (cu:=cu5 n) (c:=Jlv Tryz.f5) (by kernel_rfl) (pa5 (R:=R) n) K).trans (by kernel_rfl)) .nil) (by kernel_rfl)
def Uen:Ann:={ loops:=[(3,ids [0,3,4],ids [2,3]),(7,ids [0,3,4,5],ids [0,2,3,4])],cuts:=[(8,ids [0,3,4,5],ids [0,2,3,4,5])],frz:=[],rm:=[.id] }
abbrev UlH (n:Nat):Env:=eN
theorem Uhd (n:Nat):EnvOK Tryz.prog GI (UlH n):=.nil
def UgL (n:Nat) (x1:ByteArray) (x2 x3 x4:Int) (k0:ByteArray→Int→Int→Int→O R):O R :=
 k0 x1 x2 x3 (IntKind.i64.wrap (x4 + 1))
def Ud0 (n:Nat) (l0:ByteArray→Int→Int→Int→O R) (x1:ByteArray) (x2 x3 x4:Int) (k0:ByteArray→Int→Int→O R):O R :=
 bif (decide (x4<8)) then (bif (JfY .and .u32 x2 1 == 1) then (bif decide ((1:Int)<0) then none else (let v5:=Int.fdiv x2 (2 ^ (min ((1:Int)).toNat IntKind.u32.bits)); UgL n x1 (JfY .xor .u32 v5 3988292384) x3 x4 (fun y6 y7 y8 y9=>l0 y6 y7 y8 y9))) else (bif decide ((1:Int)<0) then none else (let v10:=Int.fdiv x2 (2 ^ (min ((1:Int)).toNat IntKind.u32.bits)); UgL n x1 v10 x3 x4 (fun y11 y12 y13 y14=>l0 y11 y12 y13 y14)))) else (k0 x1 x2 x3)
def UbC (n:Nat):Nat→ByteArray→Int→Int→Int→(ByteArray→Int→Int→O R)→O R
 | 0,_,_,_,_,_=>none
 | m + 1,x1,x2,x3,x4,k0=>Ud0 n (fun x1 x2 x3 x4=>UbC n m x1 x2 x3 x4 k0) x1 x2 x3 x4 k0
def Ul3 (n:Nat) (x1:ByteArray) (x2 x3 x4:Int) (k0:ByteArray→Int→Int→O R):O R:=UbC n n x1 x2 x3 x4 k0
def UdZ (n:Nat) (l0:ByteArray→Int→Int→O R) (x1:ByteArray) (x2 x3:Int) (k0:Int→O R):O R :=
 bif (decide (x3<((x1).size:Int))) then (bif (inR x3 (x1).size) then (let v4:=JfY .xor .u32 x2 (IntKind.u32.wrap (Je1 x1 x3)); Ul3 n x1 v4 x3 0 (fun y5 y6 y7=>l0 y5 y6 (IntKind.i64.wrap (y7 + 1)))) else none) else (k0 x2)
def Ubj (n:Nat):Nat→ByteArray→Int→Int→(Int→O R)→O R
 | 0,_,_,_,_=>none
 | m + 1,x1,x2,x3,k0=>UdZ n (fun x1 x2 x3=>Ubj n m x1 x2 x3 k0) x1 x2 x3 k0
def Ul2 (n:Nat) (x1:ByteArray) (x2 x3:Int) (k0:Int→O R):O R:=Ubj n n x1 x2 x3 k0
def p6 (n:Nat) (x1:ByteArray) (k0:Int→O R):O R :=
 Ul2 n x1 4294967295 0 (fun y2=>let v3:=JfY .xor .u32 (if IntKind.u32.signed then -1 else IntKind.u32.max) y2; k0 v3)
abbrev E6 (n:Nat):Code→Fr→Kc R→O R:=evC Tryz.prog (UlH n) Uen n (32,[])
noncomputable def Ujs:Code:=Jkz (Jlv Tryz.f6) [1,1,0,1,0,0,1,0,0,1,1,0,0,1,1]
abbrev Ui4:Sl (List SV):=(cS (.c (sP (Jlw .u32)) (cI (cI .n))))
abbrev UjV (n:Nat) (K:Kc R):Ui4.T (O R):=fun x1 x2 x3 x4=>UgL n x1 x2 x3 x4 (fun y1 y2 y3 y4=>xC Uen 8 K .normal [vS y1,dD,.p (.v (.int .u32 y2)),vI y3,vI y4])
noncomputable def Ujt:Code:=Jkz (Jlv Tryz.f6) [1,1,0,1,0,0]
abbrev Uel:Sl (List SV):=(cS (.c (sP (Jlw .u32)) (cI .n)))
abbrev UiM (n m:Nat) (K:Kc R):Uel.T (O R):=fun x1 x2 x3=>Ubj n m x1 x2 x3 (fun y1=>xL Uen 3 K (.exit 0) [dD,.p (.v (.int .u32 y1))])
abbrev Ulw (n:Nat) (K:Kc R) (l0:Uel.T (O R)):Uel.T (O R):=fun x1 x2 x3=>UdZ n l0 x1 x2 x3 (fun y1=>xL Uen 3 K (.exit 0) [dD,.p (.v (.int .u32 y1))])
noncomputable def Uju:Code:=Jkz (Jlv Tryz.f6) [1,1,0,1,0,0,1,0,0,1,1,0,0]
abbrev Uem:Sl (List SV):=(cS (.c (sP (Jlw .u32)) (cI (cI .n))))
abbrev UiN (n m:Nat) (K:Kc R):Uem.T (O R):=fun x1 x2 x3 x4=>UbC n m x1 x2 x3 x4 (fun y1 y2 y3=>xL Uen 7 K (.exit 2) [vS y1,dD,.p (.v (.int .u32 y2)),vI y3])
abbrev Ulx (n:Nat) (K:Kc R) (l0:Uem.T (O R)):Uem.T (O R):=fun x1 x2 x3 x4=>Ud0 n l0 x1 x2 x3 x4 (fun y1 y2 y3=>xL Uen 7 K (.exit 2) [vS y1,dD,.p (.v (.int .u32 y2)),vI y3])
abbrev lo6 (n:Nat):Orc R:=oL Uen (E6 n) n 7 Uju Uem (UiN n n) (oL Uen (E6 n) n 3 Ujt Uel (UiM n n) oN)
abbrev cu6 (n:Nat):Orc R:=oC Uen (E6 n) 8 Ujs Ui4 (UjV n) oN
abbrev K6 (R:Type) (n:Nat):=Jd (R:=R) Tryz.prog (UlH n) Uen n (32,[]) (lo6 n) (cu6 n)
theorem Uma (n:Nat):K6 R n (true,8,Ujs):=Jlh (lo:=lo6 n) (cu:=cu6 n) (pO pN (by kernel_rfl)) Ui4 (UjV n) (fun K _ _ _ _=>by show _=_; kernel_rfl) fun _ _=>rfl
theorem Umc (n:Nat):K6 R n (false,7,Uju):=Jk4 (lo:=lo6 n) (cu:=cu6 n) (pO (pC (Uma n) pN) (by kernel_rfl)) Uem (UiN n n) (Jji (F:=UiN n) Uem (Ulx n) (fun K _ _ _ _=>rfl) (fun _ _=>rfl) (fun L K _ _ _ _=>by show _=_; kernel_rfl) n) fun _ _=>rfl
theorem Umb (n:Nat):K6 R n (false,3,Ujt):=Jk4 (lo:=lo6 n) (cu:=cu6 n) (pO (pC (Umc n) pN) (by kernel_rfl)) Uel (UiM n n) (Jji (F:=UiM n) Uel (Ulw n) (fun K _ _ _=>rfl) (fun _ _=>rfl) (fun L K _ _ _=>by show _=_; kernel_rfl) n) fun _ _=>rfl
theorem pa6 (n:Nat):JfF (K6 R n) (JaS Uen (Jlv Tryz.f6)):=pO (pC (Umb n) pN) (by kernel_rfl)
abbrev t6:Sl (List SV):=(cS .n)
abbrev f6 (n:Nat) (K:List SV→O R):t6.T (O R):=fun x1=>p6 n x1 (fun y1=>K [.p (.v (.int .u32 y1))])
abbrev fs6 (n:Nat):FS:=fT [false] t6 (f6 n)
theorem ok6 (n:Nat):FSound Tryz.prog GI 6 (fs6 n):=gd Uen n (Uhd n) Tryz.func6 (.cons (Uhd n) t6 (f6 n) (@fun R K _=>by show _=_; exact (JkP (lo:=lo6 n) (cu:=cu6 n) (c:=Jlv Tryz.f6) (by kernel_rfl) (pa6 (R:=R) n) K).trans (by kernel_rfl)) .nil) (by kernel_rfl)
end
end Go.Proofs.YtgglhmfncoeffaaGreatDoor
set_option linter.unusedVariables false
namespace Go.Proofs.YtgglhmfncoeffaaGreatDoor.C54
open Go Th Go.Proofs
variable {R:Type}
theorem bT {α:Type} {c:Bool} (h:c=true) (x y:α):(bif c then x else y)=x:=by rw [h]; rfl
theorem bF {α:Type} {c:Bool} (h:c=false) (x y:α):(bif c then x else y)=y:=by rw [h]; rfl
theorem Uk9 {x:Int} (h1:-9223372036854775808≤x) (h2:x<9223372036854775808):IntKind.i64.wrap x=x:=by
 unfold IntKind.wrap
 simp only [IntKind.bits,IntKind.signed,Bool.true_and]
 split <;> rename_i h <;> simp at h <;> omega
theorem no1:decide ((1:Int)<0)=false:=by decide
theorem no8:decide ((8:Int)<0)=false:=by decide
theorem UmN (x:W):(JfY .and .u32 (ux x) 1 == 1)=x.getLsbD 0:=by
 have h:JfY .and .u32 (ux x) 1=ux (x &&& 1#32):=Ui8 x 1#32
 rw [h]; exact Uk8 x
theorem Ulp (x:W):Int.fdiv (ux x) (2 ^ (min ((1:Int)).toNat IntKind.u32.bits))=ux (x >>> 1):=Ue x 1 (by omega)
theorem Uoy (x:W):Int.fdiv (ux x) (2 ^ (min ((8:Int)).toNat IntKind.u32.bits))=ux (x >>> 8):=Ue x 8 (by omega)
theorem Ud9 (x:W):stp x=bif x.getLsbD 0 then (x >>> 1) ^^^ poly else x >>> 1:=by unfold stp; cases x.getLsbD 0 <;> rfl
theorem l8 (n:Nat) (s:ByteArray) (tab:List SV) (i i':Int) (k0:ByteArray→Int→List SV→Int→Int→Int→Option R):∀ (d m:Nat) (x:W),d≤8→d<m →
 UbB n m s (ux poly) tab i (ux x) i' (((8 - d:Nat)):Int) k0=k0 s (ux poly) tab i (ux (UaS d x)) i'
 | _,0,_,_,h=>by omega
 | 0,m + 1,x,_,_=>by
  rw [UbB]
  unfold UdY
  rw [bF (by decide)]
  rfl
 | d + 1,m + 1,x,h1,h2=>by
  have ih:=l8 n s tab i i' k0 d m (stp x) (by omega) (by omega)
  have hlt:decide ((((8 - (d + 1):Nat)):Int)<8)=true:=by simp; omega
  have hnx:IntKind.i64.wrap ((((8 - (d + 1):Nat)):Int) + 1)=(((8 - d:Nat)):Int):=by rw [Uk9 (by omega) (by omega)]; omega
  rw [UbB]
  unfold UdY
  rw [bT hlt,UmN,no1,hnx]
  rw [show UaS (d + 1) x=UaS d (stp x) from rfl,←ih]
  cases hb:x.getLsbD 0 with
  | true =>
   rw [bT rfl,bF rfl]
   simp only [Ulp]
   rw [UcO,Ud9,hb,bT rfl]
  | false =>
   rw [bF rfl,bF rfl]
   simp only [Ulp]
   rw [Ud9,hb,bF rfl]
def ent (i:Nat):SV:=.p (.v (.int .u32 (ux (UaS 8 (BitVec.ofNat 32 i)))))
def zer:SV:=.p (.v (.int .u32 0))
def tb (i:Nat):List SV:=(List.range i).map ent++List.replicate (256 - i) zer
theorem UhB {i:Nat} (h:i≤256):(tb i).length=256:=by unfold tb; simp; omega
theorem Uk6 {i:Nat} (h:i<256):(tb i).set (0 + i * 1) (ent i)=tb (i + 1):=by
 unfold tb
 rw [Nat.zero_add,Nat.mul_one]
 have h1:((List.range i).map ent).length=i:=by simp
 rw [List.set_append_right _ _ (by rw [h1]; exact Nat.le_refl _),h1,Nat.sub_self]
 have h2:256 - i=(256 - (i + 1)) + 1:=by omega
 rw [h2,List.replicate_succ,List.set_cons_zero,List.range_succ,List.map_append,List.append_assoc]
 rfl
theorem Uk5 {j:Nat} (h:j<256):(tb 256).getD (0 + j * 1) .dead=ent j:=by
 unfold tb
 rw [Nat.zero_add,Nat.mul_one,List.getD_eq_getElem?_getD,List.getElem?_append_left (by simpa using h),List.getElem?_map,List.getElem?_range h]
 rfl
theorem l4 (n:Nat) (hn:10≤n) (s:ByteArray) (k0:ByteArray→List SV→Option R):∀ (d m:Nat),d≤256→d<m →
 Ubi n m s (ux poly) (tb (256 - d)) (((256 - d:Nat)):Int) k0=k0 s (tb 256)
 | _,0,_,h=>by omega
 | 0,m + 1,_,_=>by
  rw [Ubi]
  unfold UdX
  rw [bF (by decide)]
  try rfl
 | d + 1,m + 1,h1,h2=>by
  have ih:=l4 n hn s k0 d m (by omega) (by omega)
  obtain ⟨i,hi⟩:∃ i,i=256 - (d + 1):=⟨_,rfl⟩
  have hi':256 - d=i + 1:=by omega
  rw [←hi]
  rw [hi'] at ih
  have hlt:decide ((i:Int)<256)=true:=by simp; omega
  have hnx:IntKind.i64.wrap ((i:Int) + 1)=(((i + 1:Nat)):Int):=by rw [Uk9 (by omega) (by omega)]; omega
  have hw:IntKind.u32.wrap ((i:Int))=ux (BitVec.ofNat 32 i):=by
   rw [Ugm i (by omega)]
   unfold ux
   rw [BitVec.toNat_ofNat,Nat.mod_eq_of_lt (by omega)]
  rw [Ubi]
  unfold UdX
  rw [bT hlt,hw]
  have h8:=l8 n s (tb i) (i:Int) (i:Int) (fun y5 y6 y7 y8 y9 y10=>bif (inR y8 256) then (bif (Nat.blt (0 + (y8:Int).toNat * 1) y7.length) then (Ubi n m y5 y6 (y7.set (0 + (y8:Int).toNat * 1) (.p (.v (.int .u32 y9)))) (IntKind.i64.wrap (y10 + 1)) k0) else none) else none) 8 n (BitVec.ofNat 32 i) (by omega) (by omega)
  refine Eq.trans h8 ?_
  have hin:inR (i:Int) 256=true:=by simp [inR]; omega
  have hbl:Nat.blt (0 + ((i:Int)).toNat * 1) (tb i).length=true:=by rw [UhB (by omega),Int.toNat_natCast]; simp; omega
  rw [bT hin,bT hbl,hnx,Int.toNat_natCast]
  have:=Uk6 (i:=i) (by omega)
  unfold ent at this
  rw [this]
  exact ih
theorem Ucv (s:ByteArray) {j:Nat} (h:j<s.size):∃ b:BitVec 8,Je1 s (j:Int)=ux b∧(s.data.toList.map UInt8.toBitVec).drop j=b::(s.data.toList.map UInt8.toBitVec).drop (j + 1):=by
 have hl:j<s.data.toList.length:=by simpa using h
 refine ⟨(s.data.toList[j]).toBitVec,?_,?_⟩
 · unfold Je1
   rw [Int.toNat_natCast,List.getD_eq_getElem?_getD,List.getElem?_eq_getElem hl]
   rfl
 · rw [List.drop_eq_getElem_cons (by simpa using h)]
   simp
abbrev bl (s:ByteArray):List (BitVec 8):=s.data.toList.map UInt8.toBitVec
theorem l17 (n:Nat) (s:ByteArray) (hs:s.size<4611686018427387904) (k0:Int→Option R):∀ (d m:Nat) (c:W),d≤s.size→d<m →
 Uaw n m s (tb 256) (ux c) (s.size:Int) (((s.size - d:Nat)):Int) k0=k0 (ux (crc c ((bl s).drop (s.size - d))))
 | _,0,_,_,h=>by omega
 | 0,m + 1,c,_,_=>by
  rw [Uaw]
  unfold Uck
  rw [bF (by simp)]
  rw [List.drop_of_length_le (by simp)]
  rfl
 | d + 1,m + 1,c,h1,h2=>by
  obtain ⟨j,hj⟩:∃ j,j=s.size - (d + 1):=⟨_,rfl⟩
  have hj':s.size - d=j + 1:=by omega
  have hjl:j<s.size:=by omega
  have ih:=fun c=>l17 n s hs k0 d m c (by omega) (by omega)
  rw [hj'] at ih
  rw [←hj]
  obtain ⟨b,hb1,hb2⟩:=Ucv s hjl
  have hlt:decide ((j:Int)<(s.size:Int))=true:=by simp; omega
  have hnx:IntKind.i64.wrap ((j:Int) + 1)=(((j + 1:Nat)):Int):=by rw [Uk9 (by omega) (by omega)]; omega
  have hin:inR (j:Int) s.size=true:=by simp [inR]; omega
  have hx:JfY .xor .u8 (IntKind.u8.wrap (ux c)) (Je1 s (j:Int))=ux (c.setWidth 8 ^^^ b):=by rw [Uea,hb1,Ui6]
  have hlt8:(c.setWidth 8 ^^^ b).toNat<256:=(c.setWidth 8 ^^^ b).isLt
  have hin8':∀ z:BitVec 8,inR (ux z) 256=true:=fun z=>by have:=z.isLt; unfold ux; simp only [inR,Bool.and_eq_true,decide_eq_true_eq]; omega
  have hin8:=hin8' (c.setWidth 8 ^^^ b)
  have htn:(ux (c.setWidth 8 ^^^ b)).toNat=(c.setWidth 8 ^^^ b).toNat:=by unfold ux; rw [Int.toNat_natCast]
  have hbl':∀ z:BitVec 8,Nat.blt (0 + z.toNat * 1) (tb 256).length=true:=fun z=>by have:=z.isLt; rw [UhB (Nat.le_refl _)]; simp only [Nat.blt_eq]; omega
  have hbl:Nat.blt (0 + (ux (c.setWidth 8 ^^^ b)).toNat * 1) (tb 256).length=true:=by rw [htn]; exact hbl' _
  rw [Uaw]
  unfold Uck
  rw [bT hlt,no8,bF rfl]
  simp only [Uoy,hx]
  rw [bT hin,bT hin8,bT hbl,htn,Uk5 hlt8,hnx,hb2]
  show Uaw n m s (tb 256) (JfY .xor .u32 (ux (c >>> 8)) (ux (UaS 8 (BitVec.ofNat 32 (c.setWidth 8 ^^^ b).toNat)))) _ _ k0=_
  rw [UcO]
  have hu:(c >>> 8) ^^^ UaS 8 (BitVec.ofNat 32 (c.setWidth 8 ^^^ b).toNat)=upd c b:=by
   rw [Ui5,BitVec.ofNat_toNat]
  rw [hu,ih]
  rfl
theorem Ume (n:Nat) (K:Int→Option R):p9 n 79764919 K=K 3988292384:=by kernel_rfl
theorem Upv (n:Nat) (K:Int→Option R):p9 n 79764919 K=K (ux poly):=by
 have h:ux poly=3988292384:=by decide
 rw [h,Ume]
theorem Uoz (n:Nat) (hn:300≤n) (s:ByteArray) (hs:s.size<n) (h62:s.size<4611686018427387904) (K:Int→Option R):p5 n s K=K (ux (~~~ crc (BitVec.allOnes 32) (bl s))):=by
 unfold p5
 rw [Upv]
 have h4:=l4 n (by omega) s (fun y3 y4=>Uhw n y3 y4 4294967295 ((y3).size:Int) 0 (fun y5=>let v6:=JfY .xor .u32 (if IntKind.u32.signed then -1 else IntKind.u32.max) y5; K v6)) 256 n (Nat.le_refl _) (by omega)
 refine Eq.trans h4 ?_
 have h17:=l17 n s h62 (fun y5=>let v6:=JfY .xor .u32 (if IntKind.u32.signed then -1 else IntKind.u32.max) y5; K v6) s.size n (BitVec.allOnes 32) (Nat.le_refl _) hs
 rw [Nat.sub_self] at h17
 refine Eq.trans h17 ?_
 simp only [List.drop_zero]
 rw [Uhm]
theorem r7 (n:Nat) (s:ByteArray) (i:Int) (k0:ByteArray→Int→Int→Option R):∀ (d m:Nat) (x:W),d≤8→d<m →
 UbC n m s (ux x) i (((8 - d:Nat)):Int) k0=k0 s (ux (UaS d x)) i
 | _,0,_,_,h=>by omega
 | 0,m + 1,x,_,_=>by
  rw [UbC]
  unfold Ud0
  rw [bF (by decide)]
  rfl
 | d + 1,m + 1,x,h1,h2=>by
  have ih:=r7 n s i k0 d m (stp x) (by omega) (by omega)
  have hlt:decide ((((8 - (d + 1):Nat)):Int)<8)=true:=by simp; omega
  have hnx:IntKind.i64.wrap ((((8 - (d + 1):Nat)):Int) + 1)=(((8 - d:Nat)):Int):=by rw [Uk9 (by omega) (by omega)]; omega
  have hp:(3988292384:Int)=ux poly:=by decide
  rw [UbC]
  unfold Ud0 UgL
  rw [bT hlt,UmN,no1,hnx,hp]
  rw [show UaS (d + 1) x=UaS d (stp x) from rfl,←ih]
  cases hb:x.getLsbD 0 with
  | true =>
   rw [bT rfl,bF rfl]
   simp only [Ulp]
   rw [UcO,Ud9,hb,bT rfl]
  | false =>
   rw [bF rfl,bF rfl]
   simp only [Ulp]
   rw [Ud9,hb,bF rfl]
theorem r3 (n:Nat) (hn:10≤n) (s:ByteArray) (hs:s.size<4611686018427387904) (k0:Int→Option R):∀ (d m:Nat) (c:W),d≤s.size→d<m →
 Ubj n m s (ux c) (((s.size - d:Nat)):Int) k0=k0 (ux (crc c ((bl s).drop (s.size - d))))
 | _,0,_,_,h=>by omega
 | 0,m + 1,c,_,_=>by
  rw [Ubj]
  unfold UdZ
  rw [bF (by simp)]
  rw [List.drop_of_length_le (by simp)]
  rfl
 | d + 1,m + 1,c,h1,h2=>by
  obtain ⟨j,hj⟩:∃ j,j=s.size - (d + 1):=⟨_,rfl⟩
  have hj':s.size - d=j + 1:=by omega
  have hjl:j<s.size:=by omega
  have ih:=fun c=>r3 n hn s hs k0 d m c (by omega) (by omega)
  rw [hj'] at ih
  rw [←hj]
  obtain ⟨b,hb1,hb2⟩:=Ucv s hjl
  have hlt:decide ((j:Int)<(s.size:Int))=true:=by simp; omega
  have hnx:IntKind.i64.wrap ((j:Int) + 1)=(((j + 1:Nat)):Int):=by rw [Uk9 (by omega) (by omega)]; omega
  have hin:inR (j:Int) s.size=true:=by simp [inR]; omega
  have hx:JfY .xor .u32 (ux c) (IntKind.u32.wrap (Je1 s (j:Int)))=ux (c ^^^ b.setWidth 32):=by rw [hb1,UgQ,UcO]
  rw [Ubj]
  unfold UdZ
  rw [bT hlt,bT hin]
  simp only [hx]
  have h7:=r7 n s (j:Int) (fun y5 y6 y7=>Ubj n m y5 y6 (IntKind.i64.wrap (y7 + 1)) k0) 8 n (c ^^^ b.setWidth 32) (by omega) (by omega)
  refine Eq.trans h7 ?_
  rw [hnx,hb2]
  exact ih (upd c b)
theorem Upw (n:Nat) (hn:300≤n) (s:ByteArray) (hs:s.size<n) (h62:s.size<4611686018427387904) (K:Int→Option R):p6 n s K=K (ux (~~~ crc (BitVec.allOnes 32) (bl s))):=by
 unfold p6
 have h3:=r3 n (by omega) s h62 (fun y2=>let v3:=JfY .xor .u32 (if IntKind.u32.signed then -1 else IntKind.u32.max) y2; K v3) s.size n (BitVec.allOnes 32) (Nat.le_refl _) hs
 rw [Nat.sub_self] at h3
 refine Eq.trans h3 ?_
 simp only [List.drop_zero]
 rw [Uhm]
end Go.Proofs.YtgglhmfncoeffaaGreatDoor.C54
set_option linter.unusedVariables false
set_option maxRecDepth 100000
namespace Go.Proofs.YtgglhmfncoeffaaGreatDoor
open Go Th Go.Proofs
noncomputable section
variable {R:Type}
def UhP:Ann:={ loops:=[],cuts:=[],frz:=[],rm:=[.id] }
abbrev UjO (n:Nat):Env:=eN
theorem UeX (n:Nat):EnvOK Tryz.prog GI (UjO n):=.nil
def p54 (n:Nat) (x1:ByteArray) (x2:LP) (k0:Bool→O R):O R :=
 k0 (decide (((x2).length:Int)>6))
abbrev Uob (n:Nat):Orc R:=oN
abbrev UmX (n:Nat):Orc R:=oN
abbrev K54 (R:Type) (n:Nat):=Jd (R:=R) Tryz.prog (UjO n) UhP n (7,[]) (Uob n) (UmX n)
theorem Upn (n:Nat):JfF (K54 R n) (JaS UhP (Jlv Tryz.f54)):=pO pN (by kernel_rfl)
abbrev t54:Sl (List SV):=(.c (sP (JlB (.c Jly (.c sSh .n)))) .n)
abbrev f54 (n:Nat) (K:List SV→O R):t54.T (O R):=fun x1 x2=>p54 n x1 x2 (fun y1=>K [vB y1])
abbrev UnU (n:Nat):FS:=fT [false] t54 (f54 n)
theorem UoX (n:Nat):FSound Tryz.prog GI 54 (UnU n):=gd UhP n (UeX n) Tryz.func54 (.cons (UeX n) t54 (f54 n) (@fun R K _ _=>by show _=_; exact (JkP (lo:=Uob n) (cu:=UmX n) (c:=Jlv Tryz.f54) (by kernel_rfl) (Upn (R:=R) n) K).trans (by kernel_rfl)) .nil) (by kernel_rfl)
def Ua2:Ann:={ loops:=[(4,ids [0,23,24],ids [2])],cuts:=[(3,ids [0],ids [2])],frz:=[],rm:=[.id] }
abbrev UiH (n:Nat):Env:=eN
theorem UeY (n:Nat):EnvOK Tryz.prog GI (UiH n):=.nil
def UfW (n:Nat) (l0:ByteArray→Int→Int→O R) (x1:ByteArray) (x2 x3:Int) (k0:Bool→O R) (k1:O R):O R :=
 bif (decide (x3<x2)) then (bif (inR x3 (x1).size) then (bif (decide (Je1 x1 x3≥97)) then (bif (bif true then (decide (Je1 x1 x3≤122)) else false) then (l0 x1 x2 (IntKind.i64.wrap (x3 + 1))) else (bif (decide (Je1 x1 x3≥65)) then (bif (bif false then true else (bif true then (decide (Je1 x1 x3≤90)) else false)) then (l0 x1 x2 (IntKind.i64.wrap (x3 + 1))) else (bif (decide (Je1 x1 x3≥48)) then (bif (bif false then true else (bif true then (decide (Je1 x1 x3≤57)) else false)) then (l0 x1 x2 (IntKind.i64.wrap (x3 + 1))) else (bif (!(bif false then true else (Je1 x1 x3 == 95))) then (k0 false) else (l0 x1 x2 (IntKind.i64.wrap (x3 + 1))))) else (bif (!(bif false then true else (Je1 x1 x3 == 95))) then (k0 false) else (l0 x1 x2 (IntKind.i64.wrap (x3 + 1)))))) else (bif (decide (Je1 x1 x3≥48)) then (bif (bif false then true else (bif true then (decide (Je1 x1 x3≤57)) else false)) then (l0 x1 x2 (IntKind.i64.wrap (x3 + 1))) else (bif (!(bif false then true else (Je1 x1 x3 == 95))) then (k0 false) else (l0 x1 x2 (IntKind.i64.wrap (x3 + 1))))) else (bif (!(bif false then true else (Je1 x1 x3 == 95))) then (k0 false) else (l0 x1 x2 (IntKind.i64.wrap (x3 + 1))))))) else (bif (decide (Je1 x1 x3≥65)) then (bif (bif false then true else (bif true then (decide (Je1 x1 x3≤90)) else false)) then (l0 x1 x2 (IntKind.i64.wrap (x3 + 1))) else (bif (decide (Je1 x1 x3≥48)) then (bif (bif false then true else (bif true then (decide (Je1 x1 x3≤57)) else false)) then (l0 x1 x2 (IntKind.i64.wrap (x3 + 1))) else (bif (!(bif false then true else (Je1 x1 x3 == 95))) then (k0 false) else (l0 x1 x2 (IntKind.i64.wrap (x3 + 1))))) else (bif (!(bif false then true else (Je1 x1 x3 == 95))) then (k0 false) else (l0 x1 x2 (IntKind.i64.wrap (x3 + 1)))))) else (bif (decide (Je1 x1 x3≥48)) then (bif (bif false then true else (bif true then (decide (Je1 x1 x3≤57)) else false)) then (l0 x1 x2 (IntKind.i64.wrap (x3 + 1))) else (bif (!(bif false then true else (Je1 x1 x3 == 95))) then (k0 false) else (l0 x1 x2 (IntKind.i64.wrap (x3 + 1))))) else (bif (!(bif false then true else (Je1 x1 x3 == 95))) then (k0 false) else (l0 x1 x2 (IntKind.i64.wrap (x3 + 1))))))) else none) else (k1)
def Udk (n:Nat):Nat→ByteArray→Int→Int→(Bool→O R)→(O R)→O R
 | 0,_,_,_,_,_=>none
 | m + 1,x1,x2,x3,k0,k1=>UfW n (fun x1 x2 x3=>Udk n m x1 x2 x3 k0 k1) x1 x2 x3 k0 k1
def Ukn (n:Nat) (x1:ByteArray) (x2 x3:Int) (k0:Bool→O R) (k1:O R):O R:=Udk n n x1 x2 x3 k0 k1
def Uhv (n:Nat) (x1:ByteArray) (k0:Bool→O R):O R :=
 Ukn n x1 ((x1).size:Int) 0 (fun y2=>k0 y2) (k0 true)
def p55 (n:Nat) (x1:ByteArray) (k0:Bool→O R):O R :=
 bif (eqS x1 (⟨#[]⟩:ByteArray)) then (k0 false) else (bif (bif false then true else (decide (((x1).size:Int)>32))) then (k0 false) else (bif (inR 0 (x1).size) then (bif (bif false then true else (decide (Je1 x1 0<65))) then (k0 false) else (bif (inR 0 (x1).size) then (bif (bif false then true else (decide (Je1 x1 0>90))) then (k0 false) else (Uhv n x1 (fun y2=>k0 y2))) else none)) else none))
abbrev E55 (n:Nat):Code→Fr→Kc R→O R:=evC Tryz.prog (UiH n) Ua2 n (58,[])
noncomputable def Ug5:Code:=Jkz (Jlv Tryz.f55) [1,1]
abbrev Ugl:Sl (List SV):=(cS .n)
abbrev Uhk (n:Nat) (K:Kc R):Ugl.T (O R):=fun x1=>Uhv n x1 (fun y1=>xC Ua2 3 K .ret [vB y1])
noncomputable def Ug6:Code:=Jkz (Jlv Tryz.f55) [1,1,0,1,0,0]
abbrev UbN:Sl (List SV):=(cS (cI (cI .n)))
abbrev Ufq (n m:Nat) (K:Kc R):UbN.T (O R):=fun x1 x2 x3=>Udk n m x1 x2 x3 (fun y1=>xL Ua2 4 K .ret [vB y1]) (xL Ua2 4 K (.exit 0) [dD])
abbrev Ujj (n:Nat) (K:Kc R) (l0:UbN.T (O R)):UbN.T (O R):=fun x1 x2 x3=>UfW n l0 x1 x2 x3 (fun y1=>xL Ua2 4 K .ret [vB y1]) (xL Ua2 4 K (.exit 0) [dD])
abbrev Ulo (n:Nat):Orc R:=oL Ua2 (E55 n) n 4 Ug6 UbN (Ufq n n) oN
abbrev Ulf (n:Nat):Orc R:=oC Ua2 (E55 n) 3 Ug5 Ugl (Uhk n) oN
abbrev K55 (R:Type) (n:Nat):=Jd (R:=R) Tryz.prog (UiH n) Ua2 n (58,[]) (Ulo n) (Ulf n)
theorem UkW (n:Nat):K55 R n (false,4,Ug6):=Jk4 (lo:=Ulo n) (cu:=Ulf n) (pO pN (by kernel_rfl)) UbN (Ufq n n) (Jji (F:=Ufq n) UbN (Ujj n) (fun K _ _ _=>rfl) (fun _ _=>rfl) (fun L K _ _ _=>by show _=_; kernel_rfl) n) fun _ _=>rfl
theorem UkV (n:Nat):K55 R n (true,3,Ug5):=Jlh (lo:=Ulo n) (cu:=Ulf n) (pO (pC (UkW n) pN) (by kernel_rfl)) Ugl (Uhk n) (fun K _=>by show _=_; kernel_rfl) fun _ _=>rfl
theorem Upo (n:Nat):JfF (K55 R n) (JaS Ua2 (Jlv Tryz.f55)):=pO (pC (UkV n) pN) (by kernel_rfl)
abbrev t55:Sl (List SV):=(cS .n)
abbrev f55 (n:Nat) (K:List SV→O R):t55.T (O R):=fun x1=>p55 n x1 (fun y1=>K [vB y1])
abbrev UlP (n:Nat):FS:=fT [false] t55 (f55 n)
theorem Uom (n:Nat):FSound Tryz.prog GI 55 (UlP n):=gd Ua2 n (UeY n) Tryz.func55 (.cons (UeY n) t55 (f55 n) (@fun R K _=>by show _=_; exact (JkP (lo:=Ulo n) (cu:=Ulf n) (c:=Jlv Tryz.f55) (by kernel_rfl) (Upo (R:=R) n) K).trans (by kernel_rfl)) .nil) (by kernel_rfl)
def UhQ:Ann:={ loops:=[],cuts:=[],frz:=[],rm:=[.id] }
abbrev UjP (n:Nat):Env:=eC 55 (UlP n) eN
theorem UeZ (n:Nat):EnvOK Tryz.prog GI (UjP n):=.cons (.nil) (Uom n)
def p56 (n:Nat) (x1:ByteArray) (x2:LP) (k0:Bool→O R):O R :=
 p55 n x1 (fun y3=>k0 (!y3))
abbrev Uoc (n:Nat):Orc R:=oN
abbrev UmY (n:Nat):Orc R:=oN
abbrev K56 (R:Type) (n:Nat):=Jd (R:=R) Tryz.prog (UjP n) UhQ n (7,[]) (Uoc n) (UmY n)
theorem Upp (n:Nat):JfF (K56 R n) (JaS UhQ (Jlv Tryz.f56)):=pO pN (by kernel_rfl)
abbrev t56:Sl (List SV):=(.c (sP (JlB (.c Jly (.c sSh .n)))) .n)
abbrev f56 (n:Nat) (K:List SV→O R):t56.T (O R):=fun x1 x2=>p56 n x1 x2 (fun y1=>K [vB y1])
abbrev UnV (n:Nat):FS:=fT [false] t56 (f56 n)
theorem UoY (n:Nat):FSound Tryz.prog GI 56 (UnV n):=gd UhQ n (UeZ n) Tryz.func56 (.cons (UeZ n) t56 (f56 n) (@fun R K _ _=>by show _=_; exact (JkP (lo:=Uoc n) (cu:=UmY n) (c:=Jlv Tryz.f56) (by kernel_rfl) (Upp (R:=R) n) K).trans (by kernel_rfl)) .nil) (by kernel_rfl)
def UhJ:Ann:={ loops:=[],cuts:=[],frz:=[],rm:=[.id] }
abbrev UjI (n:Nat):Env:=eN
theorem UeR (n:Nat):EnvOK Tryz.prog GI (UjI n):=.nil
def p33 (n:Nat) (x1:LP) (x2:Int) (k0:Bool→O R):O R :=
 bif (decide (x2≥0)) then (k0 (bif true then (decide (x2≤((x1).length:Int))) else false)) else (k0 false)
abbrev Un7 (n:Nat):Orc R:=oN
abbrev UmS (n:Nat):Orc R:=oN
abbrev K33 (R:Type) (n:Nat):=Jd (R:=R) Tryz.prog (UjI n) UhJ n (13,[]) (Un7 n) (UmS n)
theorem Uph (n:Nat):JfF (K33 R n) (JaS UhJ (Jlv Tryz.f33)):=pO pN (by kernel_rfl)
abbrev t33:Sl (List SV):=(cH (cI .n))
abbrev f33 (n:Nat) (K:List SV→O R):t33.T (O R):=fun x1 x2=>p33 n x1 x2 (fun y1=>K [vB y1])
abbrev UnM (n:Nat):FS:=fT [false,false] t33 (f33 n)
theorem UoP (n:Nat):FSound Tryz.prog GI 33 (UnM n):=gd UhJ n (UeR n) Tryz.func33 (.cons (UeR n) t33 (f33 n) (@fun R K _ _=>by show _=_; exact (JkP (lo:=Un7 n) (cu:=UmS n) (c:=Jlv Tryz.f33) (by kernel_rfl) (Uph (R:=R) n) K).trans (by kernel_rfl)) .nil) (by kernel_rfl)
def UhI:Ann:={ loops:=[],cuts:=[],frz:=[],rm:=[.id] }
abbrev UjH (n:Nat):Env:=eC 33 (UnM n) eN
theorem UeQ (n:Nat):EnvOK Tryz.prog GI (UjH n):=.cons (.nil) (UoP n)
def p32 (n:Nat) (x1:Int) (x2:LP) (k0:Bool→O R):O R :=
 p33 n x2 x1 (fun y3=>k0 (!y3))
abbrev Un6 (n:Nat):Orc R:=oN
abbrev UmR (n:Nat):Orc R:=oN
abbrev K32 (R:Type) (n:Nat):=Jd (R:=R) Tryz.prog (UjH n) UhI n (8,[]) (Un6 n) (UmR n)
theorem Upg (n:Nat):JfF (K32 R n) (JaS UhI (Jlv Tryz.f32)):=pO pN (by kernel_rfl)
abbrev t32:Sl (List SV):=(cI (.c (sP (sFb (.c sSh .n))) .n))
abbrev f32 (n:Nat) (K:List SV→O R):t32.T (O R):=fun x1 x2=>p32 n x1 x2 (fun y1=>K [vB y1])
abbrev UnL (n:Nat):FS:=fT [false,false] t32 (f32 n)
theorem UoO (n:Nat):FSound Tryz.prog GI 32 (UnL n):=gd UhI n (UeQ n) Tryz.func32 (.cons (UeQ n) t32 (f32 n) (@fun R K _ _=>by show _=_; exact (JkP (lo:=Un6 n) (cu:=UmR n) (c:=Jlv Tryz.f32) (by kernel_rfl) (Upg (R:=R) n) K).trans (by kernel_rfl)) .nil) (by kernel_rfl)
def UhS:Ann:={ loops:=[],cuts:=[],frz:=[],rm:=[.id] }
abbrev UjR (n:Nat):Env:=eN
theorem Ue1 (n:Nat):EnvOK Tryz.prog GI (UjR n):=.nil
def p59 (n:Nat) (x1:Int) (x2:LP) (k0:Bool→O R):O R :=
 bif (inR x1 ((x2).length)) then (Jkv ((x2).getD ((x1:Int).toNat) (.v (.bool false))) fun e3=>k0 (!e3)) else none
abbrev Uoe (n:Nat):Orc R:=oN
abbrev Um0 (n:Nat):Orc R:=oN
abbrev K59 (R:Type) (n:Nat):=Jd (R:=R) Tryz.prog (UjR n) UhS n (9,[]) (Uoe n) (Um0 n)
theorem Upr (n:Nat):JfF (K59 R n) (JaS UhS (Jlv Tryz.f59)):=pO pN (by kernel_rfl)
abbrev t59:Sl (List SV):=(cI (.c (sP (sFb (.c sSh .n))) .n))
abbrev f59 (n:Nat) (K:List SV→O R):t59.T (O R):=fun x1 x2=>p59 n x1 x2 (fun y1=>K [vB y1])
abbrev UnY (n:Nat):FS:=fT [false,false] t59 (f59 n)
theorem Uo1 (n:Nat):FSound Tryz.prog GI 59 (UnY n):=gd UhS n (Ue1 n) Tryz.func59 (.cons (Ue1 n) t59 (f59 n) (@fun R K _ _=>by show _=_; exact (JkP (lo:=Uoe n) (cu:=Um0 n) (c:=Jlv Tryz.f59) (by kernel_rfl) (Upr (R:=R) n) K).trans (by kernel_rfl)) .nil) (by kernel_rfl)
def Uar:Ann:={ loops:=[(2,ids [0,1,7,8],ids [4])],cuts:=[],frz:=[],rm:=[.id] }
abbrev UeD (n:Nat):Env:=eC 59 (UnY n) (eC 32 (UnL n) eN)
theorem Uc3 (n:Nat):EnvOK Tryz.prog GI (UeD n):=.cons (.cons (.nil) (UoO n)) (Uo1 n)
def UfX (n:Nat) (l0:LP→LP→Int→Int→O R) (x1 x2:LP) (x3 x4:Int) (k0:Int→O R) (k1:O R):O R :=
 bif (decide (x4<x3)) then (bif (inR x4 ((x1).length)) then (Jkw .i64 ((x1).getD ((x4:Int).toNat) (.v (.bool false))) fun e5=>p32 n e5 x2 (fun y6=>bif y6 then (k0 x4) else (l0 x1 x2 x3 (IntKind.i64.wrap (x4 + 1))))) else none) else (k1)
def Udl (n:Nat):Nat→LP→LP→Int→Int→(Int→O R)→(O R)→O R
 | 0,_,_,_,_,_,_=>none
 | m + 1,x1,x2,x3,x4,k0,k1=>UfX n (fun x1 x2 x3 x4=>Udl n m x1 x2 x3 x4 k0 k1) x1 x2 x3 x4 k0 k1
def Uko (n:Nat) (x1 x2:LP) (x3 x4:Int) (k0:Int→O R) (k1:O R):O R:=Udl n n x1 x2 x3 x4 k0 k1
def p57 (n:Nat) (x1 x2:LP) (k0:Int→O R):O R :=
 Uko n x1 x2 ((x1).length:Int) 0 (fun y3=>k0 y3) (k0 (-1))
def UcK (n:Nat) (l0:LP→LP→Int→Int→O R) (x1 x2:LP) (x3 x4:Int) (k0:Int→O R) (k1:O R):O R :=
 bif (decide (x4<x3)) then (bif (inR x4 ((x1).length)) then (Jkw .i64 ((x1).getD ((x4:Int).toNat) (.v (.bool false))) fun e5=>p59 n e5 x2 (fun y6=>bif y6 then (k0 x4) else (l0 x1 x2 x3 (IntKind.i64.wrap (x4 + 1))))) else none) else (k1)
def Ubh (n:Nat):Nat→LP→LP→Int→Int→(Int→O R)→(O R)→O R
 | 0,_,_,_,_,_,_=>none
 | m + 1,x1,x2,x3,x4,k0,k1=>UcK n (fun x1 x2 x3 x4=>Ubh n m x1 x2 x3 x4 k0 k1) x1 x2 x3 x4 k0 k1
def UgK (n:Nat) (x1 x2:LP) (x3 x4:Int) (k0:Int→O R) (k1:O R):O R:=Ubh n n x1 x2 x3 x4 k0 k1
def Ukp (n:Nat) (x1 x2:LP) (k0:Int→O R):O R :=
 UgK n x1 x2 ((x1).length:Int) 0 (fun y3=>k0 y3) (k0 (-1))
abbrev E57 (n:Nat):Code→Fr→Kc R→O R:=evC Tryz.prog (UeD n) Uar n (19,[])
noncomputable def UcC:Code:=Jkz (Jlv Tryz.f57) [1,0,1,0,0]
abbrev UaF:Sl (List SV):=(cH (.c (sP (JlD 32 (.c (sFb (.c sSh .n)) .n))) (cI (cI .n))))
abbrev UaG:Sl (List SV):=(cH (.c (sP (JlD 59 (.c (sFb (.c sSh .n)) .n))) (cI (cI .n))))
abbrev Ub6 (n m:Nat) (K:Kc R):UaF.T (O R):=fun x1 x2 x3 x4=>Udl n m x1 x2 x3 x4 (fun y1=>xL Uar 2 K .ret [vI y1]) (xL Uar 2 K (.exit 0) [dD])
abbrev Uh6 (n:Nat) (K:Kc R) (l0:UaF.T (O R)):UaF.T (O R):=fun x1 x2 x3 x4=>UfX n l0 x1 x2 x3 x4 (fun y1=>xL Uar 2 K .ret [vI y1]) (xL Uar 2 K (.exit 0) [dD])
abbrev Ub7 (n m:Nat) (K:Kc R):UaG.T (O R):=fun x1 x2 x3 x4=>Ubh n m x1 x2 x3 x4 (fun y1=>xL Uar 2 K .ret [vI y1]) (xL Uar 2 K (.exit 0) [dD])
abbrev Uh7 (n:Nat) (K:Kc R) (l0:UaG.T (O R)):UaG.T (O R):=fun x1 x2 x3 x4=>UcK n l0 x1 x2 x3 x4 (fun y1=>xL Uar 2 K .ret [vI y1]) (xL Uar 2 K (.exit 0) [dD])
abbrev UiQ (n:Nat):Orc R:=fun i vs K=>JgZ (Nat.beq i 2) (JjK (UaF.ap vs (Ub6 n n K)) (JjK (UaG.ap vs (Ub7 n n K)) (Jc2 Uar 2 (E57 n UcC) n vs K))) (oN i vs K)
abbrev Uig (n:Nat):Orc R:=oN
abbrev K57 (R:Type) (n:Nat):=Jd (R:=R) Tryz.prog (UeD n) Uar n (19,[]) (UiQ n) (Uig n)
theorem Uge (n:Nat):JfF (K57 R n) (JaS Uar UcC):=pO pN (by kernel_rfl)
theorem Uip (n:Nat):∀ m (K:Kc R),UaF.all (fun vs r=>Jc2 Uar 2 (Jdo Tryz.prog (UeD n) Uar (19,[]) (UiQ n) (Uig n) UcC) m vs K=r) (Ub6 n m K):=Jji (F:=Ub6 n) UaF (Uh6 n) (fun K _ _ _ _=>rfl) (fun _ _=>rfl) (fun L K _ _ _ _=>by show _=_; kernel_rfl)
theorem Uiq (n:Nat):∀ m (K:Kc R),UaG.all (fun vs r=>Jc2 Uar 2 (Jdo Tryz.prog (UeD n) Uar (19,[]) (UiQ n) (Uig n) UcC) m vs K=r) (Ub7 n m K):=Jji (F:=Ub7 n) UaG (Uh7 n) (fun K _ _ _ _=>rfl) (fun _ _=>rfl) (fun L K _ _ _ _=>by show _=_; kernel_rfl)
theorem UkX (n:Nat):K57 R n (false,2,UcC):=Jk4 (lo:=UiQ n) (cu:=Uig n) (Uge n) UaF (Ub6 n n) (Uip n n) (Jk4 (lo:=UiQ n) (cu:=Uig n) (Uge n) UaG (Ub7 n n) (Uiq n n) fun _ _=>rfl)
theorem Uow (n:Nat):JfF (K57 R n) (JaS Uar (Jlv Tryz.f57)):=pO (pC (UkX n) pN) (by kernel_rfl)
abbrev UmF:Sl (List SV):=(cH (.c (sP (JlD 32 (.c (sFb (.c sSh .n)) .n))) .n))
abbrev Uns (n:Nat) (K:List SV→O R):UmF.T (O R):=fun x1 x2=>p57 n x1 x2 (fun y1=>K [vI y1])
abbrev UmG:Sl (List SV):=(cH (.c (sP (JlD 59 (.c (sFb (.c sSh .n)) .n))) .n))
abbrev Unt (n:Nat) (K:List SV→O R):UmG.T (O R):=fun x1 x2=>Ukp n x1 x2 (fun y1=>K [vI y1])
abbrev UnW (n:Nat):FS:={ om:=[false,false],run:=fun args K=>JjK (UmF.ap args (Uns n K)) (JjK (UmG.ap args (Unt n K)) none) }
theorem UoZ (n:Nat):FSound Tryz.prog GI 57 (UnW n):=gd Uar n (Uc3 n) Tryz.func57 (.cons (Uc3 n) UmF (Uns n) (@fun R K _ _=>by show _=_; exact (JkP (lo:=UiQ n) (cu:=Uig n) (c:=Jlv Tryz.f57) (by kernel_rfl) (Uow (R:=R) n) K).trans (by kernel_rfl)) (.cons (Uc3 n) UmG (Unt n) (@fun R K _ _=>by show _=_; exact (JkP (lo:=UiQ n) (cu:=Uig n) (c:=Jlv Tryz.f57) (by kernel_rfl) (Uow (R:=R) n) K).trans (by kernel_rfl)) .nil)) (by kernel_rfl)
def UhH:Ann:={ loops:=[],cuts:=[],frz:=[],rm:=[.id] }
abbrev UjG (n:Nat):Env:=eC 57 (UnW n) eN
theorem UcZ (n:Nat):EnvOK Tryz.prog GI (UjG n):=.cons (.nil) (UoZ n)
def p31 (n:Nat) (x1 x2:LP) (k0:Bool→O R):O R :=
 p57 n x1 x2 (fun y3=>k0 (decide (y3≥0)))
def Uke (n:Nat) (x1 x2:LP) (k0:Bool→O R):O R :=
 Ukp n x1 x2 (fun y3=>k0 (decide (y3≥0)))
abbrev UlU (n:Nat):Orc R:=oN
abbrev UlC (n:Nat):Orc R:=oN
abbrev K31 (R:Type) (n:Nat):=Jd (R:=R) Tryz.prog (UjG n) UhH n (9,[]) (UlU n) (UlC n)
theorem Uos (n:Nat):JfF (K31 R n) (JaS UhH (Jlv Tryz.f31)):=pO pN (by kernel_rfl)
abbrev Umu:Sl (List SV):=(cH (.c (sP (JlD 32 (.c (sFb (.c sSh .n)) .n))) .n))
abbrev Unh (n:Nat) (K:List SV→O R):Umu.T (O R):=fun x1 x2=>p31 n x1 x2 (fun y1=>K [vB y1])
abbrev Umv:Sl (List SV):=(cH (.c (sP (JlD 59 (.c (sFb (.c sSh .n)) .n))) .n))
abbrev Uni (n:Nat) (K:List SV→O R):Umv.T (O R):=fun x1 x2=>Uke n x1 x2 (fun y1=>K [vB y1])
abbrev UlN (n:Nat):FS:={ om:=[false,false],run:=fun args K=>JjK (Umu.ap args (Unh n K)) (JjK (Umv.ap args (Uni n K)) none) }
theorem Uok (n:Nat):FSound Tryz.prog GI 31 (UlN n):=gd UhH n (UcZ n) Tryz.func31 (.cons (UcZ n) Umu (Unh n) (@fun R K _ _=>by show _=_; exact (JkP (lo:=UlU n) (cu:=UlC n) (c:=Jlv Tryz.f31) (by kernel_rfl) (Uos (R:=R) n) K).trans (by kernel_rfl)) (.cons (UcZ n) Umv (Uni n) (@fun R K _ _=>by show _=_; exact (JkP (lo:=UlU n) (cu:=UlC n) (c:=Jlv Tryz.f31) (by kernel_rfl) (Uos (R:=R) n) K).trans (by kernel_rfl)) .nil)) (by kernel_rfl)
def UhR:Ann:={ loops:=[],cuts:=[],frz:=[],rm:=[.id] }
abbrev UjQ (n:Nat):Env:=eC 31 (UlN n) eN
theorem Ue0 (n:Nat):EnvOK Tryz.prog GI (UjQ n):=.cons (.nil) (Uok n)
def p58 (n:Nat) (x1:ByteArray) (x2 x3:LP) (k0:Bool→O R):O R :=
 Uke n x2 x3 (fun y4=>k0 (!y4))
abbrev Uod (n:Nat):Orc R:=oN
abbrev UmZ (n:Nat):Orc R:=oN
abbrev K58 (R:Type) (n:Nat):=Jd (R:=R) Tryz.prog (UjQ n) UhR n (9,[]) (Uod n) (UmZ n)
theorem Upq (n:Nat):JfF (K58 R n) (JaS UhR (Jlv Tryz.f58)):=pO pN (by kernel_rfl)
abbrev t58:Sl (List SV):=(.c (sP (JlB (.c Jly (.c sSh .n)))) (.c (sP (sFb (.c sSh .n))) .n))
abbrev f58 (n:Nat) (K:List SV→O R):t58.T (O R):=fun x1 x2 x3=>p58 n x1 x2 x3 (fun y1=>K [vB y1])
abbrev UnX (n:Nat):FS:=fT [false,false] t58 (f58 n)
theorem Uo0 (n:Nat):FSound Tryz.prog GI 58 (UnX n):=gd UhR n (Ue0 n) Tryz.func58 (.cons (Ue0 n) t58 (f58 n) (@fun R K _ _ _=>by show _=_; exact (JkP (lo:=Uod n) (cu:=UmZ n) (c:=Jlv Tryz.f58) (by kernel_rfl) (Upq (R:=R) n) K).trans (by kernel_rfl)) .nil) (by kernel_rfl)
def Uad:Ann:={ loops:=[(2,ids [0,1,7,8],ids [4])],cuts:=[],frz:=[],rm:=[.id] }
abbrev Uef (n:Nat):Env:=eC 58 (UnX n) (eC 56 (UnV n) (eC 54 (UnU n) eN))
theorem UbX (n:Nat):EnvOK Tryz.prog GI (Uef n):=.cons (.cons (.cons (.nil) (UoX n)) (UoY n)) (Uo0 n)
def Uf0 (n:Nat) (l0:LP→Int→Int→O R) (x1:LP) (x2 x3:Int) (k0:Int→O R) (k1:O R):O R :=
 bif (decide (x3<x2)) then (bif (inR x3 ((x1).length)) then (Jiy ((x1).getD ((x3:Int).toNat) (.v (.bool false))) fun a4=>Jep a4 fun h5 t6=>Jkx h5 fun e7=>Jep t6 fun h8 t9=>JkQ h8 fun e10=>JjD t9 (p54 n e7 e10 (fun y11=>bif y11 then (k0 x3) else (l0 x1 x2 (IntKind.i64.wrap (x3 + 1)))))) else none) else (k1)
def Udo (n:Nat):Nat→LP→Int→Int→(Int→O R)→(O R)→O R
 | 0,_,_,_,_,_=>none
 | m + 1,x1,x2,x3,k0,k1=>Uf0 n (fun x1 x2 x3=>Udo n m x1 x2 x3 k0 k1) x1 x2 x3 k0 k1
def Uks (n:Nat) (x1:LP) (x2 x3:Int) (k0:Int→O R) (k1:O R):O R:=Udo n n x1 x2 x3 k0 k1
def p75 (n:Nat) (x1:LP) (k0:Int→O R):O R :=
 Uks n x1 ((x1).length:Int) 0 (fun y2=>k0 y2) (k0 (-1))
def UcM (n:Nat) (l0:LP→Int→Int→O R) (x1:LP) (x2 x3:Int) (k0:Int→O R) (k1:O R):O R :=
 bif (decide (x3<x2)) then (bif (inR x3 ((x1).length)) then (Jiy ((x1).getD ((x3:Int).toNat) (.v (.bool false))) fun a4=>Jep a4 fun h5 t6=>Jkx h5 fun e7=>Jep t6 fun h8 t9=>JkQ h8 fun e10=>JjD t9 (p56 n e7 e10 (fun y11=>bif y11 then (k0 x3) else (l0 x1 x2 (IntKind.i64.wrap (x3 + 1)))))) else none) else (k1)
def Ubm (n:Nat):Nat→LP→Int→Int→(Int→O R)→(O R)→O R
 | 0,_,_,_,_,_=>none
 | m + 1,x1,x2,x3,k0,k1=>UcM n (fun x1 x2 x3=>Ubm n m x1 x2 x3 k0 k1) x1 x2 x3 k0 k1
def UgO (n:Nat) (x1:LP) (x2 x3:Int) (k0:Int→O R) (k1:O R):O R:=Ubm n n x1 x2 x3 k0 k1
def Ukt (n:Nat) (x1:LP) (k0:Int→O R):O R :=
 UgO n x1 ((x1).length:Int) 0 (fun y2=>k0 y2) (k0 (-1))
def UcN (n:Nat) (l0:LP→LP→Int→Int→O R) (x1 x2:LP) (x3 x4:Int) (k0:Int→O R) (k1:O R):O R :=
 bif (decide (x4<x3)) then (bif (inR x4 ((x1).length)) then (Jiy ((x1).getD ((x4:Int).toNat) (.v (.bool false))) fun a5=>Jep a5 fun h6 t7=>Jkx h6 fun e8=>Jep t7 fun h9 t10=>JkQ h9 fun e11=>JjD t10 (p58 n e8 e11 x2 (fun y12=>bif y12 then (k0 x4) else (l0 x1 x2 x3 (IntKind.i64.wrap (x4 + 1)))))) else none) else (k1)
def Ubn (n:Nat):Nat→LP→LP→Int→Int→(Int→O R)→(O R)→O R
 | 0,_,_,_,_,_,_=>none
 | m + 1,x1,x2,x3,x4,k0,k1=>UcN n (fun x1 x2 x3 x4=>Ubn n m x1 x2 x3 x4 k0 k1) x1 x2 x3 x4 k0 k1
def UgP (n:Nat) (x1 x2:LP) (x3 x4:Int) (k0:Int→O R) (k1:O R):O R:=Ubn n n x1 x2 x3 x4 k0 k1
def Uku (n:Nat) (x1 x2:LP) (k0:Int→O R):O R :=
 UgP n x1 x2 ((x1).length:Int) 0 (fun y3=>k0 y3) (k0 (-1))
abbrev E75 (n:Nat):Code→Fr→Kc R→O R:=evC Tryz.prog (Uef n) Uad n (19,[])
noncomputable def Ubw:Code:=Jkz (Jlv Tryz.f75) [1,0,1,0,0]
abbrev UaJ:Sl (List SV):=(cH (.c (sP (sFn 54)) (cI (cI .n))))
abbrev UaK:Sl (List SV):=(cH (.c (sP (sFn 56)) (cI (cI .n))))
abbrev UaL:Sl (List SV):=(cH (.c (sP (JlD 58 (.c (sFb (.c sSh .n)) .n))) (cI (cI .n))))
abbrev Uc (n m:Nat) (K:Kc R):UaJ.T (O R):=fun x1 x2 x3=>Udo n m x1 x2 x3 (fun y1=>xL Uad 2 K .ret [vI y1]) (xL Uad 2 K (.exit 0) [dD])
abbrev Ui (n:Nat) (K:Kc R) (l0:UaJ.T (O R)):UaJ.T (O R):=fun x1 x2 x3=>Uf0 n l0 x1 x2 x3 (fun y1=>xL Uad 2 K .ret [vI y1]) (xL Uad 2 K (.exit 0) [dD])
abbrev Uca (n m:Nat) (K:Kc R):UaK.T (O R):=fun x1 x2 x3=>Ubm n m x1 x2 x3 (fun y1=>xL Uad 2 K .ret [vI y1]) (xL Uad 2 K (.exit 0) [dD])
abbrev Uia (n:Nat) (K:Kc R) (l0:UaK.T (O R)):UaK.T (O R):=fun x1 x2 x3=>UcM n l0 x1 x2 x3 (fun y1=>xL Uad 2 K .ret [vI y1]) (xL Uad 2 K (.exit 0) [dD])
abbrev Ucb (n m:Nat) (K:Kc R):UaL.T (O R):=fun x1 x2 x3 x4=>Ubn n m x1 x2 x3 x4 (fun y1=>xL Uad 2 K .ret [vI y1]) (xL Uad 2 K (.exit 0) [dD])
abbrev Uib (n:Nat) (K:Kc R) (l0:UaL.T (O R)):UaL.T (O R):=fun x1 x2 x3 x4=>UcN n l0 x1 x2 x3 x4 (fun y1=>xL Uad 2 K .ret [vI y1]) (xL Uad 2 K (.exit 0) [dD])
abbrev Ugr (n:Nat):Orc R:=fun i vs K=>JgZ (Nat.beq i 2) (JjK (UaJ.ap vs (Uc n n K)) (JjK (UaK.ap vs (Uca n n K)) (JjK (UaL.ap vs (Ucb n n K)) (Jc2 Uad 2 (E75 n Ubw) n vs K)))) (oN i vs K)
abbrev Ugp (n:Nat):Orc R:=oN
abbrev K75 (R:Type) (n:Nat):=Jd (R:=R) Tryz.prog (Uef n) Uad n (19,[]) (Ugr n) (Ugp n)
theorem Udq (n:Nat):JfF (K75 R n) (JaS Uad Ubw):=pO pN (by kernel_rfl)
theorem Uit (n:Nat):∀ m (K:Kc R),UaJ.all (fun vs r=>Jc2 Uad 2 (Jdo Tryz.prog (Uef n) Uad (19,[]) (Ugr n) (Ugp n) Ubw) m vs K=r) (Uc n m K):=Jji (F:=Uc n) UaJ (Ui n) (fun K _ _ _=>rfl) (fun _ _=>rfl) (fun L K _ _ _=>by show _=_; kernel_rfl)
theorem Uiu (n:Nat):∀ m (K:Kc R),UaK.all (fun vs r=>Jc2 Uad 2 (Jdo Tryz.prog (Uef n) Uad (19,[]) (Ugr n) (Ugp n) Ubw) m vs K=r) (Uca n m K):=Jji (F:=Uca n) UaK (Uia n) (fun K _ _ _=>rfl) (fun _ _=>rfl) (fun L K _ _ _=>by show _=_; kernel_rfl)
theorem Uiv (n:Nat):∀ m (K:Kc R),UaL.all (fun vs r=>Jc2 Uad 2 (Jdo Tryz.prog (Uef n) Uad (19,[]) (Ugr n) (Ugp n) Ubw) m vs K=r) (Ucb n m K):=Jji (F:=Ucb n) UaL (Uib n) (fun K _ _ _ _=>rfl) (fun _ _=>rfl) (fun L K _ _ _ _=>by show _=_; kernel_rfl)
theorem Uk3 (n:Nat):K75 R n (false,2,Ubw):=Jk4 (lo:=Ugr n) (cu:=Ugp n) (Udq n) UaJ (Uc n n) (Uit n n) (Jk4 (lo:=Ugr n) (cu:=Ugp n) (Udq n) UaK (Uca n n) (Uiu n n) (Jk4 (lo:=Ugr n) (cu:=Ugp n) (Udq n) UaL (Ucb n n) (Uiv n n) fun _ _=>rfl))
theorem Ul7 (n:Nat):JfF (K75 R n) (JaS Uad (Jlv Tryz.f75)):=pO (pC (Uk3 n) pN) (by kernel_rfl)
abbrev UmJ:Sl (List SV):=(cH (.c (sP (sFn 54)) .n))
abbrev Unw (n:Nat) (K:List SV→O R):UmJ.T (O R):=fun x1=>p75 n x1 (fun y1=>K [vI y1])
abbrev UmK:Sl (List SV):=(cH (.c (sP (sFn 56)) .n))
abbrev Unx (n:Nat) (K:List SV→O R):UmK.T (O R):=fun x1=>Ukt n x1 (fun y1=>K [vI y1])
abbrev UmL:Sl (List SV):=(cH (.c (sP (JlD 58 (.c (sFb (.c sSh .n)) .n))) .n))
abbrev Uny (n:Nat) (K:List SV→O R):UmL.T (O R):=fun x1 x2=>Uku n x1 x2 (fun y1=>K [vI y1])
abbrev Un1 (n:Nat):FS:={ om:=[false,false],run:=fun args K=>JjK (UmJ.ap args (Unw n K)) (JjK (UmK.ap args (Unx n K)) (JjK (UmL.ap args (Uny n K)) none)) }
theorem Uo4 (n:Nat):FSound Tryz.prog GI 75 (Un1 n):=gd Uad n (UbX n) Tryz.func75 (.cons (UbX n) UmJ (Unw n) (@fun R K _=>by show _=_; exact (JkP (lo:=Ugr n) (cu:=Ugp n) (c:=Jlv Tryz.f75) (by kernel_rfl) (Ul7 (R:=R) n) K).trans (by kernel_rfl)) (.cons (UbX n) UmK (Unx n) (@fun R K _=>by show _=_; exact (JkP (lo:=Ugr n) (cu:=Ugp n) (c:=Jlv Tryz.f75) (by kernel_rfl) (Ul7 (R:=R) n) K).trans (by kernel_rfl)) (.cons (UbX n) UmL (Uny n) (@fun R K _ _=>by show _=_; exact (JkP (lo:=Ugr n) (cu:=Ugp n) (c:=Jlv Tryz.f75) (by kernel_rfl) (Ul7 (R:=R) n) K).trans (by kernel_rfl)) .nil))) (by kernel_rfl)
def UhO:Ann:={ loops:=[],cuts:=[],frz:=[],rm:=[.id] }
abbrev UjN (n:Nat):Env:=eC 75 (Un1 n) eN
theorem UbW (n:Nat):EnvOK Tryz.prog GI (UjN n):=.cons (.nil) (Uo4 n)
def p53 (n:Nat) (x1:LP) (k0:Bool→O R):O R :=
 p75 n x1 (fun y2=>k0 (decide (y2≥0)))
def Ukl (n:Nat) (x1:LP) (k0:Bool→O R):O R :=
 Ukt n x1 (fun y2=>k0 (decide (y2≥0)))
def Ukm (n:Nat) (x1 x2:LP) (k0:Bool→O R):O R :=
 Uku n x1 x2 (fun y3=>k0 (decide (y3≥0)))
abbrev Uln (n:Nat):Orc R:=oN
abbrev Ule (n:Nat):Orc R:=oN
abbrev K53 (R:Type) (n:Nat):=Jd (R:=R) Tryz.prog (UjN n) UhO n (9,[]) (Uln n) (Ule n)
theorem Ul6 (n:Nat):JfF (K53 R n) (JaS UhO (Jlv Tryz.f53)):=pO pN (by kernel_rfl)
abbrev UmC:Sl (List SV):=(cH (.c (sP (sFn 54)) .n))
abbrev Unp (n:Nat) (K:List SV→O R):UmC.T (O R):=fun x1=>p53 n x1 (fun y1=>K [vB y1])
abbrev UmD:Sl (List SV):=(cH (.c (sP (sFn 56)) .n))
abbrev Unq (n:Nat) (K:List SV→O R):UmD.T (O R):=fun x1=>Ukl n x1 (fun y1=>K [vB y1])
abbrev UmE:Sl (List SV):=(cH (.c (sP (JlD 58 (.c (sFb (.c sSh .n)) .n))) .n))
abbrev Unr (n:Nat) (K:List SV→O R):UmE.T (O R):=fun x1 x2=>Ukm n x1 x2 (fun y1=>K [vB y1])
abbrev Ulh (n:Nat):FS:={ om:=[false,false],run:=fun args K=>JjK (UmC.ap args (Unp n K)) (JjK (UmD.ap args (Unq n K)) (JjK (UmE.ap args (Unr n K)) none)) }
theorem UlY (n:Nat):FSound Tryz.prog GI 53 (Ulh n):=gd UhO n (UbW n) Tryz.func53 (.cons (UbW n) UmC (Unp n) (@fun R K _=>by show _=_; exact (JkP (lo:=Uln n) (cu:=Ule n) (c:=Jlv Tryz.f53) (by kernel_rfl) (Ul6 (R:=R) n) K).trans (by kernel_rfl)) (.cons (UbW n) UmD (Unq n) (@fun R K _=>by show _=_; exact (JkP (lo:=Uln n) (cu:=Ule n) (c:=Jlv Tryz.f53) (by kernel_rfl) (Ul6 (R:=R) n) K).trans (by kernel_rfl)) (.cons (UbW n) UmE (Unr n) (@fun R K _ _=>by show _=_; exact (JkP (lo:=Uln n) (cu:=Ule n) (c:=Jlv Tryz.f53) (by kernel_rfl) (Ul6 (R:=R) n) K).trans (by kernel_rfl)) .nil))) (by kernel_rfl)
def UbS:Ann:={ loops:=[(4,ids [8,9,10],ids [2])],cuts:=[],frz:=[],rm:=[.id] }
abbrev UiB (n:Nat):Env:=eC 53 (Ulh n) eN
theorem UeN (n:Nat):EnvOK Tryz.prog GI (UiB n):=.cons (.nil) (UlY n)
def UfO (n:Nat) (l0:LP→Int→Int→O R) (x1:LP) (x2 x3:Int) (k0:Bool→O R) (k1:O R):O R :=
 bif (decide (x3<x2)) then (bif (inR x3 ((x1).length)) then (Jiy ((x1).getD ((x3:Int).toNat) (.v (.bool false))) fun a4=>Jep a4 fun h5 t6=>Jkx h5 fun e7=>Jep t6 fun h8 t9=>JkQ h8 fun e10=>JjD t9 (bif (decide (((e10).length:Int)>16)) then (k0 true) else (p53 n e10 (fun y11=>bif (bif false then true else y11) then (k0 true) else (l0 x1 x2 (IntKind.i64.wrap (x3 + 1))))))) else none) else (k1)
def Udd (n:Nat):Nat→LP→Int→Int→(Bool→O R)→(O R)→O R
 | 0,_,_,_,_,_=>none
 | m + 1,x1,x2,x3,k0,k1=>UfO n (fun x1 x2 x3=>Udd n m x1 x2 x3 k0 k1) x1 x2 x3 k0 k1
def Uka (n:Nat) (x1:LP) (x2 x3:Int) (k0:Bool→O R) (k1:O R):O R:=Udd n n x1 x2 x3 k0 k1
def p28 (n:Nat) (x1:LP) (k0:Bool→O R):O R :=
 bif (decide (((x1).length:Int)>64)) then (k0 true) else (Uka n x1 ((x1).length:Int) 0 (fun y2=>k0 y2) (k0 false))
abbrev E28 (n:Nat):Code→Fr→Kc R→O R:=evC Tryz.prog (UiB n) UbS n (24,[])
noncomputable def UgX:Code:=Jkz (Jlv Tryz.f28) [1,1,0,1,0,0]
abbrev UbH:Sl (List SV):=(cH (cI (cI .n)))
abbrev Ufe (n m:Nat) (K:Kc R):UbH.T (O R):=fun x1 x2 x3=>Udd n m x1 x2 x3 (fun y1=>xL UbS 4 K .ret [vB y1]) (xL UbS 4 K (.exit 0) [dD])
abbrev Ujd (n:Nat) (K:Kc R) (l0:UbH.T (O R)):UbH.T (O R):=fun x1 x2 x3=>UfO n l0 x1 x2 x3 (fun y1=>xL UbS 4 K .ret [vB y1]) (xL UbS 4 K (.exit 0) [dD])
abbrev UlT (n:Nat):Orc R:=oL UbS (E28 n) n 4 UgX UbH (Ufe n n) oN
abbrev UlB (n:Nat):Orc R:=oN
abbrev K28 (R:Type) (n:Nat):=Jd (R:=R) Tryz.prog (UiB n) UbS n (24,[]) (UlT n) (UlB n)
theorem UkJ (n:Nat):K28 R n (false,4,UgX):=Jk4 (lo:=UlT n) (cu:=UlB n) (pO pN (by kernel_rfl)) UbH (Ufe n n) (Jji (F:=Ufe n) UbH (Ujd n) (fun K _ _ _=>rfl) (fun _ _=>rfl) (fun L K _ _ _=>by show _=_; kernel_rfl) n) fun _ _=>rfl
theorem Upd (n:Nat):JfF (K28 R n) (JaS UbS (Jlv Tryz.f28)):=pO (pC (UkJ n) pN) (by kernel_rfl)
abbrev t28:Sl (List SV):=(cH .n)
abbrev f28 (n:Nat) (K:List SV→O R):t28.T (O R):=fun x1=>p28 n x1 (fun y1=>K [vB y1])
abbrev UnI (n:Nat):FS:=fT [false] t28 (f28 n)
theorem UoL (n:Nat):FSound Tryz.prog GI 28 (UnI n):=gd UbS n (UeN n) Tryz.func28 (.cons (UeN n) t28 (f28 n) (@fun R K _=>by show _=_; exact (JkP (lo:=UlT n) (cu:=UlB n) (c:=Jlv Tryz.f28) (by kernel_rfl) (Upd (R:=R) n) K).trans (by kernel_rfl)) .nil) (by kernel_rfl)
def UaO:Ann:={ loops:=[(7,ids [55,56,57],ids [2])],cuts:=[(3,ids [0],ids [2]),(6,ids [0],ids [2])],frz:=[],rm:=[.id] }
abbrev UiC (n:Nat):Env:=eC 55 (UlP n) (eC 53 (Ulh n) eN)
theorem UeO (n:Nat):EnvOK Tryz.prog GI (UiC n):=.cons (.cons (.nil) (UlY n)) (Uom n)
def UfP (n:Nat) (l0:LP→Int→Int→O R) (x1:LP) (x2 x3:Int) (k0:Bool→O R) (k1:O R):O R :=
 bif (decide (x3<x2)) then (bif (inR x3 ((x1).length)) then (Jiy ((x1).getD ((x3:Int).toNat) (.v (.bool false))) fun a4=>Jep a4 fun h5 t6=>Jkx h5 fun e7=>Jep t6 fun h8 t9=>JkQ h8 fun e10=>JjD t9 (p55 n e7 (fun y11=>bif (!y11) then (k0 false) else (bif (bif false then true else (((e10).length:Int) == 0)) then (k0 false) else (Ukl n e10 (fun y12=>bif (bif false then true else y12) then (k0 false) else (l0 x1 x2 (IntKind.i64.wrap (x3 + 1))))))))) else none) else (k1)
def Ude (n:Nat):Nat→LP→Int→Int→(Bool→O R)→(O R)→O R
 | 0,_,_,_,_,_=>none
 | m + 1,x1,x2,x3,k0,k1=>UfP n (fun x1 x2 x3=>Ude n m x1 x2 x3 k0 k1) x1 x2 x3 k0 k1
def Ukb (n:Nat) (x1:LP) (x2 x3:Int) (k0:Bool→O R) (k1:O R):O R:=Ude n n x1 x2 x3 k0 k1
def Uhs (n:Nat) (x1:LP) (k0:Bool→O R):O R :=
 Ukb n x1 ((x1).length:Int) 0 (fun y2=>k0 y2) (k0 true)
def Uhr (n:Nat) (x1:LP) (k0:Bool→O R):O R :=
 bif (inR 0 ((x1).length)) then (Jiy ((x1).getD ((0:Int).toNat) (.v (.bool false))) fun a2=>Jep a2 fun h3 t4=>Jkx h3 fun e5=>Jep t4 fun h6 t7=>JkQ h6 fun e8=>JjD t7 (bif (inR 0 ((e8).length)) then (Jiy ((e8).getD ((0:Int).toNat) (.v (.bool false))) fun a9=>Jep a9 fun h10 t11=>Jkx h10 fun e12=>Jep t11 fun h13 t14=>JkQ h13 fun e15=>JjD t14 (bif (inR 0 ((x1).length)) then (Jiy ((x1).getD ((0:Int).toNat) (.v (.bool false))) fun a16=>Jep a16 fun h17 t18=>Jkx h17 fun e19=>Jep t18 fun h20 t21=>JkQ h20 fun e22=>JjD t21 (bif (inR 1 ((e22).length)) then (Jiy ((e22).getD ((1:Int).toNat) (.v (.bool false))) fun a23=>Jep a23 fun h24 t25=>Jkx h24 fun e26=>Jep t25 fun h27 t28=>JkQ h27 fun e29=>JjD t28 (bif (!eqS e12 (⟨#[70,97,108,115,101]⟩:ByteArray)) then (k0 false) else (bif (bif false then true else (!eqS e26 (⟨#[84,114,117,101]⟩:ByteArray))) then (k0 false) else (let v30:=IntKind.i64.wrap (((e15).length:Int) + ((e29).length:Int)); bif (bif false then true else (decide (v30>0))) then (k0 false) else (Uhs n x1 (fun y31=>k0 y31)))))) else none)) else none)) else none)) else none
def p29 (n:Nat) (x1:LP) (k0:Bool→O R):O R :=
 bif (((x1).length:Int) == 0) then (k0 false) else (bif (inR 0 ((x1).length)) then (Jiy ((x1).getD ((0:Int).toNat) (.v (.bool false))) fun a2=>Jep a2 fun h3 t4=>Jkx h3 fun e5=>Jep t4 fun h6 t7=>JkQ h6 fun e8=>JjD t7 (bif (bif false then true else (!eqS e5 (⟨#[66,111,111,108]⟩:ByteArray))) then (k0 false) else (bif (inR 0 ((x1).length)) then (Jiy ((x1).getD ((0:Int).toNat) (.v (.bool false))) fun a9=>Jep a9 fun h10 t11=>Jkx h10 fun e12=>Jep t11 fun h13 t14=>JkQ h13 fun e15=>JjD t14 (bif (bif false then true else (((e15).length:Int) != 2)) then (k0 false) else (Uhr n x1 (fun y16=>k0 y16)))) else none))) else none)
abbrev E29 (n:Nat):Code→Fr→Kc R→O R:=evC Tryz.prog (UiC n) UaO n (77,[])
noncomputable def UgY:Code:=Jkz (Jlv Tryz.f29) [1,1]
abbrev Ugj:Sl (List SV):=(cH .n)
abbrev Uhi (n:Nat) (K:Kc R):Ugj.T (O R):=fun x1=>Uhr n x1 (fun y1=>xC UaO 3 K .ret [vB y1])
noncomputable def UgZ:Code:=Jkz (Jlv Tryz.f29) [1,1,1,1]
abbrev Ugk:Sl (List SV):=(cH .n)
abbrev Uhj (n:Nat) (K:Kc R):Ugk.T (O R):=fun x1=>Uhs n x1 (fun y1=>xC UaO 6 K .ret [vB y1])
noncomputable def Ug0:Code:=Jkz (Jlv Tryz.f29) [1,1,1,1,0,1,0,0]
abbrev UbI:Sl (List SV):=(cH (cI (cI .n)))
abbrev Uff (n m:Nat) (K:Kc R):UbI.T (O R):=fun x1 x2 x3=>Ude n m x1 x2 x3 (fun y1=>xL UaO 7 K .ret [vB y1]) (xL UaO 7 K (.exit 0) [dD])
abbrev Uje (n:Nat) (K:Kc R) (l0:UbI.T (O R)):UbI.T (O R):=fun x1 x2 x3=>UfP n l0 x1 x2 x3 (fun y1=>xL UaO 7 K .ret [vB y1]) (xL UaO 7 K (.exit 0) [dD])
abbrev UjZ (n:Nat):Orc R:=oL UaO (E29 n) n 7 Ug0 UbI (Uff n n) oN
abbrev Ujx (n:Nat):Orc R:=oC UaO (E29 n) 6 UgZ Ugk (Uhj n) (oC UaO (E29 n) 3 UgY Ugj (Uhi n) oN)
abbrev K29 (R:Type) (n:Nat):=Jd (R:=R) Tryz.prog (UiC n) UaO n (77,[]) (UjZ n) (Ujx n)
theorem UkM (n:Nat):K29 R n (false,7,Ug0):=Jk4 (lo:=UjZ n) (cu:=Ujx n) (pO pN (by kernel_rfl)) UbI (Uff n n) (Jji (F:=Uff n) UbI (Uje n) (fun K _ _ _=>rfl) (fun _ _=>rfl) (fun L K _ _ _=>by show _=_; kernel_rfl) n) fun _ _=>rfl
theorem UkL (n:Nat):K29 R n (true,6,UgZ):=Jlh (lo:=UjZ n) (cu:=Ujx n) (pO (pC (UkM n) pN) (by kernel_rfl)) Ugk (Uhj n) (fun K _=>by show _=_; kernel_rfl) fun _ _=>rfl
theorem UkK (n:Nat):K29 R n (true,3,UgY):=Jlh (lo:=UjZ n) (cu:=Ujx n) (pO (pC (UkL n) pN) (by kernel_rfl)) Ugj (Uhi n) (fun K _=>by show _=_; kernel_rfl) fun _ _=>rfl
theorem Upe (n:Nat):JfF (K29 R n) (JaS UaO (Jlv Tryz.f29)):=pO (pC (UkK n) pN) (by kernel_rfl)
abbrev t29:Sl (List SV):=(cH .n)
abbrev f29 (n:Nat) (K:List SV→O R):t29.T (O R):=fun x1=>p29 n x1 (fun y1=>K [vB y1])
abbrev UnJ (n:Nat):FS:=fT [false] t29 (f29 n)
theorem UoM (n:Nat):FSound Tryz.prog GI 29 (UnJ n):=gd UaO n (UeO n) Tryz.func29 (.cons (UeO n) t29 (f29 n) (@fun R K _=>by show _=_; exact (JkP (lo:=UjZ n) (cu:=Ujx n) (c:=Jlv Tryz.f29) (by kernel_rfl) (Upe (R:=R) n) K).trans (by kernel_rfl)) .nil) (by kernel_rfl)
def UaM:Ann:={ loops:=[(3,ids [3,4,12,13,14],ids [2]),(9,ids [3,4,12,13,14,26,27,28],ids [2,3,4,12,13,14])],cuts:=[],frz:=[5000003],rm:=[.id] }
abbrev UiD (n:Nat):Env:=eN
theorem UeP (n:Nat):EnvOK Tryz.prog GI (UiD n):=.nil
def UfR (n:Nat) (l0:LP→LP→LP→LP→LP→Int→Int→LP→Int→Int→O R) (x1 x2 x3 x4 x5:LP) (x6 x7:Int) (x8:LP) (x9 x10:Int) (k0:Bool→LP→LP→LP→LP→LP→Int→Int→O R) (k1:LP→LP→LP→LP→LP→Int→Int→O R):O R :=
 bif (decide (x10<x9)) then (bif (inR x10 ((x8).length)) then (Jiy ((x8).getD ((x10:Int).toNat) (.v (.bool false))) fun a11=>Jep a11 fun h12 t13=>Jkx h12 fun e14=>Jep t13 fun h15 t16=>JkQ h15 fun e17=>JjD t16 (Jkv (Jh4 (.v (.string e14):PV) (.v (.bool false):PV) x3 x4) fun e18=>bif e18 then (k0 true x1 x2 x3 x4 x5 x6 x7) else (l0 x1 x2 (Jc5 (.v (.string e14):PV) x3) (Jdi (.v (.string e14):PV) (.v (.bool true)) x3 x4) x5 x6 x7 x8 x9 (IntKind.i64.wrap (x10 + 1))))) else none) else (k1 x1 x2 x3 x4 x5 x6 x7)
def Udg (n:Nat):Nat→LP→LP→LP→LP→LP→Int→Int→LP→Int→Int→(Bool→LP→LP→LP→LP→LP→Int→Int→O R)→(LP→LP→LP→LP→LP→Int→Int→O R)→O R
 | 0,_,_,_,_,_,_,_,_,_,_,_,_=>none
 | m + 1,x1,x2,x3,x4,x5,x6,x7,x8,x9,x10,k0,k1=>UfR n (fun x1 x2 x3 x4 x5 x6 x7 x8 x9 x10=>Udg n m x1 x2 x3 x4 x5 x6 x7 x8 x9 x10 k0 k1) x1 x2 x3 x4 x5 x6 x7 x8 x9 x10 k0 k1
def Ukd (n:Nat) (x1 x2 x3 x4 x5:LP) (x6 x7:Int) (x8:LP) (x9 x10:Int) (k0:Bool→LP→LP→LP→LP→LP→Int→Int→O R) (k1:LP→LP→LP→LP→LP→Int→Int→O R):O R:=Udg n n x1 x2 x3 x4 x5 x6 x7 x8 x9 x10 k0 k1
def UfQ (n:Nat) (l0:LP→LP→LP→LP→LP→Int→Int→O R) (x1 x2 x3 x4 x5:LP) (x6 x7:Int) (k0:Bool→O R) (k1:O R):O R :=
 bif (decide (x7<x6)) then (bif (inR x7 ((x5).length)) then (Jiy ((x5).getD ((x7:Int).toNat) (.v (.bool false))) fun a8=>Jep a8 fun h9 t10=>Jkx h9 fun e11=>Jep t10 fun h12 t13=>JkQ h12 fun e14=>JjD t13 (Jkv (Jh4 (.v (.string e11):PV) (.v (.bool false):PV) x1 x2) fun e15=>bif e15 then (k0 true) else (Ukd n (Jc5 (.v (.string e11):PV) x1) (Jdi (.v (.string e11):PV) (.v (.bool true)) x1 x2) x3 x4 x5 x6 x7 e14 ((e14).length:Int) 0 (fun y16 y17 y18 y19 y20 y21 y22 y23=>k0 y16) (fun y24 y25 y26 y27 y28 y29 y30=>l0 y24 y25 y26 y27 y28 y29 (IntKind.i64.wrap (y30 + 1)))))) else none) else (k1)
def Udf (n:Nat):Nat→LP→LP→LP→LP→LP→Int→Int→(Bool→O R)→(O R)→O R
 | 0,_,_,_,_,_,_,_,_,_=>none
 | m + 1,x1,x2,x3,x4,x5,x6,x7,k0,k1=>UfQ n (fun x1 x2 x3 x4 x5 x6 x7=>Udf n m x1 x2 x3 x4 x5 x6 x7 k0 k1) x1 x2 x3 x4 x5 x6 x7 k0 k1
def Ukc (n:Nat) (x1 x2 x3 x4 x5:LP) (x6 x7:Int) (k0:Bool→O R) (k1:O R):O R:=Udf n n x1 x2 x3 x4 x5 x6 x7 k0 k1
def p30 (n:Nat) (x1:LP) (k0:Bool→O R):O R :=
 Ukc n (Jc5 (.v (.string ⟨#[73,110,116]⟩):PV) []) (Jdi (.v (.string ⟨#[73,110,116]⟩):PV) (.v (.bool true)) [] []) [] [] x1 ((x1).length:Int) 0 (fun y2=>k0 y2) (k0 false)
abbrev E30 (n:Nat):Code→Fr→Kc R→O R:=evC Tryz.prog (UiD n) UaM n (41,[])
noncomputable def Ug1:Code:=Jkz (Jlv Tryz.f30) [1,1,0,1,0,0]
abbrev UbJ:Sl (List SV):=(.c (sMp none) (.c (sMp none) (cH (cI (cI .n)))))
abbrev Ufg (n m:Nat) (K:Kc R):UbJ.T (O R):=fun x1 x2 x3 x4 x5 x6 x7=>Udf n m x1 x2 x3 x4 x5 x6 x7 (fun y1=>xL UaM 3 K .ret [vB y1]) (xL UaM 3 K (.exit 0) [dD])
abbrev Ujf (n:Nat) (K:Kc R) (l0:UbJ.T (O R)):UbJ.T (O R):=fun x1 x2 x3 x4 x5 x6 x7=>UfQ n l0 x1 x2 x3 x4 x5 x6 x7 (fun y1=>xL UaM 3 K .ret [vB y1]) (xL UaM 3 K (.exit 0) [dD])
noncomputable def Ug2:Code:=Jkz (Jlv Tryz.f30) [1,1,0,1,0,0,1,1,0,0,1,1,1,1,0,0]
abbrev UbK:Sl (List SV):=(.c (sMp none) (.c (sMp none) (cH (cI (cI (cH (cI (cI .n))))))))
abbrev Ufh (n m:Nat) (K:Kc R):UbK.T (O R):=fun x1 x2 x3 x4 x5 x6 x7 x8 x9 x10=>Udg n m x1 x2 x3 x4 x5 x6 x7 x8 x9 x10 (fun y1 y2 y3 y4 y5 y6 y7 y8=>xL UaM 9 K .ret [vB y1,.mp none y2 y3,.mp none y4 y5,vH y6,vI y7,vI y8]) (fun y1 y2 y3 y4 y5 y6 y7=>xL UaM 9 K (.exit 2) [dD,.mp none y1 y2,.mp none y3 y4,vH y5,vI y6,vI y7])
abbrev Ujg (n:Nat) (K:Kc R) (l0:UbK.T (O R)):UbK.T (O R):=fun x1 x2 x3 x4 x5 x6 x7 x8 x9 x10=>UfR n l0 x1 x2 x3 x4 x5 x6 x7 x8 x9 x10 (fun y1 y2 y3 y4 y5 y6 y7 y8=>xL UaM 9 K .ret [vB y1,.mp none y2 y3,.mp none y4 y5,vH y6,vI y7,vI y8]) (fun y1 y2 y3 y4 y5 y6 y7=>xL UaM 9 K (.exit 2) [dD,.mp none y1 y2,.mp none y3 y4,vH y5,vI y6,vI y7])
abbrev Ull (n:Nat):Orc R:=oL UaM (E30 n) n 9 Ug2 UbK (Ufh n n) (oL UaM (E30 n) n 3 Ug1 UbJ (Ufg n n) oN)
abbrev Ulc (n:Nat):Orc R:=oN
abbrev K30 (R:Type) (n:Nat):=Jd (R:=R) Tryz.prog (UiD n) UaM n (41,[]) (Ull n) (Ulc n)
theorem UkO (n:Nat):K30 R n (false,9,Ug2):=Jk4 (lo:=Ull n) (cu:=Ulc n) (pO pN (by kernel_rfl)) UbK (Ufh n n) (Jji (F:=Ufh n) UbK (Ujg n) (fun K _ _ _ _ _ _ _ _ _ _=>rfl) (fun _ _=>rfl) (fun L K _ _ _ _ _ _ _ _ _ _=>by show _=_; kernel_rfl) n) fun _ _=>rfl
theorem UkN (n:Nat):K30 R n (false,3,Ug1):=Jk4 (lo:=Ull n) (cu:=Ulc n) (pO (pC (UkO n) pN) (by kernel_rfl)) UbJ (Ufg n n) (Jji (F:=Ufg n) UbJ (Ujf n) (fun K _ _ _ _ _ _ _=>rfl) (fun _ _=>rfl) (fun L K _ _ _ _ _ _ _=>by show _=_; kernel_rfl) n) fun _ _=>rfl
theorem Upf (n:Nat):JfF (K30 R n) (JaS UaM (Jlv Tryz.f30)):=pO (pC (UkN n) pN) (by kernel_rfl)
abbrev t30:Sl (List SV):=(cH .n)
abbrev f30 (n:Nat) (K:List SV→O R):t30.T (O R):=fun x1=>p30 n x1 (fun y1=>K [vB y1])
abbrev UnK (n:Nat):FS:=fT [false] t30 (f30 n)
theorem UoN (n:Nat):FSound Tryz.prog GI 30 (UnK n):=gd UaM n (UeP n) Tryz.func30 (.cons (UeP n) t30 (f30 n) (@fun R K _=>by show _=_; exact (JkP (lo:=Ull n) (cu:=Ulc n) (c:=Jlv Tryz.f30) (by kernel_rfl) (Upf (R:=R) n) K).trans (by kernel_rfl)) .nil) (by kernel_rfl)
def UbU:Ann:={ loops:=[(2,ids [0,1,7,8],ids [4])],cuts:=[],frz:=[],rm:=[.id] }
abbrev UiJ (n:Nat):Env:=eN
theorem Ue4 (n:Nat):EnvOK Tryz.prog GI (UiJ n):=.nil
def Uf1 (n:Nat) (l0:LP→Bool→Int→Int→O R) (x1:LP) (x2:Bool) (x3 x4:Int) (k0:Int→O R) (k1:O R):O R :=
 bif (decide (x4<x3)) then (bif (inR x4 ((x1).length)) then (Jkv ((x1).getD ((x4:Int).toNat) (.v (.bool false))) fun e5=>bif (x2 == e5) then (k0 x4) else (l0 x1 x2 x3 (IntKind.i64.wrap (x4 + 1)))) else none) else (k1)
def Udp (n:Nat):Nat→LP→Bool→Int→Int→(Int→O R)→(O R)→O R
 | 0,_,_,_,_,_,_=>none
 | m + 1,x1,x2,x3,x4,k0,k1=>Uf1 n (fun x1 x2 x3 x4=>Udp n m x1 x2 x3 x4 k0 k1) x1 x2 x3 x4 k0 k1
def Ukv (n:Nat) (x1:LP) (x2:Bool) (x3 x4:Int) (k0:Int→O R) (k1:O R):O R:=Udp n n x1 x2 x3 x4 k0 k1
def p76 (n:Nat) (x1:LP) (x2:Bool) (k0:Int→O R):O R :=
 Ukv n x1 x2 ((x1).length:Int) 0 (fun y3=>k0 y3) (k0 (-1))
abbrev E76 (n:Nat):Code→Fr→Kc R→O R:=evC Tryz.prog (UiJ n) UbU n (19,[])
noncomputable def Ug9:Code:=Jkz (Jlv Tryz.f76) [1,0,1,0,0]
abbrev UbQ:Sl (List SV):=(cH (cB (cI (cI .n))))
abbrev Ufx (n m:Nat) (K:Kc R):UbQ.T (O R):=fun x1 x2 x3 x4=>Udp n m x1 x2 x3 x4 (fun y1=>xL UbU 2 K .ret [vI y1]) (xL UbU 2 K (.exit 0) [dD])
abbrev Ujm (n:Nat) (K:Kc R) (l0:UbQ.T (O R)):UbQ.T (O R):=fun x1 x2 x3 x4=>Uf1 n l0 x1 x2 x3 x4 (fun y1=>xL UbU 2 K .ret [vI y1]) (xL UbU 2 K (.exit 0) [dD])
abbrev UlW (n:Nat):Orc R:=oL UbU (E76 n) n 2 Ug9 UbQ (Ufx n n) oN
abbrev UlE (n:Nat):Orc R:=oN
abbrev K76 (R:Type) (n:Nat):=Jd (R:=R) Tryz.prog (UiJ n) UbU n (19,[]) (UlW n) (UlE n)
theorem Uk4 (n:Nat):K76 R n (false,2,Ug9):=Jk4 (lo:=UlW n) (cu:=UlE n) (pO pN (by kernel_rfl)) UbQ (Ufx n n) (Jji (F:=Ufx n) UbQ (Ujm n) (fun K _ _ _ _=>rfl) (fun _ _=>rfl) (fun L K _ _ _ _=>by show _=_; kernel_rfl) n) fun _ _=>rfl
theorem Upu (n:Nat):JfF (K76 R n) (JaS UbU (Jlv Tryz.f76)):=pO (pC (Uk4 n) pN) (by kernel_rfl)
abbrev t76:Sl (List SV):=(cH (cB .n))
abbrev f76 (n:Nat) (K:List SV→O R):t76.T (O R):=fun x1 x2=>p76 n x1 x2 (fun y1=>K [vI y1])
abbrev Un2 (n:Nat):FS:=fT [false,false] t76 (f76 n)
theorem Uo5 (n:Nat):FSound Tryz.prog GI 76 (Un2 n):=gd UbU n (Ue4 n) Tryz.func76 (.cons (Ue4 n) t76 (f76 n) (@fun R K _ _=>by show _=_; exact (JkP (lo:=UlW n) (cu:=UlE n) (c:=Jlv Tryz.f76) (by kernel_rfl) (Upu (R:=R) n) K).trans (by kernel_rfl)) .nil) (by kernel_rfl)
def UhT:Ann:={ loops:=[],cuts:=[],frz:=[],rm:=[.id] }
abbrev UjS (n:Nat):Env:=eC 76 (Un2 n) eN
theorem Ue2 (n:Nat):EnvOK Tryz.prog GI (UjS n):=.cons (.nil) (Uo5 n)
def p60 (n:Nat) (x1:LP) (x2:Bool) (k0:Bool→O R):O R :=
 p76 n x1 x2 (fun y3=>k0 (decide (y3≥0)))
abbrev Uof (n:Nat):Orc R:=oN
abbrev Um1 (n:Nat):Orc R:=oN
abbrev K60 (R:Type) (n:Nat):=Jd (R:=R) Tryz.prog (UjS n) UhT n (9,[]) (Uof n) (Um1 n)
theorem Ups (n:Nat):JfF (K60 R n) (JaS UhT (Jlv Tryz.f60)):=pO pN (by kernel_rfl)
abbrev t60:Sl (List SV):=(cH (cB .n))
abbrev f60 (n:Nat) (K:List SV→O R):t60.T (O R):=fun x1 x2=>p60 n x1 x2 (fun y1=>K [vB y1])
abbrev UnZ (n:Nat):FS:=fT [false,false] t60 (f60 n)
theorem Uo2 (n:Nat):FSound Tryz.prog GI 60 (UnZ n):=gd UhT n (Ue2 n) Tryz.func60 (.cons (Ue2 n) t60 (f60 n) (@fun R K _ _=>by show _=_; exact (JkP (lo:=Uof n) (cu:=Um1 n) (c:=Jlv Tryz.f60) (by kernel_rfl) (Ups (R:=R) n) K).trans (by kernel_rfl)) .nil) (by kernel_rfl)
def Ubr:Ann:={ loops:=[(4,ids [0,3,4],ids [2,3]),(7,ids [0,3,4,15,16],ids [0,2,3,4])],cuts:=[],frz:=[3000024],rm:=[.id] }
abbrev UiE (n:Nat):Env:=eC 60 (UnZ n) (eC 53 (Ulh n) eN)
theorem UeS (n:Nat):EnvOK Tryz.prog GI (UiE n):=.cons (.cons (.nil) (UlY n)) (Uo2 n)
def UfT (n:Nat) (l0:LP→LP→Bool→Int→Int→O R) (x1 x2:LP) (x3:Bool) (x4 x5:Int) (k0:LP→LP→Bool→O R):O R :=
 bif (decide (x5<x4)) then (bif (inR x5 ((x1).length)) then (Jiy ((x1).getD ((x5:Int).toNat) (.v (.bool false))) fun a6=>Jep a6 fun h7 t8=>Jkx h7 fun e9=>Jep t8 fun h10 t11=>JkQ h10 fun e12=>JjD t11 (Ukm n e12 x2 (fun y13=>bif y13 then (bif (inR (IntKind.i64.wrap (x5 + 1)) ((x2).length)) then (Jkv ((x2).getD ((IntKind.i64.wrap (x5 + 1):Int).toNat) (.v (.bool false))) fun e14=>bif (bif true then (!e14) else false) then (bif (inR (IntKind.i64.wrap (x5 + 1)) ((x2).length)) then (Jkv ((x2).getD ((IntKind.i64.wrap (x5 + 1):Int).toNat) (.v (.bool false))) fun e15=>l0 x1 ((x2).set ((IntKind.i64.wrap (x5 + 1):Int).toNat) (.v (.bool true))) true x4 (IntKind.i64.wrap (x5 + 1))) else none) else (l0 x1 x2 x3 x4 (IntKind.i64.wrap (x5 + 1)))) else none) else (l0 x1 x2 x3 x4 (IntKind.i64.wrap (x5 + 1)))))) else none) else (k0 x1 x2 x3)
def Udi (n:Nat):Nat→LP→LP→Bool→Int→Int→(LP→LP→Bool→O R)→O R
 | 0,_,_,_,_,_,_=>none
 | m + 1,x1,x2,x3,x4,x5,k0=>UfT n (fun x1 x2 x3 x4 x5=>Udi n m x1 x2 x3 x4 x5 k0) x1 x2 x3 x4 x5 k0
def Ukg (n:Nat) (x1 x2:LP) (x3:Bool) (x4 x5:Int) (k0:LP→LP→Bool→O R):O R:=Udi n n x1 x2 x3 x4 x5 k0
def UfS (n:Nat) (l0:LP→LP→Bool→O R) (x1 x2:LP) (x3:Bool) (k0:LP→O R):O R :=
 bif x3 then (Ukg n x1 x2 false ((x1).length:Int) 0 (fun y4 y5 y6=>l0 y4 y5 y6)) else (k0 x2)
def Udh (n:Nat):Nat→LP→LP→Bool→(LP→O R)→O R
 | 0,_,_,_,_=>none
 | m + 1,x1,x2,x3,k0=>UfS n (fun x1 x2 x3=>Udh n m x1 x2 x3 k0) x1 x2 x3 k0
def Ukf (n:Nat) (x1 x2:LP) (x3:Bool) (k0:LP→O R):O R:=Udh n n x1 x2 x3 k0
def p34 (n:Nat) (x1:LP) (k0:Bool→O R):O R :=
 let v2:=IntKind.i64.wrap (((x1).length:Int) + 1); bif (decide ((0:Int)≤v2)&&decide ((v2:Int)≤v2)&&Ja7 (v2:Int).toNat 1) then (bif (inR 0 ((List.replicate (v2:Int).toNat (.v (.bool false):PV)).length)) then (Jkv ((List.replicate (v2:Int).toNat (.v (.bool false):PV)).getD ((0:Int).toNat) (.v (.bool false))) fun e3=>Ukf n x1 ((List.replicate (v2:Int).toNat (.v (.bool false):PV)).set ((0:Int).toNat) (.v (.bool true))) true (fun y4=>p60 n y4 false (fun y5=>k0 (!y5)))) else none) else none
abbrev E34 (n:Nat):Code→Fr→Kc R→O R:=evC Tryz.prog (UiE n) Ubr n (43,[])
noncomputable def Ug3:Code:=Jkz (Jlv Tryz.f34) [1,1,1,0,1,0,0]
abbrev UbL:Sl (List SV):=(cH (.c (sBx 115 (cO 4 .n)) (cB .n)))
abbrev Ufi (n m:Nat) (K:Kc R):UbL.T (O R):=fun x1 x2 x3=>Udh n m x1 x2 x3 (fun y1=>xL Ubr 4 K (.exit 0) [dD,.bx 115 [.own 4 y1]])
abbrev Ujh (n:Nat) (K:Kc R) (l0:UbL.T (O R)):UbL.T (O R):=fun x1 x2 x3=>UfS n l0 x1 x2 x3 (fun y1=>xL Ubr 4 K (.exit 0) [dD,.bx 115 [.own 4 y1]])
noncomputable def Ug4:Code:=Jkz (Jlv Tryz.f34) [1,1,1,0,1,0,0,1,0,1,1,0,0]
abbrev UbM:Sl (List SV):=(cH (.c (sBx 115 (cO 4 .n)) (cB (cI (cI .n)))))
abbrev Ufj (n m:Nat) (K:Kc R):UbM.T (O R):=fun x1 x2 x3 x4 x5=>Udi n m x1 x2 x3 x4 x5 (fun y1 y2 y3=>xL Ubr 7 K (.exit 2) [vH y1,dD,.bx 115 [.own 4 y2],vB y3])
abbrev Uji (n:Nat) (K:Kc R) (l0:UbM.T (O R)):UbM.T (O R):=fun x1 x2 x3 x4 x5=>UfT n l0 x1 x2 x3 x4 x5 (fun y1 y2 y3=>xL Ubr 7 K (.exit 2) [vH y1,dD,.bx 115 [.own 4 y2],vB y3])
abbrev Ulm (n:Nat):Orc R:=oL Ubr (E34 n) n 7 Ug4 UbM (Ufj n n) (oL Ubr (E34 n) n 4 Ug3 UbL (Ufi n n) oN)
abbrev Uld (n:Nat):Orc R:=oN
abbrev K34 (R:Type) (n:Nat):=Jd (R:=R) Tryz.prog (UiE n) Ubr n (43,[]) (Ulm n) (Uld n)
theorem UkQ (n:Nat):K34 R n (false,7,Ug4):=Jk4 (lo:=Ulm n) (cu:=Uld n) (pO pN (by kernel_rfl)) UbM (Ufj n n) (Jji (F:=Ufj n) UbM (Uji n) (fun K _ _ _ _ _=>rfl) (fun _ _=>rfl) (fun L K _ _ _ _ _=>by show _=_; kernel_rfl) n) fun _ _=>rfl
theorem UkP (n:Nat):K34 R n (false,4,Ug3):=Jk4 (lo:=Ulm n) (cu:=Uld n) (pO (pC (UkQ n) pN) (by kernel_rfl)) UbL (Ufi n n) (Jji (F:=Ufi n) UbL (Ujh n) (fun K _ _ _=>rfl) (fun _ _=>rfl) (fun L K _ _ _=>by show _=_; kernel_rfl) n) fun _ _=>rfl
theorem Upi (n:Nat):JfF (K34 R n) (JaS Ubr (Jlv Tryz.f34)):=pO (pC (UkP n) pN) (by kernel_rfl)
abbrev t34:Sl (List SV):=(cH .n)
abbrev f34 (n:Nat) (K:List SV→O R):t34.T (O R):=fun x1=>p34 n x1 (fun y1=>K [vB y1])
abbrev UnN (n:Nat):FS:=fT [false] t34 (f34 n)
theorem UoQ (n:Nat):FSound Tryz.prog GI 34 (UnN n):=gd Ubr n (UeS n) Tryz.func34 (.cons (UeS n) t34 (f34 n) (@fun R K _=>by show _=_; exact (JkP (lo:=Ulm n) (cu:=Uld n) (c:=Jlv Tryz.f34) (by kernel_rfl) (Upi (R:=R) n) K).trans (by kernel_rfl)) .nil) (by kernel_rfl)
def Uaa:Ann:={ loops:=[(8,ids [1,14,15,16],ids [1,2]),(11,ids [1,14,15,16,21,22,23],ids [1,2,14,15,16])],cuts:=[],frz:=[],rm:=[.id] }
abbrev UcS (n:Nat):Env:=eC 34 (UnN n) (eC 31 (UlN n) (eC 30 (UnK n) (eC 29 (UnJ n) (eC 28 (UnI n) eN))))
theorem UeK (n:Nat):EnvOK Tryz.prog GI (UcS n):=.cons (.cons (.cons (.cons (.cons (.nil) (UoL n)) (UoM n)) (UoN n)) (Uok n)) (UoQ n)
def Ubz (n:Nat) (l0:LP→LP→Int→Int→LP→Int→Int→O R) (x1 x2:LP) (x3 x4:Int) (x5:LP) (x6 x7:Int) (k0:LP→Int→LP→Int→Int→O R) (k1:LP→LP→Int→Int→O R):O R :=
 bif (decide (x7<x6)) then (bif (inR x7 ((x5).length)) then (Jiy ((x5).getD ((x7:Int).toNat) (.v (.bool false))) fun a8=>Jep a8 fun h9 t10=>Jkx h9 fun e11=>Jep t10 fun h12 t13=>JkQ h12 fun e14=>JjD t13 (p31 n e14 x1 (fun y15=>bif y15 then (k0 x1 10 x2 x3 x4) else (l0 x1 x2 x3 x4 x5 x6 (IntKind.i64.wrap (x7 + 1)))))) else none) else (k1 x1 x2 x3 x4)
def Uau (n:Nat):Nat→LP→LP→Int→Int→LP→Int→Int→(LP→Int→LP→Int→Int→O R)→(LP→LP→Int→Int→O R)→O R
 | 0,_,_,_,_,_,_,_,_,_=>none
 | m + 1,x1,x2,x3,x4,x5,x6,x7,k0,k1=>Ubz n (fun x1 x2 x3 x4 x5 x6 x7=>Uau n m x1 x2 x3 x4 x5 x6 x7 k0 k1) x1 x2 x3 x4 x5 x6 x7 k0 k1
def UfF (n:Nat) (x1 x2:LP) (x3 x4:Int) (x5:LP) (x6 x7:Int) (k0:LP→Int→LP→Int→Int→O R) (k1:LP→LP→Int→Int→O R):O R:=Uau n n x1 x2 x3 x4 x5 x6 x7 k0 k1
def UdQ (n:Nat) (l0:LP→LP→Int→Int→LP→Int→Int→O R) (l1:LP→LP→Int→Int→LP→Int→Int→O R) (x1 x2:LP) (x3 x4:Int) (x5:LP) (x6 x7:Int) (k0:LP→Int→LP→Int→Int→O R) (k1:LP→LP→Int→Int→O R) (k2:LP→LP→Int→Int→O R):O R :=
 bif (decide (x7<x6)) then (bif (inR x7 ((x5).length)) then (Jiy ((x5).getD ((x7:Int).toNat) (.v (.bool false))) fun a8=>Jep a8 fun h9 t10=>Jkx h9 fun e11=>Jep t10 fun h12 t13=>JkQ h12 fun e14=>JjD t13 (p31 n e14 x1 (fun y15=>bif y15 then (k0 x1 10 x2 x3 x4) else (l1 x1 x2 x3 x4 x5 x6 (IntKind.i64.wrap (x7 + 1)))))) else none) else (k2 x1 x2 x3 x4)
def Ucg (n:Nat):Nat→LP→LP→Int→Int→LP→Int→Int→(LP→Int→LP→Int→Int→O R)→(LP→LP→Int→Int→O R)→(LP→LP→Int→Int→O R)→O R
 | 0,_,_,_,_,_,_,_,_,_,_=>none
 | m + 1,x1,x2,x3,x4,x5,x6,x7,k0,k1,k2=>UdQ n (fun x1 x2 x3 x4 x5 x6 x7=>Ucg n m x1 x2 x3 x4 x5 x6 x7 k0 k1 k2) (fun x1 x2 x3 x4 x5 x6 x7=>Uau n m x1 x2 x3 x4 x5 x6 x7 k0 k1) x1 x2 x3 x4 x5 x6 x7 k0 k1 k2
def UiS (n:Nat) (x1 x2:LP) (x3 x4:Int) (x5:LP) (x6 x7:Int) (k0:LP→Int→LP→Int→Int→O R) (k1:LP→LP→Int→Int→O R) (k2:LP→LP→Int→Int→O R):O R:=Ucg n n x1 x2 x3 x4 x5 x6 x7 k0 k1 k2
def UcG (n:Nat) (l0:LP→LP→Int→Int→O R) (x1 x2:LP) (x3 x4:Int) (k0:LP→Int→O R) (k1:LP→O R):O R :=
 bif (decide (x4<x3)) then (bif (inR x4 ((x2).length)) then (Jiy ((x2).getD ((x4:Int).toNat) (.v (.bool false))) fun a5=>Jep a5 fun h6 t7=>Jkx h6 fun e8=>Jep t7 fun h9 t10=>JkQ h9 fun e11=>JjD t10 (UfF n x1 x2 x3 x4 e11 ((e11).length:Int) 0 (fun y12 y13 y14 y15 y16=>k0 y12 y13) (fun y17 y18 y19 y20=>l0 y17 y18 y19 (IntKind.i64.wrap (y20 + 1))))) else none) else (k1 x1)
def Ubd (n:Nat):Nat→LP→LP→Int→Int→(LP→Int→O R)→(LP→O R)→O R
 | 0,_,_,_,_,_,_=>none
 | m + 1,x1,x2,x3,x4,k0,k1=>UcG n (fun x1 x2 x3 x4=>Ubd n m x1 x2 x3 x4 k0 k1) x1 x2 x3 x4 k0 k1
def UfG (n:Nat) (l0:LP→LP→Int→Int→O R) (l1:LP→LP→Int→Int→O R) (x1 x2:LP) (x3 x4:Int) (k0:LP→Int→O R) (k1:LP→O R) (k2:LP→O R):O R :=
 bif (decide (x4<x3)) then (bif (inR x4 ((x2).length)) then (Jiy ((x2).getD ((x4:Int).toNat) (.v (.bool false))) fun a5=>Jep a5 fun h6 t7=>Jkx h6 fun e8=>Jep t7 fun h9 t10=>JkQ h9 fun e11=>JjD t10 (UiS n x1 x2 x3 x4 e11 ((e11).length:Int) 0 (fun y12 y13 y14 y15 y16=>k0 y12 y13) (fun y17 y18 y19 y20=>l1 y17 y18 y19 (IntKind.i64.wrap (y20 + 1))) (fun y21 y22 y23 y24=>l0 y21 y22 y23 (IntKind.i64.wrap (y24 + 1))))) else none) else (k2 x1)
def Uc8 (n:Nat):Nat→LP→LP→Int→Int→(LP→Int→O R)→(LP→O R)→(LP→O R)→O R
 | 0,_,_,_,_,_,_,_=>none
 | m + 1,x1,x2,x3,x4,k0,k1,k2=>UfG n (fun x1 x2 x3 x4=>Uc8 n m x1 x2 x3 x4 k0 k1 k2) (fun x1 x2 x3 x4=>Ubd n m x1 x2 x3 x4 k0 k1) x1 x2 x3 x4 k0 k1 k2
def Uj3 (n:Nat) (x1 x2:LP) (x3 x4:Int) (k0:LP→Int→O R) (k1:LP→O R) (k2:LP→O R):O R:=Uc8 n n x1 x2 x3 x4 k0 k1 k2
def p16 (n:Nat) (x1:LP) (k0:Int→O R):O R :=
 p28 n x1 (fun y2=>bif y2 then (k0 6) else (p29 n x1 (fun y3=>bif (!y3) then (k0 3) else (p30 n x1 (fun y4=>bif y4 then (k0 8) else (Uj3 n x1 x1 ((x1).length:Int) 0 (fun y5 y6=>k0 y6) (fun y7=>p34 n y7 (fun y8=>bif (!y8) then (k0 7) else (k0 0))) (fun y9=>p34 n y9 (fun y10=>bif (!y10) then (k0 7) else (k0 0)))))))))
abbrev E16 (n:Nat):Code→Fr→Kc R→O R:=evC Tryz.prog (UcS n) Uaa n (36,[])
noncomputable def Ucy:Code:=Jkz (Jlv Tryz.f16) [1,1,1,1,0,1,0,0]
abbrev Uan:Sl (List SV):=(.c (sP (sFb (.c sSh .n))) (cH (cI (cI .n))))
abbrev Uaz:Sl (List SV):=(.c (sBx 37 (cH .n)) (cH (cI (cI .n))))
abbrev Ub (n m:Nat) (K:Kc R):Uan.T (O R):=fun x1 x2 x3 x4=>Ubd n m x1 x2 x3 x4 (fun y1 y2=>xL Uaa 8 K .ret [.p (.fb [.sh y1]),vI y2]) (fun y1=>xL Uaa 8 K (.exit 0) [.p (.fb [.sh y1]),dD])
abbrev UhY (n:Nat) (K:Kc R) (l0:Uan.T (O R)):Uan.T (O R):=fun x1 x2 x3 x4=>UcG n l0 x1 x2 x3 x4 (fun y1 y2=>xL Uaa 8 K .ret [.p (.fb [.sh y1]),vI y2]) (fun y1=>xL Uaa 8 K (.exit 0) [.p (.fb [.sh y1]),dD])
abbrev Ub0 (n m:Nat) (K:Kc R):Uaz.T (O R):=fun x1 x2 x3 x4=>Uc8 n m x1 x2 x3 x4 (fun y1 y2=>xL Uaa 8 K .ret [.p (.fb [.sh y1]),vI y2]) (fun y1=>xL Uaa 8 K (.exit 0) [.p (.fb [.sh y1]),dD]) (fun y1=>xL Uaa 8 K (.exit 0) [.bx 37 [vH y1],dD])
abbrev UhZ (n:Nat) (K:Kc R) (l0:Uaz.T (O R)) (l1:Uan.T (O R)):Uaz.T (O R):=fun x1 x2 x3 x4=>UfG n l0 l1 x1 x2 x3 x4 (fun y1 y2=>xL Uaa 8 K .ret [.p (.fb [.sh y1]),vI y2]) (fun y1=>xL Uaa 8 K (.exit 0) [.p (.fb [.sh y1]),dD]) (fun y1=>xL Uaa 8 K (.exit 0) [.bx 37 [vH y1],dD])
noncomputable def Ua5:Code:=Jkz (Jlv Tryz.f16) [1,1,1,1,0,1,0,0,1,1,0,0,1,1,0,0]
abbrev Uae:Sl (List SV):=(.c (sP (sFb (.c sSh .n))) (cH (cI (cI (cH (cI (cI .n)))))))
abbrev Uam:Sl (List SV):=(.c (sBx 37 (cH .n)) (cH (cI (cI (cH (cI (cI .n)))))))
abbrev UaN (n m:Nat) (K:Kc R):Uae.T (O R):=fun x1 x2 x3 x4 x5 x6 x7=>Uau n m x1 x2 x3 x4 x5 x6 x7 (fun y1 y2 y3 y4 y5=>xL Uaa 11 K .ret [.p (.fb [.sh y1]),vI y2,vH y3,vI y4,vI y5]) (fun y1 y2 y3 y4=>xL Uaa 11 K (.exit 2) [.p (.fb [.sh y1]),dD,vH y2,vI y3,vI y4])
abbrev Ugw (n:Nat) (K:Kc R) (l0:Uae.T (O R)):Uae.T (O R):=fun x1 x2 x3 x4 x5 x6 x7=>Ubz n l0 x1 x2 x3 x4 x5 x6 x7 (fun y1 y2 y3 y4 y5=>xL Uaa 11 K .ret [.p (.fb [.sh y1]),vI y2,vH y3,vI y4,vI y5]) (fun y1 y2 y3 y4=>xL Uaa 11 K (.exit 2) [.p (.fb [.sh y1]),dD,vH y2,vI y3,vI y4])
abbrev UaX (n m:Nat) (K:Kc R):Uam.T (O R):=fun x1 x2 x3 x4 x5 x6 x7=>Ucg n m x1 x2 x3 x4 x5 x6 x7 (fun y1 y2 y3 y4 y5=>xL Uaa 11 K .ret [.p (.fb [.sh y1]),vI y2,vH y3,vI y4,vI y5]) (fun y1 y2 y3 y4=>xL Uaa 11 K (.exit 2) [.p (.fb [.sh y1]),dD,vH y2,vI y3,vI y4]) (fun y1 y2 y3 y4=>xL Uaa 11 K (.exit 2) [.bx 37 [vH y1],dD,vH y2,vI y3,vI y4])
abbrev Ugx (n:Nat) (K:Kc R) (l0:Uam.T (O R)) (l1:Uae.T (O R)):Uam.T (O R):=fun x1 x2 x3 x4 x5 x6 x7=>UdQ n l0 l1 x1 x2 x3 x4 x5 x6 x7 (fun y1 y2 y3 y4 y5=>xL Uaa 11 K .ret [.p (.fb [.sh y1]),vI y2,vH y3,vI y4,vI y5]) (fun y1 y2 y3 y4=>xL Uaa 11 K (.exit 2) [.p (.fb [.sh y1]),dD,vH y2,vI y3,vI y4]) (fun y1 y2 y3 y4=>xL Uaa 11 K (.exit 2) [.bx 37 [vH y1],dD,vH y2,vI y3,vI y4])
abbrev Ugq (n:Nat):Orc R:=fun i vs K=>JgZ (Nat.beq i 11) (JjK (Uae.ap vs (UaN n n K)) (JjK (Uam.ap vs (UaX n n K)) (Jc2 Uaa 11 (E16 n Ua5) n vs K))) ((fun i vs K=>JgZ (Nat.beq i 8) (JjK (Uan.ap vs (Ub n n K)) (JjK (Uaz.ap vs (Ub0 n n K)) (Jc2 Uaa 8 (E16 n Ucy) n vs K))) (oN i vs K)) i vs K)
abbrev Ugo (n:Nat):Orc R:=oN
abbrev K16 (R:Type) (n:Nat):=Jd (R:=R) Tryz.prog (UcS n) Uaa n (36,[]) (Ugq n) (Ugo n)
theorem Ud6 (n:Nat):JfF (K16 R n) (JaS Uaa Ua5):=pO pN (by kernel_rfl)
theorem UdI (n:Nat):∀ m (K:Kc R),Uae.all (fun vs r=>Jc2 Uaa 11 (Jdo Tryz.prog (UcS n) Uaa (36,[]) (Ugq n) (Ugo n) Ua5) m vs K=r) (UaN n m K):=Jji (F:=UaN n) Uae (Ugw n) (fun K _ _ _ _ _ _ _=>rfl) (fun _ _=>rfl) (fun L K _ _ _ _ _ _ _=>by show _=_; kernel_rfl)
theorem UgE (n:Nat):∀ m (K:Kc R),Uam.all (fun vs r=>Jc2 Uaa 11 (Jdo Tryz.prog (UcS n) Uaa (36,[]) (Ugq n) (Ugo n) Ua5) m vs K=r) (UaX n m K):=Jh2 (F1:=UaN n) (F:=UaX n) Uam Uae (Ugx n) (fun K _ _ _ _ _ _ _=>rfl) (fun _ _=>rfl) (UdI n) (fun L K _ _ _ _ _ _ _=>by show _=_; kernel_rfl)
theorem UiY (n:Nat):K16 R n (false,11,Ua5):=Jk4 (lo:=Ugq n) (cu:=Ugo n) (Ud6 n) Uae (UaN n n) (UdI n n) (Jk4 (lo:=Ugq n) (cu:=Ugo n) (Ud6 n) Uam (UaX n n) (UgE n n) fun _ _=>rfl)
theorem Uf5 (n:Nat):JfF (K16 R n) (JaS Uaa Ucy):=pO (pC (UiY n) pN) (by kernel_rfl)
theorem Uez (n:Nat):∀ m (K:Kc R),Uan.all (fun vs r=>Jc2 Uaa 8 (Jdo Tryz.prog (UcS n) Uaa (36,[]) (Ugq n) (Ugo n) Ucy) m vs K=r) (Ub n m K):=Jji (F:=Ub n) Uan (UhY n) (fun K _ _ _ _=>rfl) (fun _ _=>rfl) (fun L K _ _ _ _=>by show _=_; kernel_rfl)
theorem Uij (n:Nat):∀ m (K:Kc R),Uaz.all (fun vs r=>Jc2 Uaa 8 (Jdo Tryz.prog (UcS n) Uaa (36,[]) (Ugq n) (Ugo n) Ucy) m vs K=r) (Ub0 n m K):=Jh2 (F1:=Ub n) (F:=Ub0 n) Uaz Uan (UhZ n) (fun K _ _ _ _=>rfl) (fun _ _=>rfl) (Uez n) (fun L K _ _ _ _=>by show _=_; kernel_rfl)
theorem UkB (n:Nat):K16 R n (false,8,Ucy):=Jk4 (lo:=Ugq n) (cu:=Ugo n) (Uf5 n) Uan (Ub n n) (Uez n n) (Jk4 (lo:=Ugq n) (cu:=Ugo n) (Uf5 n) Uaz (Ub0 n n) (Uij n n) fun _ _=>rfl)
theorem Upa (n:Nat):JfF (K16 R n) (JaS Uaa (Jlv Tryz.f16)):=pO (pC (UkB n) pN) (by kernel_rfl)
abbrev t16:Sl (List SV):=(cH .n)
abbrev f16 (n:Nat) (K:List SV→O R):t16.T (O R):=fun x1=>p16 n x1 (fun y1=>K [vI y1])
abbrev UnC (n:Nat):FS:=fT [false] t16 (f16 n)
theorem UoF (n:Nat):FSound Tryz.prog GI 16 (UnC n):=gd Uaa n (UeK n) Tryz.func16 (.cons (UeK n) t16 (f16 n) (@fun R K _=>by show _=_; exact (JkP (lo:=Ugq n) (cu:=Ugo n) (c:=Jlv Tryz.f16) (by kernel_rfl) (Upa (R:=R) n) K).trans (by kernel_rfl)) .nil) (by kernel_rfl)
def UhM:Ann:={ loops:=[],cuts:=[],frz:=[],rm:=[.id] }
abbrev UjL (n:Nat):Env:=eN
theorem UeV (n:Nat):EnvOK Tryz.prog GI (UjL n):=.nil
def p37 (n:Nat) (x1:LP) (x2:ByteArray) (x3:LP) (k0:Bool→O R):O R :=
 bif (decide (((x3).length:Int)>4096)) then (k0 true) else (k0 (bif false then true else (decide (((x1).length:Int)>16))))
abbrev Uo (n:Nat):Orc R:=oN
abbrev UmV (n:Nat):Orc R:=oN
abbrev K37 (R:Type) (n:Nat):=Jd (R:=R) Tryz.prog (UjL n) UhM n (13,[]) (Uo n) (UmV n)
theorem Upl (n:Nat):JfF (K37 R n) (JaS UhM (Jlv Tryz.f37)):=pO pN (by kernel_rfl)
abbrev t37:Sl (List SV):=(.c (sP (JlB (.c sSh (.c Jly (.c sSh .n))))) .n)
abbrev f37 (n:Nat) (K:List SV→O R):t37.T (O R):=fun x1 x2 x3=>p37 n x1 x2 x3 (fun y1=>K [vB y1])
abbrev UnQ (n:Nat):FS:=fT [false] t37 (f37 n)
theorem UoT (n:Nat):FSound Tryz.prog GI 37 (UnQ n):=gd UhM n (UeV n) Tryz.func37 (.cons (UeV n) t37 (f37 n) (@fun R K _ _ _=>by show _=_; exact (JkP (lo:=Uo n) (cu:=UmV n) (c:=Jlv Tryz.f37) (by kernel_rfl) (Upl (R:=R) n) K).trans (by kernel_rfl)) .nil) (by kernel_rfl)
def UbT:Ann:={ loops:=[(2,ids [0,1,7,8],ids [4])],cuts:=[],frz:=[],rm:=[.id] }
abbrev UiI (n:Nat):Env:=eC 37 (UnQ n) eN
theorem Ue3 (n:Nat):EnvOK Tryz.prog GI (UiI n):=.cons (.nil) (UoT n)
def UfY (n:Nat) (l0:LP→Int→Int→O R) (x1:LP) (x2 x3:Int) (k0:Int→O R) (k1:O R):O R :=
 bif (decide (x3<x2)) then (bif (inR x3 ((x1).length)) then (Jiy ((x1).getD ((x3:Int).toNat) (.v (.bool false))) fun a4=>Jep a4 fun h5 t6=>JkQ h5 fun e7=>Jep t6 fun h8 t9=>Jkx h8 fun e10=>Jep t9 fun h11 t12=>JkQ h11 fun e13=>JjD t12 (p37 n e7 e10 e13 (fun y14=>bif y14 then (k0 x3) else (l0 x1 x2 (IntKind.i64.wrap (x3 + 1)))))) else none) else (k1)
def Udm (n:Nat):Nat→LP→Int→Int→(Int→O R)→(O R)→O R
 | 0,_,_,_,_,_=>none
 | m + 1,x1,x2,x3,k0,k1=>UfY n (fun x1 x2 x3=>Udm n m x1 x2 x3 k0 k1) x1 x2 x3 k0 k1
def Ukq (n:Nat) (x1:LP) (x2 x3:Int) (k0:Int→O R) (k1:O R):O R:=Udm n n x1 x2 x3 k0 k1
def p61 (n:Nat) (x1:LP) (k0:Int→O R):O R :=
 Ukq n x1 ((x1).length:Int) 0 (fun y2=>k0 y2) (k0 (-1))
abbrev E61 (n:Nat):Code→Fr→Kc R→O R:=evC Tryz.prog (UiI n) UbT n (19,[])
noncomputable def Ug8:Code:=Jkz (Jlv Tryz.f61) [1,0,1,0,0]
abbrev UbP:Sl (List SV):=(cH (.c (sP (sFn 37)) (cI (cI .n))))
abbrev Ufs (n m:Nat) (K:Kc R):UbP.T (O R):=fun x1 x2 x3=>Udm n m x1 x2 x3 (fun y1=>xL UbT 2 K .ret [vI y1]) (xL UbT 2 K (.exit 0) [dD])
abbrev Ujl (n:Nat) (K:Kc R) (l0:UbP.T (O R)):UbP.T (O R):=fun x1 x2 x3=>UfY n l0 x1 x2 x3 (fun y1=>xL UbT 2 K .ret [vI y1]) (xL UbT 2 K (.exit 0) [dD])
abbrev UlV (n:Nat):Orc R:=oL UbT (E61 n) n 2 Ug8 UbP (Ufs n n) oN
abbrev UlD (n:Nat):Orc R:=oN
abbrev K61 (R:Type) (n:Nat):=Jd (R:=R) Tryz.prog (UiI n) UbT n (19,[]) (UlV n) (UlD n)
theorem UkZ (n:Nat):K61 R n (false,2,Ug8):=Jk4 (lo:=UlV n) (cu:=UlD n) (pO pN (by kernel_rfl)) UbP (Ufs n n) (Jji (F:=Ufs n) UbP (Ujl n) (fun K _ _ _=>rfl) (fun _ _=>rfl) (fun L K _ _ _=>by show _=_; kernel_rfl) n) fun _ _=>rfl
theorem Upt (n:Nat):JfF (K61 R n) (JaS UbT (Jlv Tryz.f61)):=pO (pC (UkZ n) pN) (by kernel_rfl)
abbrev t61:Sl (List SV):=(cH (.c (sP (sFn 37)) .n))
abbrev f61 (n:Nat) (K:List SV→O R):t61.T (O R):=fun x1=>p61 n x1 (fun y1=>K [vI y1])
abbrev Un0 (n:Nat):FS:=fT [false,false] t61 (f61 n)
theorem Uo3 (n:Nat):FSound Tryz.prog GI 61 (Un0 n):=gd UbT n (Ue3 n) Tryz.func61 (.cons (Ue3 n) t61 (f61 n) (@fun R K _=>by show _=_; exact (JkP (lo:=UlV n) (cu:=UlD n) (c:=Jlv Tryz.f61) (by kernel_rfl) (Upt (R:=R) n) K).trans (by kernel_rfl)) .nil) (by kernel_rfl)
def UhL:Ann:={ loops:=[],cuts:=[],frz:=[],rm:=[.id] }
abbrev UjK (n:Nat):Env:=eC 61 (Un0 n) eN
theorem UeU (n:Nat):EnvOK Tryz.prog GI (UjK n):=.cons (.nil) (Uo3 n)
def p36 (n:Nat) (x1:LP) (k0:Bool→O R):O R :=
 p61 n x1 (fun y2=>k0 (decide (y2≥0)))
abbrev Un9 (n:Nat):Orc R:=oN
abbrev UmU (n:Nat):Orc R:=oN
abbrev K36 (R:Type) (n:Nat):=Jd (R:=R) Tryz.prog (UjK n) UhL n (9,[]) (Un9 n) (UmU n)
theorem Upk (n:Nat):JfF (K36 R n) (JaS UhL (Jlv Tryz.f36)):=pO pN (by kernel_rfl)
abbrev t36:Sl (List SV):=(cH (.c (sP (sFn 37)) .n))
abbrev f36 (n:Nat) (K:List SV→O R):t36.T (O R):=fun x1=>p36 n x1 (fun y1=>K [vB y1])
abbrev UnP (n:Nat):FS:=fT [false,false] t36 (f36 n)
theorem UoS (n:Nat):FSound Tryz.prog GI 36 (UnP n):=gd UhL n (UeU n) Tryz.func36 (.cons (UeU n) t36 (f36 n) (@fun R K _=>by show _=_; exact (JkP (lo:=Un9 n) (cu:=UmU n) (c:=Jlv Tryz.f36) (by kernel_rfl) (Upk (R:=R) n) K).trans (by kernel_rfl)) .nil) (by kernel_rfl)
def UhK:Ann:={ loops:=[],cuts:=[],frz:=[],rm:=[.id] }
abbrev UjJ (n:Nat):Env:=eC 36 (UnP n) eN
theorem UeT (n:Nat):EnvOK Tryz.prog GI (UjJ n):=.cons (.nil) (UoS n)
def p35 (n:Nat) (x1:ByteArray) (x2:LP) (x3:Int) (x4:LP) (x5:ByteArray) (x6:LP) (x7:ByteArray) (x8:LP) (x9:Bool) (k0:Bool→O R):O R :=
 bif (decide (((x2).length:Int)>6)) then (k0 true) else (bif (bif false then true else (decide (((x8).length:Int)>4096))) then (k0 true) else (p36 n x8 (fun y10=>k0 (bif false then true else y10))))
abbrev Un8 (n:Nat):Orc R:=oN
abbrev UmT (n:Nat):Orc R:=oN
abbrev K35 (R:Type) (n:Nat):=Jd (R:=R) Tryz.prog (UjJ n) UhK n (18,[]) (Un8 n) (UmT n)
theorem Upj (n:Nat):JfF (K35 R n) (JaS UhK (Jlv Tryz.f35)):=pO pN (by kernel_rfl)
abbrev t35:Sl (List SV):=(.c (sP (JlB (.c Jly (.c sSh (.c (Jlw .i64) (.c sSh (.c Jly (.c sSh (.c Jly (.c sSh (.c Jlt .n))))))))))) .n)
abbrev f35 (n:Nat) (K:List SV→O R):t35.T (O R):=fun x1 x2 x3 x4 x5 x6 x7 x8 x9=>p35 n x1 x2 x3 x4 x5 x6 x7 x8 x9 (fun y1=>K [vB y1])
abbrev UnO (n:Nat):FS:=fT [false] t35 (f35 n)
theorem UoR (n:Nat):FSound Tryz.prog GI 35 (UnO n):=gd UhK n (UeT n) Tryz.func35 (.cons (UeT n) t35 (f35 n) (@fun R K _ _ _ _ _ _ _ _ _=>by show _=_; exact (JkP (lo:=Un8 n) (cu:=UmT n) (c:=Jlv Tryz.f35) (by kernel_rfl) (Upj (R:=R) n) K).trans (by kernel_rfl)) .nil) (by kernel_rfl)
def Uav:Ann:={ loops:=[(2,ids [0,1,7,8],ids [4])],cuts:=[],frz:=[],rm:=[.id] }
abbrev UeC (n:Nat):Env:=eC 35 (UnO n) eN
theorem Uc0 (n:Nat):EnvOK Tryz.prog GI (UeC n):=.cons (.nil) (UoR n)
def UfU (n:Nat) (l0:LP→Int→Int→O R) (x1:LP) (x2 x3:Int) (k0:Int→O R) (k1:O R):O R :=
 bif (decide (x3<x2)) then (bif (inR x3 ((x1).length)) then (Jiy ((x1).getD ((x3:Int).toNat) (.v (.bool false))) fun a4=>Jep a4 fun h5 t6=>Jkx h5 fun e7=>Jep t6 fun h8 t9=>JkQ h8 fun e10=>Jep t9 fun h11 t12=>Jkw .i64 h11 fun e13=>Jep t12 fun h14 t15=>JkQ h14 fun e16=>Jep t15 fun h17 t18=>Jkx h17 fun e19=>Jep t18 fun h20 t21=>JkQ h20 fun e22=>Jep t21 fun h23 t24=>Jkx h23 fun e25=>Jep t24 fun h26 t27=>JkQ h26 fun e28=>Jep t27 fun h29 t30=>Jkv h29 fun e31=>JjD t30 (p35 n e7 e10 e13 e16 e19 e22 e25 e28 e31 (fun y32=>bif y32 then (k0 x3) else (l0 x1 x2 (IntKind.i64.wrap (x3 + 1)))))) else none) else (k1)
def Udj (n:Nat):Nat→LP→Int→Int→(Int→O R)→(O R)→O R
 | 0,_,_,_,_,_=>none
 | m + 1,x1,x2,x3,k0,k1=>UfU n (fun x1 x2 x3=>Udj n m x1 x2 x3 k0 k1) x1 x2 x3 k0 k1
def Ukh (n:Nat) (x1:LP) (x2 x3:Int) (k0:Int→O R) (k1:O R):O R:=Udj n n x1 x2 x3 k0 k1
def p38 (n:Nat) (x1:LP) (k0:Int→O R):O R :=
 Ukh n x1 ((x1).length:Int) 0 (fun y2=>k0 y2) (k0 (-1))
def UcJ (n:Nat) (l0:LP→LP→LP→Int→Int→O R) (x1 x2 x3:LP) (x4 x5:Int) (k0:O R):O R :=
 bif (decide (x5<x4)) then (bif (inR x5 ((x1).length)) then (Jiy ((x1).getD ((x5:Int).toNat) (.v (.bool false))) fun a6=>Jep a6 fun h7 t8=>Jkx h7 fun e9=>Jep t8 fun h10 t11=>JkQ h10 fun e12=>Jep t11 fun h13 t14=>Jkw .i64 h13 fun e15=>Jep t14 fun h16 t17=>JkQ h16 fun e18=>Jep t17 fun h19 t20=>Jkx h19 fun e21=>Jep t20 fun h22 t23=>JkQ h22 fun e24=>Jep t23 fun h25 t26=>Jkx h25 fun e27=>Jep t26 fun h28 t29=>JkQ h28 fun e30=>Jep t29 fun h31 t32=>Jkv h31 fun e33=>JjD t32 (none)) else none) else (k0)
def Ubg (n:Nat):Nat→LP→LP→LP→Int→Int→(O R)→O R
 | 0,_,_,_,_,_,_=>none
 | m + 1,x1,x2,x3,x4,x5,k0=>UcJ n (fun x1 x2 x3 x4 x5=>Ubg n m x1 x2 x3 x4 x5 k0) x1 x2 x3 x4 x5 k0
def UgJ (n:Nat) (x1 x2 x3:LP) (x4 x5:Int) (k0:O R):O R:=Ubg n n x1 x2 x3 x4 x5 k0
def Uki (n:Nat) (x1 x2 x3:LP) (k0:Int→O R):O R :=
 UgJ n x1 x2 x3 ((x1).length:Int) 0 (k0 (-1))
abbrev E38 (n:Nat):Code→Fr→Kc R→O R:=evC Tryz.prog (UeC n) Uav n (19,[])
noncomputable def UcB:Code:=Jkz (Jlv Tryz.f38) [1,0,1,0,0]
abbrev UaD:Sl (List SV):=(cH (.c (sP (sFn 35)) (cI (cI .n))))
abbrev UaE:Sl (List SV):=(cH (.c (sP (JlD 19 (.c (sFb (.c sSh (.c sSh .n))) .n))) (cI (cI .n))))
abbrev Ub4 (n m:Nat) (K:Kc R):UaD.T (O R):=fun x1 x2 x3=>Udj n m x1 x2 x3 (fun y1=>xL Uav 2 K .ret [vI y1]) (xL Uav 2 K (.exit 0) [dD])
abbrev Uh4 (n:Nat) (K:Kc R) (l0:UaD.T (O R)):UaD.T (O R):=fun x1 x2 x3=>UfU n l0 x1 x2 x3 (fun y1=>xL Uav 2 K .ret [vI y1]) (xL Uav 2 K (.exit 0) [dD])
abbrev Ub5 (n m:Nat) (K:Kc R):UaE.T (O R):=fun x1 x2 x3 x4 x5=>Ubg n m x1 x2 x3 x4 x5 (xL Uav 2 K (.exit 0) [dD])
abbrev Uh5 (n:Nat) (K:Kc R) (l0:UaE.T (O R)):UaE.T (O R):=fun x1 x2 x3 x4 x5=>UcJ n l0 x1 x2 x3 x4 x5 (xL Uav 2 K (.exit 0) [dD])
abbrev UiO (n:Nat):Orc R:=fun i vs K=>JgZ (Nat.beq i 2) (JjK (UaD.ap vs (Ub4 n n K)) (JjK (UaE.ap vs (Ub5 n n K)) (Jc2 Uav 2 (E38 n UcB) n vs K))) (oN i vs K)
abbrev Uie (n:Nat):Orc R:=oN
abbrev K38 (R:Type) (n:Nat):=Jd (R:=R) Tryz.prog (UeC n) Uav n (19,[]) (UiO n) (Uie n)
theorem Uga (n:Nat):JfF (K38 R n) (JaS Uav UcB):=pO pN (by kernel_rfl)
theorem Uin (n:Nat):∀ m (K:Kc R),UaD.all (fun vs r=>Jc2 Uav 2 (Jdo Tryz.prog (UeC n) Uav (19,[]) (UiO n) (Uie n) UcB) m vs K=r) (Ub4 n m K):=Jji (F:=Ub4 n) UaD (Uh4 n) (fun K _ _ _=>rfl) (fun _ _=>rfl) (fun L K _ _ _=>by show _=_; kernel_rfl)
theorem Uio (n:Nat):∀ m (K:Kc R),UaE.all (fun vs r=>Jc2 Uav 2 (Jdo Tryz.prog (UeC n) Uav (19,[]) (UiO n) (Uie n) UcB) m vs K=r) (Ub5 n m K):=Jji (F:=Ub5 n) UaE (Uh5 n) (fun K _ _ _ _ _=>rfl) (fun _ _=>rfl) (fun L K _ _ _ _ _=>by show _=_; kernel_rfl)
theorem UkR (n:Nat):K38 R n (false,2,UcB):=Jk4 (lo:=UiO n) (cu:=Uie n) (Uga n) UaD (Ub4 n n) (Uin n n) (Jk4 (lo:=UiO n) (cu:=Uie n) (Uga n) UaE (Ub5 n n) (Uio n n) fun _ _=>rfl)
theorem Uot (n:Nat):JfF (K38 R n) (JaS Uav (Jlv Tryz.f38)):=pO (pC (UkR n) pN) (by kernel_rfl)
abbrev Umw:Sl (List SV):=(cH (.c (sP (sFn 35)) .n))
abbrev Unj (n:Nat) (K:List SV→O R):Umw.T (O R):=fun x1=>p38 n x1 (fun y1=>K [vI y1])
abbrev Umx:Sl (List SV):=(cH (.c (sP (JlD 19 (.c (sFb (.c sSh (.c sSh .n))) .n))) .n))
abbrev Unk (n:Nat) (K:List SV→O R):Umx.T (O R):=fun x1 x2 x3=>Uki n x1 x2 x3 (fun y1=>K [vI y1])
abbrev UnR (n:Nat):FS:={ om:=[false,false],run:=fun args K=>JjK (Umw.ap args (Unj n K)) (JjK (Umx.ap args (Unk n K)) none) }
theorem UoU (n:Nat):FSound Tryz.prog GI 38 (UnR n):=gd Uav n (Uc0 n) Tryz.func38 (.cons (Uc0 n) Umw (Unj n) (@fun R K _=>by show _=_; exact (JkP (lo:=UiO n) (cu:=Uie n) (c:=Jlv Tryz.f38) (by kernel_rfl) (Uot (R:=R) n) K).trans (by kernel_rfl)) (.cons (Uc0 n) Umx (Unk n) (@fun R K _ _ _=>by show _=_; exact (JkP (lo:=UiO n) (cu:=Uie n) (c:=Jlv Tryz.f38) (by kernel_rfl) (Uot (R:=R) n) K).trans (by kernel_rfl)) .nil)) (by kernel_rfl)
def UhF:Ann:={ loops:=[],cuts:=[],frz:=[],rm:=[.id] }
abbrev UjE (n:Nat):Env:=eC 38 (UnR n) eN
theorem UcV (n:Nat):EnvOK Tryz.prog GI (UjE n):=.cons (.nil) (UoU n)
def p18 (n:Nat) (x1:LP) (k0:Bool→O R):O R :=
 p38 n x1 (fun y2=>k0 (decide (y2≥0)))
def Uj4 (n:Nat) (x1 x2 x3:LP) (k0:Bool→O R):O R :=
 Uki n x1 x2 x3 (fun y4=>k0 (decide (y4≥0)))
abbrev UlS (n:Nat):Orc R:=oN
abbrev UlA (n:Nat):Orc R:=oN
abbrev K18 (R:Type) (n:Nat):=Jd (R:=R) Tryz.prog (UjE n) UhF n (9,[]) (UlS n) (UlA n)
theorem Uoo (n:Nat):JfF (K18 R n) (JaS UhF (Jlv Tryz.f18)):=pO pN (by kernel_rfl)
abbrev Umj:Sl (List SV):=(cH (.c (sP (sFn 35)) .n))
abbrev Um7 (n:Nat) (K:List SV→O R):Umj.T (O R):=fun x1=>p18 n x1 (fun y1=>K [vB y1])
abbrev Umk:Sl (List SV):=(cH (.c (sP (JlD 19 (.c (sFb (.c sSh (.c sSh .n))) .n))) .n))
abbrev Um8 (n:Nat) (K:List SV→O R):Umk.T (O R):=fun x1 x2 x3=>Uj4 n x1 x2 x3 (fun y1=>K [vB y1])
abbrev UlL (n:Nat):FS:={ om:=[false,false],run:=fun args K=>JjK (Umj.ap args (Um7 n K)) (JjK (Umk.ap args (Um8 n K)) none) }
theorem Uoi (n:Nat):FSound Tryz.prog GI 18 (UlL n):=gd UhF n (UcV n) Tryz.func18 (.cons (UcV n) Umj (Um7 n) (@fun R K _=>by show _=_; exact (JkP (lo:=UlS n) (cu:=UlA n) (c:=Jlv Tryz.f18) (by kernel_rfl) (Uoo (R:=R) n) K).trans (by kernel_rfl)) (.cons (UcV n) Umk (Um8 n) (@fun R K _ _ _=>by show _=_; exact (JkP (lo:=UlS n) (cu:=UlA n) (c:=Jlv Tryz.f18) (by kernel_rfl) (Uoo (R:=R) n) K).trans (by kernel_rfl)) .nil)) (by kernel_rfl)
def UhE:Ann:={ loops:=[],cuts:=[],frz:=[],rm:=[.id] }
abbrev UjD (n:Nat):Env:=eC 18 (UlL n) eN
theorem UeL (n:Nat):EnvOK Tryz.prog GI (UjD n):=.cons (.nil) (Uoi n)
def p17 (n:Nat) (x1 x2:LP) (k0:Bool→O R):O R :=
 bif (decide (((x2).length:Int)>128)) then (k0 true) else (p18 n x2 (fun y3=>k0 (bif false then true else y3)))
abbrev Un5 (n:Nat):Orc R:=oN
abbrev UmQ (n:Nat):Orc R:=oN
abbrev K17 (R:Type) (n:Nat):=Jd (R:=R) Tryz.prog (UjD n) UhE n (12,[]) (Un5 n) (UmQ n)
theorem Upb (n:Nat):JfF (K17 R n) (JaS UhE (Jlv Tryz.f17)):=pO pN (by kernel_rfl)
abbrev t17:Sl (List SV):=(.c (sP (JlB (.c sSh (.c sSh .n)))) .n)
abbrev f17 (n:Nat) (K:List SV→O R):t17.T (O R):=fun x1 x2=>p17 n x1 x2 (fun y1=>K [vB y1])
abbrev UnD (n:Nat):FS:=fT [false] t17 (f17 n)
theorem UoG (n:Nat):FSound Tryz.prog GI 17 (UnD n):=gd UhE n (UeL n) Tryz.func17 (.cons (UeL n) t17 (f17 n) (@fun R K _ _=>by show _=_; exact (JkP (lo:=Un5 n) (cu:=UmQ n) (c:=Jlv Tryz.f17) (by kernel_rfl) (Upb (R:=R) n) K).trans (by kernel_rfl)) .nil) (by kernel_rfl)
def UbR:Ann:={ loops:=[(7,ids [1,3,14,15,16],ids [1,2])],cuts:=[],frz:=[],rm:=[.id] }
abbrev Uiw (n:Nat):Env:=eC 18 (UlL n) (eC 17 (UnD n) (eC 16 (UnC n) eN))
theorem UeF (n:Nat):EnvOK Tryz.prog GI (Uiw n):=.cons (.cons (.cons (.nil) (UoF n)) (UoG n)) (Uoi n)
def Ufy (n:Nat) (l0:LP→LP→LP→LP→LP→Int→Int→O R) (x1 x2 x3 x4 x5:LP) (x6 x7:Int) (k0:LP→LP→Int→O R) (k1:LP→LP→O R):O R :=
 bif (decide (x7<x6)) then (bif (inR x7 ((x5).length)) then (Jiy ((x5).getD ((x7:Int).toNat) (.v (.bool false))) fun a8=>Jep a8 fun h9 t10=>Jkx h9 fun e11=>Jep t10 fun h12 t13=>JkQ h12 fun e14=>Jep t13 fun h15 t16=>Jkw .i64 h15 fun e17=>Jep t16 fun h18 t19=>JkQ h18 fun e20=>Jep t19 fun h21 t22=>Jkx h21 fun e23=>Jep t22 fun h24 t25=>JkQ h24 fun e26=>Jep t25 fun h27 t28=>Jkx h27 fun e29=>Jep t28 fun h30 t31=>JkQ h30 fun e32=>Jep t31 fun h33 t34=>Jkv h33 fun e35=>JjD t34 (Jkv (Jh4 (.v (.string e11):PV) (.v (.bool false):PV) x3 x4) fun e36=>bif e36 then (k0 x1 x2 8) else (l0 x1 x2 (Jc5 (.v (.string e11):PV) x3) (Jdi (.v (.string e11):PV) (.v (.bool true)) x3 x4) x5 x6 (IntKind.i64.wrap (x7 + 1))))) else none) else (k1 x1 x2)
def Uc5 (n:Nat):Nat→LP→LP→LP→LP→LP→Int→Int→(LP→LP→Int→O R)→(LP→LP→O R)→O R
 | 0,_,_,_,_,_,_,_,_,_=>none
 | m + 1,x1,x2,x3,x4,x5,x6,x7,k0,k1=>Ufy n (fun x1 x2 x3 x4 x5 x6 x7=>Uc5 n m x1 x2 x3 x4 x5 x6 x7 k0 k1) x1 x2 x3 x4 x5 x6 x7 k0 k1
def Uj1 (n:Nat) (x1 x2 x3 x4 x5:LP) (x6 x7:Int) (k0:LP→LP→Int→O R) (k1:LP→LP→O R):O R:=Uc5 n n x1 x2 x3 x4 x5 x6 x7 k0 k1
def p10 (n:Nat) (x1 x2:LP) (k0:Int→O R):O R :=
 p16 n x1 (fun y3=>bif (y3 != 0) then (k0 3) else (p17 n x1 x2 (fun y4=>bif y4 then (k0 6) else (Uj1 n x1 x2 [] [] x2 ((x2).length:Int) 0 (fun y5 y6 y7=>k0 y7) (fun y8 y9=>Uj4 n y9 y8 y9 (fun y10=>bif y10 then (k0 22) else (k0 0)))))))
abbrev E10 (n:Nat):Code→Fr→Kc R→O R:=evC Tryz.prog (Uiw n) UbR n (32,[])
noncomputable def UgS:Code:=Jkz (Jlv Tryz.f10) [1,1,1,1,0,1,0,0]
abbrev UbD:Sl (List SV):=(.c (sBx 40 (cH (cH .n))) (.c (sMp none) (cH (cI (cI .n)))))
abbrev Ue5 (n m:Nat) (K:Kc R):UbD.T (O R):=fun x1 x2 x3 x4 x5 x6 x7=>Uc5 n m x1 x2 x3 x4 x5 x6 x7 (fun y1 y2 y3=>xL UbR 7 K .ret [.bx 40 [vH y1,vH y2],vI y3]) (fun y1 y2=>xL UbR 7 K (.exit 0) [.bx 40 [vH y1,vH y2],dD])
abbrev Uj (n:Nat) (K:Kc R) (l0:UbD.T (O R)):UbD.T (O R):=fun x1 x2 x3 x4 x5 x6 x7=>Ufy n l0 x1 x2 x3 x4 x5 x6 x7 (fun y1 y2 y3=>xL UbR 7 K .ret [.bx 40 [vH y1,vH y2],vI y3]) (fun y1 y2=>xL UbR 7 K (.exit 0) [.bx 40 [vH y1,vH y2],dD])
abbrev UlQ (n:Nat):Orc R:=oL UbR (E10 n) n 7 UgS UbD (Ue5 n n) oN
abbrev Uly (n:Nat):Orc R:=oN
abbrev K10 (R:Type) (n:Nat):=Jd (R:=R) Tryz.prog (Uiw n) UbR n (32,[]) (UlQ n) (Uly n)
theorem Ukw (n:Nat):K10 R n (false,7,UgS):=Jk4 (lo:=UlQ n) (cu:=Uly n) (pO pN (by kernel_rfl)) UbD (Ue5 n n) (Jji (F:=Ue5 n) UbD (Uj n) (fun K _ _ _ _ _ _ _=>rfl) (fun _ _=>rfl) (fun L K _ _ _ _ _ _ _=>by show _=_; kernel_rfl) n) fun _ _=>rfl
theorem Uo6 (n:Nat):JfF (K10 R n) (JaS UbR (Jlv Tryz.f10)):=pO (pC (Ukw n) pN) (by kernel_rfl)
abbrev t10:Sl (List SV):=(.c (sP (JlB (.c sSh (.c sSh .n)))) .n)
abbrev f10 (n:Nat) (K:List SV→O R):t10.T (O R):=fun x1 x2=>p10 n x1 x2 (fun y1=>K [vI y1])
abbrev UlJ (n:Nat):FS:=fT [false] t10 (f10 n)
theorem Uog (n:Nat):FSound Tryz.prog GI 10 (UlJ n):=gd UbR n (UeF n) Tryz.func10 (.cons (UeF n) t10 (f10 n) (@fun R K _ _=>by show _=_; exact (JkP (lo:=UlQ n) (cu:=Uly n) (c:=Jlv Tryz.f10) (by kernel_rfl) (Uo6 (R:=R) n) K).trans (by kernel_rfl)) .nil) (by kernel_rfl)
def UcP:Ann:={ loops:=[(1,[(0,.own 5),(1,.id)],ids [0,1,4])],cuts:=[],frz:=[],rm:=[.id] }
abbrev Uix (n:Nat):Env:=eN
theorem UcU (n:Nat):EnvOK Tryz.prog GI (Uix n):=.nil
def UfE (n:Nat) (l0:LP→Int→O R) (x1:LP) (x2:Int) (k0:LP→Int→O R):O R :=
 bif (decide (x2≥128)) then (let v3:=JfY .or .u8 (IntKind.u8.wrap (x2)) 128; bif (Ja7 ((x1).length + 1) 1) then (bif decide ((7:Int)<0) then none else (let v4:=Int.fdiv x2 (2 ^ (min ((7:Int)).toNat IntKind.u64.bits)); l0 (x1++([.v (.int .u8 v3)]:LP)) v4)) else none) else (k0 x1 x2)
def Uc7 (n:Nat):Nat→LP→Int→(LP→Int→O R)→O R
 | 0,_,_,_=>none
 | m + 1,x1,x2,k0=>UfE n (fun x1 x2=>Uc7 n m x1 x2 k0) x1 x2 k0
def Uho (n:Nat) (x1:LP) (x2:Int) (k0:LP→Int→O R):O R:=Uc7 n n x1 x2 k0
def p12 (n:Nat) (x1:Int) (k0:LP→O R):O R :=
 Uho n [] x1 (fun y2 y3=>bif (Ja7 ((y2).length + 1) 1) then (k0 (y2++([.v (.int .u8 (IntKind.u8.wrap (y3)))]:LP))) else none)
def Ucf (n:Nat) (x1:LP) (x2:Int) (k0:LP→O R):O R :=
 Uho n x1 x2 (fun y3 y4=>bif (Ja7 ((y3).length + 1) 1) then (k0 (y3++([.v (.int .u8 (IntKind.u8.wrap (y4)))]:LP))) else none)
abbrev E12 (n:Nat):Code→Fr→Kc R→O R:=evC Tryz.prog (Uix n) UcP n (20,[])
noncomputable def UgT:Code:=Jkz (Jlv Tryz.f12) [1,0,0,0]
abbrev UbE:Sl (List SV):=(cO 5 (.c (sP (Jlw .u64)) .n))
abbrev Ue6 (n m:Nat) (K:Kc R):UbE.T (O R):=fun x1 x2=>Uc7 n m x1 x2 (fun y1 y2=>xL UcP 1 K (.exit 0) [.own 5 y1,.p (.v (.int .u64 y2)),dD])
abbrev Uja (n:Nat) (K:Kc R) (l0:UbE.T (O R)):UbE.T (O R):=fun x1 x2=>UfE n l0 x1 x2 (fun y1 y2=>xL UcP 1 K (.exit 0) [.own 5 y1,.p (.v (.int .u64 y2)),dD])
abbrev Ulj (n:Nat):Orc R:=oL UcP (E12 n) n 1 UgT UbE (Ue6 n n) oN
abbrev Ula (n:Nat):Orc R:=oN
abbrev K12 (R:Type) (n:Nat):=Jd (R:=R) Tryz.prog (Uix n) UcP n (20,[]) (Ulj n) (Ula n)
theorem Ukz (n:Nat):K12 R n (false,1,UgT):=Jk4 (lo:=Ulj n) (cu:=Ula n) (pO pN (by kernel_rfl)) UbE (Ue6 n n) (Jji (F:=Ue6 n) UbE (Uja n) (fun K _ _=>rfl) (fun _ _=>rfl) (fun L K _ _=>by show _=_; kernel_rfl) n) fun _ _=>rfl
theorem Uon (n:Nat):JfF (K12 R n) (JaS UcP (Jlv Tryz.f12)):=pO (pC (Ukz n) pN) (by kernel_rfl)
abbrev Umh:Sl (List SV):=(.c sNl (.c (sP (Jlw .u64)) .n))
abbrev Um5 (n:Nat) (K:List SV→O R):Umh.T (O R):=fun x1=>p12 n x1 (fun y1=>K [.own 5 y1])
abbrev Umi:Sl (List SV):=(cO 5 (.c (sP (Jlw .u64)) .n))
abbrev Um6 (n:Nat) (K:List SV→O R):Umi.T (O R):=fun x1 x2=>Ucf n x1 x2 (fun y1=>K [.own 5 y1])
abbrev Ulg (n:Nat):FS:={ om:=[true,false],run:=fun args K=>JjK (Umh.ap args (Um5 n K)) (JjK (Umi.ap args (Um6 n K)) none) }
theorem UlX (n:Nat):FSound Tryz.prog GI 12 (Ulg n):=gd UcP n (UcU n) Tryz.func12 (.cons (UcU n) Umh (Um5 n) (@fun R K _=>by show _=_; exact (JkP (lo:=Ulj n) (cu:=Ula n) (c:=Jlv Tryz.f12) (by kernel_rfl) (Uon (R:=R) n) K).trans (by kernel_rfl)) (.cons (UcU n) Umi (Um6 n) (@fun R K _ _=>by show _=_; exact (JkP (lo:=Ulj n) (cu:=Ula n) (c:=Jlv Tryz.f12) (by kernel_rfl) (Uon (R:=R) n) K).trans (by kernel_rfl)) .nil)) (by kernel_rfl)
def UhG:Ann:={ loops:=[],cuts:=[],frz:=[],rm:=[] }
abbrev UjF (n:Nat):Env:=eC 12 (Ulg n) eN
theorem UbV (n:Nat):EnvOK Tryz.prog GI (UjF n):=.cons (.nil) (UlX n)
def p21 (n:Nat) (x1 x2:LP) (x3:Int) (k0:LP→LP→LP→O R):O R :=
 p12 n (IntKind.u64.wrap (x3)) (fun y4=>k0 y4 x1 x2)
def Uc9 (n:Nat) (x1 x2 x3 x4:LP) (x5:Int) (k0:LP→LP→LP→LP→O R):O R :=
 Ucf n x1 (IntKind.u64.wrap (x5)) (fun y6=>k0 y6 x2 x3 x4)
def UfH (n:Nat) (x1 x2 x3:LP) (x4:Int) (k0:LP→LP→LP→O R):O R :=
 Ucf n x1 (IntKind.u64.wrap (x4)) (fun y5=>k0 y5 x2 x3)
abbrev Ulk (n:Nat):Orc R:=oN
abbrev Ulb (n:Nat):Orc R:=oN
abbrev K21 (R:Type) (n:Nat):=Jd (R:=R) Tryz.prog (UjF n) UhG n (14,[0]) (Ulk n) (Ulb n)
theorem Ul5 (n:Nat):JfF (K21 R n) (JaS UhG (Jlv Tryz.f21)):=pO pN (by kernel_rfl)
abbrev Uml:Sl (List SV):=(.c (sBx 50 (.c sNl (.c (sMp none) (.c sNl .n)))) (cI .n))
abbrev Um9 (n:Nat) (K:List SV→O R):Uml.T (O R):=fun x1 x2 x3=>p21 n x1 x2 x3 (fun y1 y2 y3=>K [.bx 50 [.own 5 y1,.mp none y2 y3,.nl]])
abbrev Umm:Sl (List SV):=(.c (sBx 50 (cO 5 (.c (sMp none) (cO 9 .n)))) (cI .n))
abbrev Un (n:Nat) (K:List SV→O R):Umm.T (O R):=fun x1 x2 x3 x4 x5=>Uc9 n x1 x2 x3 x4 x5 (fun y1 y2 y3 y4=>K [.bx 50 [.own 5 y1,.mp none y2 y3,.own 9 y4]])
abbrev Umn:Sl (List SV):=(.c (sBx 50 (cO 5 (.c (sMp none) (.c sNl .n)))) (cI .n))
abbrev Una (n:Nat) (K:List SV→O R):Umn.T (O R):=fun x1 x2 x3 x4=>UfH n x1 x2 x3 x4 (fun y1 y2 y3=>K [.bx 50 [.own 5 y1,.mp none y2 y3,.nl]])
abbrev UlM (n:Nat):FS:={ om:=[true,false],run:=fun args K=>JjK (Uml.ap args (Um9 n K)) (JjK (Umm.ap args (Un n K)) (JjK (Umn.ap args (Una n K)) none)) }
theorem Uoj (n:Nat):FSound Tryz.prog GI 21 (UlM n):=gd UhG n (UbV n) Tryz.func21 (.cons (UbV n) Uml (Um9 n) (@fun R K _ _ _=>by show _=_; exact (JkP (lo:=Ulk n) (cu:=Ulb n) (c:=Jlv Tryz.f21) (by kernel_rfl) (Ul5 (R:=R) n) K).trans (by kernel_rfl)) (.cons (UbV n) Umm (Un n) (@fun R K _ _ _ _ _=>by show _=_; exact (JkP (lo:=Ulk n) (cu:=Ulb n) (c:=Jlv Tryz.f21) (by kernel_rfl) (Ul5 (R:=R) n) K).trans (by kernel_rfl)) (.cons (UbV n) Umn (Una n) (@fun R K _ _ _ _=>by show _=_; exact (JkP (lo:=Ulk n) (cu:=Ulb n) (c:=Jlv Tryz.f21) (by kernel_rfl) (Ul5 (R:=R) n) K).trans (by kernel_rfl)) .nil))) (by kernel_rfl)
def Ucs:Ann:={ loops:=[],cuts:=[(5,ids [0,4],ids [0])],frz:=[],rm:=[] }
abbrev Uiz (n:Nat):Env:=eC 21 (UlM n) eN
theorem UcW (n:Nat):EnvOK Tryz.prog GI (Uiz n):=.cons (.nil) (Uoj n)
def UdR (n:Nat) (x1 x2 x3 x4:LP) (x5:Int) (k0:LP→LP→LP→LP→O R):O R :=
 Uc9 n x1 x2 x3 x4 x5 (fun y6 y7 y8 y9=>k0 y6 y7 y8 y9)
def UdS (n:Nat) (x1 x2 x3:LP) (x4:Int) (k0:LP→LP→LP→O R):O R :=
 UfH n x1 x2 x3 x4 (fun y5 y6 y7=>k0 y5 y6 y7)
def p22 (n:Nat) (x1 x2 x3:LP) (x4:ByteArray) (k0:LP→LP→LP→LP→O R) (k1:LP→LP→LP→O R):O R :=
 Jkw .i64 (Jh4 (.v (.string x4):PV) (.v (.int .i64 0):PV) x2 x3) fun e5=>bif (!Jg9 (.v (.string x4):PV) x2) then (bif (Ja7 (1) 16) then (UdR n x1 (Jc5 (.v (.string x4):PV) x2) (Jdi (.v (.string x4):PV) (.v (.int .i64 0)) x2 x3) ([.v (.string x4)]:LP) 0 (fun y6 y7 y8 y9=>k0 y6 y7 y8 y9)) else none) else (UdS n x1 x2 x3 e5 (fun y10 y11 y12=>k1 y10 y11 y12))
def UiT (n:Nat) (x1 x2 x3 x4:LP) (x5:ByteArray) (k0:LP→LP→LP→LP→O R):O R :=
 Jkw .i64 (Jh4 (.v (.string x5):PV) (.v (.int .i64 0):PV) x2 x3) fun e6=>bif (!Jg9 (.v (.string x5):PV) x2) then (bif (Ja7 ((x4).length + 1) 16) then (UdR n x1 (Jc5 (.v (.string x5):PV) x2) (Jdi (.v (.string x5):PV) (.v (.int .i64 ((x4).length:Int))) x2 x3) (x4++([.v (.string x5)]:LP)) ((x4).length:Int) (fun y7 y8 y9 y10=>k0 y7 y8 y9 y10)) else none) else (UdR n x1 x2 x3 x4 e6 (fun y11 y12 y13 y14=>k0 y11 y12 y13 y14))
abbrev E22 (n:Nat):Code→Fr→Kc R→O R:=evC Tryz.prog (Uiz n) Ucs n (41,[0])
noncomputable def Ueo:Code:=Jkz (Jlv Tryz.f22) [1,1]
abbrev Udr:Sl (List SV):=(.c (sBx 50 (cO 5 (.c (sMp none) (cO 9 .n)))) (cI .n))
abbrev Uds:Sl (List SV):=(.c (sBx 50 (cO 5 (.c (sMp none) (.c sNl .n)))) (cI .n))
abbrev Ue7 (n:Nat) (K:Kc R):Udr.T (O R):=fun x1 x2 x3 x4 x5=>UdR n x1 x2 x3 x4 x5 (fun y1 y2 y3 y4=>xC Ucs 5 K .normal [.bx 50 [.own 5 y1,.mp none y2 y3,.own 9 y4]])
abbrev Ue8 (n:Nat) (K:Kc R):Uds.T (O R):=fun x1 x2 x3 x4=>UdS n x1 x2 x3 x4 (fun y1 y2 y3=>xC Ucs 5 K .normal [.bx 50 [.own 5 y1,.mp none y2 y3,.nl]])
abbrev UjX (n:Nat):Orc R:=oN
abbrev Ujv (n:Nat):Orc R:=fun i vs K=>JgZ (Nat.beq i 5) (JjK (Udr.ap vs (Ue7 n K)) (JjK (Uds.ap vs (Ue8 n K)) (JkN Ucs 5 (E22 n Ueo) vs K))) (oN i vs K)
abbrev K22 (R:Type) (n:Nat):=Jd (R:=R) Tryz.prog (Uiz n) Ucs n (41,[0]) (UjX n) (Ujv n)
theorem Uf6 (n:Nat):JfF (K22 R n) (JaS Ucs Ueo):=pO pN (by kernel_rfl)
theorem UkC (n:Nat):K22 R n (true,5,Ueo):=Jlh (lo:=UjX n) (cu:=Ujv n) (Uf6 n) Udr (Ue7 n) (fun K _ _ _ _ _=>by show _=_; kernel_rfl) (Jlh (lo:=UjX n) (cu:=Ujv n) (Uf6 n) Uds (Ue8 n) (fun K _ _ _ _=>by show _=_; kernel_rfl) fun _ _=>rfl)
theorem Uop (n:Nat):JfF (K22 R n) (JaS Ucs (Jlv Tryz.f22)):=pO (pC (UkC n) pN) (by kernel_rfl)
abbrev Umo:Sl (List SV):=(.c (sBx 50 (cO 5 (.c (sMp none) (.c sNl .n)))) (cS .n))
abbrev Unb (n:Nat) (K:List SV→O R):Umo.T (O R):=fun x1 x2 x3 x4=>p22 n x1 x2 x3 x4 (fun y1 y2 y3 y4=>K [.bx 50 [.own 5 y1,.mp none y2 y3,.own 9 y4]]) (fun y1 y2 y3=>K [.bx 50 [.own 5 y1,.mp none y2 y3,.nl]])
abbrev Ump:Sl (List SV):=(.c (sBx 50 (cO 5 (.c (sMp none) (cO 9 .n)))) (cS .n))
abbrev Unc (n:Nat) (K:List SV→O R):Ump.T (O R):=fun x1 x2 x3 x4 x5=>UiT n x1 x2 x3 x4 x5 (fun y1 y2 y3 y4=>K [.bx 50 [.own 5 y1,.mp none y2 y3,.own 9 y4]])
abbrev UnE (n:Nat):FS:={ om:=[true,false],run:=fun args K=>JjK (Umo.ap args (Unb n K)) (JjK (Ump.ap args (Unc n K)) none) }
theorem UoH (n:Nat):FSound Tryz.prog GI 22 (UnE n):=gd Ucs n (UcW n) Tryz.func22 (.cons (UcW n) Umo (Unb n) (@fun R K _ _ _ _=>by show _=_; exact (JkP (lo:=UjX n) (cu:=Ujv n) (c:=Jlv Tryz.f22) (by kernel_rfl) (Uop (R:=R) n) K).trans (by kernel_rfl)) (.cons (UcW n) Ump (Unc n) (@fun R K _ _ _ _ _=>by show _=_; exact (JkP (lo:=UjX n) (cu:=Ujv n) (c:=Jlv Tryz.f22) (by kernel_rfl) (Uop (R:=R) n) K).trans (by kernel_rfl)) .nil)) (by kernel_rfl)
def Uct:Ann:={ loops:=[],cuts:=[(3,ids [0,4],ids [0])],frz:=[],rm:=[] }
abbrev UiA (n:Nat):Env:=eC 12 (Ulg n) eN
theorem UcX (n:Nat):EnvOK Tryz.prog GI (UiA n):=.cons (.nil) (UlX n)
def UfI (n:Nat) (x1 x2 x3 x4:LP) (x5:Int) (k0:LP→LP→LP→LP→O R):O R :=
 Ucf n x1 x5 (fun y6=>k0 y6 x2 x3 x4)
def p23 (n:Nat) (x1 x2 x3 x4:LP) (x5:Int) (k0:LP→LP→LP→LP→O R):O R :=
 bif decide ((1:Int)<0) then none else (let v6:=IntKind.u64.wrap ((IntKind.u64.wrap (x5)) * 2 ^ (min ((1:Int)).toNat IntKind.u64.bits)); bif (decide (x5<0)) then (let v7:=JfY .xor .u64 (if IntKind.u64.signed then -1 else IntKind.u64.max) v6; UfI n x1 x2 x3 x4 v7 (fun y8 y9 y10 y11=>k0 y8 y9 y10 y11)) else (UfI n x1 x2 x3 x4 v6 (fun y12 y13 y14 y15=>k0 y12 y13 y14 y15)))
def Uch (n:Nat) (x1 x2 x3:LP) (x4:Int) (k0:LP→LP→LP→O R):O R :=
 Ucf n x1 x4 (fun y5=>k0 y5 x2 x3)
def Uj5 (n:Nat) (x1 x2 x3:LP) (x4:Int) (k0:LP→LP→LP→O R):O R :=
 bif decide ((1:Int)<0) then none else (let v5:=IntKind.u64.wrap ((IntKind.u64.wrap (x4)) * 2 ^ (min ((1:Int)).toNat IntKind.u64.bits)); bif (decide (x4<0)) then (let v6:=JfY .xor .u64 (if IntKind.u64.signed then -1 else IntKind.u64.max) v5; Uch n x1 x2 x3 v6 (fun y7 y8 y9=>k0 y7 y8 y9)) else (Uch n x1 x2 x3 v5 (fun y10 y11 y12=>k0 y10 y11 y12)))
abbrev E23 (n:Nat):Code→Fr→Kc R→O R:=evC Tryz.prog (UiA n) Uct n (21,[0])
noncomputable def Uep:Code:=Jkz (Jlv Tryz.f23) [1,1]
abbrev Udt:Sl (List SV):=(.c (sBx 50 (cO 5 (.c (sMp none) (cO 9 .n)))) (.c (sP (Jlw .u64)) .n))
abbrev Udu:Sl (List SV):=(.c (sBx 50 (cO 5 (.c (sMp none) (.c sNl .n)))) (.c (sP (Jlw .u64)) .n))
abbrev Ue9 (n:Nat) (K:Kc R):Udt.T (O R):=fun x1 x2 x3 x4 x5=>UfI n x1 x2 x3 x4 x5 (fun y1 y2 y3 y4=>xC Uct 3 K .normal [.bx 50 [.own 5 y1,.mp none y2 y3,.own 9 y4]])
abbrev Uf (n:Nat) (K:Kc R):Udu.T (O R):=fun x1 x2 x3 x4=>Uch n x1 x2 x3 x4 (fun y1 y2 y3=>xC Uct 3 K .normal [.bx 50 [.own 5 y1,.mp none y2 y3,.nl]])
abbrev UjY (n:Nat):Orc R:=oN
abbrev Ujw (n:Nat):Orc R:=fun i vs K=>JgZ (Nat.beq i 3) (JjK (Udt.ap vs (Ue9 n K)) (JjK (Udu.ap vs (Uf n K)) (JkN Uct 3 (E23 n Uep) vs K))) (oN i vs K)
abbrev K23 (R:Type) (n:Nat):=Jd (R:=R) Tryz.prog (UiA n) Uct n (21,[0]) (UjY n) (Ujw n)
theorem Uf7 (n:Nat):JfF (K23 R n) (JaS Uct Uep):=pO pN (by kernel_rfl)
theorem UkD (n:Nat):K23 R n (true,3,Uep):=Jlh (lo:=UjY n) (cu:=Ujw n) (Uf7 n) Udt (Ue9 n) (fun K _ _ _ _ _=>by show _=_; kernel_rfl) (Jlh (lo:=UjY n) (cu:=Ujw n) (Uf7 n) Udu (Uf n) (fun K _ _ _ _=>by show _=_; kernel_rfl) fun _ _=>rfl)
theorem Uoq (n:Nat):JfF (K23 R n) (JaS Uct (Jlv Tryz.f23)):=pO (pC (UkD n) pN) (by kernel_rfl)
abbrev Umq:Sl (List SV):=(.c (sBx 50 (cO 5 (.c (sMp none) (cO 9 .n)))) (cI .n))
abbrev Und (n:Nat) (K:List SV→O R):Umq.T (O R):=fun x1 x2 x3 x4 x5=>p23 n x1 x2 x3 x4 x5 (fun y1 y2 y3 y4=>K [.bx 50 [.own 5 y1,.mp none y2 y3,.own 9 y4]])
abbrev Umr:Sl (List SV):=(.c (sBx 50 (cO 5 (.c (sMp none) (.c sNl .n)))) (cI .n))
abbrev Une (n:Nat) (K:List SV→O R):Umr.T (O R):=fun x1 x2 x3 x4=>Uj5 n x1 x2 x3 x4 (fun y1 y2 y3=>K [.bx 50 [.own 5 y1,.mp none y2 y3,.nl]])
abbrev UnF (n:Nat):FS:={ om:=[true,false],run:=fun args K=>JjK (Umq.ap args (Und n K)) (JjK (Umr.ap args (Une n K)) none) }
theorem UoI (n:Nat):FSound Tryz.prog GI 23 (UnF n):=gd Uct n (UcX n) Tryz.func23 (.cons (UcX n) Umq (Und n) (@fun R K _ _ _ _ _=>by show _=_; exact (JkP (lo:=UjY n) (cu:=Ujw n) (c:=Jlv Tryz.f23) (by kernel_rfl) (Uoq (R:=R) n) K).trans (by kernel_rfl)) (.cons (UcX n) Umr (Une n) (@fun R K _ _ _ _=>by show _=_; exact (JkP (lo:=UjY n) (cu:=Ujw n) (c:=Jlv Tryz.f23) (by kernel_rfl) (Uoq (R:=R) n) K).trans (by kernel_rfl)) .nil)) (by kernel_rfl)
def Ua:Ann:={ loops:=[(3,ids [0,3,18,19,20],ids [0,3]),(8,ids [0,3,18,19,20,34,35,36],ids [0,3,18,19,20]),(13,ids [0,3,18,19,20,34,35,36,50,51,52],ids [0,3,18,19,20,34,35,36]),(21,ids [0,68,69,70],ids [0])],cuts:=[],frz:=[],rm:=[] }
abbrev Ua7 (n:Nat):Env:=eC 23 (UnF n) (eC 22 (UnE n) (eC 21 (UlM n) eN))
theorem UeG (n:Nat):EnvOK Tryz.prog GI (Ua7 n):=.cons (.cons (.cons (.nil) (Uoj n)) (UoH n)) (UoI n)
def UdO (n:Nat) (l0:LP→LP→LP→LP→LP→LP→LP→Int→Int→LP→Int→Int→LP→Int→Int→O R) (x1 x2 x3 x4 x5 x6 x7:LP) (x8 x9:Int) (x10:LP) (x11 x12:Int) (x13:LP) (x14 x15:Int) (k0:LP→LP→LP→LP→LP→LP→LP→Int→Int→LP→Int→Int→O R):O R :=
 bif (decide (x15<x14)) then (bif (inR x15 ((x13).length)) then (Jkw .i64 ((x13).getD ((x15:Int).toNat) (.v (.bool false))) fun e16=>p23 n x1 x2 x3 x4 e16 (fun y17 y18 y19 y20=>l0 y17 y18 y19 y20 x5 x6 x7 x8 x9 x10 x11 x12 x13 x14 (IntKind.i64.wrap (x15 + 1)))) else none) else (k0 x1 x2 x3 x4 x5 x6 x7 x8 x9 x10 x11 x12)
def Ucc (n:Nat):Nat→LP→LP→LP→LP→LP→LP→LP→Int→Int→LP→Int→Int→LP→Int→Int→(LP→LP→LP→LP→LP→LP→LP→Int→Int→LP→Int→Int→O R)→O R
 | 0,_,_,_,_,_,_,_,_,_,_,_,_,_,_,_,_=>none
 | m + 1,x1,x2,x3,x4,x5,x6,x7,x8,x9,x10,x11,x12,x13,x14,x15,k0=>UdO n (fun x1 x2 x3 x4 x5 x6 x7 x8 x9 x10 x11 x12 x13 x14 x15=>Ucc n m x1 x2 x3 x4 x5 x6 x7 x8 x9 x10 x11 x12 x13 x14 x15 k0) x1 x2 x3 x4 x5 x6 x7 x8 x9 x10 x11 x12 x13 x14 x15 k0
def Ufz (n:Nat) (x1 x2 x3 x4 x5 x6 x7:LP) (x8 x9:Int) (x10:LP) (x11 x12:Int) (x13:LP) (x14 x15:Int) (k0:LP→LP→LP→LP→LP→LP→LP→Int→Int→LP→Int→Int→O R):O R:=Ucc n n x1 x2 x3 x4 x5 x6 x7 x8 x9 x10 x11 x12 x13 x14 x15 k0
def UfD (n:Nat) (l0:LP→LP→LP→LP→LP→LP→LP→Int→Int→LP→Int→Int→O R) (x1 x2 x3 x4 x5 x6 x7:LP) (x8 x9:Int) (x10:LP) (x11 x12:Int) (k0:LP→LP→LP→LP→LP→LP→LP→Int→Int→O R):O R :=
 bif (decide (x12<x11)) then (bif (inR x12 ((x10).length)) then (Jiy ((x10).getD ((x12:Int).toNat) (.v (.bool false))) fun a13=>Jep a13 fun h14 t15=>Jkx h14 fun e16=>Jep t15 fun h17 t18=>JkQ h17 fun e19=>JjD t18 (UiT n x1 x2 x3 x4 e16 (fun y20 y21 y22 y23=>Uc9 n y20 y21 y22 y23 ((e19).length:Int) (fun y24 y25 y26 y27=>Ufz n y24 y25 y26 y27 x5 x6 x7 x8 x9 x10 x11 x12 e19 ((e19).length:Int) 0 (fun y28 y29 y30 y31 y32 y33 y34 y35 y36 y37 y38 y39=>l0 y28 y29 y30 y31 y32 y33 y34 y35 y36 y37 y38 (IntKind.i64.wrap (y39 + 1))))))) else none) else (k0 x1 x2 x3 x4 x5 x6 x7 x8 x9)
def Uce (n:Nat):Nat→LP→LP→LP→LP→LP→LP→LP→Int→Int→LP→Int→Int→(LP→LP→LP→LP→LP→LP→LP→Int→Int→O R)→O R
 | 0,_,_,_,_,_,_,_,_,_,_,_,_,_=>none
 | m + 1,x1,x2,x3,x4,x5,x6,x7,x8,x9,x10,x11,x12,k0=>UfD n (fun x1 x2 x3 x4 x5 x6 x7 x8 x9 x10 x11 x12=>Uce n m x1 x2 x3 x4 x5 x6 x7 x8 x9 x10 x11 x12 k0) x1 x2 x3 x4 x5 x6 x7 x8 x9 x10 x11 x12 k0
def Uhn (n:Nat) (x1 x2 x3 x4 x5 x6 x7:LP) (x8 x9:Int) (x10:LP) (x11 x12:Int) (k0:LP→LP→LP→LP→LP→LP→LP→Int→Int→O R):O R:=Uce n n x1 x2 x3 x4 x5 x6 x7 x8 x9 x10 x11 x12 k0
def UcE (n:Nat) (l0:LP→LP→LP→LP→LP→LP→LP→Int→Int→O R) (x1 x2 x3 x4 x5 x6 x7:LP) (x8 x9:Int) (k0:LP→LP→LP→LP→LP→LP→O R):O R :=
 bif (decide (x9<x8)) then (bif (inR x9 ((x7).length)) then (Jiy ((x7).getD ((x9:Int).toNat) (.v (.bool false))) fun a10=>Jep a10 fun h11 t12=>Jkx h11 fun e13=>Jep t12 fun h14 t15=>JkQ h14 fun e16=>JjD t15 (UiT n x1 x2 x3 x4 e13 (fun y17 y18 y19 y20=>Uc9 n y17 y18 y19 y20 ((e16).length:Int) (fun y21 y22 y23 y24=>Uhn n y21 y22 y23 y24 x5 x6 x7 x8 x9 e16 ((e16).length:Int) 0 (fun y25 y26 y27 y28 y29 y30 y31 y32 y33=>l0 y25 y26 y27 y28 y29 y30 y31 y32 (IntKind.i64.wrap (y33 + 1))))))) else none) else (k0 x1 x2 x3 x4 x5 x6)
def Ubb (n:Nat):Nat→LP→LP→LP→LP→LP→LP→LP→Int→Int→(LP→LP→LP→LP→LP→LP→O R)→O R
 | 0,_,_,_,_,_,_,_,_,_,_=>none
 | m + 1,x1,x2,x3,x4,x5,x6,x7,x8,x9,k0=>UcE n (fun x1 x2 x3 x4 x5 x6 x7 x8 x9=>Ubb n m x1 x2 x3 x4 x5 x6 x7 x8 x9 k0) x1 x2 x3 x4 x5 x6 x7 x8 x9 k0
def Ubx (n:Nat) (l0:LP→LP→LP→LP→LP→LP→Int→Int→LP→Int→Int→LP→Int→Int→O R) (x1 x2 x3 x4 x5 x6:LP) (x7 x8:Int) (x9:LP) (x10 x11:Int) (x12:LP) (x13 x14:Int) (k0:LP→LP→LP→LP→LP→LP→Int→Int→LP→Int→Int→O R):O R :=
 bif (decide (x14<x13)) then (bif (inR x14 ((x12).length)) then (Jkw .i64 ((x12).getD ((x14:Int).toNat) (.v (.bool false))) fun e15=>Uj5 n x1 x2 x3 e15 (fun y16 y17 y18=>l0 y16 y17 y18 x4 x5 x6 x7 x8 x9 x10 x11 x12 x13 (IntKind.i64.wrap (x14 + 1)))) else none) else (k0 x1 x2 x3 x4 x5 x6 x7 x8 x9 x10 x11)
def UaP (n:Nat):Nat→LP→LP→LP→LP→LP→LP→Int→Int→LP→Int→Int→LP→Int→Int→(LP→LP→LP→LP→LP→LP→Int→Int→LP→Int→Int→O R)→O R
 | 0,_,_,_,_,_,_,_,_,_,_,_,_,_,_,_=>none
 | m + 1,x1,x2,x3,x4,x5,x6,x7,x8,x9,x10,x11,x12,x13,x14,k0=>Ubx n (fun x1 x2 x3 x4 x5 x6 x7 x8 x9 x10 x11 x12 x13 x14=>UaP n m x1 x2 x3 x4 x5 x6 x7 x8 x9 x10 x11 x12 x13 x14 k0) x1 x2 x3 x4 x5 x6 x7 x8 x9 x10 x11 x12 x13 x14 k0
def UfA (n:Nat) (x1 x2 x3 x4 x5 x6:LP) (x7 x8:Int) (x9:LP) (x10 x11:Int) (x12:LP) (x13 x14:Int) (k0:LP→LP→LP→LP→LP→LP→Int→Int→LP→Int→Int→O R):O R:=UaP n n x1 x2 x3 x4 x5 x6 x7 x8 x9 x10 x11 x12 x13 x14 k0
def UcF (n:Nat) (l0:LP→LP→LP→LP→LP→LP→Int→Int→LP→Int→Int→O R) (l1:LP→LP→LP→LP→LP→LP→LP→Int→Int→LP→Int→Int→O R) (x1 x2 x3 x4 x5 x6:LP) (x7 x8:Int) (x9:LP) (x10 x11:Int) (k0:LP→LP→LP→LP→LP→LP→LP→Int→Int→O R) (k1:LP→LP→LP→LP→LP→LP→Int→Int→O R):O R :=
 bif (decide (x11<x10)) then (bif (inR x11 ((x9).length)) then (Jiy ((x9).getD ((x11:Int).toNat) (.v (.bool false))) fun a12=>Jep a12 fun h13 t14=>Jkx h13 fun e15=>Jep t14 fun h16 t17=>JkQ h16 fun e18=>JjD t17 (p22 n x1 x2 x3 e15 (fun y19 y20 y21 y22=>Uc9 n y19 y20 y21 y22 ((e18).length:Int) (fun y23 y24 y25 y26=>Ufz n y23 y24 y25 y26 x4 x5 x6 x7 x8 x9 x10 x11 e18 ((e18).length:Int) 0 (fun y27 y28 y29 y30 y31 y32 y33 y34 y35 y36 y37 y38=>l1 y27 y28 y29 y30 y31 y32 y33 y34 y35 y36 y37 (IntKind.i64.wrap (y38 + 1))))) (fun y39 y40 y41=>UfH n y39 y40 y41 ((e18).length:Int) (fun y42 y43 y44=>UfA n y42 y43 y44 x4 x5 x6 x7 x8 x9 x10 x11 e18 ((e18).length:Int) 0 (fun y45 y46 y47 y48 y49 y50 y51 y52 y53 y54 y55=>l0 y45 y46 y47 y48 y49 y50 y51 y52 y53 y54 (IntKind.i64.wrap (y55 + 1))))))) else none) else (k1 x1 x2 x3 x4 x5 x6 x7 x8)
def Ubc (n:Nat):Nat→LP→LP→LP→LP→LP→LP→Int→Int→LP→Int→Int→(LP→LP→LP→LP→LP→LP→LP→Int→Int→O R)→(LP→LP→LP→LP→LP→LP→Int→Int→O R)→O R
 | 0,_,_,_,_,_,_,_,_,_,_,_,_,_=>none
 | m + 1,x1,x2,x3,x4,x5,x6,x7,x8,x9,x10,x11,k0,k1=>UcF n (fun x1 x2 x3 x4 x5 x6 x7 x8 x9 x10 x11=>Ubc n m x1 x2 x3 x4 x5 x6 x7 x8 x9 x10 x11 k0 k1) (fun x1 x2 x3 x4 x5 x6 x7 x8 x9 x10 x11 x12=>Uce n m x1 x2 x3 x4 x5 x6 x7 x8 x9 x10 x11 x12 k0) x1 x2 x3 x4 x5 x6 x7 x8 x9 x10 x11 k0 k1
def UgH (n:Nat) (x1 x2 x3 x4 x5 x6:LP) (x7 x8:Int) (x9:LP) (x10 x11:Int) (k0:LP→LP→LP→LP→LP→LP→LP→Int→Int→O R) (k1:LP→LP→LP→LP→LP→LP→Int→Int→O R):O R:=Ubc n n x1 x2 x3 x4 x5 x6 x7 x8 x9 x10 x11 k0 k1
def UfC (n:Nat) (l0:LP→LP→LP→LP→LP→LP→Int→Int→O R) (l1:LP→LP→LP→LP→LP→LP→LP→Int→Int→O R) (x1 x2 x3 x4 x5 x6:LP) (x7 x8:Int) (k0:LP→LP→LP→LP→LP→LP→O R) (k1:LP→LP→LP→LP→LP→O R):O R :=
 bif (decide (x8<x7)) then (bif (inR x8 ((x6).length)) then (Jiy ((x6).getD ((x8:Int).toNat) (.v (.bool false))) fun a9=>Jep a9 fun h10 t11=>Jkx h10 fun e12=>Jep t11 fun h13 t14=>JkQ h13 fun e15=>JjD t14 (p22 n x1 x2 x3 e12 (fun y16 y17 y18 y19=>Uc9 n y16 y17 y18 y19 ((e15).length:Int) (fun y20 y21 y22 y23=>Uhn n y20 y21 y22 y23 x4 x5 x6 x7 x8 e15 ((e15).length:Int) 0 (fun y24 y25 y26 y27 y28 y29 y30 y31 y32=>l1 y24 y25 y26 y27 y28 y29 y30 y31 (IntKind.i64.wrap (y32 + 1))))) (fun y33 y34 y35=>UfH n y33 y34 y35 ((e15).length:Int) (fun y36 y37 y38=>UgH n y36 y37 y38 x4 x5 x6 x7 x8 e15 ((e15).length:Int) 0 (fun y39 y40 y41 y42 y43 y44 y45 y46 y47=>l1 y39 y40 y41 y42 y43 y44 y45 y46 (IntKind.i64.wrap (y47 + 1))) (fun y48 y49 y50 y51 y52 y53 y54 y55=>l0 y48 y49 y50 y51 y52 y53 y54 (IntKind.i64.wrap (y55 + 1))))))) else none) else (k1 x1 x2 x3 x4 x5)
def Uc6 (n:Nat):Nat→LP→LP→LP→LP→LP→LP→Int→Int→(LP→LP→LP→LP→LP→LP→O R)→(LP→LP→LP→LP→LP→O R)→O R
 | 0,_,_,_,_,_,_,_,_,_,_=>none
 | m + 1,x1,x2,x3,x4,x5,x6,x7,x8,k0,k1=>UfC n (fun x1 x2 x3 x4 x5 x6 x7 x8=>Uc6 n m x1 x2 x3 x4 x5 x6 x7 x8 k0 k1) (fun x1 x2 x3 x4 x5 x6 x7 x8 x9=>Ubb n m x1 x2 x3 x4 x5 x6 x7 x8 x9 k0) x1 x2 x3 x4 x5 x6 x7 x8 k0 k1
def Uj2 (n:Nat) (x1 x2 x3 x4 x5 x6:LP) (x7 x8:Int) (k0:LP→LP→LP→LP→LP→LP→O R) (k1:LP→LP→LP→LP→LP→O R):O R:=Uc6 n n x1 x2 x3 x4 x5 x6 x7 x8 k0 k1
def UdP (n:Nat) (l0:LP→LP→LP→LP→LP→Int→Int→O R) (x1 x2 x3 x4 x5:LP) (x6 x7:Int) (k0:LP→LP→LP→LP→O R):O R :=
 bif (decide (x7<x6)) then (bif (inR x7 ((x5).length)) then (Jiy ((x5).getD ((x7:Int).toNat) (.v (.bool false))) fun a8=>Jep a8 fun h9 t10=>Jkx h9 fun e11=>Jep t10 fun h12 t13=>JkQ h12 fun e14=>Jep t13 fun h15 t16=>Jkw .i64 h15 fun e17=>Jep t16 fun h18 t19=>JkQ h18 fun e20=>Jep t19 fun h21 t22=>Jkx h21 fun e23=>Jep t22 fun h24 t25=>JkQ h24 fun e26=>Jep t25 fun h27 t28=>Jkx h27 fun e29=>Jep t28 fun h30 t31=>JkQ h30 fun e32=>Jep t31 fun h33 t34=>Jkv h33 fun e35=>JjD t34 (none)) else none) else (k0 x1 x2 x3 x4)
def Ucd (n:Nat):Nat→LP→LP→LP→LP→LP→Int→Int→(LP→LP→LP→LP→O R)→O R
 | 0,_,_,_,_,_,_,_,_=>none
 | m + 1,x1,x2,x3,x4,x5,x6,x7,k0=>UdP n (fun x1 x2 x3 x4 x5 x6 x7=>Ucd n m x1 x2 x3 x4 x5 x6 x7 k0) x1 x2 x3 x4 x5 x6 x7 k0
def UiR (n:Nat) (x1 x2 x3 x4 x5:LP) (x6 x7:Int) (k0:LP→LP→LP→LP→O R):O R:=Ucd n n x1 x2 x3 x4 x5 x6 x7 k0
def Uby (n:Nat) (l0:LP→LP→LP→LP→Int→Int→O R) (x1 x2 x3 x4:LP) (x5 x6:Int) (k0:LP→LP→LP→O R):O R :=
 bif (decide (x6<x5)) then (bif (inR x6 ((x4).length)) then (Jiy ((x4).getD ((x6:Int).toNat) (.v (.bool false))) fun a7=>Jep a7 fun h8 t9=>Jkx h8 fun e10=>Jep t9 fun h11 t12=>JkQ h11 fun e13=>Jep t12 fun h14 t15=>Jkw .i64 h14 fun e16=>Jep t15 fun h17 t18=>JkQ h17 fun e19=>Jep t18 fun h20 t21=>Jkx h20 fun e22=>Jep t21 fun h23 t24=>JkQ h23 fun e25=>Jep t24 fun h26 t27=>Jkx h26 fun e28=>Jep t27 fun h29 t30=>JkQ h29 fun e31=>Jep t30 fun h32 t33=>Jkv h32 fun e34=>JjD t33 (none)) else none) else (k0 x1 x2 x3)
def UaQ (n:Nat):Nat→LP→LP→LP→LP→Int→Int→(LP→LP→LP→O R)→O R
 | 0,_,_,_,_,_,_,_=>none
 | m + 1,x1,x2,x3,x4,x5,x6,k0=>Uby n (fun x1 x2 x3 x4 x5 x6=>UaQ n m x1 x2 x3 x4 x5 x6 k0) x1 x2 x3 x4 x5 x6 k0
def UfB (n:Nat) (x1 x2 x3 x4:LP) (x5 x6:Int) (k0:LP→LP→LP→O R):O R:=UaQ n n x1 x2 x3 x4 x5 x6 k0
def p11 (n:Nat) (x1 x2 x3 x4:LP) (k0:LP→LP→LP→LP→O R) (k1:LP→LP→LP→O R):O R :=
 p21 n x1 x2 ((x3).length:Int) (fun y5 y6 y7=>Uj2 n y5 y6 y7 x3 x4 x3 ((x3).length:Int) 0 (fun y8 y9 y10 y11 y12 y13=>Uc9 n y8 y9 y10 y11 ((y13).length:Int) (fun y14 y15 y16 y17=>UiR n y14 y15 y16 y17 y13 ((y13).length:Int) 0 (fun y18 y19 y20 y21=>k0 y18 y19 y20 y21))) (fun y22 y23 y24 y25 y26=>UfH n y22 y23 y24 ((y26).length:Int) (fun y27 y28 y29=>UfB n y27 y28 y29 y26 ((y26).length:Int) 0 (fun y30 y31 y32=>k1 y30 y31 y32))))
abbrev E11 (n:Nat):Code→Fr→Kc R→O R:=evC Tryz.prog (Ua7 n) Ua n (78,[0])
noncomputable def Ucw:Code:=Jkz (Jlv Tryz.f11) [1,1,0,1,0,0]
abbrev Uak:Sl (List SV):=(.c (sBx 50 (cO 5 (.c (sMp none) (cO 9 .n)))) (.c (sBx 40 (cH (cH .n))) (cH (cI (cI .n)))))
abbrev Uax:Sl (List SV):=(.c (sBx 50 (cO 5 (.c (sMp none) (.c sNl .n)))) (.c (sBx 40 (cH (cH .n))) (cH (cI (cI .n)))))
abbrev Ua8 (n m:Nat) (K:Kc R):Uak.T (O R):=fun x1 x2 x3 x4 x5 x6 x7 x8 x9=>Ubb n m x1 x2 x3 x4 x5 x6 x7 x8 x9 (fun y1 y2 y3 y4 y5 y6=>xL Ua 3 K (.exit 0) [.bx 50 [.own 5 y1,.mp none y2 y3,.own 9 y4],.bx 40 [vH y5,vH y6]])
abbrev UhU (n:Nat) (K:Kc R) (l0:Uak.T (O R)):Uak.T (O R):=fun x1 x2 x3 x4 x5 x6 x7 x8 x9=>UcE n l0 x1 x2 x3 x4 x5 x6 x7 x8 x9 (fun y1 y2 y3 y4 y5 y6=>xL Ua 3 K (.exit 0) [.bx 50 [.own 5 y1,.mp none y2 y3,.own 9 y4],.bx 40 [vH y5,vH y6]])
abbrev UbY (n m:Nat) (K:Kc R):Uax.T (O R):=fun x1 x2 x3 x4 x5 x6 x7 x8=>Uc6 n m x1 x2 x3 x4 x5 x6 x7 x8 (fun y1 y2 y3 y4 y5 y6=>xL Ua 3 K (.exit 0) [.bx 50 [.own 5 y1,.mp none y2 y3,.own 9 y4],.bx 40 [vH y5,vH y6]]) (fun y1 y2 y3 y4 y5=>xL Ua 3 K (.exit 0) [.bx 50 [.own 5 y1,.mp none y2 y3,.nl],.bx 40 [vH y4,vH y5]])
abbrev UhV (n:Nat) (K:Kc R) (l0:Uax.T (O R)) (l1:Uak.T (O R)):Uax.T (O R):=fun x1 x2 x3 x4 x5 x6 x7 x8=>UfC n l0 l1 x1 x2 x3 x4 x5 x6 x7 x8 (fun y1 y2 y3 y4 y5 y6=>xL Ua 3 K (.exit 0) [.bx 50 [.own 5 y1,.mp none y2 y3,.own 9 y4],.bx 40 [vH y5,vH y6]]) (fun y1 y2 y3 y4 y5=>xL Ua 3 K (.exit 0) [.bx 50 [.own 5 y1,.mp none y2 y3,.nl],.bx 40 [vH y4,vH y5]])
noncomputable def Ucx:Code:=Jkz (Jlv Tryz.f11) [1,1,0,1,0,0,1,1,0,0,1,1,1,1,0,0]
abbrev Ual:Sl (List SV):=(.c (sBx 50 (cO 5 (.c (sMp none) (cO 9 .n)))) (.c (sBx 40 (cH (cH .n))) (cH (cI (cI (cH (cI (cI .n))))))))
abbrev Uay:Sl (List SV):=(.c (sBx 50 (cO 5 (.c (sMp none) (.c sNl .n)))) (.c (sBx 40 (cH (cH .n))) (cH (cI (cI (cH (cI (cI .n))))))))
abbrev Ua9 (n m:Nat) (K:Kc R):Ual.T (O R):=fun x1 x2 x3 x4 x5 x6 x7 x8 x9 x10 x11 x12=>Uce n m x1 x2 x3 x4 x5 x6 x7 x8 x9 x10 x11 x12 (fun y1 y2 y3 y4 y5 y6 y7 y8 y9=>xL Ua 8 K (.exit 2) [.bx 50 [.own 5 y1,.mp none y2 y3,.own 9 y4],.bx 40 [vH y5,vH y6],vH y7,vI y8,vI y9])
abbrev UhW (n:Nat) (K:Kc R) (l0:Ual.T (O R)):Ual.T (O R):=fun x1 x2 x3 x4 x5 x6 x7 x8 x9 x10 x11 x12=>UfD n l0 x1 x2 x3 x4 x5 x6 x7 x8 x9 x10 x11 x12 (fun y1 y2 y3 y4 y5 y6 y7 y8 y9=>xL Ua 8 K (.exit 2) [.bx 50 [.own 5 y1,.mp none y2 y3,.own 9 y4],.bx 40 [vH y5,vH y6],vH y7,vI y8,vI y9])
abbrev UbZ (n m:Nat) (K:Kc R):Uay.T (O R):=fun x1 x2 x3 x4 x5 x6 x7 x8 x9 x10 x11=>Ubc n m x1 x2 x3 x4 x5 x6 x7 x8 x9 x10 x11 (fun y1 y2 y3 y4 y5 y6 y7 y8 y9=>xL Ua 8 K (.exit 2) [.bx 50 [.own 5 y1,.mp none y2 y3,.own 9 y4],.bx 40 [vH y5,vH y6],vH y7,vI y8,vI y9]) (fun y1 y2 y3 y4 y5 y6 y7 y8=>xL Ua 8 K (.exit 2) [.bx 50 [.own 5 y1,.mp none y2 y3,.nl],.bx 40 [vH y4,vH y5],vH y6,vI y7,vI y8])
abbrev UhX (n:Nat) (K:Kc R) (l0:Uay.T (O R)) (l1:Ual.T (O R)):Uay.T (O R):=fun x1 x2 x3 x4 x5 x6 x7 x8 x9 x10 x11=>UcF n l0 l1 x1 x2 x3 x4 x5 x6 x7 x8 x9 x10 x11 (fun y1 y2 y3 y4 y5 y6 y7 y8 y9=>xL Ua 8 K (.exit 2) [.bx 50 [.own 5 y1,.mp none y2 y3,.own 9 y4],.bx 40 [vH y5,vH y6],vH y7,vI y8,vI y9]) (fun y1 y2 y3 y4 y5 y6 y7 y8=>xL Ua 8 K (.exit 2) [.bx 50 [.own 5 y1,.mp none y2 y3,.nl],.bx 40 [vH y4,vH y5],vH y6,vI y7,vI y8])
noncomputable def Ua3:Code:=Jkz (Jlv Tryz.f11) [1,1,0,1,0,0,1,1,0,0,1,1,1,1,0,0,1,1,0,0,1,1,1,1,0,0]
abbrev Uag:Sl (List SV):=(.c (sBx 50 (cO 5 (.c (sMp none) (cO 9 .n)))) (.c (sBx 40 (cH (cH .n))) (cH (cI (cI (cH (cI (cI (cH (cI (cI .n)))))))))))
abbrev Uah:Sl (List SV):=(.c (sBx 50 (cO 5 (.c (sMp none) (.c sNl .n)))) (.c (sBx 40 (cH (cH .n))) (cH (cI (cI (cH (cI (cI (cH (cI (cI .n)))))))))))
abbrev UaT (n m:Nat) (K:Kc R):Uag.T (O R):=fun x1 x2 x3 x4 x5 x6 x7 x8 x9 x10 x11 x12 x13 x14 x15=>Ucc n m x1 x2 x3 x4 x5 x6 x7 x8 x9 x10 x11 x12 x13 x14 x15 (fun y1 y2 y3 y4 y5 y6 y7 y8 y9 y10 y11 y12=>xL Ua 13 K (.exit 4) [.bx 50 [.own 5 y1,.mp none y2 y3,.own 9 y4],.bx 40 [vH y5,vH y6],vH y7,vI y8,vI y9,vH y10,vI y11,vI y12])
abbrev Ugs (n:Nat) (K:Kc R) (l0:Uag.T (O R)):Uag.T (O R):=fun x1 x2 x3 x4 x5 x6 x7 x8 x9 x10 x11 x12 x13 x14 x15=>UdO n l0 x1 x2 x3 x4 x5 x6 x7 x8 x9 x10 x11 x12 x13 x14 x15 (fun y1 y2 y3 y4 y5 y6 y7 y8 y9 y10 y11 y12=>xL Ua 13 K (.exit 4) [.bx 50 [.own 5 y1,.mp none y2 y3,.own 9 y4],.bx 40 [vH y5,vH y6],vH y7,vI y8,vI y9,vH y10,vI y11,vI y12])
abbrev UaU (n m:Nat) (K:Kc R):Uah.T (O R):=fun x1 x2 x3 x4 x5 x6 x7 x8 x9 x10 x11 x12 x13 x14=>UaP n m x1 x2 x3 x4 x5 x6 x7 x8 x9 x10 x11 x12 x13 x14 (fun y1 y2 y3 y4 y5 y6 y7 y8 y9 y10 y11=>xL Ua 13 K (.exit 4) [.bx 50 [.own 5 y1,.mp none y2 y3,.nl],.bx 40 [vH y4,vH y5],vH y6,vI y7,vI y8,vH y9,vI y10,vI y11])
abbrev Ugt (n:Nat) (K:Kc R) (l0:Uah.T (O R)):Uah.T (O R):=fun x1 x2 x3 x4 x5 x6 x7 x8 x9 x10 x11 x12 x13 x14=>Ubx n l0 x1 x2 x3 x4 x5 x6 x7 x8 x9 x10 x11 x12 x13 x14 (fun y1 y2 y3 y4 y5 y6 y7 y8 y9 y10 y11=>xL Ua 13 K (.exit 4) [.bx 50 [.own 5 y1,.mp none y2 y3,.nl],.bx 40 [vH y4,vH y5],vH y6,vI y7,vI y8,vH y9,vI y10,vI y11])
noncomputable def Ua4:Code:=Jkz (Jlv Tryz.f11) [1,1,1,1,1,0,0]
abbrev Uai:Sl (List SV):=(.c (sBx 50 (cO 5 (.c (sMp none) (cO 9 .n)))) (cH (cI (cI .n))))
abbrev Uaj:Sl (List SV):=(.c (sBx 50 (cO 5 (.c (sMp none) (.c sNl .n)))) (cH (cI (cI .n))))
abbrev UaV (n m:Nat) (K:Kc R):Uai.T (O R):=fun x1 x2 x3 x4 x5 x6 x7=>Ucd n m x1 x2 x3 x4 x5 x6 x7 (fun y1 y2 y3 y4=>xL Ua 21 K (.exit 6) [.bx 50 [.own 5 y1,.mp none y2 y3,.own 9 y4]])
abbrev Ugu (n:Nat) (K:Kc R) (l0:Uai.T (O R)):Uai.T (O R):=fun x1 x2 x3 x4 x5 x6 x7=>UdP n l0 x1 x2 x3 x4 x5 x6 x7 (fun y1 y2 y3 y4=>xL Ua 21 K (.exit 6) [.bx 50 [.own 5 y1,.mp none y2 y3,.own 9 y4]])
abbrev UaW (n m:Nat) (K:Kc R):Uaj.T (O R):=fun x1 x2 x3 x4 x5 x6=>UaQ n m x1 x2 x3 x4 x5 x6 (fun y1 y2 y3=>xL Ua 21 K (.exit 6) [.bx 50 [.own 5 y1,.mp none y2 y3,.nl]])
abbrev Ugv (n:Nat) (K:Kc R) (l0:Uaj.T (O R)):Uaj.T (O R):=fun x1 x2 x3 x4 x5 x6=>Uby n l0 x1 x2 x3 x4 x5 x6 (fun y1 y2 y3=>xL Ua 21 K (.exit 6) [.bx 50 [.own 5 y1,.mp none y2 y3,.nl]])
abbrev Ucr (n:Nat):Orc R:=fun i vs K=>JgZ (Nat.beq i 21) (JjK (Uai.ap vs (UaV n n K)) (JjK (Uaj.ap vs (UaW n n K)) (Jc2 Ua 21 (E11 n Ua4) n vs K))) ((fun i vs K=>JgZ (Nat.beq i 13) (JjK (Uag.ap vs (UaT n n K)) (JjK (Uah.ap vs (UaU n n K)) (Jc2 Ua 13 (E11 n Ua3) n vs K))) ((fun i vs K=>JgZ (Nat.beq i 8) (JjK (Ual.ap vs (Ua9 n n K)) (JjK (Uay.ap vs (UbZ n n K)) (Jc2 Ua 8 (E11 n Ucx) n vs K))) ((fun i vs K=>JgZ (Nat.beq i 3) (JjK (Uak.ap vs (Ua8 n n K)) (JjK (Uax.ap vs (UbY n n K)) (Jc2 Ua 3 (E11 n Ucw) n vs K))) (oN i vs K)) i vs K)) i vs K)) i vs K)
abbrev Ucq (n:Nat):Orc R:=oN
abbrev K11 (R:Type) (n:Nat):=Jd (R:=R) Tryz.prog (Ua7 n) Ua n (78,[0]) (Ucr n) (Ucq n)
theorem Ud4 (n:Nat):JfF (K11 R n) (JaS Ua Ua3):=pO pN (by kernel_rfl)
theorem UgA (n:Nat):∀ m (K:Kc R),Uag.all (fun vs r=>Jc2 Ua 13 (Jdo Tryz.prog (Ua7 n) Ua (78,[0]) (Ucr n) (Ucq n) Ua3) m vs K=r) (UaT n m K):=Jji (F:=UaT n) Uag (Ugs n) (fun K _ _ _ _ _ _ _ _ _ _ _ _ _ _ _=>rfl) (fun _ _=>rfl) (fun L K _ _ _ _ _ _ _ _ _ _ _ _ _ _ _=>by show _=_; kernel_rfl)
theorem UgB (n:Nat):∀ m (K:Kc R),Uah.all (fun vs r=>Jc2 Ua 13 (Jdo Tryz.prog (Ua7 n) Ua (78,[0]) (Ucr n) (Ucq n) Ua3) m vs K=r) (UaU n m K):=Jji (F:=UaU n) Uah (Ugt n) (fun K _ _ _ _ _ _ _ _ _ _ _ _ _ _=>rfl) (fun _ _=>rfl) (fun L K _ _ _ _ _ _ _ _ _ _ _ _ _ _=>by show _=_; kernel_rfl)
theorem UiW (n:Nat):K11 R n (false,13,Ua3):=Jk4 (lo:=Ucr n) (cu:=Ucq n) (Ud4 n) Uag (UaT n n) (UgA n n) (Jk4 (lo:=Ucr n) (cu:=Ucq n) (Ud4 n) Uah (UaU n n) (UgB n n) fun _ _=>rfl)
theorem Uf4 (n:Nat):JfF (K11 R n) (JaS Ua Ucx):=pO (pC (UiW n) pN) (by kernel_rfl)
theorem Uey (n:Nat):∀ m (K:Kc R),Ual.all (fun vs r=>Jc2 Ua 8 (Jdo Tryz.prog (Ua7 n) Ua (78,[0]) (Ucr n) (Ucq n) Ucx) m vs K=r) (Ua9 n m K):=Jji (F:=Ua9 n) Ual (UhW n) (fun K _ _ _ _ _ _ _ _ _ _ _ _=>rfl) (fun _ _=>rfl) (fun L K _ _ _ _ _ _ _ _ _ _ _ _=>by show _=_; kernel_rfl)
theorem Uii (n:Nat):∀ m (K:Kc R),Uay.all (fun vs r=>Jc2 Ua 8 (Jdo Tryz.prog (Ua7 n) Ua (78,[0]) (Ucr n) (Ucq n) Ucx) m vs K=r) (UbZ n m K):=Jh2 (F1:=Ua9 n) (F:=UbZ n) Uay Ual (UhX n) (fun K _ _ _ _ _ _ _ _ _ _ _=>rfl) (fun _ _=>rfl) (Uey n) (fun L K _ _ _ _ _ _ _ _ _ _ _=>by show _=_; kernel_rfl)
theorem Uky (n:Nat):K11 R n (false,8,Ucx):=Jk4 (lo:=Ucr n) (cu:=Ucq n) (Uf4 n) Ual (Ua9 n n) (Uey n n) (Jk4 (lo:=Ucr n) (cu:=Ucq n) (Uf4 n) Uay (UbZ n n) (Uii n n) fun _ _=>rfl)
theorem Uf3 (n:Nat):JfF (K11 R n) (JaS Ua Ucw):=pO (pC (Uky n) pN) (by kernel_rfl)
theorem Uex (n:Nat):∀ m (K:Kc R),Uak.all (fun vs r=>Jc2 Ua 3 (Jdo Tryz.prog (Ua7 n) Ua (78,[0]) (Ucr n) (Ucq n) Ucw) m vs K=r) (Ua8 n m K):=Jji (F:=Ua8 n) Uak (UhU n) (fun K _ _ _ _ _ _ _ _ _=>rfl) (fun _ _=>rfl) (fun L K _ _ _ _ _ _ _ _ _=>by show _=_; kernel_rfl)
theorem Uih (n:Nat):∀ m (K:Kc R),Uax.all (fun vs r=>Jc2 Ua 3 (Jdo Tryz.prog (Ua7 n) Ua (78,[0]) (Ucr n) (Ucq n) Ucw) m vs K=r) (UbY n m K):=Jh2 (F1:=Ua8 n) (F:=UbY n) Uax Uak (UhV n) (fun K _ _ _ _ _ _ _ _=>rfl) (fun _ _=>rfl) (Uex n) (fun L K _ _ _ _ _ _ _ _=>by show _=_; kernel_rfl)
theorem Ukx (n:Nat):K11 R n (false,3,Ucw):=Jk4 (lo:=Ucr n) (cu:=Ucq n) (Uf3 n) Uak (Ua8 n n) (Uex n n) (Jk4 (lo:=Ucr n) (cu:=Ucq n) (Uf3 n) Uax (UbY n n) (Uih n n) fun _ _=>rfl)
theorem Ud5 (n:Nat):JfF (K11 R n) (JaS Ua Ua4):=pO pN (by kernel_rfl)
theorem UgC (n:Nat):∀ m (K:Kc R),Uai.all (fun vs r=>Jc2 Ua 21 (Jdo Tryz.prog (Ua7 n) Ua (78,[0]) (Ucr n) (Ucq n) Ua4) m vs K=r) (UaV n m K):=Jji (F:=UaV n) Uai (Ugu n) (fun K _ _ _ _ _ _ _=>rfl) (fun _ _=>rfl) (fun L K _ _ _ _ _ _ _=>by show _=_; kernel_rfl)
theorem UgD (n:Nat):∀ m (K:Kc R),Uaj.all (fun vs r=>Jc2 Ua 21 (Jdo Tryz.prog (Ua7 n) Ua (78,[0]) (Ucr n) (Ucq n) Ua4) m vs K=r) (UaW n m K):=Jji (F:=UaW n) Uaj (Ugv n) (fun K _ _ _ _ _ _=>rfl) (fun _ _=>rfl) (fun L K _ _ _ _ _ _=>by show _=_; kernel_rfl)
theorem UiX (n:Nat):K11 R n (false,21,Ua4):=Jk4 (lo:=Ucr n) (cu:=Ucq n) (Ud5 n) Uai (UaV n n) (UgC n n) (Jk4 (lo:=Ucr n) (cu:=Ucq n) (Ud5 n) Uaj (UaW n n) (UgD n n) fun _ _=>rfl)
theorem Uo7 (n:Nat):JfF (K11 R n) (JaS Ua (Jlv Tryz.f11)):=pO (pC (Ukx n) (pC (UiX n) pN)) (by kernel_rfl)
abbrev t11:Sl (List SV):=(.c (sBx 50 (.c sNl (.c (sMp none) (.c sNl .n)))) (.c (sP (JlB (.c sSh (.c sSh .n)))) .n))
abbrev f11 (n:Nat) (K:List SV→O R):t11.T (O R):=fun x1 x2 x3 x4=>p11 n x1 x2 x3 x4 (fun y1 y2 y3 y4=>K [.bx 50 [.own 5 y1,.mp none y2 y3,.own 9 y4]]) (fun y1 y2 y3=>K [.bx 50 [.own 5 y1,.mp none y2 y3,.nl]])
abbrev Unz (n:Nat):FS:=fT [true,false] t11 (f11 n)
theorem UoC (n:Nat):FSound Tryz.prog GI 11 (Unz n):=gd Ua n (UeG n) Tryz.func11 (.cons (UeG n) t11 (f11 n) (@fun R K _ _ _ _=>by show _=_; exact (JkP (lo:=Ucr n) (cu:=Ucq n) (c:=Jlv Tryz.f11) (by kernel_rfl) (Uo7 (R:=R) n) K).trans (by kernel_rfl)) .nil) (by kernel_rfl)
def UhC:Ann:={ loops:=[],cuts:=[],frz:=[],rm:=[.id] }
abbrev UjB (n:Nat):Env:=eC 5 (fs5 n) eN
theorem UeH (n:Nat):EnvOK Tryz.prog GI (UjB n):=.cons (.nil) (ok5 n)
def p13 (n:Nat) (x1:LP) (k0:ByteArray→O R):O R :=
 bif (JeY x1) then (p5 n (Jhn x1) (fun y2=>bif decide ((24:Int)<0) then none else (let v3:=Int.fdiv y2 (2 ^ (min ((24:Int)).toNat IntKind.u32.bits)); bif decide ((16:Int)<0) then none else (let v4:=Int.fdiv y2 (2 ^ (min ((16:Int)).toNat IntKind.u32.bits)); bif decide ((8:Int)<0) then none else (let v5:=Int.fdiv y2 (2 ^ (min ((8:Int)).toNat IntKind.u32.bits)); bif (Ja7 ((x1).length + 4) 1) then (bif (JeY (x1++([.v (.int .u8 (IntKind.u8.wrap (v3))),.v (.int .u8 (IntKind.u8.wrap (v4))),.v (.int .u8 (IntKind.u8.wrap (v5))),.v (.int .u8 (IntKind.u8.wrap (y2)))]:LP))) then (k0 (Jhn (x1++([.v (.int .u8 (IntKind.u8.wrap (v3))),.v (.int .u8 (IntKind.u8.wrap (v4))),.v (.int .u8 (IntKind.u8.wrap (v5))),.v (.int .u8 (IntKind.u8.wrap (y2)))]:LP)))) else none) else none))))) else none
abbrev Un3 (n:Nat):Orc R:=oN
abbrev UmO (n:Nat):Orc R:=oN
abbrev K13 (R:Type) (n:Nat):=Jd (R:=R) Tryz.prog (UjB n) UhC n (22,[]) (Un3 n) (UmO n)
theorem Uo8 (n:Nat):JfF (K13 R n) (JaS UhC (Jlv Tryz.f13)):=pO pN (by kernel_rfl)
abbrev t13:Sl (List SV):=(cO 5 .n)
abbrev f13 (n:Nat) (K:List SV→O R):t13.T (O R):=fun x1=>p13 n x1 (fun y1=>K [vS y1])
abbrev UlK (n:Nat):FS:=fT [true] t13 (f13 n)
theorem Uoh (n:Nat):FSound Tryz.prog GI 13 (UlK n):=gd UhC n (UeH n) Tryz.func13 (.cons (UeH n) t13 (f13 n) (@fun R K _=>by show _=_; exact (JkP (lo:=Un3 n) (cu:=UmO n) (c:=Jlv Tryz.f13) (by kernel_rfl) (Uo8 (R:=R) n) K).trans (by kernel_rfl)) .nil) (by kernel_rfl)
def UdH:Ann:={ loops:=[(8,ids [5,6,33,34,35],ids [2,3,5,6])],cuts:=[],frz:=[1000022,5000005,5000016,7000033],rm:=[.id,.id] }
abbrev UjT (n:Nat):Env:=eC 13 (UlK n) (eC 12 (Ulg n) (eC 11 (Unz n) (eC 10 (UlJ n) eN)))
theorem Uhe (n:Nat):EnvOK Tryz.prog GI (UjT n):=.cons (.cons (.cons (.cons (.nil) (Uog n)) (UoC n)) (UlX n)) (Uoh n)
def Uhz (n:Nat) (l0:LP→LP→LP→LP→LP→LP→Int→Int→O R) (x1 x2 x3 x4 x5 x6:LP) (x7 x8:Int) (k0:LP→LP→LP→LP→LP→O R):O R :=
 bif (decide (x8<x7)) then (bif (inR x8 ((x6).length)) then (Jkx ((x6).getD ((x8:Int).toNat) (.v (.bool false))) fun e9=>let v10:=IntKind.u64.wrap (((e9).size:Int)); Ucf n x5 v10 (fun y11=>bif (Ja7 ((y11).length + (e9).size) 1) then (l0 x1 x2 x3 x4 (y11++(JaA e9)) x6 x7 (IntKind.i64.wrap (x8 + 1))) else none)) else none) else (k0 x1 x2 x3 x4 x5)
def Uf2 (n:Nat):Nat→LP→LP→LP→LP→LP→LP→Int→Int→(LP→LP→LP→LP→LP→O R)→O R
 | 0,_,_,_,_,_,_,_,_,_=>none
 | m + 1,x1,x2,x3,x4,x5,x6,x7,x8,k0=>Uhz n (fun x1 x2 x3 x4 x5 x6 x7 x8=>Uf2 n m x1 x2 x3 x4 x5 x6 x7 x8 k0) x1 x2 x3 x4 x5 x6 x7 x8 k0
def Ul4 (n:Nat) (x1 x2 x3 x4 x5 x6:LP) (x7 x8:Int) (k0:LP→LP→LP→LP→LP→O R):O R:=Uf2 n n x1 x2 x3 x4 x5 x6 x7 x8 k0
def Ud3 (n:Nat) (l0:LP→LP→LP→LP→LP→Int→Int→O R) (x1 x2 x3 x4 x5:LP) (x6 x7:Int) (k0:LP→LP→LP→LP→O R):O R :=
 bif (decide (x7<x6)) then (bif (inR x7 ((x5).length)) then (Jkx ((x5).getD ((x7:Int).toNat) (.v (.bool false))) fun e8=>let v9:=IntKind.u64.wrap (((e8).size:Int)); Ucf n x4 v9 (fun y10=>bif (Ja7 ((y10).length + (e8).size) 1) then (l0 x1 x2 x3 (y10++(JaA e8)) x5 x6 (IntKind.i64.wrap (x7 + 1))) else none)) else none) else (k0 x1 x2 x3 x4)
def Ucl (n:Nat):Nat→LP→LP→LP→LP→LP→Int→Int→(LP→LP→LP→LP→O R)→O R
 | 0,_,_,_,_,_,_,_,_=>none
 | m + 1,x1,x2,x3,x4,x5,x6,x7,k0=>Ud3 n (fun x1 x2 x3 x4 x5 x6 x7=>Ucl n m x1 x2 x3 x4 x5 x6 x7 k0) x1 x2 x3 x4 x5 x6 x7 k0
def UiV (n:Nat) (x1 x2 x3 x4 x5:LP) (x6 x7:Int) (k0:LP→LP→LP→LP→O R):O R:=Ucl n n x1 x2 x3 x4 x5 x6 x7 k0
def p7 (n:Nat) (x1 x2:LP) (k0:ByteArray→Int→O R):O R :=
 p10 n x1 x2 (fun y3=>bif (y3 != 0) then (k0 ⟨#[]⟩ y3) else (p11 n [] [] x1 x2 (fun y4 y5 y6 y7=>let v8:=IntKind.u64.wrap (((y7).length:Int)); Ucf n ([.v (.int .u8 67),.v (.int .u8 76),.v (.int .u8 76),.v (.int .u8 82),.v (.int .u8 1)]:LP) v8 (fun y9=>Ul4 n y4 y5 y6 y7 y9 y7 ((y7).length:Int) 0 (fun y10 y11 y12 y13 y14=>bif (Ja7 ((y14).length + (y10).length) 1) then (p13 n (y14++y10) (fun y15=>bif (decide (((y15).size:Int)>1048576)) then (k0 ⟨#[]⟩ 5) else (k0 y15 0))) else none))) (fun y16 y17 y18=>Ucf n ([.v (.int .u8 67),.v (.int .u8 76),.v (.int .u8 76),.v (.int .u8 82),.v (.int .u8 1)]:LP) (IntKind.u64.wrap (0)) (fun y19=>UiV n y16 y17 y18 y19 [] (([]:LP).length:Int) 0 (fun y20 y21 y22 y23=>bif (Ja7 ((y23).length + (y20).length) 1) then (p13 n (y23++y20) (fun y24=>bif (decide (((y24).size:Int)>1048576)) then (k0 ⟨#[]⟩ 5) else (k0 y24 0))) else none)))))
abbrev E7 (n:Nat):Code→Fr→Kc R→O R:=evC Tryz.prog (UjT n) UdH n (58,[])
noncomputable def Uew:Code:=Jkz (Jlv Tryz.f7) [1,1,1,1,1,0,1,0,0]
abbrev Ubo:Sl (List SV):=(.c (sBx 50 (cO 5 (.c (sMp none) (cH .n)))) (cO 5 (cH (cI (cI .n)))))
abbrev Ubp:Sl (List SV):=(.c (sBx 50 (cO 5 (.c (sMp none) (.c sNl .n)))) (cO 5 (cH (cI (cI .n)))))
abbrev UdL (n m:Nat) (K:Kc R):Ubo.T (O R):=fun x1 x2 x3 x4 x5 x6 x7 x8=>Uf2 n m x1 x2 x3 x4 x5 x6 x7 x8 (fun y1 y2 y3 y4 y5=>xL UdH 8 K (.exit 0) [dD,dD,.bx 50 [.own 5 y1,.mp none y2 y3,vH y4],.own 5 y5])
abbrev Ujn (n:Nat) (K:Kc R) (l0:Ubo.T (O R)):Ubo.T (O R):=fun x1 x2 x3 x4 x5 x6 x7 x8=>Uhz n l0 x1 x2 x3 x4 x5 x6 x7 x8 (fun y1 y2 y3 y4 y5=>xL UdH 8 K (.exit 0) [dD,dD,.bx 50 [.own 5 y1,.mp none y2 y3,vH y4],.own 5 y5])
abbrev UdM (n m:Nat) (K:Kc R):Ubp.T (O R):=fun x1 x2 x3 x4 x5 x6 x7=>Ucl n m x1 x2 x3 x4 x5 x6 x7 (fun y1 y2 y3 y4=>xL UdH 8 K (.exit 0) [dD,dD,.bx 50 [.own 5 y1,.mp none y2 y3,.nl],.own 5 y4])
abbrev Ujo (n:Nat) (K:Kc R) (l0:Ubp.T (O R)):Ubp.T (O R):=fun x1 x2 x3 x4 x5 x6 x7=>Ud3 n l0 x1 x2 x3 x4 x5 x6 x7 (fun y1 y2 y3 y4=>xL UdH 8 K (.exit 0) [dD,dD,.bx 50 [.own 5 y1,.mp none y2 y3,.nl],.own 5 y4])
abbrev lo7 (n:Nat):Orc R:=fun i vs K=>JgZ (Nat.beq i 8) (JjK (Ubo.ap vs (UdL n n K)) (JjK (Ubp.ap vs (UdM n n K)) (Jc2 UdH 8 (E7 n Uew) n vs K))) (oN i vs K)
abbrev cu7 (n:Nat):Orc R:=oN
abbrev K7 (R:Type) (n:Nat):=Jd (R:=R) Tryz.prog (UjT n) UdH n (58,[]) (lo7 n) (cu7 n)
theorem UhA (n:Nat):JfF (K7 R n) (JaS UdH Uew):=pO pN (by kernel_rfl)
theorem Ujz (n:Nat):∀ m (K:Kc R),Ubo.all (fun vs r=>Jc2 UdH 8 (Jdo Tryz.prog (UjT n) UdH (58,[]) (lo7 n) (cu7 n) Uew) m vs K=r) (UdL n m K):=Jji (F:=UdL n) Ubo (Ujn n) (fun K _ _ _ _ _ _ _ _=>rfl) (fun _ _=>rfl) (fun L K _ _ _ _ _ _ _ _=>by show _=_; kernel_rfl)
theorem UjA (n:Nat):∀ m (K:Kc R),Ubp.all (fun vs r=>Jc2 UdH 8 (Jdo Tryz.prog (UjT n) UdH (58,[]) (lo7 n) (cu7 n) Uew) m vs K=r) (UdM n m K):=Jji (F:=UdM n) Ubp (Ujo n) (fun K _ _ _ _ _ _ _=>rfl) (fun _ _=>rfl) (fun L K _ _ _ _ _ _ _=>by show _=_; kernel_rfl)
theorem Umd (n:Nat):K7 R n (false,8,Uew):=Jk4 (lo:=lo7 n) (cu:=cu7 n) (UhA n) Ubo (UdL n n) (Ujz n n) (Jk4 (lo:=lo7 n) (cu:=cu7 n) (UhA n) Ubp (UdM n n) (UjA n n) fun _ _=>rfl)
theorem pa7 (n:Nat):JfF (K7 R n) (JaS UdH (Jlv Tryz.f7)):=pO (pC (Umd n) pN) (by kernel_rfl)
abbrev t7:Sl (List SV):=(.c (sP (JlB (.c sSh (.c sSh .n)))) .n)
abbrev f7 (n:Nat) (K:List SV→O R):t7.T (O R):=fun x1 x2=>p7 n x1 x2 (fun y1 y2=>K [vS y1,vI y2])
abbrev fs7 (n:Nat):FS:=fT [false] t7 (f7 n)
theorem ok7 (n:Nat):FSound Tryz.prog GI 7 (fs7 n):=gd UdH n (Uhe n) Tryz.func7 (.cons (Uhe n) t7 (f7 n) (@fun R K _ _=>by show _=_; exact (JkP (lo:=lo7 n) (cu:=cu7 n) (c:=Jlv Tryz.f7) (by kernel_rfl) (pa7 (R:=R) n) K).trans (by kernel_rfl)) .nil) (by kernel_rfl)
def Uac:Ann:={ loops:=[(4,ids [0,3,4],ids [0,2])],cuts:=[(3,ids [0,3,4],ids [0,2,3,4]),(6,ids [0,3,4],ids [0,2,3,4]),(10,ids [0,3,4,5],ids [0,2,3,4])],frz:=[],rm:=[.id] }
abbrev UeE (n:Nat):Env:=eN
theorem Uc4 (n:Nat):EnvOK Tryz.prog GI (UeE n):=.nil
def Ubk (n:Nat) (x1:ByteArray) (x2 x3 x4 x5 x6:Int) (k0:ByteArray→Int→Int→Int→Int→Int→O R) (k1:ByteArray→Int→Int→Int→Int→O R):O R :=
 let v7:=IntKind.u64.wrap (JfY .and .u8 x6 127); bif decide ((x5:Int)<0) then none else (let v8:=IntKind.u64.wrap (v7 * 2 ^ (min ((x5:Int)).toNat IntKind.u64.bits)); bif (decide (x6<128)) then (k0 x1 x2 x3 (JfY .or .u64 x4 v8) (JfY .or .u64 x4 v8) x5) else (k1 x1 x2 x3 (JfY .or .u64 x4 v8) x5))
def Uhy (n:Nat) (x1:ByteArray) (x2 x3 x4 x5:Int) (k0:ByteArray→Int→Int→Int→Int→Int→O R) (k1:ByteArray→Int→Int→Int→Int→O R):O R :=
 bif (inR x2 (x1).size) then (bif (x5 == 63) then (bif (bif true then (decide (Je1 x1 x2>1)) else false) then none else (bif (Je1 x1 x2 == 0) then (bif (bif false then true else (bif true then (decide (x5>0)) else false)) then none else (Ubk n x1 (IntKind.i64.wrap (x2 + 1)) x3 x4 x5 (Je1 x1 x2) (fun y6 y7 y8 y9 y10 y11=>k0 y6 y7 y8 y9 y10 y11) (fun y12 y13 y14 y15 y16=>k1 y12 y13 y14 y15 y16))) else (Ubk n x1 (IntKind.i64.wrap (x2 + 1)) x3 x4 x5 (Je1 x1 x2) (fun y17 y18 y19 y20 y21 y22=>k0 y17 y18 y19 y20 y21 y22) (fun y23 y24 y25 y26 y27=>k1 y23 y24 y25 y26 y27)))) else (bif (Je1 x1 x2 == 0) then (bif (bif false then true else (bif true then (decide (x5>0)) else false)) then none else (Ubk n x1 (IntKind.i64.wrap (x2 + 1)) x3 x4 x5 (Je1 x1 x2) (fun y28 y29 y30 y31 y32 y33=>k0 y28 y29 y30 y31 y32 y33) (fun y34 y35 y36 y37 y38=>k1 y34 y35 y36 y37 y38))) else (Ubk n x1 (IntKind.i64.wrap (x2 + 1)) x3 x4 x5 (Je1 x1 x2) (fun y39 y40 y41 y42 y43 y44=>k0 y39 y40 y41 y42 y43 y44) (fun y45 y46 y47 y48 y49=>k1 y45 y46 y47 y48 y49)))) else none
def Uhx (n:Nat) (x1:ByteArray) (x2 x3 x4 x5:Int) (k0:ByteArray→Int→Int→Int→Int→O R):O R :=
 k0 x1 x2 x3 x4 (IntKind.i64.wrap (x5 + 7))
def UfZ (n:Nat) (l0:ByteArray→Int→Int→Int→Int→O R) (x1:ByteArray) (x2 x3 x4 x5:Int) (k0:ByteArray→Int→Int→Int→O R):O R :=
 bif (decide (x2≥((x1).size:Int))) then none else (bif (bif false then true else (decide (x5>63))) then none else (Uhy n x1 x2 x3 x4 x5 (fun y6 y7 y8 y9 y10 y11=>k0 y6 y7 y8 y9) (fun y12 y13 y14 y15 y16=>Uhx n y12 y13 y14 y15 y16 (fun y17 y18 y19 y20 y21=>l0 y17 y18 y19 y20 y21))))
def Udn (n:Nat):Nat→ByteArray→Int→Int→Int→Int→(ByteArray→Int→Int→Int→O R)→O R
 | 0,_,_,_,_,_,_=>none
 | m + 1,x1,x2,x3,x4,x5,k0=>UfZ n (fun x1 x2 x3 x4 x5=>Udn n m x1 x2 x3 x4 x5 k0) x1 x2 x3 x4 x5 k0
def Ukr (n:Nat) (x1:ByteArray) (x2 x3 x4 x5:Int) (k0:ByteArray→Int→Int→Int→O R):O R:=Udn n n x1 x2 x3 x4 x5 k0
def p71 (n:Nat) (x1:ByteArray) (x2 x3:Int) (k0:Int→ByteArray→Int→Int→O R):O R :=
 Ukr n x1 x2 x3 0 0 (fun y4 y5 y6 y7=>k0 y7 y4 y5 y6)
def Uas (n:Nat) (x1:ByteArray) (x2:Int) (x3:LP) (x4 x5 x6 x7:Int) (k0:ByteArray→Int→LP→Int→Int→Int→Int→O R) (k1:ByteArray→Int→LP→Int→Int→Int→O R):O R :=
 let v8:=IntKind.u64.wrap (JfY .and .u8 x7 127); bif decide ((x6:Int)<0) then none else (let v9:=IntKind.u64.wrap (v8 * 2 ^ (min ((x6:Int)).toNat IntKind.u64.bits)); bif (decide (x7<128)) then (k0 x1 x2 x3 x4 (JfY .or .u64 x5 v9) (JfY .or .u64 x5 v9) x6) else (k1 x1 x2 x3 x4 (JfY .or .u64 x5 v9) x6))
def Ud2 (n:Nat) (x1:ByteArray) (x2:Int) (x3:LP) (x4 x5 x6:Int) (k0:ByteArray→Int→LP→Int→Int→Int→Int→O R) (k1:ByteArray→Int→LP→Int→Int→Int→O R):O R :=
 bif (inR x2 (x1).size) then (bif (x6 == 63) then (bif (bif true then (decide (Je1 x1 x2>1)) else false) then none else (bif (Je1 x1 x2 == 0) then (bif (bif false then true else (bif true then (decide (x6>0)) else false)) then none else (Uas n x1 (IntKind.i64.wrap (x2 + 1)) x3 x4 x5 x6 (Je1 x1 x2) (fun y7 y8 y9 y10 y11 y12 y13=>k0 y7 y8 y9 y10 y11 y12 y13) (fun y14 y15 y16 y17 y18 y19=>k1 y14 y15 y16 y17 y18 y19))) else (Uas n x1 (IntKind.i64.wrap (x2 + 1)) x3 x4 x5 x6 (Je1 x1 x2) (fun y20 y21 y22 y23 y24 y25 y26=>k0 y20 y21 y22 y23 y24 y25 y26) (fun y27 y28 y29 y30 y31 y32=>k1 y27 y28 y29 y30 y31 y32)))) else (bif (Je1 x1 x2 == 0) then (bif (bif false then true else (bif true then (decide (x6>0)) else false)) then none else (Uas n x1 (IntKind.i64.wrap (x2 + 1)) x3 x4 x5 x6 (Je1 x1 x2) (fun y33 y34 y35 y36 y37 y38 y39=>k0 y33 y34 y35 y36 y37 y38 y39) (fun y40 y41 y42 y43 y44 y45=>k1 y40 y41 y42 y43 y44 y45))) else (Uas n x1 (IntKind.i64.wrap (x2 + 1)) x3 x4 x5 x6 (Je1 x1 x2) (fun y46 y47 y48 y49 y50 y51 y52=>k0 y46 y47 y48 y49 y50 y51 y52) (fun y53 y54 y55 y56 y57 y58=>k1 y53 y54 y55 y56 y57 y58)))) else none
def Ud1 (n:Nat) (x1:ByteArray) (x2:Int) (x3:LP) (x4 x5 x6:Int) (k0:ByteArray→Int→LP→Int→Int→Int→O R):O R :=
 k0 x1 x2 x3 x4 x5 (IntKind.i64.wrap (x6 + 7))
def UcL (n:Nat) (l0:ByteArray→Int→LP→Int→Int→Int→O R) (x1:ByteArray) (x2:Int) (x3:LP) (x4 x5 x6:Int) (k0:ByteArray→Int→LP→Int→Int→O R):O R :=
 bif (decide (x2≥((x1).size:Int))) then none else (bif (bif false then true else (decide (x6>63))) then none else (Ud2 n x1 x2 x3 x4 x5 x6 (fun y7 y8 y9 y10 y11 y12 y13=>k0 y7 y8 y9 y10 y11) (fun y14 y15 y16 y17 y18 y19=>Ud1 n y14 y15 y16 y17 y18 y19 (fun y20 y21 y22 y23 y24 y25=>l0 y20 y21 y22 y23 y24 y25))))
def Ubl (n:Nat):Nat→ByteArray→Int→LP→Int→Int→Int→(ByteArray→Int→LP→Int→Int→O R)→O R
 | 0,_,_,_,_,_,_,_=>none
 | m + 1,x1,x2,x3,x4,x5,x6,k0=>UcL n (fun x1 x2 x3 x4 x5 x6=>Ubl n m x1 x2 x3 x4 x5 x6 k0) x1 x2 x3 x4 x5 x6 k0
def UgM (n:Nat) (x1:ByteArray) (x2:Int) (x3:LP) (x4 x5 x6:Int) (k0:ByteArray→Int→LP→Int→Int→O R):O R:=Ubl n n x1 x2 x3 x4 x5 x6 k0
def UgN (n:Nat) (x1:ByteArray) (x2:Int) (x3:LP) (x4:Int) (k0:Int→ByteArray→Int→LP→Int→O R):O R :=
 UgM n x1 x2 x3 x4 0 0 (fun y5 y6 y7 y8 y9=>k0 y9 y5 y6 y7 y8)
abbrev E71 (n:Nat):Code→Fr→Kc R→O R:=evC Tryz.prog (UeE n) Uac n (64,[0])
noncomputable def Ueu:Code:=Jkz (Jlv Tryz.f71) [1,1,1,0,0,1]
abbrev UdD:Sl (List SV):=(.c (sBx 81 (cS (cI (.c sNl (cI .n))))) (.c (sP (Jlw .u64)) (cI .n)))
abbrev UdE:Sl (List SV):=(.c (sBx 81 (cS (cI (cO 9 (cI .n))))) (.c (sP (Jlw .u64)) (cI .n)))
abbrev Uft (n:Nat) (K:Kc R):UdD.T (O R):=fun x1 x2 x3 x4 x5=>Uhx n x1 x2 x3 x4 x5 (fun y1 y2 y3 y4 y5=>xC Uac 3 K .normal [.bx 81 [vS y1,vI y2,.nl,vI y3],dD,.p (.v (.int .u64 y4)),vI y5])
abbrev Ufu (n:Nat) (K:Kc R):UdE.T (O R):=fun x1 x2 x3 x4 x5 x6=>Ud1 n x1 x2 x3 x4 x5 x6 (fun y1 y2 y3 y4 y5 y6=>xC Uac 3 K .normal [.bx 81 [vS y1,vI y2,.own 9 y3,vI y4],dD,.p (.v (.int .u64 y5)),vI y6])
noncomputable def Uev:Code:=Jkz (Jlv Tryz.f71) [1,1,1,0,0,0,0,1]
abbrev UdF:Sl (List SV):=(.c (sBx 81 (cS (cI (.c sNl (cI .n))))) (.c (sP (Jlw .u64)) (cI .n)))
abbrev UdG:Sl (List SV):=(.c (sBx 81 (cS (cI (cO 9 (cI .n))))) (.c (sP (Jlw .u64)) (cI .n)))
abbrev Ufv (n:Nat) (K:Kc R):UdF.T (O R):=fun x1 x2 x3 x4 x5=>Uhy n x1 x2 x3 x4 x5 (fun y1 y2 y3 y4 y5 y6=>xC Uac 6 K .ret [.bx 81 [vS y1,vI y2,.nl,vI y3],.p (.v (.int .u64 y4)),.p (.v (.int .u64 y5)),vI y6]) (fun y1 y2 y3 y4 y5=>xC Uac 6 K .normal [.bx 81 [vS y1,vI y2,.nl,vI y3],dD,.p (.v (.int .u64 y4)),vI y5])
abbrev Ufw (n:Nat) (K:Kc R):UdG.T (O R):=fun x1 x2 x3 x4 x5 x6=>Ud2 n x1 x2 x3 x4 x5 x6 (fun y1 y2 y3 y4 y5 y6 y7=>xC Uac 6 K .ret [.bx 81 [vS y1,vI y2,.own 9 y3,vI y4],.p (.v (.int .u64 y5)),.p (.v (.int .u64 y6)),vI y7]) (fun y1 y2 y3 y4 y5 y6=>xC Uac 6 K .normal [.bx 81 [vS y1,vI y2,.own 9 y3,vI y4],dD,.p (.v (.int .u64 y5)),vI y6])
noncomputable def UcR:Code:=Jkz (Jlv Tryz.f71) [1,1,1,0,0,0,0,1,1,1,1]
abbrev Uco:Sl (List SV):=(.c (sBx 81 (cS (cI (.c sNl (cI .n))))) (.c (sP (Jlw .u64)) (cI (.c (sP (Jlw .u8)) .n))))
abbrev Ucp:Sl (List SV):=(.c (sBx 81 (cS (cI (cO 9 (cI .n))))) (.c (sP (Jlw .u64)) (cI (.c (sP (Jlw .u8)) .n))))
abbrev UdJ (n:Nat) (K:Kc R):Uco.T (O R):=fun x1 x2 x3 x4 x5 x6=>Ubk n x1 x2 x3 x4 x5 x6 (fun y1 y2 y3 y4 y5 y6=>xC Uac 10 K .ret [.bx 81 [vS y1,vI y2,.nl,vI y3],.p (.v (.int .u64 y4)),.p (.v (.int .u64 y5)),vI y6]) (fun y1 y2 y3 y4 y5=>xC Uac 10 K .normal [.bx 81 [vS y1,vI y2,.nl,vI y3],dD,.p (.v (.int .u64 y4)),vI y5])
abbrev UdK (n:Nat) (K:Kc R):Ucp.T (O R):=fun x1 x2 x3 x4 x5 x6 x7=>Uas n x1 x2 x3 x4 x5 x6 x7 (fun y1 y2 y3 y4 y5 y6 y7=>xC Uac 10 K .ret [.bx 81 [vS y1,vI y2,.own 9 y3,vI y4],.p (.v (.int .u64 y5)),.p (.v (.int .u64 y6)),vI y7]) (fun y1 y2 y3 y4 y5 y6=>xC Uac 10 K .normal [.bx 81 [vS y1,vI y2,.own 9 y3,vI y4],dD,.p (.v (.int .u64 y5)),vI y6])
noncomputable def UcD:Code:=Jkz (Jlv Tryz.f71) [1,1,1,0,0]
abbrev UaH:Sl (List SV):=(.c (sBx 81 (cS (cI (.c sNl (cI .n))))) (.c (sP (Jlw .u64)) (cI .n)))
abbrev UaI:Sl (List SV):=(.c (sBx 81 (cS (cI (cO 9 (cI .n))))) (.c (sP (Jlw .u64)) (cI .n)))
abbrev Ub8 (n m:Nat) (K:Kc R):UaH.T (O R):=fun x1 x2 x3 x4 x5=>Udn n m x1 x2 x3 x4 x5 (fun y1 y2 y3 y4=>xL Uac 4 K .ret [.bx 81 [vS y1,vI y2,.nl,vI y3],.p (.v (.int .u64 y4))])
abbrev Uh8 (n:Nat) (K:Kc R) (l0:UaH.T (O R)):UaH.T (O R):=fun x1 x2 x3 x4 x5=>UfZ n l0 x1 x2 x3 x4 x5 (fun y1 y2 y3 y4=>xL Uac 4 K .ret [.bx 81 [vS y1,vI y2,.nl,vI y3],.p (.v (.int .u64 y4))])
abbrev Ub9 (n m:Nat) (K:Kc R):UaI.T (O R):=fun x1 x2 x3 x4 x5 x6=>Ubl n m x1 x2 x3 x4 x5 x6 (fun y1 y2 y3 y4 y5=>xL Uac 4 K .ret [.bx 81 [vS y1,vI y2,.own 9 y3,vI y4],.p (.v (.int .u64 y5))])
abbrev Uh9 (n:Nat) (K:Kc R) (l0:UaI.T (O R)):UaI.T (O R):=fun x1 x2 x3 x4 x5 x6=>UcL n l0 x1 x2 x3 x4 x5 x6 (fun y1 y2 y3 y4 y5=>xL Uac 4 K .ret [.bx 81 [vS y1,vI y2,.own 9 y3,vI y4],.p (.v (.int .u64 y5))])
abbrev Ueh (n:Nat):Orc R:=fun i vs K=>JgZ (Nat.beq i 4) (JjK (UaH.ap vs (Ub8 n n K)) (JjK (UaI.ap vs (Ub9 n n K)) (Jc2 Uac 4 (E71 n UcD) n vs K))) (oN i vs K)
abbrev Uee (n:Nat):Orc R:=fun i vs K=>JgZ (Nat.beq i 10) (JjK (Uco.ap vs (UdJ n K)) (JjK (Ucp.ap vs (UdK n K)) (JkN Uac 10 (E71 n UcR) vs K))) ((fun i vs K=>JgZ (Nat.beq i 6) (JjK (UdF.ap vs (Ufv n K)) (JjK (UdG.ap vs (Ufw n K)) (JkN Uac 6 (E71 n Uev) vs K))) ((fun i vs K=>JgZ (Nat.beq i 3) (JjK (UdD.ap vs (Uft n K)) (JjK (UdE.ap vs (Ufu n K)) (JkN Uac 3 (E71 n Ueu) vs K))) (oN i vs K)) i vs K)) i vs K)
abbrev K71 (R:Type) (n:Nat):=Jd (R:=R) Tryz.prog (UeE n) Uac n (64,[0]) (Ueh n) (Uee n)
theorem Ud8 (n:Nat):JfF (K71 R n) (JaS Uac UcR):=pO pN (by kernel_rfl)
theorem Ui0 (n:Nat):K71 R n (true,10,UcR):=Jlh (lo:=Ueh n) (cu:=Uee n) (Ud8 n) Uco (UdJ n) (fun K _ _ _ _ _ _=>by show _=_; kernel_rfl) (Jlh (lo:=Ueh n) (cu:=Uee n) (Ud8 n) Ucp (UdK n) (fun K _ _ _ _ _ _ _=>by show _=_; kernel_rfl) fun _ _=>rfl)
theorem Ugg (n:Nat):JfF (K71 R n) (JaS Uac Uev):=pO (pC (Ui0 n) pN) (by kernel_rfl)
theorem Uk1 (n:Nat):K71 R n (true,6,Uev):=Jlh (lo:=Ueh n) (cu:=Uee n) (Ugg n) UdF (Ufv n) (fun K _ _ _ _ _=>by show _=_; kernel_rfl) (Jlh (lo:=Ueh n) (cu:=Uee n) (Ugg n) UdG (Ufw n) (fun K _ _ _ _ _ _=>by show _=_; kernel_rfl) fun _ _=>rfl)
theorem Ugf (n:Nat):JfF (K71 R n) (JaS Uac Ueu):=pO pN (by kernel_rfl)
theorem Uk0 (n:Nat):K71 R n (true,3,Ueu):=Jlh (lo:=Ueh n) (cu:=Uee n) (Ugf n) UdD (Uft n) (fun K _ _ _ _ _=>by show _=_; kernel_rfl) (Jlh (lo:=Ueh n) (cu:=Uee n) (Ugf n) UdE (Ufu n) (fun K _ _ _ _ _ _=>by show _=_; kernel_rfl) fun _ _=>rfl)
theorem Ugh (n:Nat):JfF (K71 R n) (JaS Uac UcD):=pO (pC (Uk1 n) (pC (Uk0 n) pN)) (by kernel_rfl)
theorem Uir (n:Nat):∀ m (K:Kc R),UaH.all (fun vs r=>Jc2 Uac 4 (Jdo Tryz.prog (UeE n) Uac (64,[0]) (Ueh n) (Uee n) UcD) m vs K=r) (Ub8 n m K):=Jji (F:=Ub8 n) UaH (Uh8 n) (fun K _ _ _ _ _=>rfl) (fun _ _=>rfl) (fun L K _ _ _ _ _=>by show _=_; kernel_rfl)
theorem Uis (n:Nat):∀ m (K:Kc R),UaI.all (fun vs r=>Jc2 Uac 4 (Jdo Tryz.prog (UeE n) Uac (64,[0]) (Ueh n) (Uee n) UcD) m vs K=r) (Ub9 n m K):=Jji (F:=Ub9 n) UaI (Uh9 n) (fun K _ _ _ _ _ _=>rfl) (fun _ _=>rfl) (fun L K _ _ _ _ _ _=>by show _=_; kernel_rfl)
theorem Uk2 (n:Nat):K71 R n (false,4,UcD):=Jk4 (lo:=Ueh n) (cu:=Uee n) (Ugh n) UaH (Ub8 n n) (Uir n n) (Jk4 (lo:=Ueh n) (cu:=Uee n) (Ugh n) UaI (Ub9 n n) (Uis n n) fun _ _=>rfl)
theorem Uox (n:Nat):JfF (K71 R n) (JaS Uac (Jlv Tryz.f71)):=pO (pC (Uk2 n) pN) (by kernel_rfl)
abbrev UmH:Sl (List SV):=(.c (sBx 81 (cS (cI (.c sNl (cI .n))))) .n)
abbrev Unu (n:Nat) (K:List SV→O R):UmH.T (O R):=fun x1 x2 x3=>p71 n x1 x2 x3 (fun y1 y2 y3 y4=>K [.p (.v (.int .u64 y1)),.bx 81 [vS y2,vI y3,.nl,vI y4]])
abbrev UmI:Sl (List SV):=(.c (sBx 81 (cS (cI (cO 9 (cI .n))))) .n)
abbrev Unv (n:Nat) (K:List SV→O R):UmI.T (O R):=fun x1 x2 x3 x4=>UgN n x1 x2 x3 x4 (fun y1 y2 y3 y4 y5=>K [.p (.v (.int .u64 y1)),.bx 81 [vS y2,vI y3,.own 9 y4,vI y5]])
abbrev Uli (n:Nat):FS:={ om:=[true],run:=fun args K=>JjK (UmH.ap args (Unu n K)) (JjK (UmI.ap args (Unv n K)) none) }
theorem UlZ (n:Nat):FSound Tryz.prog GI 71 (Uli n):=gd Uac n (Uc4 n) Tryz.func71 (.cons (Uc4 n) UmH (Unu n) (@fun R K _ _ _=>by show _=_; exact (JkP (lo:=Ueh n) (cu:=Uee n) (c:=Jlv Tryz.f71) (by kernel_rfl) (Uox (R:=R) n) K).trans (by kernel_rfl)) (.cons (Uc4 n) UmI (Unv n) (@fun R K _ _ _ _=>by show _=_; exact (JkP (lo:=Ueh n) (cu:=Uee n) (c:=Jlv Tryz.f71) (by kernel_rfl) (Uox (R:=R) n) K).trans (by kernel_rfl)) .nil)) (by kernel_rfl)
def Ucu:Ann:={ loops:=[],cuts:=[(4,ids [0,3],ids [0,2])],frz:=[],rm:=[.id] }
abbrev UiF (n:Nat):Env:=eC 71 (Uli n) eN
theorem Uc1 (n:Nat):EnvOK Tryz.prog GI (UiF n):=.cons (.nil) (UlZ n)
def Uht (n:Nat) (x1:ByteArray) (x2 x3 x4:Int) (k0:ByteArray→Int→Int→Int→O R):O R :=
 k0 x1 x2 x3 (IntKind.i64.wrap (x4))
def p48 (n:Nat) (x1:ByteArray) (x2 x3:Int) (k0:Int→ByteArray→Int→Int→O R):O R :=
 p71 n x1 x2 x3 (fun y4 y5 y6 y7=>let v8:=IntKind.i64.wrap (((y5).size:Int) - y6); bif (decide (y4>IntKind.u64.wrap (v8))) then none else (Uht n y5 y6 y7 y4 (fun y9 y10 y11 y12=>k0 y12 y9 y10 y11)))
def UdV (n:Nat) (x1:ByteArray) (x2:Int) (x3:LP) (x4 x5:Int) (k0:ByteArray→Int→LP→Int→Int→O R):O R :=
 k0 x1 x2 x3 x4 (IntKind.i64.wrap (x5))
def Uei (n:Nat) (x1:ByteArray) (x2:Int) (x3:LP) (x4:Int) (k0:Int→ByteArray→Int→LP→Int→O R):O R :=
 UgN n x1 x2 x3 x4 (fun y5 y6 y7 y8 y9=>let v10:=IntKind.i64.wrap (((y6).size:Int) - y7); bif (decide (y5>IntKind.u64.wrap (v10))) then none else (UdV n y6 y7 y8 y9 y5 (fun y11 y12 y13 y14 y15=>k0 y15 y11 y12 y13 y14)))
abbrev E48 (n:Nat):Code→Fr→Kc R→O R:=evC Tryz.prog (UiF n) Ucu n (22,[0])
noncomputable def Uer:Code:=Jkz (Jlv Tryz.f48) [1,1,1]
abbrev Udx:Sl (List SV):=(.c (sBx 81 (cS (cI (.c sNl (cI .n))))) (.c (sP (Jlw .u64)) .n))
abbrev Udy:Sl (List SV):=(.c (sBx 81 (cS (cI (cO 9 (cI .n))))) (.c (sP (Jlw .u64)) .n))
abbrev Ufk (n:Nat) (K:Kc R):Udx.T (O R):=fun x1 x2 x3 x4=>Uht n x1 x2 x3 x4 (fun y1 y2 y3 y4=>xC Ucu 4 K .ret [.bx 81 [vS y1,vI y2,.nl,vI y3],vI y4])
abbrev Ufl (n:Nat) (K:Kc R):Udy.T (O R):=fun x1 x2 x3 x4 x5=>UdV n x1 x2 x3 x4 x5 (fun y1 y2 y3 y4 y5=>xC Ucu 4 K .ret [.bx 81 [vS y1,vI y2,.own 9 y3,vI y4],vI y5])
abbrev Uj0 (n:Nat):Orc R:=oN
abbrev Ujy (n:Nat):Orc R:=fun i vs K=>JgZ (Nat.beq i 4) (JjK (Udx.ap vs (Ufk n K)) (JjK (Udy.ap vs (Ufl n K)) (JkN Ucu 4 (E48 n Uer) vs K))) (oN i vs K)
abbrev K48 (R:Type) (n:Nat):=Jd (R:=R) Tryz.prog (UiF n) Ucu n (22,[0]) (Uj0 n) (Ujy n)
theorem Ugb (n:Nat):JfF (K48 R n) (JaS Ucu Uer):=pO pN (by kernel_rfl)
theorem UkS (n:Nat):K48 R n (true,4,Uer):=Jlh (lo:=Uj0 n) (cu:=Ujy n) (Ugb n) Udx (Ufk n) (fun K _ _ _ _=>by show _=_; kernel_rfl) (Jlh (lo:=Uj0 n) (cu:=Ujy n) (Ugb n) Udy (Ufl n) (fun K _ _ _ _ _=>by show _=_; kernel_rfl) fun _ _=>rfl)
theorem Uou (n:Nat):JfF (K48 R n) (JaS Ucu (Jlv Tryz.f48)):=pO (pC (UkS n) pN) (by kernel_rfl)
abbrev Umy:Sl (List SV):=(.c (sBx 81 (cS (cI (.c sNl (cI .n))))) .n)
abbrev Unl (n:Nat) (K:List SV→O R):Umy.T (O R):=fun x1 x2 x3=>p48 n x1 x2 x3 (fun y1 y2 y3 y4=>K [vI y1,.bx 81 [vS y2,vI y3,.nl,vI y4]])
abbrev Umz:Sl (List SV):=(.c (sBx 81 (cS (cI (cO 9 (cI .n))))) .n)
abbrev Unm (n:Nat) (K:List SV→O R):Umz.T (O R):=fun x1 x2 x3 x4=>Uei n x1 x2 x3 x4 (fun y1 y2 y3 y4 y5=>K [vI y1,.bx 81 [vS y2,vI y3,.own 9 y4,vI y5]])
abbrev UlO (n:Nat):FS:={ om:=[true],run:=fun args K=>JjK (Umy.ap args (Unl n K)) (JjK (Umz.ap args (Unm n K)) none) }
theorem Uol (n:Nat):FSound Tryz.prog GI 48 (UlO n):=gd Ucu n (Uc1 n) Tryz.func48 (.cons (Uc1 n) Umy (Unl n) (@fun R K _ _ _=>by show _=_; exact (JkP (lo:=Uj0 n) (cu:=Ujy n) (c:=Jlv Tryz.f48) (by kernel_rfl) (Uou (R:=R) n) K).trans (by kernel_rfl)) (.cons (Uc1 n) Umz (Unm n) (@fun R K _ _ _ _=>by show _=_; exact (JkP (lo:=Uj0 n) (cu:=Ujy n) (c:=Jlv Tryz.f48) (by kernel_rfl) (Uou (R:=R) n) K).trans (by kernel_rfl)) .nil)) (by kernel_rfl)
def Uaf:Ann:={ loops:=[(2,ids [0,2,7,8],ids [0])],cuts:=[(8,ids [0,2,4,7,8],ids [0,2,7,8])],frz:=[],rm:=[] }
abbrev UeB (n:Nat):Env:=eC 48 (UlO n) eN
theorem UeM (n:Nat):EnvOK Tryz.prog GI (UeB n):=.cons (.nil) (Uol n)
def Uhq (n:Nat) (x1:ByteArray) (x2 x3:Int) (x4 x5:LP) (x6:ByteArray) (x7 x8:Int) (k0:ByteArray→Int→LP→Int→LP→LP→Int→Int→O R):O R :=
 bif (Ja7 (1) 16) then (k0 x1 x2 ([.v (.string x6)]:LP) x3 (Jc5 (.v (.string x6):PV) x4) (Jdi (.v (.string x6):PV) (.v (.bool true)) x4 x5) x7 x8) else none
def UdT (n:Nat) (x1:ByteArray) (x2:Int) (x3:LP) (x4:Int) (x5 x6:LP) (x7:ByteArray) (x8 x9:Int) (k0:ByteArray→Int→LP→Int→LP→LP→Int→Int→O R):O R :=
 bif (Ja7 ((x3).length + 1) 16) then (k0 x1 x2 (x3++([.v (.string x7)]:LP)) x4 (Jc5 (.v (.string x7):PV) x5) (Jdi (.v (.string x7):PV) (.v (.bool true)) x5 x6) x8 x9) else none
def UcH (n:Nat) (l0:ByteArray→Int→LP→Int→LP→LP→Int→Int→O R) (x1:ByteArray) (x2:Int) (x3:LP) (x4:Int) (x5 x6:LP) (x7 x8:Int) (k0:ByteArray→Int→LP→Int→O R):O R :=
 bif (decide (x8<x7)) then (Uei n x1 x2 x3 x4 (fun y9 y10 y11 y12 y13=>bif (Jgk y11 (IntKind.i64.wrap (y11 + y9)) (y10).size) then (Jkv (Jh4 (.v (.string (ByteArray.extract y10 (y11:Int).toNat (IntKind.i64.wrap (y11 + y9):Int).toNat)):PV) (.v (.bool false):PV) x5 x6) fun e14=>bif e14 then none else (UdT n y10 (IntKind.i64.wrap (y11 + y9)) y12 y13 x5 x6 (ByteArray.extract y10 (y11:Int).toNat (IntKind.i64.wrap (y11 + y9):Int).toNat) x7 x8 (fun y15 y16 y17 y18 y19 y20 y21 y22=>l0 y15 y16 y17 y18 y19 y20 y21 (IntKind.i64.wrap (y22 + 1))))) else none)) else (k0 x1 x2 x3 x4)
def Ube (n:Nat):Nat→ByteArray→Int→LP→Int→LP→LP→Int→Int→(ByteArray→Int→LP→Int→O R)→O R
 | 0,_,_,_,_,_,_,_,_,_=>none
 | m + 1,x1,x2,x3,x4,x5,x6,x7,x8,k0=>UcH n (fun x1 x2 x3 x4 x5 x6 x7 x8=>Ube n m x1 x2 x3 x4 x5 x6 x7 x8 k0) x1 x2 x3 x4 x5 x6 x7 x8 k0
def UfJ (n:Nat) (l0:ByteArray→Int→Int→LP→LP→Int→Int→O R) (l1:ByteArray→Int→LP→Int→LP→LP→Int→Int→O R) (x1:ByteArray) (x2 x3:Int) (x4 x5:LP) (x6 x7:Int) (k0:ByteArray→Int→LP→Int→O R) (k1:ByteArray→Int→Int→O R):O R :=
 bif (decide (x7<x6)) then (p48 n x1 x2 x3 (fun y8 y9 y10 y11=>bif (Jgk y10 (IntKind.i64.wrap (y10 + y8)) (y9).size) then (Jkv (Jh4 (.v (.string (ByteArray.extract y9 (y10:Int).toNat (IntKind.i64.wrap (y10 + y8):Int).toNat)):PV) (.v (.bool false):PV) x4 x5) fun e12=>bif e12 then none else (Uhq n y9 (IntKind.i64.wrap (y10 + y8)) y11 x4 x5 (ByteArray.extract y9 (y10:Int).toNat (IntKind.i64.wrap (y10 + y8):Int).toNat) x6 x7 (fun y13 y14 y15 y16 y17 y18 y19 y20=>l1 y13 y14 y15 y16 y17 y18 y19 (IntKind.i64.wrap (y20 + 1))))) else none)) else (k1 x1 x2 x3)
def Ud (n:Nat):Nat→ByteArray→Int→Int→LP→LP→Int→Int→(ByteArray→Int→LP→Int→O R)→(ByteArray→Int→Int→O R)→O R
 | 0,_,_,_,_,_,_,_,_,_=>none
 | m + 1,x1,x2,x3,x4,x5,x6,x7,k0,k1=>UfJ n (fun x1 x2 x3 x4 x5 x6 x7=>Ud n m x1 x2 x3 x4 x5 x6 x7 k0 k1) (fun x1 x2 x3 x4 x5 x6 x7 x8=>Ube n m x1 x2 x3 x4 x5 x6 x7 x8 k0) x1 x2 x3 x4 x5 x6 x7 k0 k1
def Uj6 (n:Nat) (x1:ByteArray) (x2 x3:Int) (x4 x5:LP) (x6 x7:Int) (k0:ByteArray→Int→LP→Int→O R) (k1:ByteArray→Int→Int→O R):O R:=Ud n n x1 x2 x3 x4 x5 x6 x7 k0 k1
def p26 (n:Nat) (x1:ByteArray) (x2 x3:Int) (k0:ByteArray→Int→LP→Int→O R) (k1:ByteArray→Int→Int→O R):O R :=
 p48 n x1 x2 x3 (fun y4 y5 y6 y7=>Uj6 n y5 y6 y7 [] [] y4 0 (fun y8 y9 y10 y11=>k0 y8 y9 y10 y11) (fun y12 y13 y14=>k1 y12 y13 y14))
abbrev E26 (n:Nat):Code→Fr→Kc R→O R:=evC Tryz.prog (UeB n) Uaf n (52,[0])
noncomputable def Ueq:Code:=Jkz (Jlv Tryz.f26) [1,1,0,0,1,1,0,0,1,1,1,1]
abbrev Udv:Sl (List SV):=(.c (sBx 81 (cS (cI (.c sNl (cI .n))))) (.c (sMp none) (cS (cI (cI .n)))))
abbrev Udw:Sl (List SV):=(.c (sBx 81 (cS (cI (cO 9 (cI .n))))) (.c (sMp none) (cS (cI (cI .n)))))
abbrev Ufa (n:Nat) (K:Kc R):Udv.T (O R):=fun x1 x2 x3 x4 x5 x6 x7 x8=>Uhq n x1 x2 x3 x4 x5 x6 x7 x8 (fun y1 y2 y3 y4 y5 y6 y7 y8=>xC Uaf 8 K .normal [.bx 81 [vS y1,vI y2,.own 9 y3,vI y4],.mp none y5 y6,vI y7,vI y8])
abbrev Ufb (n:Nat) (K:Kc R):Udw.T (O R):=fun x1 x2 x3 x4 x5 x6 x7 x8 x9=>UdT n x1 x2 x3 x4 x5 x6 x7 x8 x9 (fun y1 y2 y3 y4 y5 y6 y7 y8=>xC Uaf 8 K .normal [.bx 81 [vS y1,vI y2,.own 9 y3,vI y4],.mp none y5 y6,vI y7,vI y8])
noncomputable def Ucz:Code:=Jkz (Jlv Tryz.f26) [1,1,0,0]
abbrev Uao:Sl (List SV):=(.c (sBx 81 (cS (cI (cO 9 (cI .n))))) (.c (sMp none) (cI (cI .n))))
abbrev UaA:Sl (List SV):=(.c (sBx 81 (cS (cI (.c sNl (cI .n))))) (.c (sMp none) (cI (cI .n))))
abbrev Uba (n m:Nat) (K:Kc R):Uao.T (O R):=fun x1 x2 x3 x4 x5 x6 x7 x8=>Ube n m x1 x2 x3 x4 x5 x6 x7 x8 (fun y1 y2 y3 y4=>xL Uaf 2 K (.exit 0) [.bx 81 [vS y1,vI y2,.own 9 y3,vI y4]])
abbrev Uh0 (n:Nat) (K:Kc R) (l0:Uao.T (O R)):Uao.T (O R):=fun x1 x2 x3 x4 x5 x6 x7 x8=>UcH n l0 x1 x2 x3 x4 x5 x6 x7 x8 (fun y1 y2 y3 y4=>xL Uaf 2 K (.exit 0) [.bx 81 [vS y1,vI y2,.own 9 y3,vI y4]])
abbrev Ub1 (n m:Nat) (K:Kc R):UaA.T (O R):=fun x1 x2 x3 x4 x5 x6 x7=>Ud n m x1 x2 x3 x4 x5 x6 x7 (fun y1 y2 y3 y4=>xL Uaf 2 K (.exit 0) [.bx 81 [vS y1,vI y2,.own 9 y3,vI y4]]) (fun y1 y2 y3=>xL Uaf 2 K (.exit 0) [.bx 81 [vS y1,vI y2,.nl,vI y3]])
abbrev Uh1 (n:Nat) (K:Kc R) (l0:UaA.T (O R)) (l1:Uao.T (O R)):UaA.T (O R):=fun x1 x2 x3 x4 x5 x6 x7=>UfJ n l0 l1 x1 x2 x3 x4 x5 x6 x7 (fun y1 y2 y3 y4=>xL Uaf 2 K (.exit 0) [.bx 81 [vS y1,vI y2,.own 9 y3,vI y4]]) (fun y1 y2 y3=>xL Uaf 2 K (.exit 0) [.bx 81 [vS y1,vI y2,.nl,vI y3]])
abbrev Uhl (n:Nat):Orc R:=fun i vs K=>JgZ (Nat.beq i 2) (JjK (Uao.ap vs (Uba n n K)) (JjK (UaA.ap vs (Ub1 n n K)) (Jc2 Uaf 2 (E26 n Ucz) n vs K))) (oN i vs K)
abbrev Uh (n:Nat):Orc R:=fun i vs K=>JgZ (Nat.beq i 8) (JjK (Udv.ap vs (Ufa n K)) (JjK (Udw.ap vs (Ufb n K)) (JkN Uaf 8 (E26 n Ueq) vs K))) (oN i vs K)
abbrev K26 (R:Type) (n:Nat):=Jd (R:=R) Tryz.prog (UeB n) Uaf n (52,[0]) (Uhl n) (Uh n)
theorem Uf8 (n:Nat):JfF (K26 R n) (JaS Uaf Ueq):=pO pN (by kernel_rfl)
theorem UkE (n:Nat):K26 R n (true,8,Ueq):=Jlh (lo:=Uhl n) (cu:=Uh n) (Uf8 n) Udv (Ufa n) (fun K _ _ _ _ _ _ _ _=>by show _=_; kernel_rfl) (Jlh (lo:=Uhl n) (cu:=Uh n) (Uf8 n) Udw (Ufb n) (fun K _ _ _ _ _ _ _ _ _=>by show _=_; kernel_rfl) fun _ _=>rfl)
theorem Uf9 (n:Nat):JfF (K26 R n) (JaS Uaf Ucz):=pO (pC (UkE n) pN) (by kernel_rfl)
theorem UeA (n:Nat):∀ m (K:Kc R),Uao.all (fun vs r=>Jc2 Uaf 2 (Jdo Tryz.prog (UeB n) Uaf (52,[0]) (Uhl n) (Uh n) Ucz) m vs K=r) (Uba n m K):=Jji (F:=Uba n) Uao (Uh0 n) (fun K _ _ _ _ _ _ _ _=>rfl) (fun _ _=>rfl) (fun L K _ _ _ _ _ _ _ _=>by show _=_; kernel_rfl)
theorem Uik (n:Nat):∀ m (K:Kc R),UaA.all (fun vs r=>Jc2 Uaf 2 (Jdo Tryz.prog (UeB n) Uaf (52,[0]) (Uhl n) (Uh n) Ucz) m vs K=r) (Ub1 n m K):=Jh2 (F1:=Uba n) (F:=Ub1 n) UaA Uao (Uh1 n) (fun K _ _ _ _ _ _ _=>rfl) (fun _ _=>rfl) (UeA n) (fun L K _ _ _ _ _ _ _=>by show _=_; kernel_rfl)
theorem UkF (n:Nat):K26 R n (false,2,Ucz):=Jk4 (lo:=Uhl n) (cu:=Uh n) (Uf9 n) Uao (Uba n n) (UeA n n) (Jk4 (lo:=Uhl n) (cu:=Uh n) (Uf9 n) UaA (Ub1 n n) (Uik n n) fun _ _=>rfl)
theorem Upc (n:Nat):JfF (K26 R n) (JaS Uaf (Jlv Tryz.f26)):=pO (pC (UkF n) pN) (by kernel_rfl)
abbrev t26:Sl (List SV):=(.c (sBx 81 (cS (cI (.c sNl (cI .n))))) .n)
abbrev f26 (n:Nat) (K:List SV→O R):t26.T (O R):=fun x1 x2 x3=>p26 n x1 x2 x3 (fun y1 y2 y3 y4=>K [.bx 81 [vS y1,vI y2,.own 9 y3,vI y4]]) (fun y1 y2 y3=>K [.bx 81 [vS y1,vI y2,.nl,vI y3]])
abbrev UnG (n:Nat):FS:=fT [true] t26 (f26 n)
theorem UoJ (n:Nat):FSound Tryz.prog GI 26 (UnG n):=gd Uaf n (UeM n) Tryz.func26 (.cons (UeM n) t26 (f26 n) (@fun R K _ _ _=>by show _=_; exact (JkP (lo:=Uhl n) (cu:=Uh n) (c:=Jlv Tryz.f26) (by kernel_rfl) (Upc (R:=R) n) K).trans (by kernel_rfl)) .nil) (by kernel_rfl)
def Ubs:Ann:={ loops:=[],cuts:=[(4,ids [0,3],ids [0,2]),(6,ids [0,3],ids [0,2])],frz:=[],rm:=[.id] }
abbrev UiG (n:Nat):Env:=eC 71 (Uli n) eN
theorem Uc2 (n:Nat):EnvOK Tryz.prog GI (UiG n):=.cons (.nil) (UlZ n)
def UfV (n:Nat) (x1:ByteArray) (x2:Int) (x3:LP) (x4 x5:Int) (k0:ByteArray→Int→LP→Int→ByteArray→O R):O R :=
 bif (inR x5 ((x3).length)) then (Jkx ((x3).getD ((x5:Int).toNat) (.v (.bool false))) fun e6=>k0 x1 x2 x3 x4 e6) else none
def Uhu (n:Nat) (x1:ByteArray) (x2:Int) (x3:LP) (x4 x5:Int) (k0:ByteArray→Int→LP→Int→ByteArray→O R):O R :=
 bif (x5 == IntKind.u64.wrap (x4)) then (UfV n x1 x2 x3 (IntKind.i64.wrap (x4 + 1)) x5 (fun y6 y7 y8 y9 y10=>k0 y6 y7 y8 y9 y10)) else (UfV n x1 x2 x3 x4 x5 (fun y11 y12 y13 y14 y15=>k0 y11 y12 y13 y14 y15))
def p50 (n:Nat) (x1:ByteArray) (x2:Int) (x3:LP) (x4:Int) (k0:ByteArray→ByteArray→Int→LP→Int→O R):O R :=
 UgN n x1 x2 x3 x4 (fun y5 y6 y7 y8 y9=>bif (decide (y5>IntKind.u64.wrap (y9))) then none else (let v10:=IntKind.u64.wrap (((y8).length:Int)); bif (bif false then true else (decide (y5≥v10))) then none else (Uhu n y6 y7 y8 y9 y5 (fun y11 y12 y13 y14 y15=>k0 y15 y11 y12 y13 y14))))
def Ucj (n:Nat) (x1:ByteArray) (x2 x3 x4:Int)  : O R :=
 none
def UdW (n:Nat) (x1:ByteArray) (x2 x3 x4:Int)  : O R :=
 bif (x4 == IntKind.u64.wrap (x3)) then (Ucj n x1 x2 (IntKind.i64.wrap (x3 + 1)) x4) else (Ucj n x1 x2 x3 x4)
def Ukk (n:Nat) (x1:ByteArray) (x2 x3:Int)  : O R :=
 p71 n x1 x2 x3 (fun y4 y5 y6 y7=>bif (decide (y4>IntKind.u64.wrap (y7))) then none else (bif (bif false then true else (decide (y4≥IntKind.u64.wrap (0)))) then none else (UdW n y5 y6 y7 y4)))
abbrev E50 (n:Nat):Code→Fr→Kc R→O R:=evC Tryz.prog (UiG n) Ubs n (45,[0])
noncomputable def Ues:Code:=Jkz (Jlv Tryz.f50) [1,1,1]
abbrev Udz:Sl (List SV):=(.c (sBx 81 (cS (cI (cO 9 (cI .n))))) (.c (sP (Jlw .u64)) .n))
abbrev UdA:Sl (List SV):=(.c (sBx 81 (cS (cI (.c sNl (cI .n))))) (.c (sP (Jlw .u64)) .n))
abbrev Ufm (n:Nat) (K:Kc R):Udz.T (O R):=fun x1 x2 x3 x4 x5=>Uhu n x1 x2 x3 x4 x5 (fun y1 y2 y3 y4 y5=>xC Ubs 4 K .ret [.bx 81 [vS y1,vI y2,.own 9 y3,vI y4],vS y5])
abbrev Ufn (n:Nat) (K:Kc R):UdA.T (O R):=fun x1 x2 x3 x4=>UdW n x1 x2 x3 x4 
noncomputable def Uet:Code:=Jkz (Jlv Tryz.f50) [1,1,1,1]
abbrev UdB:Sl (List SV):=(.c (sBx 81 (cS (cI (cO 9 (cI .n))))) (.c (sP (Jlw .u64)) .n))
abbrev UdC:Sl (List SV):=(.c (sBx 81 (cS (cI (.c sNl (cI .n))))) (.c (sP (Jlw .u64)) .n))
abbrev Ufo (n:Nat) (K:Kc R):UdB.T (O R):=fun x1 x2 x3 x4 x5=>UfV n x1 x2 x3 x4 x5 (fun y1 y2 y3 y4 y5=>xC Ubs 6 K .ret [.bx 81 [vS y1,vI y2,.own 9 y3,vI y4],vS y5])
abbrev Ufp (n:Nat) (K:Kc R):UdC.T (O R):=fun x1 x2 x3 x4=>Ucj n x1 x2 x3 x4 
abbrev UiP (n:Nat):Orc R:=oN
abbrev Uif (n:Nat):Orc R:=fun i vs K=>JgZ (Nat.beq i 6) (JjK (UdB.ap vs (Ufo n K)) (JjK (UdC.ap vs (Ufp n K)) (JkN Ubs 6 (E50 n Uet) vs K))) ((fun i vs K=>JgZ (Nat.beq i 4) (JjK (Udz.ap vs (Ufm n K)) (JjK (UdA.ap vs (Ufn n K)) (JkN Ubs 4 (E50 n Ues) vs K))) (oN i vs K)) i vs K)
abbrev K50 (R:Type) (n:Nat):=Jd (R:=R) Tryz.prog (UiG n) Ubs n (45,[0]) (UiP n) (Uif n)
theorem Ugd (n:Nat):JfF (K50 R n) (JaS Ubs Uet):=pO pN (by kernel_rfl)
theorem UkU (n:Nat):K50 R n (true,6,Uet):=Jlh (lo:=UiP n) (cu:=Uif n) (Ugd n) UdB (Ufo n) (fun K _ _ _ _ _=>by show _=_; kernel_rfl) (Jlh (lo:=UiP n) (cu:=Uif n) (Ugd n) UdC (Ufp n) (fun K _ _ _ _=>by show _=_; kernel_rfl) fun _ _=>rfl)
theorem Ugc (n:Nat):JfF (K50 R n) (JaS Ubs Ues):=pO (pC (UkU n) pN) (by kernel_rfl)
theorem UkT (n:Nat):K50 R n (true,4,Ues):=Jlh (lo:=UiP n) (cu:=Uif n) (Ugc n) Udz (Ufm n) (fun K _ _ _ _ _=>by show _=_; kernel_rfl) (Jlh (lo:=UiP n) (cu:=Uif n) (Ugc n) UdA (Ufn n) (fun K _ _ _ _=>by show _=_; kernel_rfl) fun _ _=>rfl)
theorem Uov (n:Nat):JfF (K50 R n) (JaS Ubs (Jlv Tryz.f50)):=pO (pC (UkT n) pN) (by kernel_rfl)
abbrev UmA:Sl (List SV):=(.c (sBx 81 (cS (cI (cO 9 (cI .n))))) .n)
abbrev Unn (n:Nat) (K:List SV→O R):UmA.T (O R):=fun x1 x2 x3 x4=>p50 n x1 x2 x3 x4 (fun y1 y2 y3 y4 y5=>K [vS y1,.bx 81 [vS y2,vI y3,.own 9 y4,vI y5]])
abbrev UmB:Sl (List SV):=(.c (sBx 81 (cS (cI (.c sNl (cI .n))))) .n)
abbrev Uno (n:Nat) (K:List SV→O R):UmB.T (O R):=fun x1 x2 x3=>Ukk n x1 x2 x3 
abbrev UnS (n:Nat):FS:={ om:=[true],run:=fun args K=>JjK (UmA.ap args (Unn n K)) (JjK (UmB.ap args (Uno n K)) none) }
theorem UoV (n:Nat):FSound Tryz.prog GI 50 (UnS n):=gd Ubs n (Uc2 n) Tryz.func50 (.cons (Uc2 n) UmA (Unn n) (@fun R K _ _ _ _=>by show _=_; exact (JkP (lo:=UiP n) (cu:=Uif n) (c:=Jlv Tryz.f50) (by kernel_rfl) (Uov (R:=R) n) K).trans (by kernel_rfl)) (.cons (Uc2 n) UmB (Uno n) (@fun R K _ _ _=>by show _=_; exact (JkP (lo:=UiP n) (cu:=Uif n) (c:=Jlv Tryz.f50) (by kernel_rfl) (Uov (R:=R) n) K).trans (by kernel_rfl)) .nil)) (by kernel_rfl)
def UhN:Ann:={ loops:=[],cuts:=[],frz:=[],rm:=[.id] }
abbrev UjM (n:Nat):Env:=eC 71 (Uli n) eN
theorem UeW (n:Nat):EnvOK Tryz.prog GI (UjM n):=.cons (.nil) (UlZ n)
def p51 (n:Nat) (x1:ByteArray) (x2:Int) (x3:LP) (x4:Int) (k0:Int→ByteArray→Int→LP→Int→O R):O R :=
 UgN n x1 x2 x3 x4 (fun y5 y6 y7 y8 y9=>bif (JfY .and .u64 y5 1 == 1) then (bif decide ((1:Int)<0) then none else (let v10:=Int.fdiv y5 (2 ^ (min ((1:Int)).toNat IntKind.u64.bits)); let v11:=JfY .xor .u64 (if IntKind.u64.signed then -1 else IntKind.u64.max) v10; k0 (IntKind.i64.wrap (v11)) y6 y7 y8 y9)) else (bif decide ((1:Int)<0) then none else (let v12:=Int.fdiv y5 (2 ^ (min ((1:Int)).toNat IntKind.u64.bits)); k0 (IntKind.i64.wrap (v12)) y6 y7 y8 y9)))
abbrev Uoa (n:Nat):Orc R:=oN
abbrev UmW (n:Nat):Orc R:=oN
abbrev K51 (R:Type) (n:Nat):=Jd (R:=R) Tryz.prog (UjM n) UhN n (16,[0]) (Uoa n) (UmW n)
theorem Upm (n:Nat):JfF (K51 R n) (JaS UhN (Jlv Tryz.f51)):=pO pN (by kernel_rfl)
abbrev t51:Sl (List SV):=(.c (sBx 81 (cS (cI (cO 9 (cI .n))))) .n)
abbrev f51 (n:Nat) (K:List SV→O R):t51.T (O R):=fun x1 x2 x3 x4=>p51 n x1 x2 x3 x4 (fun y1 y2 y3 y4 y5=>K [vI y1,.bx 81 [vS y2,vI y3,.own 9 y4,vI y5]])
abbrev UnT (n:Nat):FS:=fT [true] t51 (f51 n)
theorem UoW (n:Nat):FSound Tryz.prog GI 51 (UnT n):=gd UhN n (UeW n) Tryz.func51 (.cons (UeW n) t51 (f51 n) (@fun R K _ _ _ _=>by show _=_; exact (JkP (lo:=Uoa n) (cu:=UmW n) (c:=Jlv Tryz.f51) (by kernel_rfl) (Upm (R:=R) n) K).trans (by kernel_rfl)) .nil) (by kernel_rfl)
def Uab:Ann:={ loops:=[(3,[(0,.id),(2,.id),(3,.cs [some 36,none]),(7,.id),(8,.id)],ids [0,2,3]),(6,[(0,.id),(2,.id),(3,.id),(4,.cs [none,some 33]),(7,.id),(8,.id),(14,.id),(15,.id)],ids [0,2,3,4,7,8]),(9,[(0,.id),(2,.id),(3,.id),(4,.id),(5,.cs [none,some 61]),(7,.id),(8,.id),(14,.id),(15,.id),(21,.id),(22,.id)],ids [0,2,3,4,5,7,8,14,15]),(17,ids [0,2,3,47,48],ids [0,2,3])],cuts:=[],frz:=[1000012,1000019],rm:=[.id] }
abbrev UcT (n:Nat):Env:=eC 51 (UnT n) (eC 50 (UnS n) (eC 48 (UlO n) eN))
theorem UcY (n:Nat):EnvOK Tryz.prog GI (UcT n):=.cons (.cons (.cons (.nil) (Uol n)) (UoV n)) (UoW n)
def UfN (n:Nat) (l0:ByteArray→Int→LP→Int→LP→ByteArray→LP→ByteArray→LP→Int→Int→Int→Int→Int→Int→O R) (x1:ByteArray) (x2:Int) (x3:LP) (x4:Int) (x5:LP) (x6:ByteArray) (x7:LP) (x8:ByteArray) (x9:LP) (x10 x11 x12 x13 x14 x15:Int) (k0:ByteArray→Int→LP→Int→LP→ByteArray→LP→ByteArray→LP→Int→Int→Int→Int→O R):O R :=
 bif (decide (x15<x14)) then (p51 n x1 x2 x3 x4 (fun y16 y17 y18 y19 y20=>bif (Ja7 ((x9).length + 1) 8) then (l0 y17 y18 y19 y20 x5 x6 x7 x8 (x9++([.v (.int .i64 y16)]:LP)) x10 x11 x12 x13 x14 (IntKind.i64.wrap (x15 + 1))) else none)) else (k0 x1 x2 x3 x4 x5 x6 x7 x8 x9 x10 x11 x12 x13)
def Udc (n:Nat):Nat→ByteArray→Int→LP→Int→LP→ByteArray→LP→ByteArray→LP→Int→Int→Int→Int→Int→Int→(ByteArray→Int→LP→Int→LP→ByteArray→LP→ByteArray→LP→Int→Int→Int→Int→O R)→O R
 | 0,_,_,_,_,_,_,_,_,_,_,_,_,_,_,_,_=>none
 | m + 1,x1,x2,x3,x4,x5,x6,x7,x8,x9,x10,x11,x12,x13,x14,x15,k0=>UfN n (fun x1 x2 x3 x4 x5 x6 x7 x8 x9 x10 x11 x12 x13 x14 x15=>Udc n m x1 x2 x3 x4 x5 x6 x7 x8 x9 x10 x11 x12 x13 x14 x15 k0) x1 x2 x3 x4 x5 x6 x7 x8 x9 x10 x11 x12 x13 x14 x15 k0
def Uj9 (n:Nat) (x1:ByteArray) (x2:Int) (x3:LP) (x4:Int) (x5:LP) (x6:ByteArray) (x7:LP) (x8:ByteArray) (x9:LP) (x10 x11 x12 x13 x14 x15:Int) (k0:ByteArray→Int→LP→Int→LP→ByteArray→LP→ByteArray→LP→Int→Int→Int→Int→O R):O R:=Udc n n x1 x2 x3 x4 x5 x6 x7 x8 x9 x10 x11 x12 x13 x14 x15 k0
def UfM (n:Nat) (l0:ByteArray→Int→LP→Int→LP→ByteArray→LP→Int→Int→Int→Int→O R) (x1:ByteArray) (x2:Int) (x3:LP) (x4:Int) (x5:LP) (x6:ByteArray) (x7:LP) (x8 x9 x10 x11:Int) (k0:ByteArray→Int→LP→Int→LP→ByteArray→LP→Int→Int→O R):O R :=
 bif (decide (x11<x10)) then (p50 n x1 x2 x3 x4 (fun y12 y13 y14 y15 y16=>Uei n y13 y14 y15 y16 (fun y17 y18 y19 y20 y21=>Uj9 n y18 y19 y20 y21 x5 x6 x7 y12 [] x8 x9 x10 x11 y17 0 (fun y22 y23 y24 y25 y26 y27 y28 y29 y30 y31 y32 y33 y34=>bif (Ja7 ((y28).length + 1) 40) then (l0 y22 y23 y24 y25 y26 y27 (y28++([.agg [.v (.string y29),.sh y30]]:LP)) y31 y32 y33 (IntKind.i64.wrap (y34 + 1))) else none)))) else (k0 x1 x2 x3 x4 x5 x6 x7 x8 x9)
def Udb (n:Nat):Nat→ByteArray→Int→LP→Int→LP→ByteArray→LP→Int→Int→Int→Int→(ByteArray→Int→LP→Int→LP→ByteArray→LP→Int→Int→O R)→O R
 | 0,_,_,_,_,_,_,_,_,_,_,_,_=>none
 | m + 1,x1,x2,x3,x4,x5,x6,x7,x8,x9,x10,x11,k0=>UfM n (fun x1 x2 x3 x4 x5 x6 x7 x8 x9 x10 x11=>Udb n m x1 x2 x3 x4 x5 x6 x7 x8 x9 x10 x11 k0) x1 x2 x3 x4 x5 x6 x7 x8 x9 x10 x11 k0
def Uj8 (n:Nat) (x1:ByteArray) (x2:Int) (x3:LP) (x4:Int) (x5:LP) (x6:ByteArray) (x7:LP) (x8 x9 x10 x11:Int) (k0:ByteArray→Int→LP→Int→LP→ByteArray→LP→Int→Int→O R):O R:=Udb n n x1 x2 x3 x4 x5 x6 x7 x8 x9 x10 x11 k0
def UfL (n:Nat) (l0:ByteArray→Int→LP→Int→LP→Int→Int→O R) (x1:ByteArray) (x2:Int) (x3:LP) (x4:Int) (x5:LP) (x6 x7:Int) (k0:ByteArray→Int→LP→Int→LP→O R):O R :=
 bif (decide (x7<x6)) then (p50 n x1 x2 x3 x4 (fun y8 y9 y10 y11 y12=>Uei n y9 y10 y11 y12 (fun y13 y14 y15 y16 y17=>Uj8 n y14 y15 y16 y17 x5 y8 [] x6 x7 y13 0 (fun y18 y19 y20 y21 y22 y23 y24 y25 y26=>bif (Ja7 ((y22).length + 1) 40) then (l0 y18 y19 y20 y21 (y22++([.agg [.v (.string y23),.sh y24]]:LP)) y25 (IntKind.i64.wrap (y26 + 1))) else none)))) else (k0 x1 x2 x3 x4 x5)
def Uda (n:Nat):Nat→ByteArray→Int→LP→Int→LP→Int→Int→(ByteArray→Int→LP→Int→LP→O R)→O R
 | 0,_,_,_,_,_,_,_,_=>none
 | m + 1,x1,x2,x3,x4,x5,x6,x7,k0=>UfL n (fun x1 x2 x3 x4 x5 x6 x7=>Uda n m x1 x2 x3 x4 x5 x6 x7 k0) x1 x2 x3 x4 x5 x6 x7 k0
def Uj7 (n:Nat) (x1:ByteArray) (x2:Int) (x3:LP) (x4:Int) (x5:LP) (x6 x7:Int) (k0:ByteArray→Int→LP→Int→LP→O R):O R:=Uda n n x1 x2 x3 x4 x5 x6 x7 k0
def UdU (n:Nat) (l0:ByteArray→Int→LP→Int→LP→Int→Int→O R) (x1:ByteArray) (x2:Int) (x3:LP) (x4:Int) (x5:LP) (x6 x7:Int) (k0:ByteArray→Int→LP→Int→LP→O R):O R :=
 bif (decide (x7<x6)) then none else (k0 x1 x2 x3 x4 x5)
def Uci (n:Nat):Nat→ByteArray→Int→LP→Int→LP→Int→Int→(ByteArray→Int→LP→Int→LP→O R)→O R
 | 0,_,_,_,_,_,_,_,_=>none
 | m + 1,x1,x2,x3,x4,x5,x6,x7,k0=>UdU n (fun x1 x2 x3 x4 x5 x6 x7=>Uci n m x1 x2 x3 x4 x5 x6 x7 k0) x1 x2 x3 x4 x5 x6 x7 k0
def UiU (n:Nat) (x1:ByteArray) (x2:Int) (x3:LP) (x4:Int) (x5:LP) (x6 x7:Int) (k0:ByteArray→Int→LP→Int→LP→O R):O R:=Uci n n x1 x2 x3 x4 x5 x6 x7 k0
def p27 (n:Nat) (x1:ByteArray) (x2:Int) (x3:LP) (x4:Int) (k0:LP→LP→ByteArray→Int→LP→Int→O R):O R :=
 Uei n x1 x2 x3 x4 (fun y5 y6 y7 y8 y9=>Uj7 n y6 y7 y8 y9 [] y5 0 (fun y10 y11 y12 y13 y14=>Uei n y10 y11 y12 y13 (fun y15 y16 y17 y18 y19=>UiU n y16 y17 y18 y19 y14 y15 0 (fun y20 y21 y22 y23 y24=>bif (y21 != ((y20).size:Int)) then none else (bif (bif false then true else (y23 != ((y22).length:Int))) then none else (k0 y24 [] y20 y21 y22 y23))))))
def UcI (n:Nat) (l0:ByteArray→Int→Int→LP→Int→Int→O R) (x1:ByteArray) (x2 x3:Int) (x4:LP) (x5 x6:Int) (k0:ByteArray→Int→Int→LP→O R):O R :=
 bif (decide (x6<x5)) then (Ukk n x1 x2 x3) else (k0 x1 x2 x3 x4)
def Ubf (n:Nat):Nat→ByteArray→Int→Int→LP→Int→Int→(ByteArray→Int→Int→LP→O R)→O R
 | 0,_,_,_,_,_,_,_=>none
 | m + 1,x1,x2,x3,x4,x5,x6,k0=>UcI n (fun x1 x2 x3 x4 x5 x6=>Ubf n m x1 x2 x3 x4 x5 x6 k0) x1 x2 x3 x4 x5 x6 k0
def UgI (n:Nat) (x1:ByteArray) (x2 x3:Int) (x4:LP) (x5 x6:Int) (k0:ByteArray→Int→Int→LP→O R):O R:=Ubf n n x1 x2 x3 x4 x5 x6 k0
def UbA (n:Nat) (l0:ByteArray→Int→Int→LP→Int→Int→O R) (x1:ByteArray) (x2 x3:Int) (x4:LP) (x5 x6:Int) (k0:ByteArray→Int→Int→LP→O R):O R :=
 bif (decide (x6<x5)) then none else (k0 x1 x2 x3 x4)
def UaR (n:Nat):Nat→ByteArray→Int→Int→LP→Int→Int→(ByteArray→Int→Int→LP→O R)→O R
 | 0,_,_,_,_,_,_,_=>none
 | m + 1,x1,x2,x3,x4,x5,x6,k0=>UbA n (fun x1 x2 x3 x4 x5 x6=>UaR n m x1 x2 x3 x4 x5 x6 k0) x1 x2 x3 x4 x5 x6 k0
def UfK (n:Nat) (x1:ByteArray) (x2 x3:Int) (x4:LP) (x5 x6:Int) (k0:ByteArray→Int→Int→LP→O R):O R:=UaR n n x1 x2 x3 x4 x5 x6 k0
def Uk (n:Nat) (x1:ByteArray) (x2 x3:Int) (k0:LP→LP→ByteArray→Int→Int→O R):O R :=
 p48 n x1 x2 x3 (fun y4 y5 y6 y7=>UgI n y5 y6 y7 [] y4 0 (fun y8 y9 y10 y11=>p48 n y8 y9 y10 (fun y12 y13 y14 y15=>UfK n y13 y14 y15 y11 y12 0 (fun y16 y17 y18 y19=>bif (y17 != ((y16).size:Int)) then none else (bif (bif false then true else (y18 != 0)) then none else (k0 y19 [] y16 y17 y18))))))
abbrev E27 (n:Nat):Code→Fr→Kc R→O R:=evC Tryz.prog (UcT n) Uab n (82,[0])
noncomputable def UcA:Code:=Jkz (Jlv Tryz.f27) [1,1,0,1,0,0]
abbrev UaB:Sl (List SV):=(.c (sBx 81 (cS (cI (cO 9 (cI .n))))) (.c (sBx 40 (.c sNl (.c sNl .n))) (.c (sBx 40 (cO 36 (.c sNl .n))) (cI (cI .n)))))
abbrev UaC:Sl (List SV):=(.c (sBx 81 (cS (cI (.c sNl (cI .n))))) (.c (sBx 40 (.c sNl (.c sNl .n))) (.c (sBx 40 (cO 36 (.c sNl .n))) (cI (cI .n)))))
abbrev Ub2 (n m:Nat) (K:Kc R):UaB.T (O R):=fun x1 x2 x3 x4 x5 x6 x7=>Uda n m x1 x2 x3 x4 x5 x6 x7 (fun y1 y2 y3 y4 y5=>xL Uab 3 K (.exit 0) [.bx 81 [vS y1,vI y2,.own 9 y3,vI y4],.bx 40 [.nl,.nl],.bx 40 [.own 36 y5,.nl]])
abbrev Uh2 (n:Nat) (K:Kc R) (l0:UaB.T (O R)):UaB.T (O R):=fun x1 x2 x3 x4 x5 x6 x7=>UfL n l0 x1 x2 x3 x4 x5 x6 x7 (fun y1 y2 y3 y4 y5=>xL Uab 3 K (.exit 0) [.bx 81 [vS y1,vI y2,.own 9 y3,vI y4],.bx 40 [.nl,.nl],.bx 40 [.own 36 y5,.nl]])
abbrev Ub3 (n m:Nat) (K:Kc R):UaC.T (O R):=fun x1 x2 x3 x4 x5 x6=>Ubf n m x1 x2 x3 x4 x5 x6 (fun y1 y2 y3 y4=>xL Uab 3 K (.exit 0) [.bx 81 [vS y1,vI y2,.nl,vI y3],.bx 40 [.nl,.nl],.bx 40 [.own 36 y4,.nl]])
abbrev Uh3 (n:Nat) (K:Kc R) (l0:UaC.T (O R)):UaC.T (O R):=fun x1 x2 x3 x4 x5 x6=>UcI n l0 x1 x2 x3 x4 x5 x6 (fun y1 y2 y3 y4=>xL Uab 3 K (.exit 0) [.bx 81 [vS y1,vI y2,.nl,vI y3],.bx 40 [.nl,.nl],.bx 40 [.own 36 y4,.nl]])
noncomputable def UgV:Code:=Jkz (Jlv Tryz.f27) [1,1,0,1,0,0,1,1,0,0,1,0,1,0,0]
abbrev UbF:Sl (List SV):=(.c (sBx 81 (cS (cI (cO 9 (cI .n))))) (.c (sBx 40 (.c sNl (.c sNl .n))) (.c (sBx 40 (cO 36 (.c sNl .n))) (.c (sBx 36 (cS (cO 33 .n))) (cI (cI (cI (cI .n))))))))
abbrev Ufc (n m:Nat) (K:Kc R):UbF.T (O R):=fun x1 x2 x3 x4 x5 x6 x7 x8 x9 x10 x11=>Udb n m x1 x2 x3 x4 x5 x6 x7 x8 x9 x10 x11 (fun y1 y2 y3 y4 y5 y6 y7 y8 y9=>xL Uab 6 K (.exit 2) [.bx 81 [vS y1,vI y2,.own 9 y3,vI y4],.bx 40 [.nl,.nl],.bx 40 [.own 36 y5,.nl],.bx 36 [vS y6,.own 33 y7],vI y8,vI y9])
abbrev Ujb (n:Nat) (K:Kc R) (l0:UbF.T (O R)):UbF.T (O R):=fun x1 x2 x3 x4 x5 x6 x7 x8 x9 x10 x11=>UfM n l0 x1 x2 x3 x4 x5 x6 x7 x8 x9 x10 x11 (fun y1 y2 y3 y4 y5 y6 y7 y8 y9=>xL Uab 6 K (.exit 2) [.bx 81 [vS y1,vI y2,.own 9 y3,vI y4],.bx 40 [.nl,.nl],.bx 40 [.own 36 y5,.nl],.bx 36 [vS y6,.own 33 y7],vI y8,vI y9])
noncomputable def UgW:Code:=Jkz (Jlv Tryz.f27) [1,1,0,1,0,0,1,1,0,0,1,0,1,0,0,1,1,0,0,1,0,1,0,0]
abbrev UbG:Sl (List SV):=(.c (sBx 81 (cS (cI (cO 9 (cI .n))))) (.c (sBx 40 (.c sNl (.c sNl .n))) (.c (sBx 40 (cO 36 (.c sNl .n))) (.c (sBx 36 (cS (cO 33 .n))) (.c (sBx 33 (cS (cO 61 .n))) (cI (cI (cI (cI (cI (cI .n)))))))))))
abbrev Ufd (n m:Nat) (K:Kc R):UbG.T (O R):=fun x1 x2 x3 x4 x5 x6 x7 x8 x9 x10 x11 x12 x13 x14 x15=>Udc n m x1 x2 x3 x4 x5 x6 x7 x8 x9 x10 x11 x12 x13 x14 x15 (fun y1 y2 y3 y4 y5 y6 y7 y8 y9 y10 y11 y12 y13=>xL Uab 9 K (.exit 4) [.bx 81 [vS y1,vI y2,.own 9 y3,vI y4],.bx 40 [.nl,.nl],.bx 40 [.own 36 y5,.nl],.bx 36 [vS y6,.own 33 y7],.bx 33 [vS y8,.own 61 y9],vI y10,vI y11,vI y12,vI y13])
abbrev Ujc (n:Nat) (K:Kc R) (l0:UbG.T (O R)):UbG.T (O R):=fun x1 x2 x3 x4 x5 x6 x7 x8 x9 x10 x11 x12 x13 x14 x15=>UfN n l0 x1 x2 x3 x4 x5 x6 x7 x8 x9 x10 x11 x12 x13 x14 x15 (fun y1 y2 y3 y4 y5 y6 y7 y8 y9 y10 y11 y12 y13=>xL Uab 9 K (.exit 4) [.bx 81 [vS y1,vI y2,.own 9 y3,vI y4],.bx 40 [.nl,.nl],.bx 40 [.own 36 y5,.nl],.bx 36 [vS y6,.own 33 y7],.bx 33 [vS y8,.own 61 y9],vI y10,vI y11,vI y12,vI y13])
noncomputable def Ua6:Code:=Jkz (Jlv Tryz.f27) [1,1,1,0,1,0,0]
abbrev Uap:Sl (List SV):=(.c (sBx 81 (cS (cI (cO 9 (cI .n))))) (.c (sBx 40 (.c sNl (.c sNl .n))) (.c (sBx 40 (cO 36 (.c sNl .n))) (cI (cI .n)))))
abbrev Uaq:Sl (List SV):=(.c (sBx 81 (cS (cI (.c sNl (cI .n))))) (.c (sBx 40 (.c sNl (.c sNl .n))) (.c (sBx 40 (cO 36 (.c sNl .n))) (cI (cI .n)))))
abbrev UaY (n m:Nat) (K:Kc R):Uap.T (O R):=fun x1 x2 x3 x4 x5 x6 x7=>Uci n m x1 x2 x3 x4 x5 x6 x7 (fun y1 y2 y3 y4 y5=>xL Uab 17 K (.exit 6) [.bx 81 [vS y1,vI y2,.own 9 y3,vI y4],.bx 40 [.nl,.nl],.bx 40 [.own 36 y5,.nl]])
abbrev Ugy (n:Nat) (K:Kc R) (l0:Uap.T (O R)):Uap.T (O R):=fun x1 x2 x3 x4 x5 x6 x7=>UdU n l0 x1 x2 x3 x4 x5 x6 x7 (fun y1 y2 y3 y4 y5=>xL Uab 17 K (.exit 6) [.bx 81 [vS y1,vI y2,.own 9 y3,vI y4],.bx 40 [.nl,.nl],.bx 40 [.own 36 y5,.nl]])
abbrev UaZ (n m:Nat) (K:Kc R):Uaq.T (O R):=fun x1 x2 x3 x4 x5 x6=>UaR n m x1 x2 x3 x4 x5 x6 (fun y1 y2 y3 y4=>xL Uab 17 K (.exit 6) [.bx 81 [vS y1,vI y2,.nl,vI y3],.bx 40 [.nl,.nl],.bx 40 [.own 36 y4,.nl]])
abbrev Ugz (n:Nat) (K:Kc R) (l0:Uaq.T (O R)):Uaq.T (O R):=fun x1 x2 x3 x4 x5 x6=>UbA n l0 x1 x2 x3 x4 x5 x6 (fun y1 y2 y3 y4=>xL Uab 17 K (.exit 6) [.bx 81 [vS y1,vI y2,.nl,vI y3],.bx 40 [.nl,.nl],.bx 40 [.own 36 y4,.nl]])
abbrev Ueg (n:Nat):Orc R:=fun i vs K=>JgZ (Nat.beq i 17) (JjK (Uap.ap vs (UaY n n K)) (JjK (Uaq.ap vs (UaZ n n K)) (Jc2 Uab 17 (E27 n Ua6) n vs K))) ((oL Uab (E27 n) n 9 UgW UbG (Ufd n n) (oL Uab (E27 n) n 6 UgV UbF (Ufc n n) (fun i vs K=>JgZ (Nat.beq i 3) (JjK (UaB.ap vs (Ub2 n n K)) (JjK (UaC.ap vs (Ub3 n n K)) (Jc2 Uab 3 (E27 n UcA) n vs K))) (oN i vs K)))) i vs K)
abbrev Ued (n:Nat):Orc R:=oN
abbrev K27 (R:Type) (n:Nat):=Jd (R:=R) Tryz.prog (UcT n) Uab n (82,[0]) (Ueg n) (Ued n)
theorem UkI (n:Nat):K27 R n (false,9,UgW):=Jk4 (lo:=Ueg n) (cu:=Ued n) (pO pN (by kernel_rfl)) UbG (Ufd n n) (Jji (F:=Ufd n) UbG (Ujc n) (fun K _ _ _ _ _ _ _ _ _ _ _ _ _ _ _=>rfl) (fun _ _=>rfl) (fun L K _ _ _ _ _ _ _ _ _ _ _ _ _ _ _=>by show _=_; kernel_rfl) n) fun _ _=>rfl
theorem UkH (n:Nat):K27 R n (false,6,UgV):=Jk4 (lo:=Ueg n) (cu:=Ued n) (pO (pC (UkI n) pN) (by kernel_rfl)) UbF (Ufc n n) (Jji (F:=Ufc n) UbF (Ujb n) (fun K _ _ _ _ _ _ _ _ _ _ _=>rfl) (fun _ _=>rfl) (fun L K _ _ _ _ _ _ _ _ _ _ _=>by show _=_; kernel_rfl) n) fun _ _=>rfl
theorem Ug (n:Nat):JfF (K27 R n) (JaS Uab UcA):=pO (pC (UkH n) pN) (by kernel_rfl)
theorem Uil (n:Nat):∀ m (K:Kc R),UaB.all (fun vs r=>Jc2 Uab 3 (Jdo Tryz.prog (UcT n) Uab (82,[0]) (Ueg n) (Ued n) UcA) m vs K=r) (Ub2 n m K):=Jji (F:=Ub2 n) UaB (Uh2 n) (fun K _ _ _ _ _ _ _=>rfl) (fun _ _=>rfl) (fun L K _ _ _ _ _ _ _=>by show _=_; kernel_rfl)
theorem Uim (n:Nat):∀ m (K:Kc R),UaC.all (fun vs r=>Jc2 Uab 3 (Jdo Tryz.prog (UcT n) Uab (82,[0]) (Ueg n) (Ued n) UcA) m vs K=r) (Ub3 n m K):=Jji (F:=Ub3 n) UaC (Uh3 n) (fun K _ _ _ _ _ _=>rfl) (fun _ _=>rfl) (fun L K _ _ _ _ _ _=>by show _=_; kernel_rfl)
theorem UkG (n:Nat):K27 R n (false,3,UcA):=Jk4 (lo:=Ueg n) (cu:=Ued n) (Ug n) UaB (Ub2 n n) (Uil n n) (Jk4 (lo:=Ueg n) (cu:=Ued n) (Ug n) UaC (Ub3 n n) (Uim n n) fun _ _=>rfl)
theorem Ud7 (n:Nat):JfF (K27 R n) (JaS Uab Ua6):=pO pN (by kernel_rfl)
theorem UgF (n:Nat):∀ m (K:Kc R),Uap.all (fun vs r=>Jc2 Uab 17 (Jdo Tryz.prog (UcT n) Uab (82,[0]) (Ueg n) (Ued n) Ua6) m vs K=r) (UaY n m K):=Jji (F:=UaY n) Uap (Ugy n) (fun K _ _ _ _ _ _ _=>rfl) (fun _ _=>rfl) (fun L K _ _ _ _ _ _ _=>by show _=_; kernel_rfl)
theorem UgG (n:Nat):∀ m (K:Kc R),Uaq.all (fun vs r=>Jc2 Uab 17 (Jdo Tryz.prog (UcT n) Uab (82,[0]) (Ueg n) (Ued n) Ua6) m vs K=r) (UaZ n m K):=Jji (F:=UaZ n) Uaq (Ugz n) (fun K _ _ _ _ _ _=>rfl) (fun _ _=>rfl) (fun L K _ _ _ _ _ _=>by show _=_; kernel_rfl)
theorem UiZ (n:Nat):K27 R n (false,17,Ua6):=Jk4 (lo:=Ueg n) (cu:=Ued n) (Ud7 n) Uap (UaY n n) (UgF n n) (Jk4 (lo:=Ueg n) (cu:=Ued n) (Ud7 n) Uaq (UaZ n n) (UgG n n) fun _ _=>rfl)
theorem Uor (n:Nat):JfF (K27 R n) (JaS Uab (Jlv Tryz.f27)):=pO (pC (UkG n) (pC (UiZ n) pN)) (by kernel_rfl)
abbrev Ums:Sl (List SV):=(.c (sBx 81 (cS (cI (cO 9 (cI .n))))) .n)
abbrev Unf (n:Nat) (K:List SV→O R):Ums.T (O R):=fun x1 x2 x3 x4=>p27 n x1 x2 x3 x4 (fun y1 y2 y3 y4 y5 y6=>K [.p (.agg [.sh y1,.sh y2]),.bx 81 [vS y3,vI y4,.own 9 y5,vI y6]])
abbrev Umt:Sl (List SV):=(.c (sBx 81 (cS (cI (.c sNl (cI .n))))) .n)
abbrev Ung (n:Nat) (K:List SV→O R):Umt.T (O R):=fun x1 x2 x3=>Uk n x1 x2 x3 (fun y1 y2 y3 y4 y5=>K [.p (.agg [.sh y1,.sh y2]),.bx 81 [vS y3,vI y4,.nl,vI y5]])
abbrev UnH (n:Nat):FS:={ om:=[true],run:=fun args K=>JjK (Ums.ap args (Unf n K)) (JjK (Umt.ap args (Ung n K)) none) }
theorem UoK (n:Nat):FSound Tryz.prog GI 27 (UnH n):=gd Uab n (UcY n) Tryz.func27 (.cons (UcY n) Ums (Unf n) (@fun R K _ _ _ _=>by show _=_; exact (JkP (lo:=Ueg n) (cu:=Ued n) (c:=Jlv Tryz.f27) (by kernel_rfl) (Uor (R:=R) n) K).trans (by kernel_rfl)) (.cons (UcY n) Umt (Ung n) (@fun R K _ _ _=>by show _=_; exact (JkP (lo:=Ueg n) (cu:=Ued n) (c:=Jlv Tryz.f27) (by kernel_rfl) (Uor (R:=R) n) K).trans (by kernel_rfl)) .nil)) (by kernel_rfl)
abbrev UlI:Func:=Jln 8 Tryz.f14
def UcQ:Ann:={ loops:=[],cuts:=[(5,ids [0,2,3,4],ids [2,3,4])],frz:=[1000012,1000021,1000033,1000040,1000043,1000053,4000041,5000007],rm:=[.id,.id,.id] }
abbrev Uiy (n:Nat):Env:=eC 27 (UnH n) (eC 26 (UnG n) (eC 13 (UlK n) (eC 10 (UlJ n) eN)))
theorem UeI (n:Nat):EnvOK Tryz.prog GI (Uiy n):=.cons (.cons (.cons (.cons (.nil) (Uog n)) (Uoh n)) (UoJ n)) (UoK n)
def Uhp (n:Nat) (x1:ByteArray) (x2 x3:Int) (k0:Int→Int→O R) (k1:LP→LP→Int→Int→O R):O R :=
 let v4:=IntKind.i64.wrap (((x1).size:Int) - 4); bif (Jgk 0 v4 (x1).size) then (let v5:=IntKind.i64.wrap (((x1).size:Int) - 4); bif (Jgk v5 ((x1).size:Int) (x1).size) then (bif (Ja7 (ByteArray.extract x1 (0:Int).toNat (v4:Int).toNat).size 1) then (p13 n (JaA (ByteArray.extract x1 (0:Int).toNat (v4:Int).toNat)) (fun y6=>bif (Jgk ((ByteArray.extract x1 (0:Int).toNat (v4:Int).toNat).size:Int) ((y6).size:Int) (y6).size) then (bif (!eqS (ByteArray.extract y6 (((ByteArray.extract x1 (0:Int).toNat (v4:Int).toNat).size:Int):Int).toNat (((y6).size:Int):Int).toNat) (ByteArray.extract x1 (v5:Int).toNat (((x1).size:Int):Int).toNat)) then (k0 0 21) else (p26 n (ByteArray.extract x1 (0:Int).toNat (v4:Int).toNat) 5 0 (fun y7 y8 y9 y10=>p27 n y7 y8 y9 y10 (fun y11 y12 y13 y14 y15 y16=>p10 n y11 y12 (fun y17=>bif (y17 != 0) then (k0 0 y17) else (k1 y11 y12 ((y15).length:Int) 0)))) (fun y18 y19 y20=>Uk n y18 y19 y20 (fun y21 y22 y23 y24 y25=>p10 n y21 y22 (fun y26=>bif (y26 != 0) then (k0 0 y26) else (k1 y21 y22 0 0)))))) else none)) else none) else none) else none
def p14 (n:Nat) (x1:ByteArray) (k0:LP→LP→Int→Int→O R):O R :=
 bif (decide (((x1).size:Int)>1048576)) then (k0 [] [] 0 5) else (bif (decide (((x1).size:Int)<9)) then (k0 [] [] 0 3) else (bif (Jgk 0 5 (x1).size) then (bif (bif false then true else (!eqS (ByteArray.extract x1 (0:Int).toNat (5:Int).toNat) (⟨#[67,76,76,82,1]⟩:ByteArray))) then (k0 [] [] 0 3) else (Uhp n x1 0 0 (fun y2 y3=>k0 [] [] y2 y3) (fun y4 y5 y6 y7=>k0 y4 y5 y6 y7))) else none))
abbrev E14 (n:Nat):Code→Fr→Kc R→O R:=evC Tryz.prog (Uiy n) UcQ n (61,[])
noncomputable def UgU:Code:=Jkz (Jlv UlI) [1,1,1]
abbrev Ugi:Sl (List SV):=(cS (.c (sBx 40 (.c sNl (.c sNl .n))) (.c (sBx 3 (cI .n)) (.c (sBx 28 (cI .n)) .n))))
abbrev Uhh (n:Nat) (K:Kc R):Ugi.T (O R):=fun x1 x2 x3=>Uhp n x1 x2 x3 (fun y1 y2=>xC UcQ 5 K .ret [.bx 40 [.nl,.nl],.bx 3 [vI y1],.bx 28 [vI y2]]) (fun y1 y2 y3 y4=>xC UcQ 5 K .ret [.bx 40 [vH y1,vH y2],.bx 3 [vI y3],.bx 28 [vI y4]])
abbrev UlR (n:Nat):Orc R:=oN
abbrev Ulz (n:Nat):Orc R:=oC UcQ (E14 n) 5 UgU Ugi (Uhh n) oN
abbrev K14 (R:Type) (n:Nat):=Jd (R:=R) Tryz.prog (Uiy n) UcQ n (61,[]) (UlR n) (Ulz n)
theorem UkA (n:Nat):K14 R n (true,5,UgU):=Jlh (lo:=UlR n) (cu:=Ulz n) (pO pN (by kernel_rfl)) Ugi (Uhh n) (fun K _ _ _=>by show _=_; kernel_rfl) fun _ _=>rfl
theorem Uo9 (n:Nat):JfF (K14 R n) (JaS UcQ (Jlv UlI)):=pO (pC (UkA n) pN) (by kernel_rfl)
abbrev t14:Sl (List SV):=(cS .n)
abbrev f14 (n:Nat) (K:List SV→O R):t14.T (O R):=fun x1=>p14 n x1 (fun y1 y2 y3 y4=>K [.p (.agg [.sh y1,.sh y2]),vI y3,vI y4])
abbrev UnA (n:Nat):FS:=fT [false] t14 (f14 n)
theorem UoD (n:Nat):FSound Tryz.prog GI 14 (UnA n):=gdD UcQ n (UeI n) Tryz.func14 (gd:=25) (t:=41) (r:=8) UjW (.cons (UeI n) t14 (f14 n) (@fun R K _=>by show _=_; exact (JkP (lo:=UlR n) (cu:=Ulz n) (c:=Jlv UlI) (by kernel_rfl) (Uo9 (R:=R) n) K).trans (by kernel_rfl)) .nil) (by kernel_rfl) (by kernel_rfl)
def Ulr:Ann:={ loops:=[],cuts:=[],frz:=[],rm:=[.id,.id] }
abbrev Um3 (n:Nat):Env:=eC 14 (UnA n) eN
theorem Uhf (n:Nat):EnvOK Tryz.prog GI (Um3 n):=.cons (.nil) (UoD n)
def p8 (n:Nat) (x1:ByteArray) (k0:LP→LP→Int→O R):O R :=
 p14 n x1 (fun y2 y3 y4 y5=>k0 y2 y3 y5)
abbrev lo8 (n:Nat):Orc R:=oN
abbrev cu8 (n:Nat):Orc R:=oN
abbrev K8 (R:Type) (n:Nat):=Jd (R:=R) Tryz.prog (Um3 n) Ulr n (15,[]) (lo8 n) (cu8 n)
theorem pa8 (n:Nat):JfF (K8 R n) (JaS Ulr (Jlv Tryz.f8)):=pO pN (by kernel_rfl)
abbrev t8:Sl (List SV):=(cS .n)
abbrev f8 (n:Nat) (K:List SV→O R):t8.T (O R):=fun x1=>p8 n x1 (fun y1 y2 y3=>K [.p (.agg [.sh y1,.sh y2]),vI y3])
abbrev fs8 (n:Nat):FS:=fT [false] t8 (f8 n)
theorem ok8 (n:Nat):FSound Tryz.prog GI 8 (fs8 n):=gd Ulr n (Uhf n) Tryz.func8 (.cons (Uhf n) t8 (f8 n) (@fun R K _=>by show _=_; exact (JkP (lo:=lo8 n) (cu:=cu8 n) (c:=Jlv Tryz.f8) (by kernel_rfl) (pa8 (R:=R) n) K).trans (by kernel_rfl)) .nil) (by kernel_rfl)
end
end Go.Proofs.YtgglhmfncoeffaaGreatDoor
