/- Proved: the law BinarySums returns true at all its arguments (no further conditions): the row and what it stands on. -/
import Derived.Test.YtgglhmfncoeffaaGreatDoorMBinarySums0
import Derived.Test.YtgglhmfncoeffaaGreatDoorRows
import Derived.Test.YtgglhmfncoeffaaGreatDoorT2
import Derived.Test.YtgglhmfncoeffaaGreatDoorCards
import Derived.Test.YtgglhmfncoeffaaGreatDoorTie
import Derived.WalkKit
import Derived.ProofKit
import Derived.OpenShut
import Derived.ShutString
import Derived.ChangeOld
import Derived.Below
import Derived.SizedLaws
import Derived.LaidMore
import Derived.Lay
import Derived.SevenTiedAt
import Derived.Stop.Joined
set_option linter.unusedVariables false
set_option maxRecDepth 100000
namespace Go.Proofs.YtgglhmfncoeffaaGreatDoor
open Go Th Go.Proofs
noncomputable section
variable {R:Type}
def Ui7:Ann:={ loops:=[],cuts:=[(7,ids [1],ids [0])],frz:=[],rm:=[.id] }
abbrev UlF (n:Nat):Env:=eC 8 (fs8 n) (eC 7 (fs7 n) (eC 5 (fs5 n) eN))
theorem Uhb (n:Nat):EnvOK Tryz.prog GI (UlF n):=.cons (.cons (.cons (.nil) (ok5 n)) (ok7 n)) (ok8 n)
def Ukj (n:Nat) (x1:ByteArray) (k0:Bool→O R):O R :=
 let v2:=IntKind.i64.wrap (((x1).size:Int) - 1); bif (Jgk 0 v2 (x1).size) then (let v3:=IntKind.i64.wrap (((x1).size:Int) - 1); bif (inR v3 (x1).size) then (bif (JeY ([.v (.int .u8 (JfY .xor .u8 (Je1 x1 v3) 1))]:LP)) then (Jlb (ByteArray.extract x1 (0:Int).toNat (v2:Int).toNat) (Jhn ([.v (.int .u8 (JfY .xor .u8 (Je1 x1 v3) 1))]:LP)) fun s4=>p8 n s4 (fun y5 y6 y7=>bif (y7 == 21) then (p5 n ⟨#[49,50,51,52,53,54,55,56,57]⟩ (fun y8=>bif true then (k0 (bif true then (y8 == 3421780262) else false)) else none)) else (bif false then none else (bif false then none else (k0 false))))) else none) else none) else none
def p4 (n:Nat)  (k0:Bool→O R):O R :=
 p7 n ([.agg [.v (.string ⟨#[66,111,111,108]⟩),.sh ([.agg [.v (.string ⟨#[70,97,108,115,101]⟩),.sh []],.agg [.v (.string ⟨#[84,114,117,101]⟩),.sh []]]:LP)]]:LP) [] (fun y1 y2=>p8 n ⟨#[]⟩ (fun y3 y4 y5=>p8 n y1 (fun y6 y7 y8=>bif (y2 != 0) then (bif true then (bif true then (bif true then (bif true then (bif true then (bif true then (bif true then (bif true then (bif true then (bif true then (bif true then (bif true then (bif true then (bif true then (bif true then (bif true then (bif true then (bif true then (bif true then (bif true then (bif true then (bif true then (bif true then (bif true then (bif true then (k0 false) else none) else none) else none) else none) else none) else none) else none) else none) else none) else none) else none) else none) else none) else none) else none) else none) else none) else none) else none) else none) else none) else none) else none) else none) else none) else (bif false then none else (bif false then none else (bif false then none else (bif false then none else (let v9:=IntKind.i64.wrap (((⟨#[67,76,76,82,1,3,4,66,111,111,108,5,70,97,108,115,101,4,84,114,117,101,1,0,2,1,0,2,0,0]⟩:ByteArray).size:Int) + 4); bif false then none else (bif (bif false then true else (((y1).size:Int) != v9)) then (bif true then (bif true then (bif true then (bif true then (bif true then (bif true then (bif true then (bif true then (bif true then (bif true then (bif true then (bif true then (bif true then (bif true then (bif true then (bif true then (bif true then (bif true then (k0 false) else none) else none) else none) else none) else none) else none) else none) else none) else none) else none) else none) else none) else none) else none) else none) else none) else none) else none) else (bif false then none else (bif false then none else (bif false then none else (bif (Jgk 0 ((⟨#[67,76,76,82,1,3,4,66,111,111,108,5,70,97,108,115,101,4,84,114,117,101,1,0,2,1,0,2,0,0]⟩:ByteArray).size:Int) (y1).size) then (bif false then none else (bif false then none else (bif (bif false then true else (!eqS (ByteArray.extract y1 (0:Int).toNat (((⟨#[67,76,76,82,1,3,4,66,111,111,108,5,70,97,108,115,101,4,84,114,117,101,1,0,2,1,0,2,0,0]⟩:ByteArray).size:Int):Int).toNat) (⟨#[67,76,76,82,1,3,4,66,111,111,108,5,70,97,108,115,101,4,84,114,117,101,1,0,2,1,0,2,0,0]⟩:ByteArray))) then (bif true then (bif true then (bif true then (bif true then (bif true then (bif true then (bif true then (bif true then (bif true then (bif true then (bif true then (k0 false) else none) else none) else none) else none) else none) else none) else none) else none) else none) else none) else none) else (bif false then none else (bif (bif false then true else (y5 != 3)) then (bif true then (bif true then (bif true then (bif true then (bif true then (bif true then (bif true then (bif true then (k0 false) else none) else none) else none) else none) else none) else none) else none) else none) else (bif false then none else (bif (bif false then true else (y8 != 0)) then (bif true then (bif true then (bif true then (bif true then (bif true then (k0 false) else none) else none) else none) else none) else none) else (bif false then none else (bif false then none else (bif false then none else (bif (bif false then true else (((y6).length:Int) != 1)) then (k0 false) else (Ukj n y1 (fun y10=>k0 y10))))))))))))) else none)))))))))))))
abbrev E4 (n:Nat):Code→Fr→Kc R→O R:=evC Tryz.prog (UlF n) Ui7 n (85,[])
noncomputable def Ujp:Code:=Jkz (Jlv Tryz.f4) [1,1,1,1,1,1]
abbrev Ui3:Sl (List SV):=(cS .n)
abbrev UjU (n:Nat) (K:Kc R):Ui3.T (O R):=fun x1=>Ukj n x1 (fun y1=>xC Ui7 7 K .ret [vB y1])
abbrev lo4 (n:Nat):Orc R:=oN
abbrev cu4 (n:Nat):Orc R:=oC Ui7 (E4 n) 7 Ujp Ui3 (UjU n) oN
abbrev K4 (R:Type) (n:Nat):=Jd (R:=R) Tryz.prog (UlF n) Ui7 n (85,[]) (lo4 n) (cu4 n)
theorem Ul8 (n:Nat):K4 R n (true,7,Ujp):=Jlh (lo:=lo4 n) (cu:=cu4 n) (pO pN (by kernel_rfl)) Ui3 (UjU n) (fun K _=>by show _=_; kernel_rfl) fun _ _=>rfl
theorem pa4 (n:Nat):JfF (K4 R n) (JaS Ui7 (Jlv Tryz.f4)):=pO (pC (Ul8 n) pN) (by kernel_rfl)
abbrev t4:Sl (List SV):=.n
abbrev f4 (n:Nat) (K:List SV→O R):t4.T (O R):=p4 n  (fun y1=>K [vB y1])
abbrev fs4 (n:Nat):FS:=fT [] t4 (f4 n)
theorem ok4 (n:Nat):FSound Tryz.prog GI 4 (fs4 n):=gd Ui7 n (Uhb n) Tryz.func4 (.cons (Uhb n) t4 (f4 n) (@fun R K=>by show _=_; exact (JkP (lo:=lo4 n) (cu:=cu4 n) (c:=Jlv Tryz.f4) (by kernel_rfl) (pa4 (R:=R) n) K).trans (by kernel_rfl)) .nil) (by kernel_rfl)
end
end Go.Proofs.YtgglhmfncoeffaaGreatDoor
set_option linter.unusedVariables false
namespace Go.Proofs.YtgglhmfncoeffaaGreatDoor.C54
open Go Th Go.Proofs
variable {R:Type}
theorem Ui9 (m:Nat) (K:Bool→Option R):p4 (m + 300) K=K true:=by kernel_rfl
theorem Ult (n:Nat) (hn:300≤n) (K:Bool→Option R):p4 n K=K true:=by
 obtain ⟨m,rfl⟩:∃ m,n=m + 300:=⟨n - 300,by omega⟩
 exact Ui9 m K
end Go.Proofs.YtgglhmfncoeffaaGreatDoor.C54
set_option linter.unusedVariables false
set_option maxRecDepth 100000
namespace Go.Proofs.YtgglhmfncoeffaaGreatDoor
open Go Th Go.Proofs
noncomputable section
variable {R:Type}
def Ulq:Ann:={ loops:=[],cuts:=[],frz:=[],rm:=[.id] }
abbrev Um2 (n:Nat):Env:=eC 6 (fs6 n) (eC 5 (fs5 n) (eC 4 (fs4 n) eN))
theorem Uha (n:Nat):EnvOK Tryz.prog GI (Um2 n):=.cons (.cons (.cons (.nil) (ok4 n)) (ok5 n)) (ok6 n)
def p3 (n:Nat) (x1:ByteArray) (k0:Bool→O R):O R :=
 p4 n (fun y2=>bif (!y2) then (k0 false) else (bif (decide (((x1).size:Int)>1000)) then (k0 true) else (p5 n x1 (fun y3=>p6 n x1 (fun y4=>bif (y3 == y4) then (bif decide ((8:Int)<0) then none else (let v5:=Int.fdiv y3 (2 ^ (min ((8:Int)).toNat IntKind.u32.bits)); bif decide ((16:Int)<0) then none else (let v6:=Int.fdiv y3 (2 ^ (min ((16:Int)).toNat IntKind.u32.bits)); bif decide ((24:Int)<0) then none else (let v7:=Int.fdiv y3 (2 ^ (min ((24:Int)).toNat IntKind.u32.bits)); bif (JeY ([.v (.int .u8 (IntKind.u8.wrap (y3))),.v (.int .u8 (IntKind.u8.wrap (v5))),.v (.int .u8 (IntKind.u8.wrap (v6))),.v (.int .u8 (IntKind.u8.wrap (v7)))]:LP)) then (Jlb x1 (Jhn ([.v (.int .u8 (IntKind.u8.wrap (y3))),.v (.int .u8 (IntKind.u8.wrap (v5))),.v (.int .u8 (IntKind.u8.wrap (v6))),.v (.int .u8 (IntKind.u8.wrap (v7)))]:LP)) fun s8=>p5 n s8 (fun y9=>k0 (bif true then (y9 == 558161692) else false))) else none)))) else (k0 false))))))
abbrev lo3 (n:Nat):Orc R:=oN
abbrev cu3 (n:Nat):Orc R:=oN
abbrev K3 (R:Type) (n:Nat):=Jd (R:=R) Tryz.prog (Um2 n) Ulq n (34,[]) (lo3 n) (cu3 n)
theorem pa3 (n:Nat):JfF (K3 R n) (JaS Ulq (Jlv Tryz.f3)):=pO pN (by kernel_rfl)
abbrev t3:Sl (List SV):=(cS .n)
abbrev f3 (n:Nat) (K:List SV→O R):t3.T (O R):=fun x1=>p3 n x1 (fun y1=>K [vB y1])
abbrev fs3 (n:Nat):FS:=fT [false] t3 (f3 n)
theorem ok3 (n:Nat):FSound Tryz.prog GI 3 (fs3 n):=gd Ulq n (Uha n) Tryz.func3 (.cons (Uha n) t3 (f3 n) (@fun R K _=>by show _=_; exact (JkP (lo:=lo3 n) (cu:=cu3 n) (c:=Jlv Tryz.f3) (by kernel_rfl) (pa3 (R:=R) n) K).trans (by kernel_rfl)) .nil) (by kernel_rfl)
end
end Go.Proofs.YtgglhmfncoeffaaGreatDoor
set_option linter.unusedVariables false
namespace Go.Proofs.YtgglhmfncoeffaaGreatDoor
open Go Go.Proofs
abbrev Ua0:List (String × DataW Unit):=[("math/bits.deBruijn32tab",Rows.laid_math_bits_deBruijn32tab),("math/bits.deBruijn64tab",Rows.laid_math_bits_deBruijn64tab),("internal/strconv.uint64pow10",Rows.laid_internal_strconv_uint64pow10),("unicode/utf8.acceptRanges",Rows.laid_unicode_utf8_acceptRanges),("strconv.ErrRange",Rows.laid_strconv_ErrRange),("strconv.ErrSyntax",Rows.laid_strconv_ErrSyntax),("unicode/utf8.first",Rows.laid_unicode_utf8_first)]
end Go.Proofs.YtgglhmfncoeffaaGreatDoor
set_option linter.unusedVariables false
set_option linter.unusedSimpArgs false
namespace Go.Proofs.YtgglhmfncoeffaaGreatDoor
open Go Th Go.Proofs C54
variable {R:Type}
theorem UdN:∀ {n m:Nat},n≤m→leN n m=true
 | 0,_,_=>by unfold leN; rfl
 | n + 1,0,h=>by omega
 | n + 1,m + 1,h=>by
  have:=UdN (n:=n) (m:=m) (by omega)
  unfold leN
  exact this
theorem UoA:decide ((16:Int)<0)=false:=by decide
theorem UoB:decide ((24:Int)<0)=false:=by decide
theorem Umf (x:W):Int.fdiv (ux x) (2 ^ (min ((16:Int)).toNat IntKind.u32.bits))=ux (x >>> 16):=Ue x 16 (by omega)
theorem Umg (x:W):Int.fdiv (ux x) (2 ^ (min ((24:Int)).toNat IntKind.u32.bits))=ux (x >>> 24):=Ue x 24 (by omega)
theorem Uic (a b:ByteArray) (h:a.size + b.size≤9223372036854775807) (K:ByteArray→Option R):Jlb a b K=K (a++b):=by
 unfold Jlb
 exact bT (UdN h) _ _
theorem Uk7 (b:BitVec 8):(u8n (.v (.int .u8 (ux b)))).toBitVec=b:=by
 show (UInt8.ofNat (ux b).toNat).toBitVec=b
 unfold ux
 rw [Int.toNat_natCast]
 apply BitVec.eq_of_toNat_eq
 show (BitVec.ofNat 8 b.toNat).toNat=_
 rw [BitVec.ofNat_toNat,BitVec.setWidth_eq]
theorem Ubv (n:Nat) (hn:2000≤n) (s:ByteArray) (k:Bool→Option R):p3 n s k=k true:=by
 unfold p3
 rw [Ult n (by omega)]
 show (bif decide ((s.size:Int)>1000) then k true else _)=_
 by_cases hs:(s.size:Int)>1000
 · rw [bT (decide_eq_true hs)]
 · rw [bF (decide_eq_false hs)]
   have hz:s.size≤1000:=by omega
   rw [Uoz n (by omega) s (by omega) (by omega),Upw n (by omega) s (by omega) (by omega)]
   obtain ⟨r,hr⟩:∃ r,r=crc (BitVec.allOnes 32) (bl s):=⟨_,rfl⟩
   rw [←hr]
   rw [bT (by simp),no8,UoA,UoB,bF rfl,bF rfl,bF rfl]
   simp only [Uoy,Umf,Umg,Uea]
   rw [bT (by rfl)]
   obtain ⟨t,ht⟩:∃ t,t=Jhn [.v (.int .u8 (ux ((~~~ r).setWidth 8))),.v (.int .u8 (ux ((~~~ r >>> 8).setWidth 8))),.v (.int .u8 (ux ((~~~ r >>> 16).setWidth 8))),.v (.int .u8 (ux ((~~~ r >>> 24).setWidth 8)))]:=⟨_,rfl⟩
   rw [←ht]
   have hts:t.size=4:=by rw [ht]; rfl
   have htb:bl t=le4 (~~~ r):=by
    rw [ht]
    show [_,_,_,_]=_
    unfold le4
    simp only [Uk7]
   have hcat:bl (s++t)=bl s++bl t:=by
    unfold bl
    rw [←List.map_append]
    congr 1
    try (simp)
   have hcs:(s++t).size=s.size + t.size:=by simp
   rw [Uic s t (by omega)]
   rw [Uoz n (by omega) (s++t) (by omega) (by omega),hcat,htb,Uec,←hr,Ui1]
   rfl
theorem Ubt (n:Nat) (a0:ByteArray) (K:List SV→Option R):(fs3 n).run ((#[.string a0]:Array Value).toList.map fun x=>SV.p (.v x)) K=p3 n a0 (fun y=>K [.p (.v (.bool y))]):=rfl
theorem Ubu (W:World) (a0:ByteArray):Calls Tryz.prog 3 #[.string a0] W fun e w'=>e=.returned (.bool true)∧RowKit.Below W.heap.size W w' :=
 JkT (ok3 2000) (by rw [Ubt,Ubv 2000 (Nat.le_refl _) a0]; rfl) W (fun _=>False) (fun _ h=>h.elim) trivial
end Go.Proofs.YtgglhmfncoeffaaGreatDoor
namespace Go.Proofs.YtgglhmfncoeffaaGreatDoor.binarySums
open Go.ChangeShapes Go.WideShapes Go.ChangeAt Go.RowKit
open Go.ChangeMaps (open_string shut_string)
theorem own:ownKnob Tryz.prog.godebug=none:=by kernel_rfl
set_option maxRecDepth 100000 in
theorem lifted (os:Os) (started:os.Started) (H:Type) (enc:TypeId × Value→H) :
 ReturnsInHanded {} Tryz.checked os 3 .any (fun w args=>(Rows.binarySumsSpec.pre enc Tryz.prog Tryz.f3 Rows.binarySumsRow.domain false w args∧laidMetH Tryz.prog Ua0 w)∧sizedMet enc Tryz.prog Tryz.f3 (OpenSpec.ofChange Rows.binarySumsSpec) false w args)
  (Rows.binarySumsSpec.post enc Tryz.prog Tryz.f3 false true false false):=by
 refine returnsInHanded_of_change_and (C:=Tryz.checked) (X:=fun w _=>laidMetH Tryz.prog Ua0 w) (fun _ _ _ hh h=>h.of_heap hh) own started (by kernel_rfl) Tryz.func3
  (ChangeSpec.witness_shaped (enc:=enc) (C:=Tryz.checked) (os:=os) (X:=fun w _=>laidMetH Tryz.prog Ua0 w) false (World.laidAll Tryz.prog os Ua0) #[.string ByteArray.empty] 8 (World.laidAll_os _ _ _)
    (World.shaped_of_ZipB (by kernel_rfl) (by kernel_rfl)) (by kernel_rfl) (by kernel_rfl) (by kernel_rfl)
    (by rw [MakeChecks.laidMetH_plain _ _ _ (by kernel_rfl)]; exact laidMet_laidAll _ (by kernel_rfl) (by kernel_rfl))) ?_
 intro W base args ds gs before hval0 hW hcnd hsz0 hL _
 have hval:∀ (j:Nat) t v,Tryz.f3.params[j]? = some t→args[j]? = some v→Value.okWide Tryz.prog W .any base t v:=hval0
 have hW':=hW
 obtain ⟨p,q,hA0,hV,rfl,hfz,hnd⟩:=hW
 have hA:DataW.TrodAll enc Tryz.prog W 0 (fun _=>true) true Tryz.f3.params.toList args.toList ds p:=hA0
 rw [Tryz.params3] at hA hval
 obtain ⟨v0,vs0,d0,ds0,p0,q0,hargs,rfl,rfl,h0,r0⟩:=trodAll_cons hA
 obtain ⟨rfl,rfl,rfl⟩:=trodAll_nil r0
 obtain rfl:args=#[v0]:=by cases args; simp_all
 obtain ⟨rfl,rfl⟩:=trodVars_none hV
 obtain ⟨a0,rfl,rfl,rfl,y0⟩:=open_string Tryz.underlying9 (hval 0 9 v0 rfl rfl) h0
 clear hA0 hval0 hsz0
 refine (Ubu W a0).mono fun e W' ⟨he,bel⟩=>?_
 subst he
 exact ⟨_,rfl,_,_,_,[],_,[],hW',trodAll_mk1 (shut_bool Tryz.underlying4 _),(trodAll_cons_mk (shut_string Tryz.underlying9 y0) trodAll_mk0),rfl,bel.frame _,fun h=>by cases h⟩
theorem over:Rows.BinarySumsSaid :=
 OpenClaim.holds_of_wide 3 Tryz.f3 rfl rfl rfl rfl rfl rfl rfl ⟨rfl,rfl,rfl,rfl,rfl⟩ rfl rfl rfl rfl rfl (by kernel_rfl) Tryz.func3 (by kernel_rfl)
  (of_decide_eq_true (by kernel_rfl)) (by unfold Func.isWrapper; first | (rw [if_pos (by decide +kernel)]; kernel_rfl) | (rw [if_neg (by decide +kernel)]; exact ⟨rfl,rfl⟩))
  (fun os started H enc _=>lifted os started H enc)
theorem proved:Rows.BinarySumsCardSaid :=
 Claim7.holds_tied_plain_at .later [] [.data,.data,.data,.data,.sentinel,.sentinel,.pinned] true (true, "6268d38665f8c9d2c1edc9d098951cf8b9cb6ecc4878067a75ca9950ace18b13") true over (fun _ h=>by cases h) (by kernel_rfl) (fun _ h=>by cases h) binarySums_row_tie rfl ⟨rfl,rfl⟩ (by kernel_rfl) rfl
  (fun f fn hf hfn=>by
    obtain rfl:f=3:=Option.some.inj ((show Tryz.prog.funcNamed "cellarer/cellarerlaw54.BinarySums" = some 3 by kernel_rfl).symm.trans hf) |>.symm
    obtain rfl:fn=Tryz.f3:=(Option.some.inj (Tryz.func3.symm.trans hfn)).symm
    exact ⟨by kernel_rfl,fun j t ht=>by
     rw [Tryz.params3] at ht
     have hm:t∈[9]:=by simpa using Array.mem_of_getElem? ht
     have hall:([9].all fun u=>!Tryz.prog.wantsStandIn u)=true:=by kernel_rfl
     exact (show Tryz.prog.wantsStandIn t=false by simpa using List.all_eq_true.1 hall t hm)⟩)
  (by kernel_rfl)
end Go.Proofs.YtgglhmfncoeffaaGreatDoor.binarySums
namespace Go.Proofs.YtgglhmfncoeffaaGreatDoor
theorem binarySums_holds:Rows.BinarySumsCardSaid:=binarySums.proved
end Go.Proofs.YtgglhmfncoeffaaGreatDoor
