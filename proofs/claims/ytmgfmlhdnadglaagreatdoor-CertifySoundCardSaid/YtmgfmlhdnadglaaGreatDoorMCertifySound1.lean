/- Proved: part 5 of the proof that the law CertifySound returns true at all its arguments (no further conditions). -/
import Derived.Test.YtmgfmlhdnadglaaGreatDoorMCertifySound0
set_option linter.unusedVariables false
set_option linter.unusedSimpArgs false
namespace Go.Proofs.YtmgfmlhdnadglaaGreatDoor
open Go Th Go.Proofs
variable {R:Type}
theorem UaX {n:Nat} (hn:10 ^ 400≤n):200000≤n:=Nat.le_trans (by decide +kernel) hn
def idx (s:List UInt8):Nat:=(s.takeWhile (· != 47)).length
theorem UqR:idx []=0:=rfl
theorem Ub4 (c:UInt8) (r:List UInt8):idx (c::r)=if c=47 then 0 else idx r + 1:=by
 unfold idx
 rw [List.takeWhile_cons]
 by_cases h:c=47 <;> simp [h]
theorem Uix:∀ {s:List UInt8},(∀ c∈s,c≠47)→idx s=s.length
 | [],_=>rfl
 | c::r,h=>by rw [Ub4,if_neg (h c (List.mem_cons_self ..)),Uix fun x hx=>h x (List.mem_cons_of_mem _ hx),List.length_cons]
theorem UoK:∀ {a:List UInt8} (b:List UInt8),(∀ c∈a,c≠47)→idx (a++47::b)=a.length
 | [],b,_=>by rw [List.nil_append,Ub4,if_pos rfl]; rfl
 | c::r,b,h=>by rw [List.cons_append,Ub4,if_neg (h c (List.mem_cons_self ..)),UoK b fun x hx=>h x (List.mem_cons_of_mem _ hx),List.length_cons]
theorem Uf5:∀ {s:List UInt8},idx s<s.length→s=s.take (idx s)++47::s.drop (idx s + 1)
 | [],h=>by simp [UqR] at h
 | c::r,h=>by
  rw [Ub4,List.length_cons] at *
  by_cases hc:c=47
  · rw [if_pos hc] at *; rw [hc]; rfl
  · rw [if_neg hc] at *
    have ih:=Uf5 (s:=r) (by omega)
    rw [List.take_succ_cons,List.drop_succ_cons,List.cons_append,←ih]
theorem Ub5:∀ (s:List UInt8),Lib.indexByte s 47=if idx s<s.length then (idx s:Int) else -1
 | []=>rfl
 | c::r=>by
  have ih:=Ub5 r
  simp only [Lib.indexByte,Ub4,List.length_cons]
  by_cases hc:c=47
  · subst hc; simp
  · rw [if_neg (by simpa using hc),ih,if_neg hc]
    by_cases h:idx r<r.length
    · simp only [if_pos h]
      rw [if_neg (by simp),if_pos (by omega)]; omega
    · simp only [if_neg h]
      rw [if_pos (by decide),if_neg (by omega)]
theorem Uok (n:Nat) (s:List UInt8) (hs:s.length<2 ^ 40) (k0:ByteArray→ByteArray→Bool→Option R) :
 p96 n (bs s) k0=if idx s<s.length then k0 (bs (s.take (idx s))) (bs (s.drop (idx s + 1))) true else k0 (bs s) (bs []) false:=by
 unfold p96 Uwx
 have e:((⟨#[47]⟩:ByteArray).data.toList.headD 0)=47:=rfl
 have hz:(⟨#[47]⟩:ByteArray).size=1:=rfl
 rw [Jg7,e,Ub5]
 by_cases h:idx s<s.length
 · rw [if_pos h,if_pos h]
   have e1:(idx s:Int) + ((1:Nat):Int)=((idx s + 1:Nat):Int):=by omega
   have e2:List.drop (0:Int).toNat (List.take (idx s) s)=s.take (idx s):=rfl
   have e3:List.drop 0 (List.take (idx s) s)=s.take (idx s):=rfl
   have e4:List.drop (idx s + 1) (List.take s.length s)=s.drop (idx s + 1):=by rw [List.take_length]
   have hz2:(bs [47]).size=1:=rfl
   simp (disch:=(first | omega | (simp only [JlE]; omega))) only [↓JlH,JlF,hz,hz2,e1,Jji,e2,e3,e4,List.length_nil]
 · rw [if_neg h,if_neg h]
   simp (disch:=(first | omega | (simp only [JlE]; omega))) only [↓JlH,JlF]
theorem Unf (a:Nat):∀ c∈dec a,c≠47:=by
 intro c hc h
 have:=UaL.1 (Ubg a c hc)
 rw [h] at this
 exact absurd this.1 (by decide)
theorem Uf6 (z:Int):∀ c∈Lib.itoa z,c≠47:=by
 have h:=UdC (Lib.itoa z)
 rw [Uau] at h
 rw [h]
 intro c hc
 rcases List.mem_append.1 hc with h1 | h1
 · split at h1
   · rw [List.mem_singleton.1 h1]; decide
   · cases h1
 · exact Unf _ c h1
theorem UiA {z:Int} (h:z.natAbs<10 ^ 400):(Lib.itoa z).length≤401:=by
 have h1:=Ucq h
 have h2:=UdC (Lib.itoa z)
 rw [Uau] at h2
 rw [h2,List.length_append]
 split <;> simp <;> omega
theorem UaQ {q:Rat} (h:fits q):(Uaf q).length≤802:=by
 unfold Uaf
 have h1:=UiA h.1
 have h2:=Ucq h.2
 rw [List.length_append]
 split <;> simp <;> omega
theorem Uj3:dec 1=[49]:=UaJ (by omega)
theorem UcO (q:Rat):(Uaf q).take (idx (Uaf q))=Lib.itoa q.num∧(idx (Uaf q)<(Uaf q).length↔q.den≠1)∧(q.den≠1→(Uaf q).drop (idx (Uaf q) + 1)=dec q.den):=by
 unfold Uaf
 by_cases h:q.den=1
 · rw [if_pos h,List.append_nil,Uix (Uf6 _),List.take_length]
   exact ⟨rfl,by simp [h],fun q=>absurd h q⟩
 · rw [if_neg h,UoK _ (Uf6 _),List.take_left]
   refine ⟨rfl,by simp [h],fun _=>?_⟩
   rw [List.drop_append,List.drop_of_length_le (by omega),show (Lib.itoa q.num).length + 1 - (Lib.itoa q.num).length=1 from by omega]
   rfl
theorem Ufw {p q:Rat} (h:Uaf p=Uaf q):p=q:=by
 obtain ⟨a1,a2,a3⟩:=UcO p
 obtain ⟨b1,b2,b3⟩:=UcO q
 rw [h] at a1 a2 a3
 have hn:Lib.itoa p.num=Lib.itoa q.num:=a1.symm.trans b1
 have hc:=congrArg Ubq hn
 rw [Uau,Uau] at hc
 have h1:=UbM (Prod.mk.inj hc).2
 have h2:(p.num<0)=(q.num<0):=by simpa using (Prod.mk.inj hc).1
 have hnum:p.num=q.num:=by
  have:p.num<0↔q.num<0:=by rw [h2]
  omega
 by_cases hd:q.den=1
 · have:p.den=1:=by
    apply Classical.byContradiction
    intro hp
    exact (b2.1 (a2.2 hp)) hd
   exact Rat.ext hnum (this.trans hd.symm)
 · have hp:p.den≠1:=a2.1 (b2.2 hd)
   exact Rat.ext hnum (UbM ((a3 hp).symm.trans (b3 hd)))
def isQ (s:List UInt8):Prop:=∃ q:Rat,fits q∧s=Uaf q
theorem UlK (n:Nat) (z w:Nat) (hz:z<10 ^ 400) (hw:w<10 ^ 400) (hw0:w≠0) (hn:10 ^ 400≤n) (x1 x3:Bool) (x5:List PV) (k0:Bool→List PV→List PV→Bool→Option R) :
 Ufh n x1 (bs (dec w)) x3 (NN z) x5 k0=k0 x3 (NN z) (NN w) (Nat.gcd w z == 1):=by
 have hN:=Nat.le_trans (by decide +kernel:2 ^ 20≤10 ^ 400) hn
 have m1:=Uav hz
 have m2:=Uav hw
 have lw:=Ucq hw
 have q2:=fun k0=>Ufv (R:=R) n (dec w) (Ubg _) (by omega) (by omega) k0
 rw [Ucu] at q2
 have hg:=fun k0=>UoH (R:=R) n z w (by omega) (by omega) (by omega) (by omega) (by omega) k0
 obtain ⟨g,hge⟩:∃ g,Nat.gcd w z=g:=⟨_,rfl⟩
 have hg0:g≠0:=by rw [←hge]; intro e; exact hw0 (Nat.gcd_eq_zero_iff.1 e).1
 rw [hge] at hg ⊢
 have hgl:(toL 1000000000 g).length≤45:=Ubj m2 (by rw [←hge]; exact Nat.le_of_dvd (by omega) (Nat.gcd_dvd_left _ _))
 unfold Ufh
 clear hz hw hn
 simp only [q2,hg,UnQ]
 by_cases c:(toL 1000000000 g).length=1
 · have hg1:g<1000000000:=by
    have:=(Uag hB2 g 1).1 (by omega)
    rwa [Nat.pow_one] at this
   have hgi:∀ (K:Int→Option R),Jj .u32 ((NN g).getD (0:Int).toNat (PV.v (Value.bool false))) K=K (g:Int):=fun K=>by rw [Uet hg0 hg1]; rfl
   have e1:(((toL 1000000000 g).length:Int) == 1)=true:=by rw [c]; rfl
   have e2:((g:Int) == 1)=(g == 1):=JdC g 1
   simp (disch:=(first | omega | (simp only [JlE]; omega))) only [↓JlH,JlF,JlG,e1,hgi,e2]
 · have e1:(((toL 1000000000 g).length:Int) == 1)=false:=by
    simp only [beq_eq_false_iff_ne,ne_eq]; omega
   have e2:(g == 1)=false:=by
    simp only [beq_eq_false_iff_ne,ne_eq]
    intro e
    rw [e,Uc3 hB2 (by omega) (by omega)] at c
    exact c rfl
   rw [e2]
   simp (disch:=(first | omega | (simp only [JlE]; omega))) only [↓JlH,JlF,JlG,e1]
theorem Ugy (q:Rat):Nat.gcd q.den q.num.natAbs=1:=by rw [Nat.gcd_comm]; exact q.reduced
theorem Um7 {s:List UInt8}:eqS (bs s) (⟨#[48]⟩:ByteArray)=(s == [48]):=rfl
theorem UqA {s:List UInt8}:eqS (bs s) (⟨#[49]⟩:ByteArray)=(s == [49]):=rfl
theorem UlM (z:Int) (w:Nat) (hz:z.natAbs<10 ^ 400) (hw:w<10 ^ 400) (h0:w≠0) (hc:Nat.gcd w z.natAbs=1):∃ q:Rat,fits q∧q.num=z∧q.den=w :=
 ⟨⟨z,w,h0,by rw [Nat.gcd_comm] at hc; exact hc⟩,⟨hz,hw⟩,rfl,rfl⟩
theorem UbQ (n:Nat) (hn:10 ^ 400≤n) (q:Rat) (hq:fits q) (k0:Bool→List PV→List PV→Bool→Option R) :
 p56 n (bs (Uaf q)) k0=k0 (sg q.num) (NN q.num.natAbs) (NN q.den) true:=by
 have hN:=Nat.le_trans (by decide +kernel:2 ^ 20≤10 ^ 400) hn
 have hl:=UaQ hq
 obtain ⟨a1,a2,a3⟩:=UcO q
 have c1:=fun k0=>Uok (R:=R) n (Uaf q) (by omega) k0
 have li:=UiA hq.1
 have i1:=fun k0=>Uct (R:=R) n (Lib.itoa q.num) (by omega) k0
 rw [Uau,UlL hq.1] at i1
 have ln:=Ucq hq.1
 have q1:=fun k0=>Ufv (R:=R) n (dec q.num.natAbs) (Ubg _) (by omega) (by omega) k0
 rw [Ucu] at q1
 unfold p56
 by_cases hd:q.den=1
 · have e1:Uaf q=Lib.itoa q.num:=by unfold Uaf; rw [if_pos hd,List.append_nil]
   simp only [if_neg (fun h=>a2.1 h hd)] at c1
   rw [e1] at c1 ⊢
   simp only [c1,i1,q1,Bool.not_true,Bool.not_false,Uat,Uak]
   rw [hd,Ur5]
 · simp only [if_pos (a2.2 hd),a1,a3 hd] at c1
   have d1:=fun k0=>UdD (R:=R) n (dec q.den) (by have:=Ucq hq.2; omega) k0
   rw [UhO hq.2] at d1
   have g1:=fun x1 x3 x5 k0=>UlK (R:=R) n q.num.natAbs q.den hq.1 hq.2 q.den_nz hn x1 x3 x5 k0
   rw [Ugy] at g1
   have e48:(dec q.den == [48])=false:=by
    simp only [beq_eq_false_iff_ne,ne_eq]
    intro e; exact q.den_nz (UbM (e.trans Uam.symm))
   have e49:(dec q.den == [49])=false:=by
    simp only [beq_eq_false_iff_ne,ne_eq]
    intro e; exact hd (UbM (e.trans Uj3.symm))
   simp only [c1,i1,q1,d1,Um7,UqA,e48,e49,g1,Bool.not_true,Bool.not_false,Uat,Uak,show ((1:Nat) == 1)=true from rfl]
theorem UrA (n:Nat) (hn:10 ^ 400≤n) (s:List UInt8) (hs:s.length<2 ^ 20) :
 isQ s∨∃ a b c,∀ k0:Bool→List PV→List PV→Bool→Option R,p56 n (bs s) k0=k0 a b c false:=by
 have hN:=Nat.le_trans (by decide +kernel:2 ^ 20≤10 ^ 400) hn
 have c1:=fun k0=>Uok (R:=R) n s (by omega) k0
 by_cases hsl:idx s<s.length
 · simp only [if_pos hsl] at c1
   have hspl:=Uf5 hsl
   have lt:(s.take (idx s)).length<2 ^ 20:=by rw [List.length_take]; omega
   have lb:(s.drop (idx s + 1)).length<2 ^ 20:=by rw [List.length_drop]; omega
   generalize s.take (idx s)=t at *
   generalize s.drop (idx s + 1)=b at *
   have i1:=fun k0=>Uct (R:=R) n t (by omega) k0
   have d1:=fun k0=>UdD (R:=R) n b (by omega) k0
   cases hI:UoL t with
   | false =>
    rw [hI] at i1
    exact Or.inr ⟨false,[],[],fun k0=>by unfold p56; simp only [c1,i1,Bool.not_false,Uat]⟩
   | true =>
    rw [hI] at i1
    obtain ⟨z,hz,rfl⟩:=Uiy hI
    rw [Uau] at i1
    have ln:=Ucq hz
    have q1:=fun k0=>Ufv (R:=R) n (dec z.natAbs) (Ubg _) (by omega) (by omega) k0
    rw [Ucu] at q1
    cases hD:Ugm b with
    | false =>
     rw [hD] at d1
     exact Or.inr ⟨false,[],[],fun k0=>by unfold p56; simp only [c1,i1,q1,d1,Bool.not_true,Bool.not_false,Uat,Uak]⟩
    | true =>
     rw [hD] at d1
     obtain ⟨hw,hb⟩:=UhP hD
     by_cases h48:b=[48]
     · have e48:(b == [48])=true:=by simpa using h48
       exact Or.inr ⟨false,[],[],fun k0=>by unfold p56; simp only [c1,i1,q1,d1,Um7,e48,Bool.not_true,Bool.not_false,Uat,Uak]⟩
     have e48:(b == [48])=false:=by simpa using h48
     by_cases h49:b=[49]
     · have e49:(b == [49])=true:=by simpa using h49
       exact Or.inr ⟨false,[],[],fun k0=>by unfold p56; simp only [c1,i1,q1,d1,Um7,UqA,e48,e49,Bool.not_true,Bool.not_false,Uat,Uak]⟩
     have e49:(b == [49])=false:=by simpa using h49
     have hw0:ofD b≠0:=fun e=>h48 (by rw [hb,e,Uam])
     have hw1:ofD b≠1:=fun e=>h49 (by rw [hb,e,Uj3])
     have g1:=fun x1 x3 x5 k0=>UlK (R:=R) n z.natAbs (ofD b) hz hw hw0 hn x1 x3 x5 k0
     rw [←hb] at g1
     by_cases hg:Nat.gcd (ofD b) z.natAbs=1
     · obtain ⟨q,f1,f2,f3⟩:=UlM z (ofD b) hz hw hw0 hg
       refine Or.inl ⟨q,f1,?_⟩
       unfold Uaf
       rw [f2,f3,if_neg hw1,←hb]
       exact hspl
     · rw [show (Nat.gcd (ofD b) z.natAbs == 1)=false from by simpa using hg] at g1
       exact Or.inr ⟨decide (z<0),NN z.natAbs,NN (ofD b),fun k0=>by unfold p56; simp only [c1,i1,q1,d1,Um7,UqA,e48,e49,g1,Bool.not_true,Bool.not_false,Uat,Uak]⟩
 · simp only [if_neg hsl] at c1
   have i1:=fun k0=>Uct (R:=R) n s (by omega) k0
   cases hI:UoL s with
   | false =>
    rw [hI] at i1
    exact Or.inr ⟨false,[],[],fun k0=>by unfold p56; simp only [c1,i1,Bool.not_false,Uat]⟩
   | true =>
    obtain ⟨z,hz,rfl⟩:=Uiy hI
    obtain ⟨q,f1,f2,f3⟩:=UlM z 1 hz (by decide +kernel) (by omega) (Nat.gcd_one_left _)
    refine Or.inl ⟨q,f1,?_⟩
    unfold Uaf
    rw [f2,f3,if_pos rfl,List.append_nil]
theorem UnF (n:Nat) (hn:10 ^ 400≤n) (s:List UInt8) (hs:s.length<2 ^ 20) (h:¬ isQ s):∃ a b c,∀ k0:Bool→List PV→List PV→Bool→Option R,p56 n (bs s) k0=k0 a b c false :=
 (UrA n hn s hs).resolve_left h
theorem Uaq (v:Int):Lib.itoa v=Uaf (v:Rat):=by
 unfold Uaf
 rw [Rat.num_intCast,Rat.den_intCast,if_pos rfl,List.append_nil]
theorem UeT {v:Int} (h:v.natAbs<10 ^ 400):fits (v:Rat):=by
 unfold fits
 rw [Rat.num_intCast,Rat.den_intCast]
 exact ⟨h,by decide +kernel⟩
theorem Ujf (n:Nat) (hn:10 ^ 400≤n) (s:List UInt8) (hs:s.length<2 ^ 20) (k0:Bool→Option R) [Decidable (isQ s)]:p53 n (bs s) k0=k0 (decide (isQ s)):=by
 have hN:=Nat.le_trans (by decide +kernel:2 ^ 20≤10 ^ 400) hn
 unfold p53
 by_cases hv:∃ v:Int,v.natAbs<10 ^ 9∧s=Lib.itoa v
 · obtain ⟨v,h1,rfl⟩:=hv
   have hq:isQ (Lib.itoa v):=⟨(v:Rat),UeT (Nat.lt_trans h1 (by decide +kernel)),Uaq v⟩
   rw [Uds n (by omega) v h1,decide_eq_true hq]; rfl
 · rw [Ugd n (by omega) s (by omega) hv,Uak]
   by_cases hq:isQ s
   · obtain ⟨q,h1,rfl⟩:=hq
     rw [UbQ n hn q h1,decide_eq_true ⟨q,h1,rfl⟩]
   · obtain ⟨a,b,c,h⟩:=UnF (R:=R) n hn s hs hq
     rw [h,decide_eq_false hq]
end Go.Proofs.YtmgfmlhdnadglaaGreatDoor
set_option linter.unusedVariables false
set_option maxRecDepth 100000
namespace Go.Proofs.YtmgfmlhdnadglaaGreatDoor
open Go Th Go.Proofs
noncomputable section
variable {R:Type}
def UeC:Ann:={ loops:=[(2,ids [5,6,7],ids [2])],cuts:=[],frz:=[],rm:=[.id] }
abbrev Uqv (n:Nat):Env:=eC 53 (UqM n) eN
theorem UkR (n:Nat):EnvOK Tryz.prog GI (Uqv n):=.cons (.nil) (UrY n)
def Ufm (n:Nat) (l0:LP→Int→Int→O R) (x1:LP) (x2 x3:Int) (k0:Bool→O R) (k1:O R):O R :=
 bif (decide (x3<x2)) then (bif (inR x3 ((x1).length)) then (Jj3 ((x1).getD ((x3:Int).toNat) (.v (.bool false))) fun e4=>p53 n e4 (fun y5=>bif (!y5) then (k0 false) else (l0 x1 x2 (IntKind.i64.wrap (x3 + 1))))) else none) else (k1)
def UcJ (n:Nat):Nat→LP→Int→Int→(Bool→O R)→(O R)→O R
 | 0,_,_,_,_,_=>none
 | m + 1,x1,x2,x3,k0,k1=>Ufm n (fun x1 x2 x3=>UcJ n m x1 x2 x3 k0 k1) x1 x2 x3 k0 k1
def Uo4 (n:Nat) (x1:LP) (x2 x3:Int) (k0:Bool→O R) (k1:O R):O R:=UcJ n n x1 x2 x3 k0 k1
def p66 (n:Nat) (x1:LP) (k0:Bool→O R):O R :=
 Uo4 n x1 ((x1).length:Int) 0 (fun y2=>k0 y2) (k0 true)
abbrev E66 (n:Nat):Code→Fr→Kc R→O R:=evC Tryz.prog (Uqv n) UeC n (15,[])
noncomputable def Uob:Code:=Jj4 (Jll Tryz.f66) [1,0,1,0,0]
abbrev Uep:Sl (List SV):=(cH (cI (cI .n)))
abbrev Ulz (n m:Nat) (K:Kc R):Uep.T (O R):=fun x1 x2 x3=>UcJ n m x1 x2 x3 (fun y1=>xL UeC 2 K .ret [vB y1]) (xL UeC 2 K (.exit 0) [dD])
abbrev Usn (n:Nat) (K:Kc R) (l0:Uep.T (O R)):Uep.T (O R):=fun x1 x2 x3=>Ufm n l0 x1 x2 x3 (fun y1=>xL UeC 2 K .ret [vB y1]) (xL UeC 2 K (.exit 0) [dD])
abbrev Uyw (n:Nat):Orc R:=oL UeC (E66 n) n 2 Uob Uep (Ulz n n) oN
abbrev UxG (n:Nat):Orc R:=oN
abbrev K66 (R:Type) (n:Nat):=JcH (R:=R) Tryz.prog (Uqv n) UeC n (15,[]) (Uyw n) (UxG n)
theorem Uuu (n:Nat):K66 R n (false,2,Uob):=JkF (lo:=Uyw n) (cu:=UxG n) (pO pN (by kernel_rfl)) Uep (Ulz n n) (JiE (F:=Ulz n) Uep (Usn n) (fun K _ _ _=>rfl) (fun _ _=>rfl) (fun L K _ _ _=>by show _=_; kernel_rfl) n) fun _ _=>rfl
theorem UA8 (n:Nat):Je6 (K66 R n) (JaJ UeC (Jll Tryz.f66)):=pO (pC (Uuu n) pN) (by kernel_rfl)
abbrev t66:Sl (List SV):=(cH .n)
abbrev f66 (n:Nat) (K:List SV→O R):t66.T (O R):=fun x1=>p66 n x1 (fun y1=>K [vB y1])
abbrev UvL (n:Nat):FS:=fT [false] t66 (f66 n)
theorem UyK (n:Nat):FSound Tryz.prog GI 66 (UvL n):=gd UeC n (UkR n) Tryz.func66 (.cons (UkR n) t66 (f66 n) (fun K _=>(Jkq (c:=Jll Tryz.f66) (by kernel_rfl) (UA8 n) K).trans (by kernel_rfl)) .nil) (by kernel_rfl)
abbrev t41:Sl (List SV):=(cH .n)
end
end Go.Proofs.YtmgfmlhdnadglaaGreatDoor
set_option linter.unusedVariables false
set_option linter.unusedSimpArgs false
namespace Go.Proofs.YtmgfmlhdnadglaaGreatDoor
open Go Th Go.Proofs
variable {R:Type}
theorem Udd {α β:Type} (f:α→β) {l:List α} {i:Nat} {d:β} (h:i<l.length):(l.map f).getD i d=f l[i]:=by
 rw [List.getD_eq_getElem?_getD,List.getElem?_map,List.getElem?_eq_getElem h]; rfl
abbrev TermT:=Int × List UInt8
def tPV (t:TermT):PV:=.agg [.v (.int .i64 t.1),.v (.string (bs t.2))]
def tms (l:List TermT):List PV:=l.map tPV
theorem Ua (l:List TermT):(tms l).length=l.length:=by unfold tms; rw [List.length_map]
theorem UaE {l:List TermT} {i:Nat} {d:PV} (h:i<l.length) (K:Int→ByteArray→Option R) :
 (Jh2 ((tms l).getD i d) fun a=>JdT a fun h1 t1=>Jj .i64 h1 fun e1=>JdT t1 fun h2 t2=>Jj3 h2 fun e2=>Ji2 t2 (K e1 e2))=K (l[i]).1 (bs (l[i]).2):=by
 unfold tms; rw [Udd tPV h]; rfl
structure RowT where
 tm:List TermT
 c:List UInt8
 eq:Bool
 mark:Int
def rPV (r:RowT):PV:=.agg [.sh (tms r.tm),.v (.string (bs r.c)),.v (.bool r.eq),.v (.int .i64 r.mark)]
def rws (l:List RowT):List PV:=l.map rPV
theorem Uad (l:List RowT):(rws l).length=l.length:=by unfold rws; rw [List.length_map]
theorem UaD {l:List RowT} {i:Nat} {d:PV} (h:i<l.length) (K:List PV→ByteArray→Bool→Int→Option R) :
 (Jh2 ((rws l).getD i d) fun a=>JdT a fun h1 t1=>Jkr h1 fun e1=>JdT t1 fun h2 t2=>Jj3 h2 fun e2=>JdT t2 fun h3 t3=>Jj2 h3 fun e3=>JdT t3 fun h4 t4=>Jj .i64 h4 fun e4=>Ji2 t4 (K e1 e2 e3 e4)) =
   K (tms (l[i]).tm) (bs (l[i]).c) (l[i]).eq (l[i]).mark:=by
 unfold rws; rw [Udd rPV h]; rfl
def qPV (q:Rat):PV:=.agg [.v (.bool (sg q.num)),.sh (II q.num.natAbs),.v (.bool false),.sh (II q.den)]
def qs (l:List Rat):List PV:=l.map qPV
theorem UbR {l:List (List UInt8)} {i:Nat} {d:PV} (h:i<l.length) (K:ByteArray→Option R):Jj3 ((sl l).getD i d) K=K (bs l[i]):=by
 unfold sl; rw [Udd _ h]; rfl
theorem UaK {α:Type} {l:List α} {i:Nat} (h:i<l.length):l.drop i=l[i]::l.drop (i + 1):=List.drop_eq_getElem_cons h
theorem Ual {α:Type} {l:List α} {ok:α→Bool} {kbad kend:Option R} (L:Nat→Nat→Option R) (hend:∀ m,L (m + 1) l.length=kend)
 (hstep:∀ m i (h:i<l.length),L (m + 1) i=if ok l[i] then L m (i + 1) else kbad):∀ (d m i:Nat),d + i=l.length→d<m→L m i=if (l.drop i).all ok then kend else kbad
 | 0,m + 1,i,hd,hm=>by
  have:i=l.length:=by omega
  subst this
  rw [hend,List.drop_length]; rfl
 | d + 1,m + 1,i,hd,hm=>by
  have hi:i<l.length:=by omega
  rw [hstep m i hi,Ual L hend hstep d m (i + 1) (by omega) (by omega),UaK hi,List.all_cons]
  cases ok l[i] <;> simp
def Ur0 {α σ:Type} (step:σ→α→(σ→Option R)→Option R) (kend:σ→Option R):σ→List α→Option R
 | s,[]=>kend s
 | s,a::l=>step s a fun s'=>Ur0 step kend s' l
theorem Ug6 {α σ:Type} {l:List α} {step:σ→α→(σ→Option R)→Option R} {kend:σ→Option R} (L:Nat→σ→Nat→Option R) (hend:∀ m s,L (m + 1) s l.length=kend s)
 (hstep:∀ m s i (h:i<l.length),L (m + 1) s i=step s l[i] fun s'=>L m s' (i + 1)):∀ (d m i:Nat) (s:σ),d + i=l.length→d<m→L m s i=Ur0 step kend s (l.drop i)
 | 0,m + 1,i,s,hd,hm=>by
  have:i=l.length:=by omega
  subst this
  rw [hend,List.drop_length]; rfl
 | d + 1,m + 1,i,s,hd,hm=>by
  have hi:i<l.length:=by omega
  rw [hstep m s i hi,UaK hi]
  show step s l[i] _=step s l[i] _
  congr 1
  funext s'
  exact Ug6 L hend hstep d m (i + 1) s' (by omega) (by omega)
theorem UmT {a b:List UInt8} (h:a=b):(a == b)=true:=by rw [h]; exact beq_self_eq_true b
theorem Ujs {a b:List UInt8} (h:¬ a=b):(a == b)=false:=by rw [Bool.eq_false_iff]; intro q; exact h (eq_of_beq q)
theorem i1 (i:Nat):(i:Int) + 1=((i + 1:Nat):Int):=by omega
noncomputable def qb (s:List UInt8):Bool:=@decide (isQ s) (Classical.propDecidable _)
theorem UwW {s:List UInt8}:qb s=true↔isQ s:=by unfold qb; exact @decide_eq_true_iff _ (Classical.propDecidable _)
theorem Ubo (n:Nat) (hn:10 ^ 400≤n) (s:List UInt8) (hs:s.length<2 ^ 17) (k0:Bool→Option R):p53 n (bs s) k0=k0 (qb s):=@Ujf R n hn s (Nat.lt_trans hs (by decide)) k0 (Classical.propDecidable _)
noncomputable def Ugr (l:List (List UInt8)):Bool:=l.all qb
def smS (l:List (List UInt8)):Prop:=l.length<2 ^ 17∧∀ s∈l,s.length<2 ^ 17
theorem Ui6 (n:Nat) (hn:10 ^ 400≤n) (l:List (List UInt8)) (hl:smS l) (k0:Bool→Option R):p66 n (sl l) k0=k0 (Ugr l):=by
 have hN:=UaX hn
 have hL:=hl.1
 unfold p66 Uo4
 have h:=Ual (R:=R) (l:=l) (ok:=qb) (kbad:=k0 false) (kend:=k0 true) (fun m i=>UcJ n m (sl l) ((sl l).length:Int) (i:Int) k0 (k0 true))
  (fun m=>by simp only [UcJ,Ufm]; simp (disch:=(first | omega | (simp only [JlE]; omega))) only [↓JlH,JlF,Uaj])
  (fun m i hi=>by
    have hv:=fun k=>Ubo (R:=R) n hn l[i] (hl.2 _ (List.getElem_mem hi)) k
    simp only [UcJ,Ufm]
    simp (disch:=(first | omega | (simp only [JlE]; omega))) only [↓JlH,JlF,Uaj,Jji,UbR hi,hv,i1]
    cases qb l[i] <;> rfl) l.length n 0 (by omega) (by omega)
 rw [List.drop_zero] at h
 refine Eq.trans h ?_
 unfold Ugr
 cases l.all qb <;> rfl
end Go.Proofs.YtmgfmlhdnadglaaGreatDoor
set_option linter.unusedVariables false
set_option maxRecDepth 100000
namespace Go.Proofs.YtmgfmlhdnadglaaGreatDoor
open Go Th Go.Proofs
noncomputable section
variable {R:Type}
def UbY:Ann:={ loops:=[(3,ids [1,2,5,9,10,11],ids [2,4])],cuts:=[],frz:=[],rm:=[.id] }
abbrev Uka (n:Nat):Env:=eC 53 (UqM n) eN
theorem Uh1 (n:Nat):EnvOK Tryz.prog GI (Uka n):=.cons (.nil) (UrY n)
def Udi (n:Nat) (l0:Int→LP→ByteArray→Bool→Int→Int→LP→Int→Int→O R) (x1:Int) (x2:LP) (x3:ByteArray) (x4:Bool) (x5 x6:Int) (x7:LP) (x8 x9:Int) (k0:LP→ByteArray→Bool→Int→Bool→O R) (k1:LP→ByteArray→Bool→Int→O R):O R :=
 bif (decide (x9<x8)) then (bif (inR x9 ((x7).length)) then (Jh2 ((x7).getD ((x9:Int).toNat) (.v (.bool false))) fun a10=>JdT a10 fun h11 t12=>Jj .i64 h11 fun e13=>JdT t12 fun h14 t15=>Jj3 h14 fun e16=>Ji2 t15 (bif (decide (e13≤x6)) then (k0 x2 x3 x4 x5 false) else (bif (bif false then true else (decide (e13≥x1))) then (k0 x2 x3 x4 x5 false) else (bif (bif false then true else eqS e16 (⟨#[48]⟩:ByteArray)) then (k0 x2 x3 x4 x5 false) else (p53 n e16 (fun y17=>bif (bif false then true else (!y17)) then (k0 x2 x3 x4 x5 false) else (l0 x1 x2 x3 x4 x5 e13 x7 x8 (IntKind.i64.wrap (x9 + 1))))))))) else none) else (k1 x2 x3 x4 x5)
def Ubs (n:Nat):Nat→Int→LP→ByteArray→Bool→Int→Int→LP→Int→Int→(LP→ByteArray→Bool→Int→Bool→O R)→(LP→ByteArray→Bool→Int→O R)→O R
 | 0,_,_,_,_,_,_,_,_,_,_,_=>none
 | m + 1,x1,x2,x3,x4,x5,x6,x7,x8,x9,k0,k1=>Udi n (fun x1 x2 x3 x4 x5 x6 x7 x8 x9=>Ubs n m x1 x2 x3 x4 x5 x6 x7 x8 x9 k0 k1) x1 x2 x3 x4 x5 x6 x7 x8 x9 k0 k1
def UlZ (n:Nat) (x1:Int) (x2:LP) (x3:ByteArray) (x4:Bool) (x5 x6:Int) (x7:LP) (x8 x9:Int) (k0:LP→ByteArray→Bool→Int→Bool→O R) (k1:LP→ByteArray→Bool→Int→O R):O R:=Ubs n n x1 x2 x3 x4 x5 x6 x7 x8 x9 k0 k1
def Uvc (n:Nat) (x1:LP) (x2:ByteArray) (x3:Bool) (x4 x5:Int) (k0:Bool→O R):O R :=
 UlZ n x5 x1 x2 x3 x4 (-1) x1 ((x1).length:Int) 0 (fun y6 y7 y8 y9 y10=>k0 y10) (fun y11 y12 y13 y14=>p53 n y12 (fun y15=>k0 y15))
abbrev UyX (n:Nat):Code→Fr→Kc R→O R:=evC Tryz.prog (Uka n) UbY n (42,[])
noncomputable def Ujz:Code:=Jj4 (Jll Tryz.f107) [1,1,0,1,0,0]
abbrev UcT:Sl (List SV):=(cI (.c (sBx 70 (cH (cS (cB (cI .n))))) (cI (cH (cI (cI .n))))))
abbrev UgH (n m:Nat) (K:Kc R):UcT.T (O R):=fun x1 x2 x3 x4 x5 x6 x7 x8 x9=>Ubs n m x1 x2 x3 x4 x5 x6 x7 x8 x9 (fun y1 y2 y3 y4 y5=>xL UbY 3 K .ret [.bx 70 [vH y1,vS y2,vB y3,vI y4],vB y5]) (fun y1 y2 y3 y4=>xL UbY 3 K (.exit 0) [.bx 70 [vH y1,vS y2,vB y3,vI y4],dD])
abbrev UpQ (n:Nat) (K:Kc R) (l0:UcT.T (O R)):UcT.T (O R):=fun x1 x2 x3 x4 x5 x6 x7 x8 x9=>Udi n l0 x1 x2 x3 x4 x5 x6 x7 x8 x9 (fun y1 y2 y3 y4 y5=>xL UbY 3 K .ret [.bx 70 [vH y1,vS y2,vB y3,vI y4],vB y5]) (fun y1 y2 y3 y4=>xL UbY 3 K (.exit 0) [.bx 70 [vH y1,vS y2,vB y3,vI y4],dD])
abbrev UtJ (n:Nat):Orc R:=oL UbY (UyX n) n 3 Ujz UcT (UgH n n) oN
abbrev Usz (n:Nat):Orc R:=oN
abbrev Uxr (R:Type) (n:Nat):=JcH (R:=R) Tryz.prog (Uka n) UbY n (42,[]) (UtJ n) (Usz n)
theorem Uq8 (n:Nat):Uxr R n (false,3,Ujz):=JkF (lo:=UtJ n) (cu:=Usz n) (pO pN (by kernel_rfl)) UcT (UgH n n) (JiE (F:=UgH n) UcT (UpQ n) (fun K _ _ _ _ _ _ _ _ _=>rfl) (fun _ _=>rfl) (fun L K _ _ _ _ _ _ _ _ _=>by show _=_; kernel_rfl) n) fun _ _=>rfl
theorem UwH (n:Nat):Je6 (Uxr R n) (JaJ UbY (Jll Tryz.f107)):=pO (pC (Uq8 n) pN) (by kernel_rfl)
abbrev Uw4:Sl (List SV):=(.c (sP (JlI (.c sSh (.c Jly (.c Jlf (.c (Jlv .i64) .n)))))) (cI .n))
abbrev f107 (n:Nat) (K:List SV→O R):Uw4.T (O R):=fun x1 x2 x3 x4 x5=>Uvc n x1 x2 x3 x4 x5 (fun y1=>K [vB y1])
abbrev Utk (n:Nat):FS:=fT [false,false] Uw4 (f107 n)
theorem Uv7 (n:Nat):FSound Tryz.prog GI 107 (Utk n):=gd UbY n (Uh1 n) Tryz.func107 (.cons (Uh1 n) Uw4 (f107 n) (fun K _ _ _ _ _=>(Jkq (c:=Jll Tryz.f107) (by kernel_rfl) (UwH n) K).trans (by kernel_rfl)) .nil) (by kernel_rfl)
def Ujh:Ann:={ loops:=[],cuts:=[],frz:=[],rm:=[.id] }
abbrev Uon (n:Nat):Env:=eC 107 (Utk n) eN
theorem Uh0 (n:Nat):EnvOK Tryz.prog GI (Uon n):=.cons (.nil) (Uv7 n)
def Uwv (n:Nat) (x1:LP) (x2:ByteArray) (x3:Bool) (x4 x5:Int) (x6:LP) (k0:Bool→O R):O R :=
 Uvc n x1 x2 x3 x4 x5 (fun y7=>k0 (!y7))
abbrev UvS (n:Nat):Orc R:=oN
abbrev Uvo (n:Nat):Orc R:=oN
abbrev Uy3 (R:Type) (n:Nat):=JcH (R:=R) Tryz.prog (Uon n) Ujh n (9,[]) (UvS n) (Uvo n)
theorem UwG (n:Nat):Je6 (Uy3 R n) (JaJ Ujh (Jll Tryz.f106)):=pO pN (by kernel_rfl)
abbrev Uw3:Sl (List SV):=(.c (sP (JlI (.c sSh (.c Jly (.c Jlf (.c (Jlv .i64) .n)))))) (.c (sP (sFb (.c (Jlv .i64) (.c sSh .n)))) .n))
abbrev f106 (n:Nat) (K:List SV→O R):Uw3.T (O R):=fun x1 x2 x3 x4 x5 x6=>Uwv n x1 x2 x3 x4 x5 x6 (fun y1=>K [vB y1])
abbrev Utj (n:Nat):FS:=fT [false,false] Uw3 (f106 n)
theorem Uv6 (n:Nat):FSound Tryz.prog GI 106 (Utj n):=gd Ujh n (Uh0 n) Tryz.func106 (.cons (Uh0 n) Uw3 (f106 n) (fun K _ _ _ _ _ _=>(Jkq (c:=Jll Tryz.f106) (by kernel_rfl) (UwG n) K).trans (by kernel_rfl)) .nil) (by kernel_rfl)
def Ub0:Ann:={ loops:=[(2,ids [0,1,7,8],ids [4])],cuts:=[],frz:=[],rm:=[.id] }
abbrev Ukf (n:Nat):Env:=eC 106 (Utj n) eN
theorem Ui (n:Nat):EnvOK Tryz.prog GI (Ukf n):=.cons (.nil) (Uv6 n)
def Udm (n:Nat) (l0:LP→Int→LP→Int→Int→O R) (x1:LP) (x2:Int) (x3:LP) (x4 x5:Int) (k0:Int→O R) (k1:O R):O R :=
 bif (decide (x5<x4)) then (bif (inR x5 ((x1).length)) then (Jh2 ((x1).getD ((x5:Int).toNat) (.v (.bool false))) fun a6=>JdT a6 fun h7 t8=>Jkr h7 fun e9=>JdT t8 fun h10 t11=>Jj3 h10 fun e12=>JdT t11 fun h13 t14=>Jj2 h13 fun e15=>JdT t14 fun h16 t17=>Jj .i64 h16 fun e18=>Ji2 t17 (Uwv n e9 e12 e15 e18 x2 x3 (fun y19=>bif y19 then (k0 x5) else (l0 x1 x2 x3 x4 (IntKind.i64.wrap (x5 + 1)))))) else none) else (k1)
def Ua2 (n:Nat):Nat→LP→Int→LP→Int→Int→(Int→O R)→(O R)→O R
 | 0,_,_,_,_,_,_,_=>none
 | m + 1,x1,x2,x3,x4,x5,k0,k1=>Udm n (fun x1 x2 x3 x4 x5=>Ua2 n m x1 x2 x3 x4 x5 k0 k1) x1 x2 x3 x4 x5 k0 k1
def Ul3 (n:Nat) (x1:LP) (x2:Int) (x3:LP) (x4 x5:Int) (k0:Int→O R) (k1:O R):O R:=Ua2 n n x1 x2 x3 x4 x5 k0 k1
def Uwy (n:Nat) (x1:LP) (x2:Int) (x3:LP) (k0:Int→O R):O R :=
 Ul3 n x1 x2 x3 ((x1).length:Int) 0 (fun y4=>k0 y4) (k0 (-1))
abbrev Uy0 (n:Nat):Code→Fr→Kc R→O R:=evC Tryz.prog (Ukf n) Ub0 n (19,[])
noncomputable def UjJ:Code:=Jj4 (Jll Tryz.f135) [1,0,1,0,0]
abbrev UcX:Sl (List SV):=(cH (.c (sP (JlJ 106 (.c (sFb (.c (Jlv .i64) (.c sSh .n))) .n))) (cI (cI .n))))
abbrev UgL (n m:Nat) (K:Kc R):UcX.T (O R):=fun x1 x2 x3 x4 x5=>Ua2 n m x1 x2 x3 x4 x5 (fun y1=>xL Ub0 2 K .ret [vI y1]) (xL Ub0 2 K (.exit 0) [dD])
abbrev UpU (n:Nat) (K:Kc R) (l0:UcX.T (O R)):UcX.T (O R):=fun x1 x2 x3 x4 x5=>Udm n l0 x1 x2 x3 x4 x5 (fun y1=>xL Ub0 2 K .ret [vI y1]) (xL Ub0 2 K (.exit 0) [dD])
abbrev UtM (n:Nat):Orc R:=oL Ub0 (Uy0 n) n 2 UjJ UcX (UgL n n) oN
abbrev UsC (n:Nat):Orc R:=oN
abbrev Uxu (R:Type) (n:Nat):=JcH (R:=R) Tryz.prog (Ukf n) Ub0 n (19,[]) (UtM n) (UsC n)
theorem Uri (n:Nat):Uxu R n (false,2,UjJ):=JkF (lo:=UtM n) (cu:=UsC n) (pO pN (by kernel_rfl)) UcX (UgL n n) (JiE (F:=UgL n) UcX (UpU n) (fun K _ _ _ _ _=>rfl) (fun _ _=>rfl) (fun L K _ _ _ _ _=>by show _=_; kernel_rfl) n) fun _ _=>rfl
theorem UwQ (n:Nat):Je6 (Uxu R n) (JaJ Ub0 (Jll Tryz.f135)):=pO (pC (Uri n) pN) (by kernel_rfl)
abbrev Ux:Sl (List SV):=(cH (.c (sP (JlJ 106 (.c (sFb (.c (Jlv .i64) (.c sSh .n))) .n))) .n))
abbrev f135 (n:Nat) (K:List SV→O R):Ux.T (O R):=fun x1 x2 x3=>Uwy n x1 x2 x3 (fun y1=>K [vI y1])
abbrev Utu (n:Nat):FS:=fT [false,false] Ux (f135 n)
theorem Uwg (n:Nat):FSound Tryz.prog GI 135 (Utu n):=gd Ub0 n (Ui n) Tryz.func135 (.cons (Ui n) Ux (f135 n) (fun K _ _ _=>(Jkq (c:=Jll Tryz.f135) (by kernel_rfl) (UwQ n) K).trans (by kernel_rfl)) .nil) (by kernel_rfl)
def Ujg:Ann:={ loops:=[],cuts:=[],frz:=[],rm:=[.id] }
abbrev Uom (n:Nat):Env:=eC 135 (Utu n) eN
theorem UhZ (n:Nat):EnvOK Tryz.prog GI (Uom n):=.cons (.nil) (Uwg n)
def Uwu (n:Nat) (x1:LP) (x2:Int) (x3:LP) (k0:Bool→O R):O R :=
 Uwy n x1 x2 x3 (fun y4=>k0 (decide (y4≥0)))
abbrev UvR (n:Nat):Orc R:=oN
abbrev Uvn (n:Nat):Orc R:=oN
abbrev Uy2 (R:Type) (n:Nat):=JcH (R:=R) Tryz.prog (Uom n) Ujg n (9,[]) (UvR n) (Uvn n)
theorem UwF (n:Nat):Je6 (Uy2 R n) (JaJ Ujg (Jll Tryz.f105)):=pO pN (by kernel_rfl)
abbrev t105:Sl (List SV):=(cH (.c (sP (JlJ 106 (.c (sFb (.c (Jlv .i64) (.c sSh .n))) .n))) .n))
abbrev f105 (n:Nat) (K:List SV→O R):t105.T (O R):=fun x1 x2 x3=>Uwu n x1 x2 x3 (fun y1=>K [vB y1])
abbrev Uti (n:Nat):FS:=fT [false,false] t105 (f105 n)
theorem Uv5 (n:Nat):FSound Tryz.prog GI 105 (Uti n):=gd Ujg n (UhZ n) Tryz.func105 (.cons (UhZ n) t105 (f105 n) (fun K _ _ _=>(Jkq (c:=Jll Tryz.f105) (by kernel_rfl) (UwF n) K).trans (by kernel_rfl)) .nil) (by kernel_rfl)
def UpA:Ann:={ loops:=[],cuts:=[],frz:=[],rm:=[.id] }
abbrev UsZ (n:Nat):Env:=eC 105 (Uti n) eN
theorem UkQ (n:Nat):EnvOK Tryz.prog GI (UsZ n):=.cons (.nil) (Uv5 n)
def p65 (n:Nat) (x1:Int) (x2:LP) (k0:Int→O R):O R :=
 bif (decide (x1<0)) then (k0 2) else (bif (bif false then true else (decide (x1>2048))) then (k0 2) else (bif (decide (((x2).length:Int)>2048)) then (k0 6) else (Uwu n x2 x1 x2 (fun y3=>bif y3 then (k0 3) else (k0 0)))))
abbrev UzX (n:Nat):Orc R:=oN
abbrev Uzs (n:Nat):Orc R:=oN
abbrev K65 (R:Type) (n:Nat):=JcH (R:=R) Tryz.prog (UsZ n) UpA n (19,[]) (UzX n) (Uzs n)
theorem UA7 (n:Nat):Je6 (K65 R n) (JaJ UpA (Jll Tryz.f65)):=pO pN (by kernel_rfl)
abbrev t65:Sl (List SV):=(.c (sP (JlI (.c (Jlv .i64) (.c sSh .n)))) .n)
abbrev f65 (n:Nat) (K:List SV→O R):t65.T (O R):=fun x1 x2=>p65 n x1 x2 (fun y1=>K [vI y1])
abbrev Uu6 (n:Nat):FS:=fT [false] t65 (f65 n)
theorem Uwt (n:Nat):FSound Tryz.prog GI 65 (Uu6 n):=gd UpA n (UkQ n) Tryz.func65 (.cons (UkQ n) t65 (f65 n) (fun K _ _=>(Jkq (c:=Jll Tryz.f65) (by kernel_rfl) (UA7 n) K).trans (by kernel_rfl)) .nil) (by kernel_rfl)
abbrev t39:Sl (List SV):=(.c (sP (JlI (.c (Jlv .i64) (.c sSh .n)))) .n)
def Upw:Ann:={ loops:=[],cuts:=[],frz:=[],rm:=[.id] }
abbrev UsV (n:Nat):Env:=eN
theorem UkI (n:Nat):EnvOK Tryz.prog GI (UsV n):=.nil
def p55 (n:Nat) (x1 x2:Int) (k0:Int→O R):O R :=
 bif (decide (x1<x2)) then (k0 (-1)) else (bif (decide (x1>x2)) then (k0 1) else (k0 0))
abbrev UzT (n:Nat):Orc R:=oN
abbrev Uzo (n:Nat):Orc R:=oN
abbrev K55 (R:Type) (n:Nat):=JcH (R:=R) Tryz.prog (UsV n) Upw n (13,[]) (UzT n) (Uzo n)
theorem UAZ (n:Nat):Je6 (K55 R n) (JaJ Upw (Jll Tryz.f55)):=pO pN (by kernel_rfl)
abbrev t55:Sl (List SV):=(cI (cI .n))
abbrev f55 (n:Nat) (K:List SV→O R):t55.T (O R):=fun x1 x2=>p55 n x1 x2 (fun y1=>K [vI y1])
abbrev Ux9 (n:Nat):FS:=fT [false,false] t55 (f55 n)
theorem UAk (n:Nat):FSound Tryz.prog GI 55 (Ux9 n):=gd Upw n (UkI n) Tryz.func55 (.cons (UkI n) t55 (f55 n) (fun K _ _=>(Jkq (c:=Jll Tryz.f55) (by kernel_rfl) (UAZ n) K).trans (by kernel_rfl)) .nil) (by kernel_rfl)
def UfS:Ann:={ loops:=[],cuts:=[(8,ids [8,10],ids [4]),(12,ids [8,10],ids [4])],frz:=[],rm:=[.id] }
abbrev Uqg (n:Nat):Env:=eC 58 (UtE n) (eC 57 (Uu5 n) (eC 56 (UtD n) (eC 55 (Ux9 n) (eC 54 (Uu4 n) eN))))
theorem Uko (n:Nat):EnvOK Tryz.prog GI (Uqg n):=.cons (.cons (.cons (.cons (.cons (.nil) (Uwr n)) (UAk n)) (Uv n)) (Uws n)) (Uva n)
def Ucx (n:Nat) (x1:Bool) (x2 x3:LP) (x4:Bool) (x5 x6:LP) (k0:Int→O R):O R :=
 p58 n x2 x6 (fun y7=>p58 n x5 x3 (fun y8=>p57 n y7 y8 (fun y9=>bif x1 then (k0 (IntKind.i64.wrap (0 - y9))) else (k0 y9))))
def Ul6 (n:Nat) (x1:Bool) (x2 x3:LP) (x4:Bool) (x5 x6:LP) (k0:Int→O R):O R :=
 bif x1 then (bif (bif true then (!x4) else false) then (k0 (-1)) else (bif x4 then (bif (bif true then (!x1) else false) then (k0 1) else (Ucx n x1 x2 x3 x4 x5 x6 (fun y7=>k0 y7))) else (Ucx n x1 x2 x3 x4 x5 x6 (fun y8=>k0 y8)))) else (bif x4 then (bif (bif true then (!x1) else false) then (k0 1) else (Ucx n x1 x2 x3 x4 x5 x6 (fun y9=>k0 y9))) else (Ucx n x1 x2 x3 x4 x5 x6 (fun y10=>k0 y10)))
def p19 (n:Nat) (x1 x2:ByteArray) (k0:Int→O R):O R :=
 p54 n x1 x2 (fun y3 y4 y5=>bif y5 then (p55 n y3 y4 (fun y6=>k0 y6)) else (p56 n x1 (fun y7 y8 y9 y10=>p56 n x2 (fun y11 y12 y13 y14=>bif (!y10) then (k0 0) else (bif (bif false then true else (!y14)) then (k0 0) else (Ul6 n y7 y8 y9 y11 y12 y13 (fun y15=>k0 y15)))))))
abbrev E19 (n:Nat):Code→Fr→Kc R→O R:=evC Tryz.prog (Uqg n) UfS n (72,[])
noncomputable def UnU:Code:=Jj4 (Jll Tryz.f19) [1,1,1,1,1]
abbrev Umm:Sl (List SV):=(.c (sBx 99 (cB (cH (cH .n)))) (.c (sBx 99 (cB (cH (cH .n)))) .n))
abbrev Uow (n:Nat) (K:Kc R):Umm.T (O R):=fun x1 x2 x3 x4 x5 x6=>Ul6 n x1 x2 x3 x4 x5 x6 (fun y1=>xC UfS 8 K .ret [vI y1])
noncomputable def UjN:Code:=Jj4 (Jll Tryz.f19) [1,1,1,1,1,1]
abbrev Uhg:Sl (List SV):=(.c (sBx 99 (cB (cH (cH .n)))) (.c (sBx 99 (cB (cH (cH .n)))) .n))
abbrev Ulf (n:Nat) (K:Kc R):Uhg.T (O R):=fun x1 x2 x3 x4 x5 x6=>Ucx n x1 x2 x3 x4 x5 x6 (fun y1=>xC UfS 12 K .ret [vI y1])
abbrev UvY (n:Nat):Orc R:=oN
abbrev Uvu (n:Nat):Orc R:=oC UfS (E19 n) 12 UjN Uhg (Ulf n) (oC UfS (E19 n) 8 UnU Umm (Uow n) oN)
abbrev K19 (R:Type) (n:Nat):=JcH (R:=R) Tryz.prog (Uqg n) UfS n (72,[]) (UvY n) (Uvu n)
theorem Urm (n:Nat):K19 R n (true,12,UjN):=JkW (lo:=UvY n) (cu:=Uvu n) (pO pN (by kernel_rfl)) Uhg (Ulf n) (fun K _ _ _ _ _ _=>by show _=_; kernel_rfl) fun _ _=>rfl
theorem Uu (n:Nat):K19 R n (true,8,UnU):=JkW (lo:=UvY n) (cu:=Uvu n) (pO (pC (Urm n) pN) (by kernel_rfl)) Umm (Uow n) (fun K _ _ _ _ _ _=>by show _=_; kernel_rfl) fun _ _=>rfl
theorem UAF (n:Nat):Je6 (K19 R n) (JaJ UfS (Jll Tryz.f19)):=pO (pC (Uu n) pN) (by kernel_rfl)
abbrev t19:Sl (List SV):=(cS (cS .n))
abbrev f19 (n:Nat) (K:List SV→O R):t19.T (O R):=fun x1 x2=>p19 n x1 x2 (fun y1=>K [vI y1])
abbrev UqL (n:Nat):FS:=fT [false,false] t19 (f19 n)
theorem UrX (n:Nat):FSound Tryz.prog GI 19 (UqL n):=gd UfS n (Uko n) Tryz.func19 (.cons (Uko n) t19 (f19 n) (fun K _ _=>(Jkq (c:=Jll Tryz.f19) (by kernel_rfl) (UAF n) K).trans (by kernel_rfl)) .nil) (by kernel_rfl)
def Upt:Ann:={ loops:=[],cuts:=[],frz:=[],rm:=[.id] }
abbrev UsS (n:Nat):Env:=eC 19 (UqL n) eN
theorem UkD (n:Nat):EnvOK Tryz.prog GI (UsS n):=.cons (.nil) (UrX n)
def p50 (n:Nat) (x1:ByteArray) (k0:Bool→O R):O R :=
 p19 n x1 ⟨#[48]⟩ (fun y2=>k0 (decide (y2<0)))
abbrev UzQ (n:Nat):Orc R:=oN
abbrev Uzl (n:Nat):Orc R:=oN
abbrev K50 (R:Type) (n:Nat):=JcH (R:=R) Tryz.prog (UsS n) Upt n (6,[]) (UzQ n) (Uzl n)
theorem UAU (n:Nat):Je6 (K50 R n) (JaJ Upt (Jll Tryz.f50)):=pO pN (by kernel_rfl)
abbrev t50:Sl (List SV):=(cS .n)
abbrev f50 (n:Nat) (K:List SV→O R):t50.T (O R):=fun x1=>p50 n x1 (fun y1=>K [vB y1])
abbrev Ux7 (n:Nat):FS:=fT [false] t50 (f50 n)
theorem UAi (n:Nat):FSound Tryz.prog GI 50 (Ux7 n):=gd Upt n (UkD n) Tryz.func50 (.cons (UkD n) t50 (f50 n) (fun K _=>(Jkq (c:=Jll Tryz.f50) (by kernel_rfl) (UAU n) K).trans (by kernel_rfl)) .nil) (by kernel_rfl)
def UpG:Ann:={ loops:=[],cuts:=[],frz:=[],rm:=[.id] }
abbrev Us5 (n:Nat):Env:=eC 53 (UqM n) eN
theorem UkZ (n:Nat):EnvOK Tryz.prog GI (Us5 n):=.cons (.nil) (UrY n)
def p93 (n:Nat) (x1:ByteArray) (k0:Bool→O R):O R :=
 p53 n x1 (fun y2=>k0 (!y2))
abbrev Uz3 (n:Nat):Orc R:=oN
abbrev Uzy (n:Nat):Orc R:=oN
abbrev K93 (R:Type) (n:Nat):=JcH (R:=R) Tryz.prog (Us5 n) UpG n (6,[]) (Uz3 n) (Uzy n)
theorem UBf (n:Nat):Je6 (K93 R n) (JaJ UpG (Jll Tryz.f93)):=pO pN (by kernel_rfl)
abbrev t93:Sl (List SV):=(cS .n)
abbrev f93 (n:Nat) (K:List SV→O R):t93.T (O R):=fun x1=>p93 n x1 (fun y1=>K [vB y1])
abbrev Uyi (n:Nat):FS:=fT [false] t93 (f93 n)
theorem UAu (n:Nat):FSound Tryz.prog GI 93 (Uyi n):=gd UpG n (UkZ n) Tryz.func93 (.cons (UkZ n) t93 (f93 n) (fun K _=>(Jkq (c:=Jll Tryz.f93) (by kernel_rfl) (UBf n) K).trans (by kernel_rfl)) .nil) (by kernel_rfl)
def Uba:Ann:={ loops:=[(2,ids [0,1,7,8],ids [4])],cuts:=[],frz:=[],rm:=[.id] }
abbrev Ukh (n:Nat):Env:=eC 93 (Uyi n) (eC 50 (Ux7 n) eN)
theorem UgC (n:Nat):EnvOK Tryz.prog GI (Ukh n):=.cons (.cons (.nil) (UAi n)) (UAu n)
def Ufq (n:Nat) (l0:LP→Int→Int→O R) (x1:LP) (x2 x3:Int) (k0:Int→O R) (k1:O R):O R :=
 bif (decide (x3<x2)) then (bif (inR x3 ((x1).length)) then (Jj3 ((x1).getD ((x3:Int).toNat) (.v (.bool false))) fun e4=>p93 n e4 (fun y5=>bif y5 then (k0 x3) else (l0 x1 x2 (IntKind.i64.wrap (x3 + 1))))) else none) else (k1)
def UbP (n:Nat):Nat→LP→Int→Int→(Int→O R)→(O R)→O R
 | 0,_,_,_,_,_=>none
 | m + 1,x1,x2,x3,k0,k1=>Ufq n (fun x1 x2 x3=>UbP n m x1 x2 x3 k0 k1) x1 x2 x3 k0 k1
def Uo6 (n:Nat) (x1:LP) (x2 x3:Int) (k0:Int→O R) (k1:O R):O R:=UbP n n x1 x2 x3 k0 k1
def p94 (n:Nat) (x1:LP) (k0:Int→O R):O R :=
 Uo6 n x1 ((x1).length:Int) 0 (fun y2=>k0 y2) (k0 (-1))
def Ucj (n:Nat) (l0:LP→Int→Int→O R) (x1:LP) (x2 x3:Int) (k0:Int→O R) (k1:O R):O R :=
 bif (decide (x3<x2)) then (bif (inR x3 ((x1).length)) then (Jj3 ((x1).getD ((x3:Int).toNat) (.v (.bool false))) fun e4=>p50 n e4 (fun y5=>bif y5 then (k0 x3) else (l0 x1 x2 (IntKind.i64.wrap (x3 + 1))))) else none) else (k1)
def UaT (n:Nat):Nat→LP→Int→Int→(Int→O R)→(O R)→O R
 | 0,_,_,_,_,_=>none
 | m + 1,x1,x2,x3,k0,k1=>Ucj n (fun x1 x2 x3=>UaT n m x1 x2 x3 k0 k1) x1 x2 x3 k0 k1
def UiM (n:Nat) (x1:LP) (x2 x3:Int) (k0:Int→O R) (k1:O R):O R:=UaT n n x1 x2 x3 k0 k1
def UqZ (n:Nat) (x1:LP) (k0:Int→O R):O R :=
 UiM n x1 ((x1).length:Int) 0 (fun y2=>k0 y2) (k0 (-1))
abbrev E94 (n:Nat):Code→Fr→Kc R→O R:=evC Tryz.prog (Ukh n) Uba n (19,[])
noncomputable def UfU:Code:=Jj4 (Jll Tryz.f94) [1,0,1,0,0]
abbrev UbV:Sl (List SV):=(cH (.c (sP (sFn 93)) (cI (cI .n))))
abbrev UbW:Sl (List SV):=(cH (.c (sP (sFn 50)) (cI (cI .n))))
abbrev UeR (n m:Nat) (K:Kc R):UbV.T (O R):=fun x1 x2 x3=>UbP n m x1 x2 x3 (fun y1=>xL Uba 2 K .ret [vI y1]) (xL Uba 2 K (.exit 0) [dD])
abbrev Up2 (n:Nat) (K:Kc R) (l0:UbV.T (O R)):UbV.T (O R):=fun x1 x2 x3=>Ufq n l0 x1 x2 x3 (fun y1=>xL Uba 2 K .ret [vI y1]) (xL Uba 2 K (.exit 0) [dD])
abbrev UeS (n m:Nat) (K:Kc R):UbW.T (O R):=fun x1 x2 x3=>UaT n m x1 x2 x3 (fun y1=>xL Uba 2 K .ret [vI y1]) (xL Uba 2 K (.exit 0) [dD])
abbrev Up3 (n:Nat) (K:Kc R) (l0:UbW.T (O R)):UbW.T (O R):=fun x1 x2 x3=>Ucj n l0 x1 x2 x3 (fun y1=>xL Uba 2 K .ret [vI y1]) (xL Uba 2 K (.exit 0) [dD])
abbrev UtO (n:Nat):Orc R:=fun i vs K=>JfK (Nat.beq i 2) (Jjg (UbV.ap vs (UeR n n K)) (Jjg (UbW.ap vs (UeS n n K)) (JcB Uba 2 (E94 n UfU) n vs K))) (oN i vs K)
abbrev UsE (n:Nat):Orc R:=oN
abbrev K94 (R:Type) (n:Nat):=JcH (R:=R) Tryz.prog (Ukh n) Uba n (19,[]) (UtO n) (UsE n)
theorem Umg (n:Nat):Je6 (K94 R n) (JaJ Uba UfU):=pO pN (by kernel_rfl)
theorem Uqc (n:Nat):∀ m (K:Kc R),UbV.all (fun vs r=>JcB Uba 2 (JcU Tryz.prog (Ukh n) Uba (19,[]) (UtO n) (UsE n) UfU) m vs K=r) (UeR n m K):=JiE (F:=UeR n) UbV (Up2 n) (fun K _ _ _=>rfl) (fun _ _=>rfl) (fun L K _ _ _=>by show _=_; kernel_rfl)
theorem Uqd (n:Nat):∀ m (K:Kc R),UbW.all (fun vs r=>JcB Uba 2 (JcU Tryz.prog (Ukh n) Uba (19,[]) (UtO n) (UsE n) UfU) m vs K=r) (UeS n m K):=JiE (F:=UeS n) UbW (Up3 n) (fun K _ _ _=>rfl) (fun _ _=>rfl) (fun L K _ _ _=>by show _=_; kernel_rfl)
theorem Uuy (n:Nat):K94 R n (false,2,UfU):=JkF (lo:=UtO n) (cu:=UsE n) (Umg n) UbV (UeR n n) (Uqc n n) (JkF (lo:=UtO n) (cu:=UsE n) (Umg n) UbW (UeS n n) (Uqd n n) fun _ _=>rfl)
theorem UyS (n:Nat):Je6 (K94 R n) (JaJ Uba (Jll Tryz.f94)):=pO (pC (Uuy n) pN) (by kernel_rfl)
abbrev Uxk:Sl (List SV):=(cH (.c (sP (sFn 93)) .n))
abbrev UxS (n:Nat) (K:List SV→O R):Uxk.T (O R):=fun x1=>p94 n x1 (fun y1=>K [vI y1])
abbrev Uxl:Sl (List SV):=(cH (.c (sP (sFn 50)) .n))
abbrev UxT (n:Nat) (K:List SV→O R):Uxl.T (O R):=fun x1=>UqZ n x1 (fun y1=>K [vI y1])
abbrev Uyj (n:Nat):FS:={ om:=[false,false],run:=fun args K=>Jjg (Uxk.ap args (UxS n K)) (Jjg (Uxl.ap args (UxT n K)) none) }
theorem UAv (n:Nat):FSound Tryz.prog GI 94 (Uyj n):=gd Uba n (UgC n) Tryz.func94 (.cons (UgC n) Uxk (UxS n) (fun K _=>(Jkq (c:=Jll Tryz.f94) (by kernel_rfl) (UyS n) K).trans (by kernel_rfl)) (.cons (UgC n) Uxl (UxT n) (fun K _=>(Jkq (c:=Jll Tryz.f94) (by kernel_rfl) (UyS n) K).trans (by kernel_rfl)) .nil)) (by kernel_rfl)
def Ups:Ann:={ loops:=[],cuts:=[],frz:=[],rm:=[.id] }
abbrev UsR (n:Nat):Env:=eC 94 (Uyj n) eN
theorem UgA (n:Nat):EnvOK Tryz.prog GI (UsR n):=.cons (.nil) (UAv n)
def p49 (n:Nat) (x1:LP) (k0:Bool→O R):O R :=
 p94 n x1 (fun y2=>k0 (decide (y2≥0)))
def Unk (n:Nat) (x1:LP) (k0:Bool→O R):O R :=
 UqZ n x1 (fun y2=>k0 (decide (y2≥0)))
abbrev UzP (n:Nat):Orc R:=oN
abbrev Uzk (n:Nat):Orc R:=oN
abbrev K49 (R:Type) (n:Nat):=JcH (R:=R) Tryz.prog (UsR n) Ups n (9,[]) (UzP n) (Uzk n)
theorem UyQ (n:Nat):Je6 (K49 R n) (JaJ Ups (Jll Tryz.f49)):=pO pN (by kernel_rfl)
abbrev Uxg:Sl (List SV):=(cH (.c (sP (sFn 93)) .n))
abbrev UxO (n:Nat) (K:List SV→O R):Uxg.T (O R):=fun x1=>p49 n x1 (fun y1=>K [vB y1])
abbrev Uxh:Sl (List SV):=(cH (.c (sP (sFn 50)) .n))
abbrev UxP (n:Nat) (K:List SV→O R):Uxh.T (O R):=fun x1=>Unk n x1 (fun y1=>K [vB y1])
abbrev UvI (n:Nat):FS:={ om:=[false,false],run:=fun args K=>Jjg (Uxg.ap args (UxO n K)) (Jjg (Uxh.ap args (UxP n K)) none) }
theorem UyH (n:Nat):FSound Tryz.prog GI 49 (UvI n):=gd Ups n (UgA n) Tryz.func49 (.cons (UgA n) Uxg (UxO n) (fun K _=>(Jkq (c:=Jll Tryz.f49) (by kernel_rfl) (UyQ n) K).trans (by kernel_rfl)) (.cons (UgA n) Uxh (UxP n) (fun K _=>(Jkq (c:=Jll Tryz.f49) (by kernel_rfl) (UyQ n) K).trans (by kernel_rfl)) .nil)) (by kernel_rfl)
def Upr:Ann:={ loops:=[],cuts:=[],frz:=[],rm:=[.id] }
abbrev UsQ (n:Nat):Env:=eC 65 (Uu6 n) (eC 49 (UvI n) eN)
theorem UkC (n:Nat):EnvOK Tryz.prog GI (UsQ n):=.cons (.cons (.nil) (UyH n)) (Uwt n)
def p48 (n:Nat) (x1:Int) (x2 x3:LP) (k0:Int→O R):O R :=
 p65 n x1 x2 (fun y4=>bif (y4 != 0) then (k0 3) else (bif (((x3).length:Int) != x1) then (k0 2) else (p49 n x3 (fun y5=>bif y5 then (k0 3) else (k0 0)))))
abbrev UzO (n:Nat):Orc R:=oN
abbrev Uzj (n:Nat):Orc R:=oN
abbrev K48 (R:Type) (n:Nat):=JcH (R:=R) Tryz.prog (UsQ n) Upr n (15,[]) (UzO n) (Uzj n)
theorem UAT (n:Nat):Je6 (K48 R n) (JaJ Upr (Jll Tryz.f48)):=pO pN (by kernel_rfl)
abbrev t48:Sl (List SV):=(.c (sP (JlI (.c (Jlv .i64) (.c sSh .n)))) (cH .n))
abbrev f48 (n:Nat) (K:List SV→O R):t48.T (O R):=fun x1 x2 x3=>p48 n x1 x2 x3 (fun y1=>K [vI y1])
abbrev Ux6 (n:Nat):FS:=fT [false,false] t48 (f48 n)
theorem UAh (n:Nat):FSound Tryz.prog GI 48 (Ux6 n):=gd Upr n (UkC n) Tryz.func48 (.cons (UkC n) t48 (f48 n) (fun K _ _ _=>(Jkq (c:=Jll Tryz.f48) (by kernel_rfl) (UAT n) K).trans (by kernel_rfl)) .nil) (by kernel_rfl)
end
end Go.Proofs.YtmgfmlhdnadglaaGreatDoor
set_option linter.unusedVariables false
set_option linter.unusedSimpArgs false
namespace Go.Proofs.YtmgfmlhdnadglaaGreatDoor
open Go Th Go.Proofs
variable {R:Type}
noncomputable def okT (cols:Int):Int→List TermT→Bool
 | _,[]=>true
 | last,t::r=>if t.1≤last then false else if t.1≥cols then false else if t.2=[48] then false else qb t.2&&okT cols t.1 r
noncomputable def okR (cols:Int) (r:RowT):Bool:=okT cols (-1) r.tm&&qb r.c
def smT (l:List TermT):Prop:=l.length<2 ^ 17∧∀ t∈l,t.2.length<2 ^ 17
def smR (r:RowT):Prop:=smT r.tm∧r.c.length<2 ^ 17
noncomputable def UnH (cols:Int) (kbad:Option R) (last:Int) (t:TermT) (K:Int→Option R):Option R :=
 if t.1≤last then kbad else if t.1≥cols then kbad else if t.2=[48] then kbad else if qb t.2=true then K t.1 else kbad
theorem UyU (cols:Int) (kbad kend:Option R):∀ (l:List TermT) (last:Int),Ur0 (UnH cols kbad) (fun _=>kend) last l=if okT cols last l then kend else kbad
 | [],last=>rfl
 | t::l,last=>by
  have ih:=UyU cols kbad kend l t.1
  simp only [Ur0,UnH,okT]
  by_cases h1:t.1≤last
  · simp [h1]
  · by_cases h2:t.1≥cols
    · simp [h1,h2]
    · by_cases h3:t.2=[48]
      · simp [h1,h2,h3]
      · rcases Bool.eq_false_or_eq_true (qb t.2) with h4 | h4 <;> simp [h1,h2,h3,h4,ih]
theorem e48 (s:List UInt8):eqS (bs s) (⟨#[48]⟩:ByteArray)=decide (s=[48]):=by
 rw [show eqS (bs s) (⟨#[48]⟩:ByteArray)=(s == [48]) from rfl,Bool.eq_iff_iff]; simp
theorem Ug5 (n:Nat) (hn:10 ^ 400≤n) (cols:Int) (r:RowT) (hr:smR r) (k0:Bool→Option R):Uvc n (tms r.tm) (bs r.c) r.eq r.mark cols k0=k0 (okR cols r):=by
 have hN:=UaX hn
 have hL:=hr.1.1
 have hv1:=fun k=>Ubo (R:=R) n hn r.c hr.2 k
 unfold Uvc UlZ
 have h:=Ug6 (R:=R) (l:=r.tm) (step:=UnH cols (k0 false)) (kend:=fun _=>k0 (qb r.c))
  (fun m s i=>Ubs n m cols (tms r.tm) (bs r.c) r.eq r.mark s (tms r.tm) ((tms r.tm).length:Int) (i:Int) (fun _ _ _ _ y=>k0 y) (fun _ y _ _=>p53 n y fun y15=>k0 y15))
  (fun m s=>by simp only [Ubs,Udi]; simp (disch:=(first | omega | (simp only [JlE]; omega))) only [↓JlH,JlF,Ua,hv1])
  (fun m s i hi=>by
    have hv:=fun k=>Ubo (R:=R) n hn (r.tm[i]).2 (hr.1.2 _ (List.getElem_mem hi)) k
    simp only [Ubs,Udi,UnH]
    by_cases h1:(r.tm[i]).1≤s
    · simp (disch:=(first | omega | (simp only [JlE]; omega))) only [↓JlH,JlF,Ua,Jji,UaE hi,i1]
    · by_cases h2:(r.tm[i]).1≥cols
      · simp (disch:=(first | omega | (simp only [JlE]; omega))) only [↓JlH,JlF,Ua,Jji,UaE hi,i1]
      · by_cases h3:(r.tm[i]).2=[48]
        · simp (disch:=(first | omega | (simp only [JlE]; omega))) only [↓JlH,JlF,Ua,Jji,UaE hi,i1,UmT h3]
        · simp (disch:=(first | omega | (simp only [JlE]; omega))) only [↓JlH,JlF,Ua,Jji,UaE hi,i1,Ujs h3,hv]
          cases qb (r.tm[i]).2 <;> rfl) r.tm.length n 0 (-1) (by omega) (by omega)
 rw [List.drop_zero,UyU] at h
 refine Eq.trans h ?_
 unfold okR
 cases okT cols (-1) r.tm <;> rfl
noncomputable def Ugp (cols:Int) (rows:List RowT):Int:=if cols<0 then 2 else if cols>2048 then 2 else if rows.length>2048 then 6 else if rows.all (okR cols) then 0 else 3
def smA (rows:List RowT):Prop:=rows.length<2 ^ 17∧∀ r∈rows,smR r
theorem Up (n:Nat) (hn:10 ^ 400≤n) (cols:Int) (rows:List RowT) (hr:smA rows) (k0:Int→Option R):p65 n cols (rws rows) k0=k0 (Ugp cols rows):=by
 have hN:=UaX hn
 have hL:=hr.1
 unfold p65 Uwu Uwy Ul3 Ugp
 by_cases h1:cols<0
 · simp (disch:=(first | omega | (simp only [JlE]; omega))) only [↓JlH,JlF]
 · by_cases h2:cols>2048
   · simp (disch:=(first | omega | (simp only [JlE]; omega))) only [↓JlH,JlF]
   · by_cases h3:rows.length>2048
     · have h3':((rows.length:Nat):Int)>2048:=by omega
       simp (disch:=(first | omega | (simp only [JlE]; omega))) only [↓JlH,JlF,Uad]
     · have h3':¬ ((rows.length:Nat):Int)>2048:=by omega
       have h:=Ual (R:=R) (l:=rows) (ok:=okR cols) (kbad:=k0 3) (kend:=k0 0)
        (fun m i=>Ua2 n m (rws rows) cols (rws rows) ((rws rows).length:Int) (i:Int) (fun y=>bif decide (y≥0) then k0 3 else k0 0) (bif decide ((-1:Int)≥0) then k0 3 else k0 0))
        (fun m=>by simp only [Ua2,Udm]; simp (disch:=(first | omega | (simp only [JlE]; omega))) only [↓JlH,JlF,Uad])
        (fun m i hi=>by
          have hv:=fun k=>Ug5 (R:=R) n hn cols rows[i] (hr.2 _ (List.getElem_mem hi)) k
          simp only [Ua2,Udm,Uwv]
          simp (disch:=(first | omega | (simp only [JlE]; omega))) only [↓JlH,JlF,Uad,Jji,UaD hi,hv,i1]
          cases okR cols rows[i] <;> simp (disch:=(first | omega | (simp only [JlE]; omega))) only [↓JlH,JlF] <;> rfl) rows.length n 0 (by omega) (by omega)
       rw [List.drop_zero] at h
       have h':Ua2 n n (rws rows) cols (rws rows) ((rws rows).length:Int) 0 (fun y=>bif decide (y≥0) then k0 3 else k0 0) (bif decide ((-1:Int)≥0) then k0 3 else k0 0)=_:=h
       have e:∀ a b:Option R,(bif decide (((rws rows).length:Int)>2048) then a else b)=b:=fun a b=>by rw [Uad,decide_eq_false h3']; rfl
       simp only [c_neg h1,c_neg h2,Uak,e,h']
       rw [if_neg h1,if_neg h2,if_neg h3]
       cases rows.all (okR cols) <;> rfl
noncomputable def Ujn (cols:Int) (rows:List RowT) (v:List (List UInt8)):Int:=if Ugp cols rows≠0 then 3 else if (v.length:Int)≠cols then 2 else if Ugr v then 0 else 3
theorem Ur7 (n:Nat) (hn:10 ^ 400≤n) (cols:Int) (rows:List RowT) (hr:smA rows) (v:List (List UInt8)) (hv:smS v) (k0:Int→Option R):p48 n cols (rws rows) (sl v) k0=k0 (Ujn cols rows v):=by
 have hN:=UaX hn
 have hL:=hv.1
 have h0:=fun k=>Up (R:=R) n hn cols rows hr k
 unfold p48 p49 p94 Uo6 Ujn
 rw [h0]
 have h:=Ual (R:=R) (l:=v) (ok:=qb) (kbad:=k0 3) (kend:=k0 0)
  (fun m i=>UbP n m (sl v) ((sl v).length:Int) (i:Int) (fun y=>bif decide (y≥0) then k0 3 else k0 0) (bif decide ((-1:Int)≥0) then k0 3 else k0 0))
  (fun m=>by simp only [UbP,Ufq]; simp (disch:=(first | omega | (simp only [JlE]; omega))) only [↓JlH,JlF,Uaj])
  (fun m i hi=>by
    have hw:=fun k=>Ubo (R:=R) n hn v[i] (hv.2 _ (List.getElem_mem hi)) k
    simp only [UbP,Ufq,p93]
    simp (disch:=(first | omega | (simp only [JlE]; omega))) only [↓JlH,JlF,Uaj,Jji,UbR hi,hw,i1]
    cases qb v[i] <;> simp (disch:=(first | omega | (simp only [JlE]; omega))) only [↓JlH,JlF] <;> rfl) v.length n 0 (by omega) (by omega)
 rw [List.drop_zero] at h
 have h':UbP n n (sl v) ((sl v).length:Int) 0 (fun y=>bif decide (y≥0) then k0 3 else k0 0) (bif decide ((-1:Int)≥0) then k0 3 else k0 0)=_:=h
 by_cases h1:Ugp cols rows=0
 · have e1:(Ugp cols rows != 0)=false:=by rw [h1]; rfl
   rw [e1,Uak,if_neg (by simp [h1]),Uaj]
   by_cases h2:(v.length:Int)=cols
   · have e2:((v.length:Int) != cols)=false:=by simp [h2]
     rw [e2,Uak,if_neg (by simp [h2])]
     rw [Uaj] at h'
     refine Eq.trans h' ?_
     unfold Ugr
     cases v.all qb <;> rfl
   · have e2:((v.length:Int) != cols)=true:=by simp [h2]
     rw [e2,Uat,if_pos h2]
 · have e1:(Ugp cols rows != 0)=true:=by simp [h1]
   rw [e1,Uat,if_pos h1]
abbrev SpT:=Nat × Rat
noncomputable def vt (l:List SpT):List TermT:=l.map fun t=>((t.1:Int),Uaf t.2)
theorem Uan (l:List SpT):(vt l).length=l.length:=by unfold vt; rw [List.length_map]
theorem Upb {l:List SpT} {i:Nat} (h:i<(vt l).length):(vt l)[i]=(((l[i]'(by rw [←Uan]; exact h)).1:Int),Uaf (l[i]'(by rw [←Uan]; exact h)).2):=by
 simp only [vt,List.getElem_map]
def asc:Int→List SpT→Prop
 | _,[]=>True
 | last,t::r=>last<(t.1:Int)∧asc t.1 r
def okN (cols:Int) (l:List SpT):Prop:=∀ t∈l,t.2≠0∧fits t.2∧(t.1:Int)<cols
def okS (cols:Int) (l:List SpT):Prop:=asc (-1) l∧okN cols l
theorem Ub6 {q:Rat} (h:fits q):qb (Uaf q)=true:=UwW.2 ⟨q,h,rfl⟩
theorem UqH:fits 0:=UeT (v:=0) (by decide +kernel)
theorem Uja:Uaf 0=[48]:=by rw [←show ((0:Int):Rat)=0 from rfl,←Uaq]; decide +kernel
theorem Ud8 {q:Rat}:Uaf q=[48]↔q=0:=⟨fun h=>Ufw (h.trans Uja.symm),fun h=>by rw [h,Uja]⟩
theorem UlT {cols:Int}:∀ {l:List SpT} {last:Int},asc last l→okN cols l→okT cols last (vt l)=true
 | [],last,_,_=>rfl
 | t::l,last,h1,h2=>by
  obtain ⟨e1,e2,e3⟩:=h2 t (List.mem_cons_self ..)
  show okT cols last (((t.1:Int),Uaf t.2)::vt l)=true
  simp only [okT]
  have h1':=h1.1
  rw [if_neg (by omega),if_neg (by omega),if_neg (fun q=>e1 (Ud8.1 q)),Ub6 e2,UlT h1.2 (fun x hx=>h2 x (List.mem_cons_of_mem _ hx))]
  rfl
theorem UlS {cols:Int}:∀ {l:List TermT} {last:Int},-1≤last→okT cols last l=true→∃ l':List SpT,l=vt l'∧asc last l'∧okN cols l'
 | [],last,_,_=>⟨[],rfl,trivial,by intro t h; cases h⟩
 | t::l,last,h0,h=>by
  simp only [okT] at h
  by_cases h1:t.1≤last
  · rw [if_pos h1] at h; cases h
  rw [if_neg h1] at h
  by_cases h2:t.1≥cols
  · rw [if_pos h2] at h; cases h
  rw [if_neg h2] at h
  by_cases h3:t.2=[48]
  · rw [if_pos h3] at h; cases h
  rw [if_neg h3,Bool.and_eq_true] at h
  obtain ⟨q,hq,e⟩:=UwW.1 h.1
  obtain ⟨l',e1,e2,e3⟩:=UlS (by omega:-1≤t.1) h.2
  have hc:((t.1.toNat:Nat):Int)=t.1:=by omega
  refine ⟨(t.1.toNat,q)::l',?_,⟨by show last<((t.1.toNat:Nat):Int); omega,by show asc ((t.1.toNat:Nat):Int) l'; rw [hc]; exact e2⟩,?_⟩
  · rw [e1]
    show t::vt l'=(((t.1.toNat:Nat):Int),Uaf q)::vt l'
    rw [hc,←e]
  · intro x hx
    rcases List.mem_cons.1 hx with rfl | hx
    · refine ⟨fun q0=>h3 (by rw [e]; exact Ud8.2 q0),hq,?_⟩
      show ((t.1.toNat:Nat):Int)<cols
      omega
    · exact e3 x hx
theorem UmI {l:List SpT} {a b:Int} (h:asc b l) (hab:a≤b):asc a l:=by
 cases l with
 | nil=>trivial
 | cons t r=>exact ⟨by have:=h.1; omega,h.2⟩
theorem Ugt:∀ {l:List SpT} {a:Int},asc a l→∀ t∈l,a<(t.1:Int)
 | t::l,a,h,x,hx=>by
  rcases List.mem_cons.1 hx with rfl | hx
  · exact h.1
  · have:=Ugt h.2 x hx; have:=h.1; omega
def cf:List SpT→Nat→Rat
 | [],_=>0
 | t::r,i=>if t.1=i then t.2 else cf r i
theorem Ubf (t:SpT) (r:List SpT) (i:Nat):cf (t::r) i=if t.1=i then t.2 else cf r i:=rfl
theorem UjX:∀ {l:List SpT} {i:Nat},(∀ t∈l,t.1≠i)→cf l i=0
 | [],_,_=>rfl
 | t::l,i,h=>by rw [cf,if_neg (h t (List.mem_cons_self ..)),UjX fun x hx=>h x (List.mem_cons_of_mem _ hx)]
theorem UfV {l:List SpT} {a:Int} (h:asc a l) {i:Nat} (hi:(i:Int)≤a):cf l i=0:=UjX fun t ht=>by have:=Ugt h t ht; omega
theorem Uvl {l:List SpT} {i:Nat} (h:cf l i≠0):∃ t∈l,t.1=i∧t.2=cf l i:=by
 induction l with
 | nil=>exact absurd rfl h
 | cons t l ih =>
  rw [cf] at h ⊢
  by_cases e:t.1=i
  · rw [if_pos e]; exact ⟨t,List.mem_cons_self ..,e,rfl⟩
  · rw [if_neg e] at h ⊢
    obtain ⟨x,hx,h1,h2⟩:=ih h
    exact ⟨x,List.mem_cons_of_mem _ hx,h1,h2⟩
open Classical in
noncomputable def scO (q:Rat) (l:List SpT):Option (List SpT):=if ∀ t∈l,fits (t.2 * q) then some (l.map fun t=>(t.1,t.2 * q)) else none
theorem Ujq (f:SpT→Rat):∀ {l:List SpT} {a:Int},asc a l→asc a (l.map fun t=>(t.1,f t))
 | [],_,_=>trivial
 | t::l,a,h=>⟨h.1,Ujq f h.2⟩
theorem Usu (q:Rat):∀ (l:List SpT) (i:Nat),cf (l.map fun t=>(t.1,t.2 * q)) i=cf l i * q
 | [],i=>by simp [cf,Rat.zero_mul]
 | t::l,i=>by
  rw [List.map_cons,cf,cf,Usu q l i]
  split <;> rfl
theorem UwY {cols:Int} {q:Rat} (h0:q≠0) {l r:List SpT} (h:okS cols l) (he:scO q l=some r):okS cols r∧∀ i,cf r i=cf l i * q:=by
 unfold scO at he
 split at he
 · rename_i hf
   simp only [Option.some.injEq] at he
   subst he
   refine ⟨⟨Ujq _ h.1,fun t ht=>?_⟩,Usu q l⟩
   obtain ⟨x,hx,rfl⟩:=List.mem_map.1 ht
   obtain ⟨e1,e2,e3⟩:=h.2 x hx
   refine ⟨fun e=>?_,hf x hx,e3⟩
   rcases Rat.mul_eq_zero.1 e with q1 | q1
   · exact e1 q1
   · exact h0 q1
 · cases he
open Classical in
noncomputable def UdV:List SpT→List SpT→Option (List SpT)
 | [],b=>some b
 | a::xs,[]=>some (a::xs)
 | a::xs,b::ys=>if a.1<b.1 then (UdV xs (b::ys)).map (a::·) else if b.1<a.1 then (UdV (a::xs) ys).map (b::·)
  else if fits (a.2 + b.2) then (UdV xs ys).map (fun r=>if a.2 + b.2=0 then r else (a.1,a.2 + b.2)::r) else none
termination_by a b=>a.length + b.length
theorem UlO (a:List SpT):UdV a []=some a:=by cases a <;> simp [UdV]
theorem UiE {cols:Int}:∀ (k:Nat) {a b:List SpT} {last:Int},a.length + b.length≤k→asc last a→asc last b→okN cols a→okN cols b→∀ {r:List SpT},UdV a b=some r→asc last r∧okN cols r∧∀ i,cf r i=cf a i + cf b i
 | k,[],b,last,hk,ha,hb,na,nb,r,h=>by
  simp only [UdV,Option.some.injEq] at h
  subst h
  exact ⟨hb,nb,fun i=>by simp [cf,Rat.zero_add]⟩
 | k,a::xs,[],last,hk,ha,hb,na,nb,r,h=>by
  simp only [UdV,Option.some.injEq] at h
  subst h
  exact ⟨ha,na,fun i=>by simp [cf,Rat.add_zero]⟩
 | k + 1,a::xs,b::ys,last,hk,ha,hb,na,nb,r,h=>by
  have na':okN cols xs:=fun x hx=>na x (List.mem_cons_of_mem _ hx)
  have nb':okN cols ys:=fun x hx=>nb x (List.mem_cons_of_mem _ hx)
  rw [UdV] at h
  simp only [List.length_cons] at hk
  by_cases h1:a.1<b.1
  · rw [if_pos h1] at h
    obtain ⟨r',e,rfl⟩:=Option.map_eq_some_iff.1 h
    have hb2:asc (a.1:Int) (b::ys):=⟨by omega,hb.2⟩
    obtain ⟨p1,p2,p3⟩:=UiE k (by simp only [List.length_cons]; omega) ha.2 hb2 na' nb e
    refine ⟨⟨ha.1,p1⟩,fun x hx=>?_,fun i=>?_⟩
    · rcases List.mem_cons.1 hx with rfl | hx
      · exact na _ (List.mem_cons_self ..)
      · exact p2 x hx
    · rw [Ubf a r' i,Ubf a xs i,p3 i]
      by_cases hi:a.1=i
      · rw [if_pos hi,if_pos hi,UfV hb2 (by omega),Rat.add_zero]
      · rw [if_neg hi,if_neg hi]
  · rw [if_neg h1] at h
    by_cases h2:b.1<a.1
    · rw [if_pos h2] at h
      obtain ⟨r',e,rfl⟩:=Option.map_eq_some_iff.1 h
      have ha2:asc (b.1:Int) (a::xs):=⟨by omega,ha.2⟩
      obtain ⟨p1,p2,p3⟩:=UiE k (by simp only [List.length_cons]; omega) ha2 hb.2 na nb' e
      refine ⟨⟨hb.1,p1⟩,fun x hx=>?_,fun i=>?_⟩
      · rcases List.mem_cons.1 hx with rfl | hx
        · exact nb _ (List.mem_cons_self ..)
        · exact p2 x hx
      · rw [Ubf b r' i,Ubf b ys i,p3 i]
        by_cases hi:b.1=i
        · rw [if_pos hi,if_pos hi,UfV ha2 (by omega),Rat.zero_add]
        · rw [if_neg hi,if_neg hi]
    · rw [if_neg h2] at h
      have e0:a.1=b.1:=by omega
      by_cases hf:fits (a.2 + b.2)
      · rw [if_pos hf] at h
        obtain ⟨r',e,rfl⟩:=Option.map_eq_some_iff.1 h
        obtain ⟨p1,p2,p3⟩:=UiE k (by omega) ha.2 (by rw [e0]; exact hb.2) na' nb' e
        by_cases hz:a.2 + b.2=0
        · rw [if_pos hz]
          refine ⟨UmI p1 (by have:=ha.1; omega),p2,fun i=>?_⟩
          rw [p3 i,cf,cf]
          by_cases hi:a.1=i
          · rw [if_pos hi,if_pos (by omega),hz,UfV ha.2 (by omega),UfV hb.2 (by omega),Rat.add_zero]
          · rw [if_neg hi,if_neg (by omega)]
        · rw [if_neg hz]
          refine ⟨⟨ha.1,p1⟩,fun x hx=>?_,fun i=>?_⟩
          · rcases List.mem_cons.1 hx with rfl | hx
            · exact ⟨hz,hf,(na a (List.mem_cons_self ..)).2.2⟩
            · exact p2 x hx
          · rw [Ubf (a.1,a.2 + b.2) r' i,Ubf a xs i,Ubf b ys i,p3 i]
            by_cases hi:a.1=i
            · rw [if_pos hi,if_pos hi,if_pos (by omega)]
            · rw [if_neg hi,if_neg hi,if_neg (by omega)]
      · rw [if_neg hf] at h; cases h
abbrev SpR:=List SpT × Rat
open Classical in
noncomputable def tmO (q:Rat) (r:SpR):Option SpR:=if fits (r.2 * q) then (scO q r.1).map fun x=>(x,r.2 * q) else none
open Classical in
noncomputable def plO (a b:SpR):Option SpR:=if fits (a.2 + b.2) then (UdV a.1 b.1).map fun x=>(x,a.2 + b.2) else none
open Classical in
noncomputable def UdW (q:Rat) (r s:SpR):Option SpR:=if q=0 then some s else (tmO q r).bind fun x=>plO s x
noncomputable def UaY:List (SpR × Rat)→SpR→Option SpR
 | [],s=>some s
 | x::t,s=>(UdW x.2 x.1 s).bind (UaY t)
def okF (cols:Int) (r:SpR):Prop:=okS cols r.1∧fits r.2
theorem UnK {cols:Int} {q:Rat} (h0:q≠0) {r x:SpR} (h:okF cols r) (he:tmO q r=some x):okF cols x∧x.2=r.2 * q∧∀ i,cf x.1 i=cf r.1 i * q:=by
 unfold tmO at he
 split at he
 · rename_i hf
   obtain ⟨y,e,rfl⟩:=Option.map_eq_some_iff.1 he
   obtain ⟨e1,e2⟩:=UwY h0 h.1 e
   exact ⟨⟨e1,hf⟩,rfl,e2⟩
 · cases he
theorem Uq0 {cols:Int} {a b x:SpR} (ha:okF cols a) (hb:okF cols b) (he:plO a b=some x):okF cols x∧x.2=a.2 + b.2∧∀ i,cf x.1 i=cf a.1 i + cf b.1 i:=by
 unfold plO at he
 split at he
 · rename_i hf
   obtain ⟨y,e,rfl⟩:=Option.map_eq_some_iff.1 he
   obtain ⟨e1,e2,e3⟩:=UiE _ (Nat.le_refl _) ha.1.1 hb.1.1 ha.1.2 hb.1.2 e
   exact ⟨⟨⟨e1,e2⟩,hf⟩,rfl,e3⟩
 · cases he
theorem Up8 {cols:Int} {l:List (SpR × Rat)} {s x:SpR} (h:∀ y∈l,okF cols y.1) (hs:okF cols s) (he:UaY l s=some x):okF cols x:=by
 induction l generalizing s with
 | nil=>simp only [UaY,Option.some.injEq] at he; rwa [←he]
 | cons y l ih =>
  rw [UaY] at he
  obtain ⟨z,e1,e2⟩:=Option.bind_eq_some_iff.1 he
  refine ih (fun w hw=>h w (List.mem_cons_of_mem _ hw)) ?_ e2
  unfold UdW at e1
  by_cases h0:y.2=0
  · rw [if_pos h0,Option.some.injEq] at e1; rwa [←e1]
  · rw [if_neg h0] at e1
    obtain ⟨w,f1,f2⟩:=Option.bind_eq_some_iff.1 e1
    exact (Uq0 hs (UnK h0 (h y (List.mem_cons_self ..)) f1).1 f2).1
def UmE:List (SpR × Rat)→Nat→Rat
 | [],_=>0
 | x::t,i=>cf x.1.1 i * x.2 + UmE t i
def UnO:List (SpR × Rat)→Rat
 | []=>0
 | x::t=>x.1.2 * x.2 + UnO t
theorem UmX {cols:Int} {l:List (SpR × Rat)} {s x:SpR} (h:∀ y∈l,okF cols y.1) (hs:okF cols s) (he:UaY l s=some x):x.2=s.2 + UnO l∧∀ i,cf x.1 i=cf s.1 i + UmE l i:=by
 induction l generalizing s with
 | nil=>simp only [UaY,Option.some.injEq] at he; subst he; exact ⟨by rw [UnO,Rat.add_zero],fun i=>by rw [UmE,Rat.add_zero]⟩
 | cons y l ih =>
  rw [UaY] at he
  obtain ⟨z,e1,e2⟩:=Option.bind_eq_some_iff.1 he
  unfold UdW at e1
  by_cases h0:y.2=0
  · rw [if_pos h0,Option.some.injEq] at e1
    subst e1
    obtain ⟨g1,g2⟩:=ih (fun w hw=>h w (List.mem_cons_of_mem _ hw)) hs e2
    refine ⟨by rw [g1,UnO,h0,Rat.mul_zero,Rat.zero_add],fun i=>by rw [g2,UmE,h0,Rat.mul_zero,Rat.zero_add]⟩
  · rw [if_neg h0] at e1
    obtain ⟨w,f1,f2⟩:=Option.bind_eq_some_iff.1 e1
    obtain ⟨p1,p2,p3⟩:=UnK h0 (h y (List.mem_cons_self ..)) f1
    obtain ⟨q1,q2,q3⟩:=Uq0 hs p1 f2
    obtain ⟨g1,g2⟩:=ih (fun w hw=>h w (List.mem_cons_of_mem _ hw)) q1 e2
    refine ⟨by rw [g1,q2,p2,UnO,Rat.add_assoc],fun i=>by rw [g2,q3,p3,UmE,Rat.add_assoc]⟩
def UaR {α σ:Type} (step:σ→α→Option σ):σ→List α→Option σ
 | s,[]=>some s
 | s,a::l=>(step s a).bind fun s'=>UaR step s' l
def Uu1 {σ:Type} (kerr:Option R) (kend:σ→Option R):Option σ→Option R
 | none=>kerr
 | some s=>kend s
theorem Udu {α σ:Type} {l:List α} {step:σ→α→Option σ} {kerr:Option R} {kend:σ→Option R} {Inv:Nat→σ→Prop} (L:Nat→σ→Nat→Option R)
 (hend:∀ m s,Inv l.length s→L (m + 1) s l.length=kend s)
 (hinv:∀ s s' i (h:i<l.length),Inv i s→step s l[i]=some s'→Inv (i + 1) s')
 (hstep:∀ m s i (h:i<l.length),Inv i s→L (m + 1) s i=Uu1 kerr (fun s'=>L m s' (i + 1)) (step s l[i])) :
 ∀ (d m i:Nat) (s:σ),d + i=l.length→d<m→Inv i s→L m s i=Uu1 kerr kend (UaR step s (l.drop i))
 | 0,m + 1,i,s,hd,hm,hs=>by
  have:i=l.length:=by omega
  subst this
  rw [hend m s hs,List.drop_length]; rfl
 | d + 1,m + 1,i,s,hd,hm,hs=>by
  have hi:i<l.length:=by omega
  rw [hstep m s i hi hs,UaK hi]
  show _=Uu1 kerr kend ((step s l[i]).bind fun s'=>UaR step s' (l.drop (i + 1)))
  cases h:step s l[i] with
  | none=>rfl
  | some s'=>exact Udu L hend hinv hstep d m (i + 1) s' (by omega) (by omega) (hinv s s' i hi hs h)
theorem Uf3 {α σ:Type} {step:σ→α→Option σ} {P:α→Prop} {Inv:σ→Prop} (hstep:∀ s s' a,P a→Inv s→step s a=some s'→Inv s'):∀ {l:List α} {s s':σ},(∀ a∈l,P a)→Inv s→UaR step s l=some s'→Inv s'
 | [],s,s',_,hs,h=>by simp only [UaR,Option.some.injEq] at h; rwa [←h]
 | a::l,s,s',hl,hs,h=>by
  obtain ⟨x,e1,e2⟩:=Option.bind_eq_some_iff.1 h
  exact Uf3 hstep (fun y hy=>hl y (List.mem_cons_of_mem _ hy)) (hstep s x a (hl a (List.mem_cons_self ..)) hs e1) e2
open Classical in
noncomputable def rq (s:List UInt8):Rat:=if h:isQ s then Classical.choose h else 0
theorem UrD {s:List UInt8} (h:qb s=true):fits (rq s)∧s=Uaf (rq s):=by
 have h':=UwW.1 h
 unfold rq
 rw [dif_pos h']
 exact Classical.choose_spec h'
theorem UrC {q:Rat} (h:fits q):rq (Uaf q)=q:=(Ufw (UrD (Ub6 h)).2).symm
noncomputable def spL (l:List TermT):List SpT:=l.map fun t=>(t.1.toNat,rq t.2)
noncomputable def spR (r:RowT):SpR:=(spL r.tm,rq r.c)
theorem UuI {cols:Int} {l:List SpT} (h:okN cols l):spL (vt l)=l:=by
 unfold spL vt
 rw [List.map_map]
 conv=>rhs; rw [←List.map_id l]
 refine List.map_congr_left fun t ht=>?_
 simp only [Function.comp,id_eq]
 rw [UrC (h t ht).2.1]
 rfl
theorem UoO {cols:Int} {l:List TermT} (h:okT cols (-1) l=true):okS cols (spL l)∧l=vt (spL l):=by
 obtain ⟨l',e1,e2,e3⟩:=UlS (by omega) h
 subst e1
 rw [UuI e3]
 exact ⟨⟨e2,e3⟩,rfl⟩
theorem Ud1 {cols:Int} {r:RowT} (h:okR cols r=true):okF cols (spR r)∧r.tm=vt (spR r).1∧r.c=Uaf (spR r).2:=by
 unfold okR at h
 rw [Bool.and_eq_true] at h
 obtain ⟨e1,e2⟩:=UoO h.1
 obtain ⟨f1,f2⟩:=UrD h.2
 exact ⟨⟨e1,f1⟩,e2,f2⟩
theorem Unh {a b:Int} (h:a≤b) {l:List SpT} (hl:okN a l):okN b l:=fun t ht=>⟨(hl t ht).1,(hl t ht).2.1,by have:=(hl t ht).2.2; omega⟩
open Classical in
noncomputable def UuW (s a b:Rat):Option Rat:=if fits (a * b) then (if fits (s + a * b) then some (s + a * b) else none) else none
noncomputable def evS (v:List Rat) (s:Rat) (t:SpT):Option Rat:=UuW s t.2 (v.getD t.1 0)
def UrR (v:List Rat):List SpT→Rat
 | []=>0
 | t::l=>t.2 * v.getD t.1 0 + UrR v l
theorem Udv {s a b x:Rat} (h:UuW s a b=some x):x=s + a * b∧fits x:=by
 unfold UuW at h
 split at h
 · split at h
   · rename_i h2
     simp only [Option.some.injEq] at h
     subst h
     exact ⟨rfl,h2⟩
   · cases h
 · cases h
theorem Uov (v:List Rat):∀ {l:List SpT} {s x:Rat},UaR (evS v) s l=some x→x=s + UrR v l
 | [],s,x,h=>by simp only [UaR,Option.some.injEq] at h; rw [UrR,Rat.add_zero,h]
 | t::l,s,x,h=>by
  obtain ⟨y,e1,e2⟩:=Option.bind_eq_some_iff.1 h
  rw [Uov v e2,(Udv e1).1,UrR,Rat.add_assoc]
theorem UqB (v:List Rat) {l:List SpT} {s x:Rat} (hs:fits s) (h:UaR (evS v) s l=some x):fits x :=
 Uf3 (step:=evS v) (P:=fun _=>True) (Inv:=fits) (fun s s' a _ _ he=>(Udv he).2) (fun _ _=>trivial) hs h
def UaS (f:Nat→Rat):Nat→List Rat→Rat
 | _,[]=>0
 | k,x::v=>f k * x + UaS f (k + 1) v
theorem Ucs {f g:Nat→Rat}:∀ {v:List Rat} {k:Nat},(∀ i,k≤i→i<k + v.length→f i=g i)→UaS f k v=UaS g k v
 | [],k,h=>rfl
 | x::v,k,h=>by
  rw [UaS,UaS,h k (by omega) (by rw [List.length_cons]; omega),Ucs fun i h1 h2=>h i (by omega) (by rw [List.length_cons]; omega)]
theorem Ubi {f:Nat→Rat}:∀ {v:List Rat} {k:Nat},(∀ i,k≤i→i<k + v.length→f i=0)→UaS f k v=0
 | [],k,h=>rfl
 | x::v,k,h=>by
  rw [UaS,h k (by omega) (by rw [List.length_cons]; omega),Ubi fun i h1 h2=>h i (by omega) (by rw [List.length_cons]; omega),Rat.zero_mul,Rat.zero_add]
theorem UhT (i:Nat) (c:Rat):∀ (v:List Rat) (k:Nat),k≤i→i<k + v.length→UaS (fun j=>if i=j then c else 0) k v=c * v.getD (i - k) 0
 | [],k,h1,h2=>by simp at h2; omega
 | x::v,k,h1,h2=>by
  rw [UaS]
  by_cases h:i=k
  · subst h
    rw [if_pos rfl,Ubi fun j h3 h4=>if_neg (by omega),Nat.sub_self,Rat.add_zero]; rfl
  · rw [if_neg h,UhT i c v (k + 1) (by omega) (by simp at h2; omega),Rat.zero_mul,Rat.zero_add,show i - k=(i - (k + 1)) + 1 from by omega]; rfl
theorem UeG (f g:Nat→Rat):∀ (v:List Rat) (k:Nat),UaS (fun i=>f i + g i) k v=UaS f k v + UaS g k v
 | [],k=>by simp only [UaS]; grind
 | x::v,k=>by rw [UaS,UaS,UaS,UeG f g v]; grind
theorem UhS (f:Nat→Rat) (c:Rat):∀ (v:List Rat) (k:Nat),UaS (fun i=>f i * c) k v=UaS f k v * c
 | [],k=>by simp only [UaS]; grind
 | x::v,k=>by rw [UaS,UaS,UhS f c v]; grind
theorem Uj6 {f g:Nat→Rat}:∀ {v:List Rat} {k:Nat},(∀ x∈v,0≤x)→(∀ i,k≤i→i<k + v.length→f i≤g i)→UaS f k v≤UaS g k v
 | [],k,_,_=>by simp [UaS]
 | x::v,k,h,hf=>by
  have h1:=Uj6 (f:=f) (g:=g) (v:=v) (k:=k + 1) (fun y hy=>h y (List.mem_cons_of_mem _ hy)) (fun i h1 h2=>hf i (by omega) (by rw [List.length_cons]; omega))
  have h2:=hf k (by omega) (by rw [List.length_cons]; omega)
  have h3:=h x (List.mem_cons_self ..)
  have h4:=Rat.mul_le_mul_of_nonneg_right h2 h3
  rw [UaS,UaS]
  grind
theorem Uol (v:List Rat):∀ {l:List SpT} {a:Int},asc a l→(∀ t∈l,t.1<v.length)→UrR v l=UaS (cf l) 0 v
 | [],a,_,_=>(Ubi fun i _ _=>rfl).symm
 | t::l,a,h,hv=>by
  have ht:=hv t (List.mem_cons_self ..)
  rw [UrR,Uol v h.2 (fun x hx=>hv x (List.mem_cons_of_mem _ hx))]
  have e:UaS (cf (t::l)) 0 v=UaS (fun i=>(if t.1=i then t.2 else 0) + cf l i) 0 v:=Ucs fun i _ _=>by
   rw [Ubf]
   by_cases hi:t.1=i
   · subst hi; rw [if_pos rfl,if_pos rfl,UfV h.2 (by omega),Rat.add_zero]
   · rw [if_neg hi,if_neg hi,Rat.zero_add]
  rw [e,UeG,UhT t.1 t.2 v 0 (by omega) (by omega),Nat.sub_zero]
def UrK (v:List Rat):List (SpR × Rat)→Rat
 | []=>0
 | x::t=>(x.1.2 + UaS (cf x.1.1) 0 v) * x.2 + UrK v t
theorem UmF (v:List Rat):∀ (l:List (SpR × Rat)),UrK v l=UnO l + UaS (UmE l) 0 v
 | []=>by rw [UrK,UnO,show UaS (UmE []) 0 v=0 from Ubi fun i _ _=>rfl,Rat.add_zero]
 | x::t=>by
  rw [UrK,UnO,UmF v t]
  have e:UaS (UmE (x::t)) 0 v=UaS (fun i=>cf x.1.1 i * x.2 + UmE t i) 0 v:=rfl
  rw [e,UeG (fun i=>cf x.1.1 i * x.2) (UmE t),UhS]
  grind
end Go.Proofs.YtmgfmlhdnadglaaGreatDoor
set_option linter.unusedVariables false
set_option maxRecDepth 100000
namespace Go.Proofs.YtmgfmlhdnadglaaGreatDoor
open Go Th Go.Proofs
noncomputable section
variable {R:Type}
def Upx:Ann:={ loops:=[],cuts:=[],frz:=[],rm:=[.id,.id] }
abbrev UsW (n:Nat):Env:=eC 58 (UtE n) eN
theorem UkN (n:Nat):EnvOK Tryz.prog GI (UsW n):=.cons (.nil) (Uva n)
def p62 (n:Nat) (x1:Bool) (x2 x3:LP) (x4:Bool) (x5 x6:LP) (k0:Bool→LP→LP→Int→O R):O R :=
 p58 n x2 x5 (fun y7=>p58 n x3 x6 (fun y8=>k0 (!(x1 == x4)) y7 y8 0))
abbrev UzU (n:Nat):Orc R:=oN
abbrev Uzp (n:Nat):Orc R:=oN
abbrev K62 (R:Type) (n:Nat):=JcH (R:=R) Tryz.prog (UsW n) Upx n (22,[]) (UzU n) (Uzp n)
theorem UA4 (n:Nat):Je6 (K62 R n) (JaJ Upx (Jll Tryz.f62)):=pO pN (by kernel_rfl)
abbrev t62:Sl (List SV):=(.c (sP (JlI (.c Jlf (.c sSh (.c sSh .n))))) (.c (sP (JlI (.c Jlf (.c sSh (.c sSh .n))))) .n))
abbrev f62 (n:Nat) (K:List SV→O R):t62.T (O R):=fun x1 x2 x3 x4 x5 x6=>p62 n x1 x2 x3 x4 x5 x6 (fun y1 y2 y3 y4=>K [.p (.agg [.v (.bool y1),.sh y2,.sh y3]),vI y4])
abbrev Uya (n:Nat):FS:=fT [false,false] t62 (f62 n)
theorem UAm (n:Nat):FSound Tryz.prog GI 62 (Uya n):=gd Upx n (UkN n) Tryz.func62 (.cons (UkN n) t62 (f62 n) (fun K _ _ _ _ _ _=>(Jkq (c:=Jll Tryz.f62) (by kernel_rfl) (UA4 n) K).trans (by kernel_rfl)) .nil) (by kernel_rfl)
def Upz:Ann:={ loops:=[],cuts:=[],frz:=[],rm:=[.id] }
abbrev UsY (n:Nat):Env:=eC 104 (Uth n) (eC 103 (Utg n) (eC 58 (UtE n) (eC 57 (Uu5 n) eN)))
theorem UkP (n:Nat):EnvOK Tryz.prog GI (UsY n):=.cons (.cons (.cons (.cons (.nil) (Uws n)) (Uva n)) (Uv3 n)) (Uv4 n)
def p64 (n:Nat) (x1:Bool) (x2 x3:LP) (x4:Bool) (x5 x6:LP) (k0:Bool→LP→LP→O R):O R :=
 p58 n x2 x6 (fun y7=>p58 n x5 x3 (fun y8=>p58 n x3 x6 (fun y9=>bif (x1 == x4) then (Uvb n y7 y8 (fun y10=>k0 x1 y10 y9)) else (p57 n y7 y8 (fun y11=>bif (decide (y11<0)) then (UtY n y8 y7 (fun y12=>k0 x4 y12 y9)) else (UtY n y7 y8 (fun y13=>k0 x1 y13 y9)))))))
abbrev UzW (n:Nat):Orc R:=oN
abbrev Uzr (n:Nat):Orc R:=oN
abbrev K64 (R:Type) (n:Nat):=JcH (R:=R) Tryz.prog (UsY n) Upz n (53,[]) (UzW n) (Uzr n)
theorem UA6 (n:Nat):Je6 (K64 R n) (JaJ Upz (Jll Tryz.f64)):=pO pN (by kernel_rfl)
abbrev t64:Sl (List SV):=(.c (sP (JlI (.c Jlf (.c sSh (.c sSh .n))))) (.c (sP (JlI (.c Jlf (.c sSh (.c sSh .n))))) .n))
abbrev f64 (n:Nat) (K:List SV→O R):t64.T (O R):=fun x1 x2 x3 x4 x5 x6=>p64 n x1 x2 x3 x4 x5 x6 (fun y1 y2 y3=>K [.p (.agg [.v (.bool y1),.sh y2,.sh y3])])
abbrev Uyc (n:Nat):FS:=fT [false,false] t64 (f64 n)
theorem UAo (n:Nat):FSound Tryz.prog GI 64 (Uyc n):=gd Upz n (UkP n) Tryz.func64 (.cons (UkP n) t64 (f64 n) (fun K _ _ _ _ _ _=>(Jkq (c:=Jll Tryz.f64) (by kernel_rfl) (UA6 n) K).trans (by kernel_rfl)) .nil) (by kernel_rfl)
def Upy:Ann:={ loops:=[],cuts:=[],frz:=[],rm:=[.id,.id] }
abbrev UsX (n:Nat):Env:=eC 64 (Uyc n) eN
theorem UkO (n:Nat):EnvOK Tryz.prog GI (UsX n):=.cons (.nil) (UAo n)
def p63 (n:Nat) (x1:Bool) (x2 x3:LP) (x4:Bool) (x5 x6:LP) (k0:Bool→LP→LP→Int→O R):O R :=
 p64 n x1 x2 x3 x4 x5 x6 (fun y7 y8 y9=>k0 y7 y8 y9 0)
abbrev UzV (n:Nat):Orc R:=oN
abbrev Uzq (n:Nat):Orc R:=oN
abbrev K63 (R:Type) (n:Nat):=JcH (R:=R) Tryz.prog (UsX n) Upy n (9,[]) (UzV n) (Uzq n)
theorem UA5 (n:Nat):Je6 (K63 R n) (JaJ Upy (Jll Tryz.f63)):=pO pN (by kernel_rfl)
abbrev t63:Sl (List SV):=(.c (sP (JlI (.c Jlf (.c sSh (.c sSh .n))))) (.c (sP (JlI (.c Jlf (.c sSh (.c sSh .n))))) .n))
abbrev f63 (n:Nat) (K:List SV→O R):t63.T (O R):=fun x1 x2 x3 x4 x5 x6=>p63 n x1 x2 x3 x4 x5 x6 (fun y1 y2 y3 y4=>K [.p (.agg [.v (.bool y1),.sh y2,.sh y3]),vI y4])
abbrev Uyb (n:Nat):FS:=fT [false,false] t63 (f63 n)
theorem UAn (n:Nat):FSound Tryz.prog GI 63 (Uyb n):=gd Upy n (UkO n) Tryz.func63 (.cons (UkO n) t63 (f63 n) (fun K _ _ _ _ _ _=>(Jkq (c:=Jll Tryz.f63) (by kernel_rfl) (UA5 n) K).trans (by kernel_rfl)) .nil) (by kernel_rfl)
def UfT:Ann:={ loops:=[],cuts:=[(5,ids [2,8,10],ids [6,7])],frz:=[],rm:=[.id,.id] }
abbrev Uqu (n:Nat):Env:=eC 79 (UvM n) (eC 63 (Uyb n) (eC 62 (Uya n) (eC 56 (UtD n) eN)))
theorem UgB (n:Nat):EnvOK Tryz.prog GI (Uqu n):=.cons (.cons (.cons (.cons (.nil) (Uv n)) (UAm n)) (UAn n)) (UyL n)
def Ume (n:Nat) (x1:Bool) (x2 x3:LP) (x4:Bool) (x5 x6:LP) (k0:ByteArray→Int→O R):O R :=
 p62 n x1 x2 x3 x4 x5 x6 (fun y7 y8 y9 y10=>bif (y10 != 0) then (k0 ⟨#[]⟩ y10) else (p79 n y7 y8 y9 (fun y11 y12=>k0 y11 y12)))
def p61 (n:Nat) (x1 x2:ByteArray) (k0:ByteArray→Int→O R):O R :=
 p56 n x1 (fun y3 y4 y5 y6=>p56 n x2 (fun y7 y8 y9 y10=>bif (!y6) then (k0 ⟨#[]⟩ 3) else (bif (bif false then true else (!y10)) then (k0 ⟨#[]⟩ 3) else (Ume n y3 y4 y5 y7 y8 y9 (fun y11 y12=>k0 y11 y12)))))
def Ufl (n:Nat) (x1:Bool) (x2 x3:LP) (x4:Bool) (x5 x6:LP) (k0:ByteArray→Int→O R):O R :=
 p63 n x1 x2 x3 x4 x5 x6 (fun y7 y8 y9 y10=>bif (y10 != 0) then (k0 ⟨#[]⟩ y10) else (p79 n y7 y8 y9 (fun y11 y12=>k0 y11 y12)))
def Unl (n:Nat) (x1 x2:ByteArray) (k0:ByteArray→Int→O R):O R :=
 p56 n x1 (fun y3 y4 y5 y6=>p56 n x2 (fun y7 y8 y9 y10=>bif (!y6) then (k0 ⟨#[]⟩ 3) else (bif (bif false then true else (!y10)) then (k0 ⟨#[]⟩ 3) else (Ufl n y3 y4 y5 y7 y8 y9 (fun y11 y12=>k0 y11 y12)))))
abbrev E61 (n:Nat):Code→Fr→Kc R→O R:=evC Tryz.prog (Uqu n) UfT n (44,[])
noncomputable def UjS:Code:=Jj4 (Jll Tryz.f61) [1,1,1,1]
abbrev Uhl:Sl (List SV):=(.c (sP (sFn 62)) (.c (sBx 99 (cB (cH (cH .n)))) (.c (sBx 99 (cB (cH (cH .n)))) .n)))
abbrev Uhm:Sl (List SV):=(.c (sP (sFn 63)) (.c (sBx 99 (cB (cH (cH .n)))) (.c (sBx 99 (cB (cH (cH .n)))) .n)))
abbrev Ulx (n:Nat) (K:Kc R):Uhl.T (O R):=fun x1 x2 x3 x4 x5 x6=>Ume n x1 x2 x3 x4 x5 x6 (fun y1 y2=>xC UfT 5 K .ret [vS y1,vI y2])
abbrev Uly (n:Nat) (K:Kc R):Uhm.T (O R):=fun x1 x2 x3 x4 x5 x6=>Ufl n x1 x2 x3 x4 x5 x6 (fun y1 y2=>xC UfT 5 K .ret [vS y1,vI y2])
abbrev Uv2 (n:Nat):Orc R:=oN
abbrev Uvy (n:Nat):Orc R:=fun i vs K=>JfK (Nat.beq i 5) (Jjg (Uhl.ap vs (Ulx n K)) (Jjg (Uhm.ap vs (Uly n K)) (Jki UfT 5 (E61 n UjS) vs K))) (oN i vs K)
abbrev K61 (R:Type) (n:Nat):=JcH (R:=R) Tryz.prog (Uqu n) UfT n (44,[]) (Uv2 n) (Uvy n)
theorem Umf (n:Nat):Je6 (K61 R n) (JaJ UfT UjS):=pO pN (by kernel_rfl)
theorem Uut (n:Nat):K61 R n (true,5,UjS):=JkW (lo:=Uv2 n) (cu:=Uvy n) (Umf n) Uhl (Ulx n) (fun K _ _ _ _ _ _=>by show _=_; kernel_rfl) (JkW (lo:=Uv2 n) (cu:=Uvy n) (Umf n) Uhm (Uly n) (fun K _ _ _ _ _ _=>by show _=_; kernel_rfl) fun _ _=>rfl)
theorem UyR (n:Nat):Je6 (K61 R n) (JaJ UfT (Jll Tryz.f61)):=pO (pC (Uut n) pN) (by kernel_rfl)
abbrev Uxi:Sl (List SV):=(cS (cS (.c (sP (sFn 62)) .n)))
abbrev UxQ (n:Nat) (K:List SV→O R):Uxi.T (O R):=fun x1 x2=>p61 n x1 x2 (fun y1 y2=>K [vS y1,vI y2])
abbrev Uxj:Sl (List SV):=(cS (cS (.c (sP (sFn 63)) .n)))
abbrev UxR (n:Nat) (K:List SV→O R):Uxj.T (O R):=fun x1 x2=>Unl n x1 x2 (fun y1 y2=>K [vS y1,vI y2])
abbrev UvK (n:Nat):FS:={ om:=[false,false,false],run:=fun args K=>Jjg (Uxi.ap args (UxQ n K)) (Jjg (Uxj.ap args (UxR n K)) none) }
theorem UyJ (n:Nat):FSound Tryz.prog GI 61 (UvK n):=gd UfT n (UgB n) Tryz.func61 (.cons (UgB n) Uxi (UxQ n) (fun K _ _=>(Jkq (c:=Jll Tryz.f61) (by kernel_rfl) (UyR n) K).trans (by kernel_rfl)) (.cons (UgB n) Uxj (UxR n) (fun K _ _=>(Jkq (c:=Jll Tryz.f61) (by kernel_rfl) (UyR n) K).trans (by kernel_rfl)) .nil)) (by kernel_rfl)
def UpD:Ann:={ loops:=[],cuts:=[],frz:=[],rm:=[.id] }
abbrev Us2 (n:Nat):Env:=eN
theorem UkV (n:Nat):EnvOK Tryz.prog GI (Us2 n):=.nil
def p78 (n:Nat) (x1:Bool) (x2 x3:LP) (k0:Bool→LP→LP→O R):O R :=
 bif (!x1) then (k0 (bif true then (decide (((x2).length:Int)>0)) else false) x2 x3) else (k0 false x2 x3)
abbrev Uz0 (n:Nat):Orc R:=oN
abbrev Uzv (n:Nat):Orc R:=oN
abbrev K78 (R:Type) (n:Nat):=JcH (R:=R) Tryz.prog (Us2 n) UpD n (14,[]) (Uz0 n) (Uzv n)
theorem UBb (n:Nat):Je6 (K78 R n) (JaJ UpD (Jll Tryz.f78)):=pO pN (by kernel_rfl)
abbrev t78:Sl (List SV):=(.c (sP (JlI (.c Jlf (.c sSh (.c sSh .n))))) .n)
abbrev f78 (n:Nat) (K:List SV→O R):t78.T (O R):=fun x1 x2 x3=>p78 n x1 x2 x3 (fun y1 y2 y3=>K [.p (.agg [.v (.bool y1),.sh y2,.sh y3])])
abbrev Uyg (n:Nat):FS:=fT [false] t78 (f78 n)
theorem UAs (n:Nat):FSound Tryz.prog GI 78 (Uyg n):=gd UpD n (UkV n) Tryz.func78 (.cons (UkV n) t78 (f78 n) (fun K _ _ _=>(Jkq (c:=Jll Tryz.f78) (by kernel_rfl) (UBb n) K).trans (by kernel_rfl)) .nil) (by kernel_rfl)
def Upn:Ann:={ loops:=[],cuts:=[],frz:=[],rm:=[.id,.id] }
abbrev UsM (n:Nat):Env:=eC 61 (UvK n) (eC 60 (UvJ n) (eC 54 (Uu4 n) eN))
theorem Ukr (n:Nat):EnvOK Tryz.prog GI (UsM n):=.cons (.cons (.cons (.nil) (Uwr n)) (UyI n)) (UyJ n)
def p22 (n:Nat) (x1 x2:ByteArray) (k0:ByteArray→Int→O R):O R :=
 p54 n x1 x2 (fun y3 y4 y5=>bif y5 then (bif (JkT (IntKind.i64.wrap (y3 + y4))) then (k0 (JiB (IntKind.i64.wrap (y3 + y4))) 0) else none) else (Unl n x1 x2 (fun y6 y7=>k0 y6 y7)))
abbrev UzK (n:Nat):Orc R:=oN
abbrev Uzf (n:Nat):Orc R:=oN
abbrev K22 (R:Type) (n:Nat):=JcH (R:=R) Tryz.prog (UsM n) Upn n (26,[]) (UzK n) (Uzf n)
theorem UAI (n:Nat):Je6 (K22 R n) (JaJ Upn (Jll Tryz.f22)):=pO pN (by kernel_rfl)
abbrev t22:Sl (List SV):=(cS (cS .n))
abbrev f22 (n:Nat) (K:List SV→O R):t22.T (O R):=fun x1 x2=>p22 n x1 x2 (fun y1 y2=>K [vS y1,vI y2])
abbrev UvF (n:Nat):FS:=fT [false,false] t22 (f22 n)
theorem UyE (n:Nat):FSound Tryz.prog GI 22 (UvF n):=gd Upn n (Ukr n) Tryz.func22 (.cons (Ukr n) t22 (f22 n) (fun K _ _=>(Jkq (c:=Jll Tryz.f22) (by kernel_rfl) (UAI n) K).trans (by kernel_rfl)) .nil) (by kernel_rfl)
def Upm:Ann:={ loops:=[],cuts:=[],frz:=[],rm:=[.id,.id] }
abbrev UsL (n:Nat):Env:=eC 61 (UvK n) (eC 60 (UvJ n) (eC 54 (Uu4 n) eN))
theorem Ukq (n:Nat):EnvOK Tryz.prog GI (UsL n):=.cons (.cons (.cons (.nil) (Uwr n)) (UyI n)) (UyJ n)
def p21 (n:Nat) (x1 x2:ByteArray) (k0:ByteArray→Int→O R):O R :=
 p54 n x1 x2 (fun y3 y4 y5=>bif y5 then (bif (JkT (IntKind.i64.wrap (y3 * y4))) then (k0 (JiB (IntKind.i64.wrap (y3 * y4))) 0) else none) else (p61 n x1 x2 (fun y6 y7=>k0 y6 y7)))
abbrev UzJ (n:Nat):Orc R:=oN
abbrev Uze (n:Nat):Orc R:=oN
abbrev K21 (R:Type) (n:Nat):=JcH (R:=R) Tryz.prog (UsL n) Upm n (26,[]) (UzJ n) (Uze n)
theorem UAH (n:Nat):Je6 (K21 R n) (JaJ Upm (Jll Tryz.f21)):=pO pN (by kernel_rfl)
abbrev t21:Sl (List SV):=(cS (cS .n))
abbrev f21 (n:Nat) (K:List SV→O R):t21.T (O R):=fun x1 x2=>p21 n x1 x2 (fun y1 y2=>K [vS y1,vI y2])
abbrev UvE (n:Nat):FS:=fT [false,false] t21 (f21 n)
theorem UyD (n:Nat):FSound Tryz.prog GI 21 (UvE n):=gd Upm n (Ukq n) Tryz.func21 (.cons (Ukq n) t21 (f21 n) (fun K _ _=>(Jkq (c:=Jll Tryz.f21) (by kernel_rfl) (UAH n) K).trans (by kernel_rfl)) .nil) (by kernel_rfl)
def Upq:Ann:={ loops:=[],cuts:=[],frz:=[],rm:=[.id] }
abbrev UsP (n:Nat):Env:=eC 79 (UvM n) (eC 78 (Uyg n) (eC 56 (UtD n) eN))
theorem UkA (n:Nat):EnvOK Tryz.prog GI (UsP n):=.cons (.cons (.cons (.nil) (Uv n)) (UAs n)) (UyL n)
def p37 (n:Nat) (x1:ByteArray) (k0:ByteArray→O R):O R :=
 p56 n x1 (fun y2 y3 y4 y5=>bif (!y5) then (k0 ⟨#[]⟩) else (p78 n y2 y3 y4 (fun y6 y7 y8=>p79 n y6 y7 y8 (fun y9 y10=>k0 y9))))
abbrev UzN (n:Nat):Orc R:=oN
abbrev Uzi (n:Nat):Orc R:=oN
abbrev K37 (R:Type) (n:Nat):=JcH (R:=R) Tryz.prog (UsP n) Upq n (21,[]) (UzN n) (Uzi n)
theorem UAR (n:Nat):Je6 (K37 R n) (JaJ Upq (Jll Tryz.f37)):=pO pN (by kernel_rfl)
abbrev t37:Sl (List SV):=(cS .n)
abbrev f37 (n:Nat) (K:List SV→O R):t37.T (O R):=fun x1=>p37 n x1 (fun y1=>K [vS y1])
abbrev Ux4 (n:Nat):FS:=fT [false] t37 (f37 n)
theorem UAf (n:Nat):FSound Tryz.prog GI 37 (Ux4 n):=gd Upq n (UkA n) Tryz.func37 (.cons (UkA n) t37 (f37 n) (fun K _=>(Jkq (c:=Jll Tryz.f37) (by kernel_rfl) (UAR n) K).trans (by kernel_rfl)) .nil) (by kernel_rfl)
end
end Go.Proofs.YtmgfmlhdnadglaaGreatDoor
set_option linter.unusedVariables false
set_option linter.unusedSimpArgs false
namespace Go.Proofs.YtmgfmlhdnadglaaGreatDoor
open Go Th Go.Proofs
variable {R:Type}
def Ugo (q:Rat) (k0:ByteArray→Int→Option R):Option R:=if fits q then k0 (bs (Uaf q)) 0 else k0 (bs []) 5
theorem UdP {a b i j:Nat} (ha:(toL 1000000000 a).length≤i) (hb:(toL 1000000000 b).length≤j):(toL 1000000000 (a * b)).length≤i + j:=by
 rw [Uag hB2] at *
 rw [Nat.pow_add]
 exact Nat.mul_lt_mul_of_lt_of_lt ha hb
theorem UuM {a b i:Nat} (ha:(toL 1000000000 a).length≤i) (hb:(toL 1000000000 b).length≤i):(toL 1000000000 (a + b)).length≤i + 1:=by
 rw [Uag hB2] at *
 rw [Nat.pow_succ]; omega
theorem Umx {a b i:Nat} (h:a≤b) (hb:(toL 1000000000 b).length≤i):(toL 1000000000 a).length≤i:=Ubj hb h
theorem UqV {a b i j:Nat} (ha:a<10 ^ i) (hb:b<10 ^ j):a * b<10 ^ (i + j):=by
 rw [Nat.pow_add]; exact Nat.mul_lt_mul_of_lt_of_lt ha hb
theorem UlN {a b:Nat} (ha:a<10 ^ 400) (hb:b<10 ^ 400):a * b<10 ^ 800:=by
 have h:=UqV ha hb
 have e:400 + 400=800:=rfl
 rw [e] at h; exact h
theorem UuK (n:Nat) (hn:2 ^ 20≤n) (neg neg2:Bool) (a b c d:Nat) (ha:(toL 1000000000 a).length≤100) (hb:(toL 1000000000 b).length≤100) (hc:(toL 1000000000 c).length≤100) (hd:(toL 1000000000 d).length≤100) :
 ∃ (ng:Bool) (e:Nat),(∀ k0:Bool→List PV→List PV→Option R,p64 n neg (NN a) (NN b) neg2 (NN c) (NN d) k0=k0 ng (NN e) (NN (b * d)))∧zs ng e=zs neg a * d + zs neg2 c * b∧(toL 1000000000 e).length≤201:=by
 have l1:=UdP ha hd
 have l2:=UdP hc hb
 have m1:=fun k0=>UaG (R:=R) n a d (by omega) (by omega) (by omega) k0
 have m2:=fun k0=>UaG (R:=R) n c b (by omega) (by omega) (by omega) k0
 have m3:=fun k0=>UaG (R:=R) n b d (by omega) (by omega) (by omega) k0
 have z1:zs neg a * (d:Int)=zs neg (a * d):=by cases neg <;> simp [zs,Int.neg_mul]
 have z2:zs neg2 c * (b:Int)=zs neg2 (c * b):=by cases neg2 <;> simp [zs,Int.neg_mul]
 rw [z1,z2]
 by_cases hs:neg=neg2
 · subst hs
   have p1:=fun k0=>Uq1 (R:=R) n (a * d) (c * b) (by omega) (by omega) (by omega) (by omega) k0
   refine ⟨neg,a * d + c * b,fun k0=>?_,?_,UuM l1 l2⟩
   · unfold p64
     have e:(neg == neg)=true:=by simp
     simp only [m1,m2,m3,e,Uat,p1]
   · generalize a * d=x
     generalize c * b=y
     cases neg
     · simp only [zs,Bool.false_eq_true,if_false]; omega
     · simp only [zs,if_true]; omega
 · have e:(neg == neg2)=false:=by simpa using hs
   have hneg:neg2=!neg:=by cases neg <;> cases neg2 <;> simp_all
   have c1:=fun k0=>Uj0 (R:=R) n (a * d) (c * b) (by omega) (by omega) (by omega) k0
   by_cases hlt:a * d<c * b
   · have p1:=fun k0=>UiD (R:=R) n (c * b) (a * d) (by omega) (by omega) (by omega) k0
     have e2:decide (UdY (a * d) (c * b)<0)=true:=by rw [show UdY (a * d) (c * b)=-1 from by unfold UdY; rw [if_pos hlt]]; rfl
     refine ⟨neg2,c * b - a * d,fun k0=>?_,?_,Umx (Nat.sub_le _ _) (Nat.le_trans l2 (by omega))⟩
     · unfold p64
       simp only [m1,m2,m3,e,Uak,c1,e2,Uat,p1]
     · rw [hneg]
       generalize a * d=x at *
       generalize c * b=y at *
       cases neg
       · simp only [zs,Bool.not_false,if_true,Bool.false_eq_true,if_false]; omega
       · simp only [zs,Bool.not_true,if_true,Bool.false_eq_true,if_false]; omega
   · have p1:=fun k0=>UiD (R:=R) n (a * d) (c * b) (by omega) (by omega) (by omega) k0
     have e2:decide (UdY (a * d) (c * b)<0)=false:=by
      apply decide_eq_false
      unfold UdY; rw [if_neg hlt]; split <;> omega
     refine ⟨neg,a * d - c * b,fun k0=>?_,?_,Umx (Nat.sub_le _ _) (Nat.le_trans l1 (by omega))⟩
     · unfold p64
       simp only [m1,m2,m3,e,Uak,c1,e2,p1]
     · rw [hneg]
       generalize a * d=x at *
       generalize c * b=y at *
       cases neg
       · simp only [zs,Bool.not_false,if_true,Bool.false_eq_true,if_false]; omega
       · simp only [zs,Bool.not_true,if_true,Bool.false_eq_true,if_false]; omega
theorem UtQ (p q:Rat):mkRat (p.num * q.den + q.num * p.den) (p.den * q.den)=p + q:=by
 rw [←Rat.mkRat_add_mkRat _ _ p.den_nz q.den_nz,Rat.mkRat_self,Rat.mkRat_self]
theorem UtR (p q:Rat):mkRat (p.num * q.num) (p.den * q.den)=p * q:=by
 rw [←Rat.mkRat_mul_mkRat,Rat.mkRat_self,Rat.mkRat_self]
theorem n20 {n:Nat} (hn:10 ^ 1000≤n):2 ^ 20<n:=Nat.lt_of_lt_of_le (by decide +kernel) hn
theorem Ub9 {n:Nat} (hn:10 ^ 1000≤n):10 ^ 400≤n:=Nat.le_trans (by decide +kernel) hn
theorem Uyz {n a b:Nat} (hn:10 ^ 1000≤n) (ha:a<10 ^ 400) (hb:b<10 ^ 400):a * b<n:=Nat.lt_of_lt_of_le (UlN ha hb) (Nat.le_trans (by decide +kernel) hn)
theorem Upa (n:Nat) (hn:10 ^ 1000≤n) (ng:Bool) (e f:Nat) (hf:f≠0) (he:(toL 1000000000 e).length≤300) (hfl:(toL 1000000000 f).length≤300) (hfn:f<n) (q:Rat) (hq:mkRat (zs ng e) f=q) (k0:ByteArray→Int→Option R):p79 n ng (NN e) (NN f) k0=Ugo q k0:=by
 have h20:=n20 hn
 rw [Uj n ng e f hf (by omega) (by omega) h20 hfn,hq]; rfl
theorem Umz (n:Nat) (hn:10 ^ 1000≤n) (p q:Rat) (hp:fits p) (hq:fits q) (k0:ByteArray→Int→Option R):Unl n (bs (Uaf p)) (bs (Uaf q)) k0=Ugo (p + q) k0:=by
 have h20:=n20 hn
 have r1:=fun k0=>UbQ (R:=R) n (Ub9 hn) p hp k0
 have r2:=fun k0=>UbQ (R:=R) n (Ub9 hn) q hq k0
 have m1:=Uav hp.1
 have m2:=Uav hp.2
 have m3:=Uav hq.1
 have m4:=Uav hq.2
 obtain ⟨ng,e,s1,s2,s3⟩:=UuK (R:=R) n (by omega) (sg p.num) (sg q.num) p.num.natAbs p.den q.num.natAbs q.den (by omega) (by omega) (by omega) (by omega)
 rw [show zs (sg p.num) p.num.natAbs=p.num from UbX _,show zs (sg q.num) q.num.natAbs=q.num from UbX _] at s2
 have t:=fun k0=>Upa (R:=R) n hn ng e (p.den * q.den) (Nat.mul_ne_zero p.den_nz q.den_nz) (by omega) (Nat.le_trans (UdP m2 m4) (by omega)) (Uyz hn hp.2 hq.2) (p + q) (by rw [s2,UtQ]) k0
 have e0:((0:Int) != 0)=false:=rfl
 simp only [Unl,Ufl,p63,r1,r2,s1,t,e0,Bool.not_true,Uak]
theorem UuR (x y:Int):zs (!(sg x == sg y)) (x.natAbs * y.natAbs)=x * y:=by
 have hx:=UbX x
 have hy:=UbX y
 generalize hsx:decide (x<0)=sx at *
 generalize hsy:decide (y<0)=sy at *
 have e1:sg x=sx:=hsx
 have e2:sg y=sy:=hsy
 rw [e1,e2]
 conv=>rhs; rw [←hx,←hy]
 generalize x.natAbs=a
 generalize y.natAbs=b
 cases sx <;> cases sy <;> simp [zs,Int.neg_mul,Int.mul_neg]
theorem UmA (n:Nat) (hn:10 ^ 1000≤n) (p q:Rat) (hp:fits p) (hq:fits q) (k0:ByteArray→Int→Option R):p61 n (bs (Uaf p)) (bs (Uaf q)) k0=Ugo (p * q) k0:=by
 have h20:=n20 hn
 have r1:=fun k0=>UbQ (R:=R) n (Ub9 hn) p hp k0
 have r2:=fun k0=>UbQ (R:=R) n (Ub9 hn) q hq k0
 have m1:=Uav hp.1
 have m2:=Uav hp.2
 have m3:=Uav hq.1
 have m4:=Uav hq.2
 have s1:=fun k0=>UaG (R:=R) n p.num.natAbs q.num.natAbs (by omega) (by omega) (by omega) k0
 have s2:=fun k0=>UaG (R:=R) n p.den q.den (by omega) (by omega) (by omega) k0
 have t:=fun k0=>Upa (R:=R) n hn (!(sg p.num == sg q.num)) (p.num.natAbs * q.num.natAbs) (p.den * q.den) (Nat.mul_ne_zero p.den_nz q.den_nz) (Nat.le_trans (UdP m1 m3) (by omega)) (Nat.le_trans (UdP m2 m4) (by omega)) (Uyz hn hp.2 hq.2) (p * q) (by rw [UuR,UtR]) k0
 have e0:((0:Int) != 0)=false:=rfl
 simp only [p61,Ume,p62,r1,r2,s1,s2,t,e0,Bool.not_true,Uak]
theorem UmG (neg:Bool) (a:Nat) (d:Nat):zs neg a * (d:Int)=zs neg (a * d):=by cases neg <;> simp [zs,Int.neg_mul]
def UaU (s:List UInt8):Prop:=∃ v:Int,v.natAbs<10 ^ 9∧s=Lib.itoa v
theorem Ugc (n:Nat) (hn:20≤n) (s:List UInt8) (hs:s.length<2 ^ 40):∃ a d,(∀ k0:Int→Bool→Option R,p95 n (bs s) k0=k0 a d)∧(¬ UaU s→d=false):=by
 by_cases h:UaU s
 · obtain ⟨v,h1,rfl⟩:=h
   exact ⟨v,true,fun k0=>Uds n hn v h1 k0,fun h=>absurd ⟨v,h1,rfl⟩ h⟩
 · exact ⟨0,false,fun k0=>Ugd n hn s hs h k0,fun _=>rfl⟩
theorem Ugu (n:Nat) (hn:20≤n) (v w:Int) (hv:v.natAbs<10 ^ 9) (hw:w.natAbs<10 ^ 9) (k0:Int→Int→Bool→Option R):p54 n (bs (Lib.itoa v)) (bs (Lib.itoa w)) k0=k0 v w true:=by
 have q1:=fun k0=>Uds (R:=R) n hn v hv k0
 have q2:=fun k0=>Uds (R:=R) n hn w hw k0
 simp only [p54,q1,q2,Uat]
theorem UeE (n:Nat) (hn:20≤n) (s t:List UInt8) (hs:s.length<2 ^ 40) (ht:t.length<2 ^ 40) (h:¬ (UaU s∧UaU t)):∃ a b,∀ k0:Int→Int→Bool→Option R,p54 n (bs s) (bs t) k0=k0 a b false:=by
 obtain ⟨a,d,q1,f1⟩:=Ugc (R:=R) n hn s hs
 obtain ⟨b,e,q2,f2⟩:=Ugc (R:=R) n hn t ht
 cases d with
 | false=>exact ⟨a,b,fun k0=>by simp only [p54,q1,q2,Uak]⟩
 | true =>
  have hS:UaU s:=Classical.byContradiction fun h=>by have:=f1 h; cases this
  have hT:¬ UaU t:=fun hT=>h ⟨hS,hT⟩
  have e0:=f2 hT
  subst e0
  exact ⟨a,b,fun k0=>by simp only [p54,q1,q2,Uat]⟩
theorem Uiz (x:Int):JiB x=bs (Lib.itoa x):=rfl
theorem UiP (v:Int) (h:v.natAbs<10 ^ 400) (k0:ByteArray→Int→Option R):Ugo (v:Rat) k0=k0 (bs (Lib.itoa v)) 0:=by
 unfold Ugo
 rw [if_pos (UeT h),Uaq]
theorem UaV {p:Rat} (h:UaU (Uaf p)):∃ v:Int,v.natAbs<10 ^ 9∧p=(v:Rat):=by
 obtain ⟨v,h1,h2⟩:=h
 exact ⟨v,h1,Ufw (h2.trans (Uaq v))⟩
theorem UoJ {x:Int} (h1:-9223372036854775808≤x) (h2:x<9223372036854775808):JkT x=true:=by
 unfold JkT; simp; omega
theorem Uje (n:Nat) (hn:10 ^ 1000≤n) (p q:Rat) (hp:fits p) (hq:fits q) (k0:ByteArray→Int→Option R):p22 n (bs (Uaf p)) (bs (Uaf q)) k0=Ugo (p + q) k0:=by
 have h20:=n20 hn
 have lp:=UaQ hp
 have lq:=UaQ hq
 by_cases hb:UaU (Uaf p)∧UaU (Uaf q)
 · obtain ⟨v,hv,rfl⟩:=UaV hb.1
   obtain ⟨w,hw,rfl⟩:=UaV hb.2
   have b1:=fun k0=>Ugu (R:=R) n (by omega) v w hv hw k0
   rw [←Rat.intCast_add,UiP _ (Nat.lt_of_le_of_lt (by omega:(v + w).natAbs≤2000000000) (by decide +kernel)),←Uaq,←Uaq]
   have e1:IntKind.i64.wrap (v + w)=v + w:=w64 (by omega) (by omega)
   have e2:JkT (v + w)=true:=UoJ (by omega) (by omega)
   simp only [p22,b1,Uat,e1,e2,Uiz]
 · obtain ⟨a,b,b1⟩:=UeE (R:=R) n (by omega) (Uaf p) (Uaf q) (by omega) (by omega) hb
   have t:=fun k0=>Umz (R:=R) n hn p q hp hq k0
   simp only [p22,b1,Uak,t]
theorem UnP (n:Nat) (hn:10 ^ 1000≤n) (p q:Rat) (hp:fits p) (hq:fits q) (k0:ByteArray→Int→Option R):p21 n (bs (Uaf p)) (bs (Uaf q)) k0=Ugo (p * q) k0:=by
 have h20:=n20 hn
 have lp:=UaQ hp
 have lq:=UaQ hq
 by_cases hb:UaU (Uaf p)∧UaU (Uaf q)
 · obtain ⟨v,hv,rfl⟩:=UaV hb.1
   obtain ⟨w,hw,rfl⟩:=UaV hb.2
   have b1:=fun k0=>Ugu (R:=R) n (by omega) v w hv hw k0
   have hvw:(v * w).natAbs≤10 ^ 9 * 10 ^ 9:=by
    rw [Int.natAbs_mul]; exact Nat.mul_le_mul (Nat.le_of_lt hv) (Nat.le_of_lt hw)
   rw [←Rat.intCast_mul,UiP _ (Nat.lt_of_le_of_lt hvw (by decide +kernel)),←Uaq,←Uaq]
   generalize hx:v * w=x at *
   have e1:IntKind.i64.wrap x=x:=w64 (by omega) (by omega)
   have e2:JkT x=true:=UoJ (by omega) (by omega)
   simp only [p21,b1,Uat,hx,e1,e2,Uiz]
 · obtain ⟨a,b,b1⟩:=UeE (R:=R) n (by omega) (Uaf p) (Uaf q) (by omega) (by omega) hb
   have t:=fun k0=>UmA (R:=R) n hn p q hp hq k0
   simp only [p21,b1,Uak,t]
theorem UmV (a b:Nat):Ujc (a:Int) (b:Int)=UdY a b:=by
 unfold Ujc UdY
 by_cases h1:a<b
 · rw [if_pos (by omega),if_pos h1]
 · rw [if_neg (by omega),if_neg h1]
   by_cases h2:b<a
   · rw [if_neg (by omega),if_pos h2]
   · rw [if_pos (by omega),if_neg h2]
theorem UmU (a b:Nat):Ujc (-(a:Int)) (-(b:Int))=0 - UdY a b:=by
 unfold Ujc UdY
 by_cases h1:a<b
 · rw [if_neg (by omega),if_neg (by omega),if_pos h1]; rfl
 · rw [if_neg h1]
   by_cases h2:b<a
   · rw [if_pos (by omega),if_pos h2]; rfl
   · rw [if_neg (by omega),if_pos (by omega),if_neg h2]; rfl
theorem Up7 (a b:Nat):-1≤UdY a b∧UdY a b≤1:=by unfold UdY; split <;> (try split) <;> omega
theorem Ur1 (n:Nat) (hn:10 ^ 1000≤n) (p q:Rat) (hp:fits p) (hq:fits q) (k0:Int→Option R):p19 n (bs (Uaf p)) (bs (Uaf q)) k0=k0 (Ujc (p.num * q.den) (q.num * p.den)):=by
 have h20:=n20 hn
 have lp:=UaQ hp
 have lq:=UaQ hq
 by_cases hb:UaU (Uaf p)∧UaU (Uaf q)
 · obtain ⟨v,hv,rfl⟩:=UaV hb.1
   obtain ⟨w,hw,rfl⟩:=UaV hb.2
   have b1:=fun k0=>Ugu (R:=R) n (by omega) v w hv hw k0
   rw [←Uaq,←Uaq,Rat.num_intCast,Rat.num_intCast,Rat.den_intCast,Rat.den_intCast,show ((1:Nat):Int)=1 from rfl,Int.mul_one,Int.mul_one]
   simp only [p19,b1,Uat,p55]
   unfold Ujc
   by_cases h1:v<w
   · rw [Jkf h1,if_pos h1]
   · rw [c_neg h1,if_neg h1]
     by_cases h2:v>w
     · rw [Jkf h2,if_neg (by omega)]
     · rw [c_neg h2,if_pos (by omega)]
 · obtain ⟨a,b,b1⟩:=UeE (R:=R) n (by omega) (Uaf p) (Uaf q) (by omega) (by omega) hb
   have r1:=fun k0=>UbQ (R:=R) n (Ub9 hn) p hp k0
   have r2:=fun k0=>UbQ (R:=R) n (Ub9 hn) q hq k0
   have m1:=Uav hp.1
   have m2:=Uav hp.2
   have m3:=Uav hq.1
   have m4:=Uav hq.2
   have s1:=fun k0=>UaG (R:=R) n p.num.natAbs q.den (by omega) (by omega) (by omega) k0
   have s2:=fun k0=>UaG (R:=R) n q.num.natAbs p.den (by omega) (by omega) (by omega) k0
   have l1:=UdP m1 m4
   have l2:=UdP m3 m2
   have c1:=fun k0=>Uj0 (R:=R) n (p.num.natAbs * q.den) (q.num.natAbs * p.den) (by omega) (by omega) (by omega) k0
   have hpd:=p.den_nz
   have hqd:=q.den_nz
   have z1:p.num * (q.den:Int)=zs (sg p.num) (p.num.natAbs * q.den):=by rw [←UmG,show zs (sg p.num) p.num.natAbs=p.num from UbX _]
   have z2:q.num * (p.den:Int)=zs (sg q.num) (q.num.natAbs * p.den):=by rw [←UmG,show zs (sg q.num) q.num.natAbs=q.num from UbX _]
   have h1:sg p.num=true→1≤p.num.natAbs * q.den:=by
    intro h
    have:p.num<0:=by simpa [sg] using h
    exact Nat.mul_le_mul (by omega:1≤p.num.natAbs) (by omega:1≤q.den)
   have h2:sg q.num=true→1≤q.num.natAbs * p.den:=by
    intro h
    have:q.num<0:=by simpa [sg] using h
    exact Nat.mul_le_mul (by omega:1≤q.num.natAbs) (by omega:1≤p.den)
   rw [z1,z2]
   simp only [p19,b1,r1,r2,UtT,Uak,Ul6,Ucx,s1,s2,c1]
   generalize sg p.num=u at *
   generalize sg q.num=v at *
   generalize p.num.natAbs * q.den=x at *
   generalize q.num.natAbs * p.den=y at *
   have hc:=Up7 x y
   cases u <;> cases v
   · simp only [Uak,zs,Bool.false_eq_true,if_false,UmV]
   · have:=h2 rfl
     simp only [Uat,Uak,UrW,zs,Bool.false_eq_true,if_false,if_true]
     unfold Ujc
     rw [if_neg (by omega),if_neg (by omega)]
   · have:=h1 rfl
     simp only [Uat,Uak,UrW,zs,Bool.false_eq_true,if_false,if_true]
     unfold Ujc
     rw [if_pos (by omega)]
   · have e:IntKind.i64.wrap (0 - UdY x y)=0 - UdY x y:=w64 (by omega) (by omega)
     simp only [Uat,Uak,UtT,zs,if_true,UmU,e]
theorem UbA {q:Rat} (h:fits q) (k0:ByteArray→Int→Option R):Ugo q k0=k0 (bs (Uaf q)) 0:=by unfold Ugo; rw [if_pos h]
def UdU (p q:Rat):Int:=Ujc (p.num * q.den) (q.num * p.den)
theorem Us9 (p q:Rat):p=q↔p.num * (q.den:Int)=q.num * (p.den:Int):=by
 rw [←Rat.mkRat_eq_iff p.den_nz q.den_nz,Rat.mkRat_self,Rat.mkRat_self]
theorem UjZ {p q:Rat} (h:p<q):UdU p q=-1:=by
 unfold UdU Ujc; rw [if_pos ((Rat.lt_iff p q).1 h)]
theorem UfW (p:Rat):UdU p p=0:=by
 unfold UdU Ujc; rw [if_neg (by omega),if_pos rfl]
theorem UjY {p q:Rat} (h:q<p):UdU p q=1:=by
 have h1:=(Rat.lt_iff q p).1 h
 unfold UdU Ujc; rw [if_neg (by omega),if_neg (by omega)]
theorem tri (p q:Rat):p<q∨p=q∨q<p:=by
 rw [Rat.lt_iff,Rat.lt_iff,Us9]; omega
theorem Upc (n:Nat) (hn:10 ^ 1000≤n) (p q:Rat) (hp:fits p) (hq:fits q) (k0:Int→Option R):p19 n (bs (Uaf p)) (bs (Uaf q)) k0=k0 (UdU p q):=Ur1 n hn p q hp hq k0
end Go.Proofs.YtmgfmlhdnadglaaGreatDoor
set_option linter.unusedVariables false
set_option maxRecDepth 100000
namespace Go.Proofs.YtmgfmlhdnadglaaGreatDoor
open Go Th Go.Proofs
noncomputable section
variable {R:Type}
def UpE:Ann:={ loops:=[],cuts:=[],frz:=[],rm:=[.id] }
abbrev Us3 (n:Nat):Env:=eN
theorem UkX (n:Nat):EnvOK Tryz.prog GI (Us3 n):=.nil
def p80 (n:Nat) (x1:Int) (k0:Bool→O R):O R :=
 bif (decide (x1≥0)) then (k0 (bif true then (decide (x1<2048)) else false)) else (k0 false)
abbrev Uz1 (n:Nat):Orc R:=oN
abbrev Uzw (n:Nat):Orc R:=oN
abbrev K80 (R:Type) (n:Nat):=JcH (R:=R) Tryz.prog (Us3 n) UpE n (9,[]) (Uz1 n) (Uzw n)
theorem UBd (n:Nat):Je6 (K80 R n) (JaJ UpE (Jll Tryz.f80)):=pO pN (by kernel_rfl)
abbrev t80:Sl (List SV):=(cI .n)
abbrev f80 (n:Nat) (K:List SV→O R):t80.T (O R):=fun x1=>p80 n x1 (fun y1=>K [vB y1])
abbrev UvN (n:Nat):FS:=fT [false] t80 (f80 n)
theorem UyM (n:Nat):FSound Tryz.prog GI 80 (UvN n):=gd UpE n (UkX n) Tryz.func80 (.cons (UkX n) t80 (f80 n) (fun K _=>(Jkq (c:=Jll Tryz.f80) (by kernel_rfl) (UBd n) K).trans (by kernel_rfl)) .nil) (by kernel_rfl)
def UaW:Ann:={ loops:=[(4,ids [1,15,16,17],ids [1,2]),(10,ids [1,27,28,29],ids [1,2]),(17,ids [7,39,40,41],ids [2])],cuts:=[],frz:=[],rm:=[.id] }
abbrev Uqp (n:Nat):Env:=eC 80 (UvN n) (eC 53 (UqM n) eN)
theorem UkF (n:Nat):EnvOK Tryz.prog GI (Uqp n):=.cons (.cons (.nil) (UrY n)) (UyM n)
def Ufg (n:Nat) (l0:LP→ByteArray→LP→Int→Int→O R) (x1:LP) (x2:ByteArray) (x3:LP) (x4 x5:Int) (k0:LP→ByteArray→Int→O R) (k1:LP→ByteArray→O R):O R :=
 bif (decide (x5<x4)) then (bif (inR x5 ((x3).length)) then (Jh2 ((x3).getD ((x5:Int).toNat) (.v (.bool false))) fun a6=>JdT a6 fun h7 t8=>Jj .i64 h7 fun e9=>JdT t8 fun h10 t11=>Jj3 h10 fun e12=>Ji2 t11 (p53 n e12 (fun y13=>bif (!y13) then (k0 x1 x2 3) else (l0 x1 x2 x3 x4 (IntKind.i64.wrap (x5 + 1)))))) else none) else (k1 x1 x2)
def UcF (n:Nat):Nat→LP→ByteArray→LP→Int→Int→(LP→ByteArray→Int→O R)→(LP→ByteArray→O R)→O R
 | 0,_,_,_,_,_,_,_=>none
 | m + 1,x1,x2,x3,x4,x5,k0,k1=>Ufg n (fun x1 x2 x3 x4 x5=>UcF n m x1 x2 x3 x4 x5 k0 k1) x1 x2 x3 x4 x5 k0 k1
def Uo0 (n:Nat) (x1:LP) (x2:ByteArray) (x3:LP) (x4 x5:Int) (k0:LP→ByteArray→Int→O R) (k1:LP→ByteArray→O R):O R:=UcF n n x1 x2 x3 x4 x5 k0 k1
def Udq (n:Nat) (l0:LP→ByteArray→LP→Int→Int→O R) (x1:LP) (x2:ByteArray) (x3:LP) (x4 x5:Int) (k0:LP→ByteArray→Int→O R) (k1:LP→ByteArray→O R):O R :=
 bif (decide (x5<x4)) then (bif (inR x5 ((x3).length)) then (Jh2 ((x3).getD ((x5:Int).toNat) (.v (.bool false))) fun a6=>JdT a6 fun h7 t8=>Jj .i64 h7 fun e9=>JdT t8 fun h10 t11=>Jj3 h10 fun e12=>Ji2 t11 (p80 n e9 (fun y13=>bif (!y13) then (k0 x1 x2 2) else (l0 x1 x2 x3 x4 (IntKind.i64.wrap (x5 + 1)))))) else none) else (k1 x1 x2)
def Uby (n:Nat):Nat→LP→ByteArray→LP→Int→Int→(LP→ByteArray→Int→O R)→(LP→ByteArray→O R)→O R
 | 0,_,_,_,_,_,_,_=>none
 | m + 1,x1,x2,x3,x4,x5,k0,k1=>Udq n (fun x1 x2 x3 x4 x5=>Uby n m x1 x2 x3 x4 x5 k0 k1) x1 x2 x3 x4 x5 k0 k1
def UgZ (n:Nat) (x1:LP) (x2:ByteArray) (x3:LP) (x4 x5:Int) (k0:LP→ByteArray→Int→O R) (k1:LP→ByteArray→O R):O R:=Uby n n x1 x2 x3 x4 x5 k0 k1
def Udr (n:Nat) (l0:Int→LP→Int→Int→O R) (x1:Int) (x2:LP) (x3 x4:Int) (k0:Int→O R) (k1:O R):O R :=
 bif (decide (x4<x3)) then (bif (inR x4 ((x2).length)) then (Jh2 ((x2).getD ((x4:Int).toNat) (.v (.bool false))) fun a5=>JdT a5 fun h6 t7=>Jj .i64 h6 fun e8=>JdT t7 fun h9 t10=>Jj3 h9 fun e11=>Ji2 t10 (bif (eqS e11 (⟨#[48]⟩:ByteArray)) then (k0 3) else (bif (bif false then true else (decide (e8≤x1))) then (k0 3) else (l0 e8 x2 x3 (IntKind.i64.wrap (x4 + 1)))))) else none) else (k1)
def Ubz (n:Nat):Nat→Int→LP→Int→Int→(Int→O R)→(O R)→O R
 | 0,_,_,_,_,_,_=>none
 | m + 1,x1,x2,x3,x4,k0,k1=>Udr n (fun x1 x2 x3 x4=>Ubz n m x1 x2 x3 x4 k0 k1) x1 x2 x3 x4 k0 k1
def UdN (n:Nat) (x1:Int) (x2:LP) (x3 x4:Int) (k0:Int→O R) (k1:O R):O R:=Ubz n n x1 x2 x3 x4 k0 k1
def p52 (n:Nat) (x1:LP) (x2:ByteArray) (k0:Int→O R):O R :=
 p53 n x2 (fun y3=>bif (!y3) then (k0 3) else (Uo0 n x1 x2 x1 ((x1).length:Int) 0 (fun y4 y5 y6=>k0 y6) (fun y7 y8=>UgZ n y7 y8 y7 ((y7).length:Int) 0 (fun y9 y10 y11=>k0 y11) (fun y12 y13=>UdN n (-1) y12 ((y12).length:Int) 0 (fun y14=>k0 y14) (k0 0)))))
abbrev E52 (n:Nat):Code→Fr→Kc R→O R:=evC Tryz.prog (Uqp n) UaW n (57,[])
noncomputable def Un6:Code:=Jj4 (Jll Tryz.f52) [1,1,0,1,0,0]
abbrev Uej:Sl (List SV):=(.c (sBx 43 (cH (cS .n))) (cH (cI (cI .n))))
abbrev Ulq (n m:Nat) (K:Kc R):Uej.T (O R):=fun x1 x2 x3 x4 x5=>UcF n m x1 x2 x3 x4 x5 (fun y1 y2 y3=>xL UaW 4 K .ret [.bx 43 [vH y1,vS y2],vI y3]) (fun y1 y2=>xL UaW 4 K (.exit 0) [.bx 43 [vH y1,vS y2],dD])
abbrev Ush (n:Nat) (K:Kc R) (l0:Uej.T (O R)):Uej.T (O R):=fun x1 x2 x3 x4 x5=>Ufg n l0 x1 x2 x3 x4 x5 (fun y1 y2 y3=>xL UaW 4 K .ret [.bx 43 [vH y1,vS y2],vI y3]) (fun y1 y2=>xL UaW 4 K (.exit 0) [.bx 43 [vH y1,vS y2],dD])
noncomputable def UjP:Code:=Jj4 (Jll Tryz.f52) [1,1,1,0,1,0,0]
abbrev Uc0:Sl (List SV):=(.c (sBx 43 (cH (cS .n))) (cH (cI (cI .n))))
abbrev UgO (n m:Nat) (K:Kc R):Uc0.T (O R):=fun x1 x2 x3 x4 x5=>Uby n m x1 x2 x3 x4 x5 (fun y1 y2 y3=>xL UaW 10 K .ret [.bx 43 [vH y1,vS y2],vI y3]) (fun y1 y2=>xL UaW 10 K (.exit 2) [.bx 43 [vH y1,vS y2],dD])
abbrev Up0 (n:Nat) (K:Kc R) (l0:Uc0.T (O R)):Uc0.T (O R):=fun x1 x2 x3 x4 x5=>Udq n l0 x1 x2 x3 x4 x5 (fun y1 y2 y3=>xL UaW 10 K .ret [.bx 43 [vH y1,vS y2],vI y3]) (fun y1 y2=>xL UaW 10 K (.exit 2) [.bx 43 [vH y1,vS y2],dD])
noncomputable def UjQ:Code:=Jj4 (Jll Tryz.f52) [1,1,1,1,1,0,1,0,0]
abbrev Uc1:Sl (List SV):=(cI (cH (cI (cI .n))))
abbrev UgP (n m:Nat) (K:Kc R):Uc1.T (O R):=fun x1 x2 x3 x4=>Ubz n m x1 x2 x3 x4 (fun y1=>xL UaW 17 K .ret [vI y1]) (xL UaW 17 K (.exit 4) [dD])
abbrev Up1 (n:Nat) (K:Kc R) (l0:Uc1.T (O R)):Uc1.T (O R):=fun x1 x2 x3 x4=>Udr n l0 x1 x2 x3 x4 (fun y1=>xL UaW 17 K .ret [vI y1]) (xL UaW 17 K (.exit 4) [dD])
abbrev Uu9 (n:Nat):Orc R:=oL UaW (E52 n) n 17 UjQ Uc1 (UgP n n) (oL UaW (E52 n) n 10 UjP Uc0 (UgO n n) (oL UaW (E52 n) n 4 Un6 Uej (Ulq n n) oN))
abbrev Uu0 (n:Nat):Orc R:=oN
abbrev K52 (R:Type) (n:Nat):=JcH (R:=R) Tryz.prog (Uqp n) UaW n (57,[]) (Uu9 n) (Uu0 n)
theorem Uun (n:Nat):K52 R n (false,4,Un6):=JkF (lo:=Uu9 n) (cu:=Uu0 n) (pO pN (by kernel_rfl)) Uej (Ulq n n) (JiE (F:=Ulq n) Uej (Ush n) (fun K _ _ _ _ _=>rfl) (fun _ _=>rfl) (fun L K _ _ _ _ _=>by show _=_; kernel_rfl) n) fun _ _=>rfl
theorem Urq (n:Nat):K52 R n (false,10,UjP):=JkF (lo:=Uu9 n) (cu:=Uu0 n) (pO pN (by kernel_rfl)) Uc0 (UgO n n) (JiE (F:=UgO n) Uc0 (Up0 n) (fun K _ _ _ _ _=>rfl) (fun _ _=>rfl) (fun L K _ _ _ _ _=>by show _=_; kernel_rfl) n) fun _ _=>rfl
theorem Urr (n:Nat):K52 R n (false,17,UjQ):=JkF (lo:=Uu9 n) (cu:=Uu0 n) (pO pN (by kernel_rfl)) Uc1 (UgP n n) (JiE (F:=UgP n) Uc1 (Up1 n) (fun K _ _ _ _=>rfl) (fun _ _=>rfl) (fun L K _ _ _ _=>by show _=_; kernel_rfl) n) fun _ _=>rfl
theorem UAW (n:Nat):Je6 (K52 R n) (JaJ UaW (Jll Tryz.f52)):=pO (pC (Uun n) (pC (Urq n) (pC (Urr n) pN))) (by kernel_rfl)
abbrev t52:Sl (List SV):=(.c (sP (JlI (.c sSh (.c Jly .n)))) .n)
abbrev f52 (n:Nat) (K:List SV→O R):t52.T (O R):=fun x1 x2=>p52 n x1 x2 (fun y1=>K [vI y1])
abbrev UrS (n:Nat):FS:=fT [false] t52 (f52 n)
theorem UtW (n:Nat):FSound Tryz.prog GI 52 (UrS n):=gd UaW n (UkF n) Tryz.func52 (.cons (UkF n) t52 (f52 n) (fun K _ _=>(Jkq (c:=Jll Tryz.f52) (by kernel_rfl) (UAW n) K).trans (by kernel_rfl)) .nil) (by kernel_rfl)
def UeD:Ann:={ loops:=[(2,ids [0,1,7,8,9],ids [1,4])],cuts:=[],frz:=[],rm:=[.id] }
abbrev Uqw (n:Nat):Env:=eC 52 (UrS n) eN
theorem UkU (n:Nat):EnvOK Tryz.prog GI (Uqw n):=.cons (.nil) (UtW n)
def Ufn (n:Nat) (l0:Int→LP→LP→Int→Int→O R) (x1:Int) (x2 x3:LP) (x4 x5:Int) (k0:LP→Bool→O R) (k1:LP→O R):O R :=
 bif (decide (x5<x4)) then (bif (inR x5 ((x3).length)) then (Jh2 ((x3).getD ((x5:Int).toNat) (.v (.bool false))) fun a6=>JdT a6 fun h7 t8=>Jj .i64 h7 fun e9=>JdT t8 fun h10 t11=>Jj3 h10 fun e12=>Ji2 t11 (bif (decide (e9≥x1)) then (k0 x2 false) else (l0 x1 x2 x3 x4 (IntKind.i64.wrap (x5 + 1))))) else none) else (k1 x2)
def UcK (n:Nat):Nat→Int→LP→LP→Int→Int→(LP→Bool→O R)→(LP→O R)→O R
 | 0,_,_,_,_,_,_,_=>none
 | m + 1,x1,x2,x3,x4,x5,k0,k1=>Ufn n (fun x1 x2 x3 x4 x5=>UcK n m x1 x2 x3 x4 x5 k0 k1) x1 x2 x3 x4 x5 k0 k1
def Uo5 (n:Nat) (x1:Int) (x2 x3:LP) (x4 x5:Int) (k0:LP→Bool→O R) (k1:LP→O R):O R:=UcK n n x1 x2 x3 x4 x5 k0 k1
def p76 (n:Nat) (x1:Int) (x2:LP) (k0:Bool→O R):O R :=
 Uo5 n x1 x2 x2 ((x2).length:Int) 0 (fun y3 y4=>k0 y4) (fun y5=>p52 n y5 ⟨#[48]⟩ (fun y6=>k0 (y6 == 0)))
abbrev E76 (n:Nat):Code→Fr→Kc R→O R:=evC Tryz.prog (Uqw n) UeD n (22,[])
noncomputable def Uoc:Code:=Jj4 (Jll Tryz.f76) [1,0,1,0,0]
abbrev Ueq:Sl (List SV):=(cI (cH (cH (cI (cI .n)))))
abbrev UlA (n m:Nat) (K:Kc R):Ueq.T (O R):=fun x1 x2 x3 x4 x5=>UcK n m x1 x2 x3 x4 x5 (fun y1 y2=>xL UeD 2 K .ret [vH y1,vB y2]) (fun y1=>xL UeD 2 K (.exit 0) [vH y1,dD])
abbrev Uso (n:Nat) (K:Kc R) (l0:Ueq.T (O R)):Ueq.T (O R):=fun x1 x2 x3 x4 x5=>Ufn n l0 x1 x2 x3 x4 x5 (fun y1 y2=>xL UeD 2 K .ret [vH y1,vB y2]) (fun y1=>xL UeD 2 K (.exit 0) [vH y1,dD])
abbrev Uyx (n:Nat):Orc R:=oL UeD (E76 n) n 2 Uoc Ueq (UlA n n) oN
abbrev UxH (n:Nat):Orc R:=oN
abbrev K76 (R:Type) (n:Nat):=JcH (R:=R) Tryz.prog (Uqw n) UeD n (22,[]) (Uyx n) (UxH n)
theorem Uuv (n:Nat):K76 R n (false,2,Uoc):=JkF (lo:=Uyx n) (cu:=UxH n) (pO pN (by kernel_rfl)) Ueq (UlA n n) (JiE (F:=UlA n) Ueq (Uso n) (fun K _ _ _ _ _=>rfl) (fun _ _=>rfl) (fun L K _ _ _ _ _=>by show _=_; kernel_rfl) n) fun _ _=>rfl
theorem UBa (n:Nat):Je6 (K76 R n) (JaJ UeD (Jll Tryz.f76)):=pO (pC (Uuv n) pN) (by kernel_rfl)
abbrev t76:Sl (List SV):=(cI (cH .n))
abbrev f76 (n:Nat) (K:List SV→O R):t76.T (O R):=fun x1 x2=>p76 n x1 x2 (fun y1=>K [vB y1])
abbrev Uyf (n:Nat):FS:=fT [false,false] t76 (f76 n)
theorem UAr (n:Nat):FSound Tryz.prog GI 76 (Uyf n):=gd UeD n (UkU n) Tryz.func76 (.cons (UkU n) t76 (f76 n) (fun K _ _=>(Jkq (c:=Jll Tryz.f76) (by kernel_rfl) (UBa n) K).trans (by kernel_rfl)) .nil) (by kernel_rfl)
def UbZ:Ann:={ loops:=[(8,[(1,.id),(4,.id),(8,.cs [some 66,none]),(30,.id),(31,.id),(32,.id)],ids [4,5,8])],cuts:=[],frz:=[1000015,1000025,1000028,1000045],rm:=[.id,.id] }
abbrev Ukb (n:Nat):Env:=eC 21 (UvE n) eN
theorem Uh2 (n:Nat):EnvOK Tryz.prog GI (Ukb n):=.cons (.nil) (UyD n)
def Udj (n:Nat) (l0:ByteArray→ByteArray→LP→ByteArray→LP→Int→Int→O R) (x1 x2:ByteArray) (x3:LP) (x4:ByteArray) (x5:LP) (x6 x7:Int) (k0:ByteArray→Int→LP→ByteArray→O R) (k1:ByteArray→LP→ByteArray→O R):O R :=
 bif (decide (x7<x6)) then (bif (inR x7 ((x5).length)) then (Jh2 ((x5).getD ((x7:Int).toNat) (.v (.bool false))) fun a8=>JdT a8 fun h9 t10=>Jj .i64 h9 fun e11=>JdT t10 fun h12 t13=>Jj3 h12 fun e14=>Ji2 t13 (p21 n e14 x1 (fun y15 y16=>bif (y16 != 0) then (k0 ByteArray.empty y16 x3 x4) else (bif (Jbu ((x3).length + 1) 24) then (l0 x1 x2 (x3++([.agg [.v (.int .i64 e11),.v (.string y15)]]:LP)) x4 x5 x6 (IntKind.i64.wrap (x7 + 1))) else none)))) else none) else (k1 x2 x3 x4)
def Ubt (n:Nat):Nat→ByteArray→ByteArray→LP→ByteArray→LP→Int→Int→(ByteArray→Int→LP→ByteArray→O R)→(ByteArray→LP→ByteArray→O R)→O R
 | 0,_,_,_,_,_,_,_,_,_=>none
 | m + 1,x1,x2,x3,x4,x5,x6,x7,k0,k1=>Udj n (fun x1 x2 x3 x4 x5 x6 x7=>Ubt n m x1 x2 x3 x4 x5 x6 x7 k0 k1) x1 x2 x3 x4 x5 x6 x7 k0 k1
def Ul0 (n:Nat) (x1 x2:ByteArray) (x3:LP) (x4:ByteArray) (x5:LP) (x6 x7:Int) (k0:ByteArray→Int→LP→ByteArray→O R) (k1:ByteArray→LP→ByteArray→O R):O R:=Ubt n n x1 x2 x3 x4 x5 x6 x7 k0 k1
def Uvd (n:Nat) (x1:LP) (x2 x3:ByteArray) (k0:LP→ByteArray→Int→O R):O R :=
 bif (eqS x3 (⟨#[48]⟩:ByteArray)) then (k0 [] ⟨#[48]⟩ 0) else (p21 n x2 x3 (fun y4 y5=>bif (y5 != 0) then (k0 [] ByteArray.empty y5) else (Ul0 n x3 ByteArray.empty [] y4 x1 ((x1).length:Int) 0 (fun y6 y7 y8 y9=>k0 [] y6 y7) (fun y10 y11 y12=>k0 y11 y12 0))))
abbrev UyY (n:Nat):Code→Fr→Kc R→O R:=evC Tryz.prog (Ukb n) UbZ n (58,[])
noncomputable def UjA:Code:=Jj4 (Jll Tryz.f113) [1,1,1,1,1,0,1,0,0]
abbrev UcU:Sl (List SV):=(cS (.c (sBx 43 (.c sNl (cS .n))) (.c (sBx 43 (cO 66 (cS .n))) (cH (cI (cI .n))))))
abbrev UgI (n m:Nat) (K:Kc R):UcU.T (O R):=fun x1 x2 x3 x4 x5 x6 x7=>Ubt n m x1 x2 x3 x4 x5 x6 x7 (fun y1 y2 y3 y4=>xL UbZ 8 K .ret [.bx 43 [.nl,vS y1],vI y2,.bx 43 [.own 66 y3,vS y4]]) (fun y1 y2 y3=>xL UbZ 8 K (.exit 0) [.bx 43 [.nl,vS y1],dD,.bx 43 [.own 66 y2,vS y3]])
abbrev UpR (n:Nat) (K:Kc R) (l0:UcU.T (O R)):UcU.T (O R):=fun x1 x2 x3 x4 x5 x6 x7=>Udj n l0 x1 x2 x3 x4 x5 x6 x7 (fun y1 y2 y3 y4=>xL UbZ 8 K .ret [.bx 43 [.nl,vS y1],vI y2,.bx 43 [.own 66 y3,vS y4]]) (fun y1 y2 y3=>xL UbZ 8 K (.exit 0) [.bx 43 [.nl,vS y1],dD,.bx 43 [.own 66 y2,vS y3]])
abbrev UtK (n:Nat):Orc R:=oL UbZ (UyY n) n 8 UjA UcU (UgI n n) oN
abbrev UsA (n:Nat):Orc R:=oN
abbrev Uxs (R:Type) (n:Nat):=JcH (R:=R) Tryz.prog (Ukb n) UbZ n (58,[]) (UtK n) (UsA n)
theorem Uq9 (n:Nat):Uxs R n (false,8,UjA):=JkF (lo:=UtK n) (cu:=UsA n) (pO pN (by kernel_rfl)) UcU (UgI n n) (JiE (F:=UgI n) UcU (UpR n) (fun K _ _ _ _ _ _ _=>rfl) (fun _ _=>rfl) (fun L K _ _ _ _ _ _ _=>by show _=_; kernel_rfl) n) fun _ _=>rfl
theorem UwI (n:Nat):Je6 (Uxs R n) (JaJ UbZ (Jll Tryz.f113)):=pO (pC (Uq9 n) pN) (by kernel_rfl)
abbrev Uw5:Sl (List SV):=(.c (sP (JlI (.c sSh (.c Jly .n)))) (cS .n))
abbrev f113 (n:Nat) (K:List SV→O R):Uw5.T (O R):=fun x1 x2 x3=>Uvd n x1 x2 x3 (fun y1 y2 y3=>K [.p (.agg [.sh y1,.v (.string y2)]),vI y3])
abbrev Utl (n:Nat):FS:=fT [false,false] Uw5 (f113 n)
theorem Uv8 (n:Nat):FSound Tryz.prog GI 113 (Utl n):=gd UbZ n (Uh2 n) Tryz.func113 (.cons (Uh2 n) Uw5 (f113 n) (fun K _ _ _=>(Jkq (c:=Jll Tryz.f113) (by kernel_rfl) (UwI n) K).trans (by kernel_rfl)) .nil) (by kernel_rfl)
def UpB:Ann:={ loops:=[],cuts:=[],frz:=[],rm:=[.id,.id] }
abbrev Us0 (n:Nat):Env:=eC 113 (Utl n) (eC 53 (UqM n) (eC 52 (UrS n) eN))
theorem UkS (n:Nat):EnvOK Tryz.prog GI (Us0 n):=.cons (.cons (.cons (.nil) (UtW n)) (UrY n)) (Uv8 n)
def p74 (n:Nat) (x1:LP) (x2 x3:ByteArray) (k0:LP→ByteArray→Int→O R):O R :=
 p52 n x1 x2 (fun y4=>bif (y4 != 0) then (k0 [] ByteArray.empty 3) else (p53 n x3 (fun y5=>bif (bif false then true else (!y5)) then (k0 [] ByteArray.empty 3) else (Uvd n x1 x2 x3 (fun y6 y7 y8=>k0 y6 y7 y8)))))
abbrev UzY (n:Nat):Orc R:=oN
abbrev Uzt (n:Nat):Orc R:=oN
abbrev K74 (R:Type) (n:Nat):=JcH (R:=R) Tryz.prog (Us0 n) UpB n (20,[]) (UzY n) (Uzt n)
theorem UA9 (n:Nat):Je6 (K74 R n) (JaJ UpB (Jll Tryz.f74)):=pO pN (by kernel_rfl)
abbrev t74:Sl (List SV):=(.c (sP (JlI (.c sSh (.c Jly .n)))) (cS .n))
abbrev f74 (n:Nat) (K:List SV→O R):t74.T (O R):=fun x1 x2 x3=>p74 n x1 x2 x3 (fun y1 y2 y3=>K [.p (.agg [.sh y1,.v (.string y2)]),vI y3])
abbrev Uyd (n:Nat):FS:=fT [false,false] t74 (f74 n)
theorem UAp (n:Nat):FSound Tryz.prog GI 74 (Uyd n):=gd UpB n (UkS n) Tryz.func74 (.cons (UkS n) t74 (f74 n) (fun K _ _ _=>(Jkq (c:=Jll Tryz.f74) (by kernel_rfl) (UA9 n) K).trans (by kernel_rfl)) .nil) (by kernel_rfl)
def Uas:Ann:={ loops:=[(6,[(2,.id),(3,.id),(4,.id),(8,.cs [some 66,none]),(9,.id),(10,.id)],ids [4,5,8])],cuts:=[(12,ids [2,3,4,8,9,10],ids [2,3,4,5,8,9,10]),(14,ids [2,3,4,8,9,10],ids [2,3,4,5,8,9,10]),(15,ids [2,3,4,8,9,10,78],ids [2,3,4,5,8,9,10]),(18,ids [2,3,4,8,9,10,118],ids [2,3,4,5,8,9,10])],frz:=[1000023,1000026,1000057],rm:=[.id,.id] }
abbrev Ukc (n:Nat):Env:=eC 22 (UvF n) eN
theorem Uh3 (n:Nat):EnvOK Tryz.prog GI (Ukc n):=.cons (.nil) (UyE n)
def Ubu (n:Nat) (x1:LP) (x2:ByteArray) (x3:LP) (x4 x5:ByteArray) (x6:LP) (x7:ByteArray) (x8 x9:Int) (k0:LP→ByteArray→LP→ByteArray→ByteArray→LP→ByteArray→Int→Int→O R):O R :=
 k0 x1 x2 x3 x4 x5 x6 x7 (IntKind.i64.wrap (x8 + 1)) (IntKind.i64.wrap (x9 + 1))
def UaP (n:Nat) (x1:LP) (x2:ByteArray) (x3:LP) (x4 x5:ByteArray) (x6:LP) (x7:ByteArray) (x8 x9:Int) (x10:Bool) (k0:LP→ByteArray→LP→ByteArray→ByteArray→LP→ByteArray→Int→Int→O R) (k1:LP→ByteArray→LP→ByteArray→ByteArray→Int→LP→ByteArray→Int→Int→O R):O R :=
 bif x10 then (bif (inR x9 ((x3).length)) then (Jh2 ((x3).getD ((x9:Int).toNat) (.v (.bool false))) fun a11=>JdT a11 fun h12 t13=>Jj .i64 h12 fun e14=>JdT t13 fun h15 t16=>Jj3 h15 fun e17=>Ji2 t16 (bif (Jbu ((x6).length + 1) 24) then (k0 x1 x2 x3 x4 x5 (x6++([.agg [.v (.int .i64 e14),.v (.string e17)]]:LP)) x7 x8 (IntKind.i64.wrap (x9 + 1))) else none)) else none) else (bif (inR x8 ((x1).length)) then (Jh2 ((x1).getD ((x8:Int).toNat) (.v (.bool false))) fun a18=>JdT a18 fun h19 t20=>Jj .i64 h19 fun e21=>JdT t20 fun h22 t23=>Jj3 h22 fun e24=>Ji2 t23 (bif (inR x9 ((x3).length)) then (Jh2 ((x3).getD ((x9:Int).toNat) (.v (.bool false))) fun a25=>JdT a25 fun h26 t27=>Jj .i64 h26 fun e28=>JdT t27 fun h29 t30=>Jj3 h29 fun e31=>Ji2 t30 (p22 n e24 e31 (fun y32 y33=>bif (y33 != 0) then (k1 x1 x2 x3 x4 ByteArray.empty y33 x6 x7 x8 x9) else (bif (!eqS y32 (⟨#[48]⟩:ByteArray)) then (bif (inR x8 ((x1).length)) then (Jh2 ((x1).getD ((x8:Int).toNat) (.v (.bool false))) fun a34=>JdT a34 fun h35 t36=>Jj .i64 h35 fun e37=>JdT t36 fun h38 t39=>Jj3 h38 fun e40=>Ji2 t39 (bif (Jbu ((x6).length + 1) 24) then (Ubu n x1 x2 x3 x4 x5 (x6++([.agg [.v (.int .i64 e37),.v (.string y32)]]:LP)) x7 x8 x9 (fun y41 y42 y43 y44 y45 y46 y47 y48 y49=>k0 y41 y42 y43 y44 y45 y46 y47 y48 y49)) else none)) else none) else (Ubu n x1 x2 x3 x4 x5 x6 x7 x8 x9 (fun y50 y51 y52 y53 y54 y55 y56 y57 y58=>k0 y50 y51 y52 y53 y54 y55 y56 y57 y58)))))) else none)) else none)
def Uaw (n:Nat) (x1:LP) (x2:ByteArray) (x3:LP) (x4 x5:ByteArray) (x6:LP) (x7:ByteArray) (x8 x9:Int) (x10:Bool) (k0:LP→ByteArray→LP→ByteArray→ByteArray→LP→ByteArray→Int→Int→O R) (k1:LP→ByteArray→LP→ByteArray→ByteArray→Int→LP→ByteArray→Int→Int→O R):O R :=
 bif x10 then (bif (inR x8 ((x1).length)) then (Jh2 ((x1).getD ((x8:Int).toNat) (.v (.bool false))) fun a11=>JdT a11 fun h12 t13=>Jj .i64 h12 fun e14=>JdT t13 fun h15 t16=>Jj3 h15 fun e17=>Ji2 t16 (bif (Jbu ((x6).length + 1) 24) then (k0 x1 x2 x3 x4 x5 (x6++([.agg [.v (.int .i64 e14),.v (.string e17)]]:LP)) x7 (IntKind.i64.wrap (x8 + 1)) x9) else none)) else none) else (bif (x8 == ((x1).length:Int)) then (UaP n x1 x2 x3 x4 x5 x6 x7 x8 x9 true (fun y18 y19 y20 y21 y22 y23 y24 y25 y26=>k0 y18 y19 y20 y21 y22 y23 y24 y25 y26) (fun y27 y28 y29 y30 y31 y32 y33 y34 y35 y36=>k1 y27 y28 y29 y30 y31 y32 y33 y34 y35 y36)) else (bif (inR x9 ((x3).length)) then (Jh2 ((x3).getD ((x9:Int).toNat) (.v (.bool false))) fun a37=>JdT a37 fun h38 t39=>Jj .i64 h38 fun e40=>JdT t39 fun h41 t42=>Jj3 h41 fun e43=>Ji2 t42 (bif (inR x8 ((x1).length)) then (Jh2 ((x1).getD ((x8:Int).toNat) (.v (.bool false))) fun a44=>JdT a44 fun h45 t46=>Jj .i64 h45 fun e47=>JdT t46 fun h48 t49=>Jj3 h48 fun e50=>Ji2 t49 (UaP n x1 x2 x3 x4 x5 x6 x7 x8 x9 (bif false then true else (decide (e40<e47))) (fun y51 y52 y53 y54 y55 y56 y57 y58 y59=>k0 y51 y52 y53 y54 y55 y56 y57 y58 y59) (fun y60 y61 y62 y63 y64 y65 y66 y67 y68 y69=>k1 y60 y61 y62 y63 y64 y65 y66 y67 y68 y69))) else none)) else none))
def UaB (n:Nat) (x1:LP) (x2:ByteArray) (x3:LP) (x4 x5:ByteArray) (x6:LP) (x7:ByteArray) (x8 x9:Int) (k0:LP→ByteArray→LP→ByteArray→ByteArray→LP→ByteArray→Int→Int→O R) (k1:LP→ByteArray→LP→ByteArray→ByteArray→Int→LP→ByteArray→Int→Int→O R):O R :=
 bif (x9 == ((x3).length:Int)) then (Uaw n x1 x2 x3 x4 x5 x6 x7 x8 x9 true (fun y10 y11 y12 y13 y14 y15 y16 y17 y18=>k0 y10 y11 y12 y13 y14 y15 y16 y17 y18) (fun y19 y20 y21 y22 y23 y24 y25 y26 y27 y28=>k1 y19 y20 y21 y22 y23 y24 y25 y26 y27 y28)) else (bif (decide (x8<((x1).length:Int))) then (bif (inR x8 ((x1).length)) then (Jh2 ((x1).getD ((x8:Int).toNat) (.v (.bool false))) fun a29=>JdT a29 fun h30 t31=>Jj .i64 h30 fun e32=>JdT t31 fun h33 t34=>Jj3 h33 fun e35=>Ji2 t34 (bif (inR x9 ((x3).length)) then (Jh2 ((x3).getD ((x9:Int).toNat) (.v (.bool false))) fun a36=>JdT a36 fun h37 t38=>Jj .i64 h37 fun e39=>JdT t38 fun h40 t41=>Jj3 h40 fun e42=>Ji2 t41 (Uaw n x1 x2 x3 x4 x5 x6 x7 x8 x9 (bif false then true else (bif true then (decide (e32<e39)) else false)) (fun y43 y44 y45 y46 y47 y48 y49 y50 y51=>k0 y43 y44 y45 y46 y47 y48 y49 y50 y51) (fun y52 y53 y54 y55 y56 y57 y58 y59 y60 y61=>k1 y52 y53 y54 y55 y56 y57 y58 y59 y60 y61))) else none)) else none) else (Uaw n x1 x2 x3 x4 x5 x6 x7 x8 x9 false (fun y62 y63 y64 y65 y66 y67 y68 y69 y70=>k0 y62 y63 y64 y65 y66 y67 y68 y69 y70) (fun y71 y72 y73 y74 y75 y76 y77 y78 y79 y80=>k1 y71 y72 y73 y74 y75 y76 y77 y78 y79 y80)))
def UeY (n:Nat) (l0:LP→ByteArray→LP→ByteArray→ByteArray→LP→ByteArray→Int→Int→O R) (x1:LP) (x2:ByteArray) (x3:LP) (x4 x5:ByteArray) (x6:LP) (x7:ByteArray) (x8 x9:Int) (k0:ByteArray→Int→LP→ByteArray→O R) (k1:ByteArray→LP→ByteArray→O R):O R :=
 bif (decide (x8<((x1).length:Int))) then (UaB n x1 x2 x3 x4 x5 x6 x7 x8 x9 (fun y10 y11 y12 y13 y14 y15 y16 y17 y18=>l0 y10 y11 y12 y13 y14 y15 y16 y17 y18) (fun y19 y20 y21 y22 y23 y24 y25 y26 y27 y28=>k0 y23 y24 y25 y26)) else (bif (bif false then true else (decide (x9<((x3).length:Int)))) then (UaB n x1 x2 x3 x4 x5 x6 x7 x8 x9 (fun y29 y30 y31 y32 y33 y34 y35 y36 y37=>l0 y29 y30 y31 y32 y33 y34 y35 y36 y37) (fun y38 y39 y40 y41 y42 y43 y44 y45 y46 y47=>k0 y42 y43 y44 y45)) else (k1 x5 x6 x7))
def Ucd (n:Nat):Nat→LP→ByteArray→LP→ByteArray→ByteArray→LP→ByteArray→Int→Int→(ByteArray→Int→LP→ByteArray→O R)→(ByteArray→LP→ByteArray→O R)→O R
 | 0,_,_,_,_,_,_,_,_,_,_,_=>none
 | m + 1,x1,x2,x3,x4,x5,x6,x7,x8,x9,k0,k1=>UeY n (fun x1 x2 x3 x4 x5 x6 x7 x8 x9=>Ucd n m x1 x2 x3 x4 x5 x6 x7 x8 x9 k0 k1) x1 x2 x3 x4 x5 x6 x7 x8 x9 k0 k1
def Ul1 (n:Nat) (x1:LP) (x2:ByteArray) (x3:LP) (x4 x5:ByteArray) (x6:LP) (x7:ByteArray) (x8 x9:Int) (k0:ByteArray→Int→LP→ByteArray→O R) (k1:ByteArray→LP→ByteArray→O R):O R:=Ucd n n x1 x2 x3 x4 x5 x6 x7 x8 x9 k0 k1
def Uve (n:Nat) (x1:LP) (x2:ByteArray) (x3:LP) (x4:ByteArray) (k0:LP→ByteArray→Int→O R):O R :=
 p22 n x2 x4 (fun y5 y6=>bif (y6 != 0) then (k0 [] ByteArray.empty y6) else (Ul1 n x1 x2 x3 x4 ByteArray.empty [] y5 0 0 (fun y7 y8 y9 y10=>k0 [] y7 y8) (fun y11 y12 y13=>k0 y12 y13 0)))
abbrev Ur4 (n:Nat):Code→Fr→Kc R→O R:=evC Tryz.prog (Ukc n) Uas n (152,[])
noncomputable def Uhw:Code:=Jj4 (Jll Tryz.f114) [1,1,1,1,1,0,0,0,1,0,0,1,1,1,1,1,1,1]
abbrev UfB:Sl (List SV):=(.c (sBx 43 (cH (cS .n))) (.c (sBx 43 (cH (cS .n))) (.c (sBx 43 (.c sNl (cS .n))) (.c (sBx 43 (cO 66 (cS .n))) (cI (cI .n))))))
abbrev Uif (n:Nat) (K:Kc R):UfB.T (O R):=fun x1 x2 x3 x4 x5 x6 x7 x8 x9=>Ubu n x1 x2 x3 x4 x5 x6 x7 x8 x9 (fun y1 y2 y3 y4 y5 y6 y7 y8 y9=>xC Uas 12 K .normal [.bx 43 [vH y1,vS y2],.bx 43 [vH y3,vS y4],.bx 43 [.nl,vS y5],dD,.bx 43 [.own 66 y6,vS y7],vI y8,vI y9])
noncomputable def Uhx:Code:=Jj4 (Jll Tryz.f114) [1,1,1,1,1,0,0,0,1]
abbrev UfC:Sl (List SV):=(.c (sBx 43 (cH (cS .n))) (.c (sBx 43 (cH (cS .n))) (.c (sBx 43 (.c sNl (cS .n))) (.c (sBx 43 (cO 66 (cS .n))) (cI (cI .n))))))
abbrev Uig (n:Nat) (K:Kc R):UfC.T (O R):=fun x1 x2 x3 x4 x5 x6 x7 x8 x9=>UaB n x1 x2 x3 x4 x5 x6 x7 x8 x9 (fun y1 y2 y3 y4 y5 y6 y7 y8 y9=>xC Uas 14 K .normal [.bx 43 [vH y1,vS y2],.bx 43 [vH y3,vS y4],.bx 43 [.nl,vS y5],dD,.bx 43 [.own 66 y6,vS y7],vI y8,vI y9]) (fun y1 y2 y3 y4 y5 y6 y7 y8 y9 y10=>xC Uas 14 K .ret [.bx 43 [vH y1,vS y2],.bx 43 [vH y3,vS y4],.bx 43 [.nl,vS y5],vI y6,.bx 43 [.own 66 y7,vS y8],vI y9,vI y10])
noncomputable def Uhy:Code:=Jj4 (Jll Tryz.f114) [1,1,1,1,1,0,0,0,1,0,0,1]
abbrev UfD:Sl (List SV):=(.c (sBx 43 (cH (cS .n))) (.c (sBx 43 (cH (cS .n))) (.c (sBx 43 (.c sNl (cS .n))) (.c (sBx 43 (cO 66 (cS .n))) (cI (cI (cB .n)))))))
abbrev Uih (n:Nat) (K:Kc R):UfD.T (O R):=fun x1 x2 x3 x4 x5 x6 x7 x8 x9 x10=>Uaw n x1 x2 x3 x4 x5 x6 x7 x8 x9 x10 (fun y1 y2 y3 y4 y5 y6 y7 y8 y9=>xC Uas 15 K .normal [.bx 43 [vH y1,vS y2],.bx 43 [vH y3,vS y4],.bx 43 [.nl,vS y5],dD,.bx 43 [.own 66 y6,vS y7],vI y8,vI y9]) (fun y1 y2 y3 y4 y5 y6 y7 y8 y9 y10=>xC Uas 15 K .ret [.bx 43 [vH y1,vS y2],.bx 43 [vH y3,vS y4],.bx 43 [.nl,vS y5],vI y6,.bx 43 [.own 66 y7,vS y8],vI y9,vI y10])
noncomputable def Uhz:Code:=Jj4 (Jll Tryz.f114) [1,1,1,1,1,0,0,0,1,0,0,1,1,1]
abbrev UfE:Sl (List SV):=(.c (sBx 43 (cH (cS .n))) (.c (sBx 43 (cH (cS .n))) (.c (sBx 43 (.c sNl (cS .n))) (.c (sBx 43 (cO 66 (cS .n))) (cI (cI (cB .n)))))))
abbrev Uii (n:Nat) (K:Kc R):UfE.T (O R):=fun x1 x2 x3 x4 x5 x6 x7 x8 x9 x10=>UaP n x1 x2 x3 x4 x5 x6 x7 x8 x9 x10 (fun y1 y2 y3 y4 y5 y6 y7 y8 y9=>xC Uas 18 K .normal [.bx 43 [vH y1,vS y2],.bx 43 [vH y3,vS y4],.bx 43 [.nl,vS y5],dD,.bx 43 [.own 66 y6,vS y7],vI y8,vI y9]) (fun y1 y2 y3 y4 y5 y6 y7 y8 y9 y10=>xC Uas 18 K .ret [.bx 43 [vH y1,vS y2],.bx 43 [vH y3,vS y4],.bx 43 [.nl,vS y5],vI y6,.bx 43 [.own 66 y7,vS y8],vI y9,vI y10])
noncomputable def UjB:Code:=Jj4 (Jll Tryz.f114) [1,1,1,1,1,0,0,0]
abbrev UcV:Sl (List SV):=(.c (sBx 43 (cH (cS .n))) (.c (sBx 43 (cH (cS .n))) (.c (sBx 43 (.c sNl (cS .n))) (.c (sBx 43 (cO 66 (cS .n))) (cI (cI .n))))))
abbrev UgJ (n m:Nat) (K:Kc R):UcV.T (O R):=fun x1 x2 x3 x4 x5 x6 x7 x8 x9=>Ucd n m x1 x2 x3 x4 x5 x6 x7 x8 x9 (fun y1 y2 y3 y4=>xL Uas 6 K .ret [.bx 43 [.nl,vS y1],vI y2,.bx 43 [.own 66 y3,vS y4]]) (fun y1 y2 y3=>xL Uas 6 K (.exit 0) [.bx 43 [.nl,vS y1],dD,.bx 43 [.own 66 y2,vS y3]])
abbrev UpS (n:Nat) (K:Kc R) (l0:UcV.T (O R)):UcV.T (O R):=fun x1 x2 x3 x4 x5 x6 x7 x8 x9=>UeY n l0 x1 x2 x3 x4 x5 x6 x7 x8 x9 (fun y1 y2 y3 y4=>xL Uas 6 K .ret [.bx 43 [.nl,vS y1],vI y2,.bx 43 [.own 66 y3,vS y4]]) (fun y1 y2 y3=>xL Uas 6 K (.exit 0) [.bx 43 [.nl,vS y1],dD,.bx 43 [.own 66 y2,vS y3]])
abbrev Ui4 (n:Nat):Orc R:=oL Uas (Ur4 n) n 6 UjB UcV (UgJ n n) oN
abbrev Ui1 (n:Nat):Orc R:=oC Uas (Ur4 n) 18 Uhz UfE (Uii n) (oC Uas (Ur4 n) 15 Uhy UfD (Uih n) (oC Uas (Ur4 n) 14 Uhx UfC (Uig n) (oC Uas (Ur4 n) 12 Uhw UfB (Uif n) oN)))
abbrev UrM (R:Type) (n:Nat):=JcH (R:=R) Tryz.prog (Ukc n) Uas n (152,[]) (Ui4 n) (Ui1 n)
theorem Unq (n:Nat):UrM R n (true,12,Uhw):=JkW (lo:=Ui4 n) (cu:=Ui1 n) (pO pN (by kernel_rfl)) UfB (Uif n) (fun K _ _ _ _ _ _ _ _ _=>by show _=_; kernel_rfl) fun _ _=>rfl
theorem Unt (n:Nat):UrM R n (true,18,Uhz):=JkW (lo:=Ui4 n) (cu:=Ui1 n) (pO (pC (Unq n) pN) (by kernel_rfl)) UfE (Uii n) (fun K _ _ _ _ _ _ _ _ _ _=>by show _=_; kernel_rfl) fun _ _=>rfl
theorem Uns (n:Nat):UrM R n (true,15,Uhy):=JkW (lo:=Ui4 n) (cu:=Ui1 n) (pO (pC (Unt n) pN) (by kernel_rfl)) UfD (Uih n) (fun K _ _ _ _ _ _ _ _ _ _=>by show _=_; kernel_rfl) fun _ _=>rfl
theorem Unr (n:Nat):UrM R n (true,14,Uhx):=JkW (lo:=Ui4 n) (cu:=Ui1 n) (pO (pC (Uns n) pN) (by kernel_rfl)) UfC (Uig n) (fun K _ _ _ _ _ _ _ _ _=>by show _=_; kernel_rfl) fun _ _=>rfl
theorem Ur (n:Nat):UrM R n (false,6,UjB):=JkF (lo:=Ui4 n) (cu:=Ui1 n) (pO (pC (Unr n) pN) (by kernel_rfl)) UcV (UgJ n n) (JiE (F:=UgJ n) UcV (UpS n) (fun K _ _ _ _ _ _ _ _ _=>rfl) (fun _ _=>rfl) (fun L K _ _ _ _ _ _ _ _ _=>by show _=_; kernel_rfl) n) fun _ _=>rfl
theorem UwJ (n:Nat):Je6 (UrM R n) (JaJ Uas (Jll Tryz.f114)):=pO (pC (Ur n) pN) (by kernel_rfl)
abbrev Uw6:Sl (List SV):=(.c (sP (JlI (.c sSh (.c Jly .n)))) (.c (sP (JlI (.c sSh (.c Jly .n)))) .n))
abbrev f114 (n:Nat) (K:List SV→O R):Uw6.T (O R):=fun x1 x2 x3 x4=>Uve n x1 x2 x3 x4 (fun y1 y2 y3=>K [.p (.agg [.sh y1,.v (.string y2)]),vI y3])
abbrev Utm (n:Nat):FS:=fT [false,false] Uw6 (f114 n)
theorem Uv9 (n:Nat):FSound Tryz.prog GI 114 (Utm n):=gd Uas n (Uh3 n) Tryz.func114 (.cons (Uh3 n) Uw6 (f114 n) (fun K _ _ _ _=>(Jkq (c:=Jll Tryz.f114) (by kernel_rfl) (UwJ n) K).trans (by kernel_rfl)) .nil) (by kernel_rfl)
def UpC:Ann:={ loops:=[],cuts:=[],frz:=[],rm:=[.id,.id] }
abbrev Us1 (n:Nat):Env:=eC 114 (Utm n) (eC 52 (UrS n) eN)
theorem UkT (n:Nat):EnvOK Tryz.prog GI (Us1 n):=.cons (.cons (.nil) (UtW n)) (Uv9 n)
def p75 (n:Nat) (x1:LP) (x2:ByteArray) (x3:LP) (x4:ByteArray) (k0:LP→ByteArray→Int→O R):O R :=
 p52 n x1 x2 (fun y5=>bif (y5 != 0) then (k0 [] ByteArray.empty 3) else (p52 n x3 x4 (fun y6=>bif (bif false then true else (y6 != 0)) then (k0 [] ByteArray.empty 3) else (Uve n x1 x2 x3 x4 (fun y7 y8 y9=>k0 y7 y8 y9)))))
abbrev UzZ (n:Nat):Orc R:=oN
abbrev Uzu (n:Nat):Orc R:=oN
abbrev K75 (R:Type) (n:Nat):=JcH (R:=R) Tryz.prog (Us1 n) UpC n (20,[]) (UzZ n) (Uzu n)
theorem UB (n:Nat):Je6 (K75 R n) (JaJ UpC (Jll Tryz.f75)):=pO pN (by kernel_rfl)
abbrev t75:Sl (List SV):=(.c (sP (JlI (.c sSh (.c Jly .n)))) (.c (sP (JlI (.c sSh (.c Jly .n)))) .n))
abbrev f75 (n:Nat) (K:List SV→O R):t75.T (O R):=fun x1 x2 x3 x4=>p75 n x1 x2 x3 x4 (fun y1 y2 y3=>K [.p (.agg [.sh y1,.v (.string y2)]),vI y3])
abbrev Uye (n:Nat):FS:=fT [false,false] t75 (f75 n)
theorem UAq (n:Nat):FSound Tryz.prog GI 75 (Uye n):=gd UpC n (UkT n) Tryz.func75 (.cons (UkT n) t75 (f75 n) (fun K _ _ _ _=>(Jkq (c:=Jll Tryz.f75) (by kernel_rfl) (UB n) K).trans (by kernel_rfl)) .nil) (by kernel_rfl)
end
end Go.Proofs.YtmgfmlhdnadglaaGreatDoor
set_option linter.unusedVariables false
set_option linter.unusedSimpArgs false
namespace Go.Proofs.YtmgfmlhdnadglaaGreatDoor
open Go Th Go.Proofs
variable {R:Type}
noncomputable def aQ (l:List TermT):Bool:=l.all fun t=>qb t.2
def inC (c:Int):Bool:=decide (0≤c)&&decide (c<2048)
def aC (l:List TermT):Bool:=l.all fun t=>inC t.1
def aO:Int→List TermT→Bool
 | _,[]=>true
 | last,t::r=>if t.2=[48] then false else if t.1≤last then false else aO t.1 r
noncomputable def Ujd (l:List TermT) (c:List UInt8):Int:=if qb c=true then (if aQ l=true then (if aC l=true then (if aO (-1) l=true then 0 else 3) else 2) else 3) else 3
theorem Uf7:∀ {l:List TermT} {last:Int},-1≤last→(okT 2048 last l=true↔(aQ l=true∧aC l=true∧aO last l=true))
 | [],last,_=>by simp [okT,aQ,aC,aO]
 | t::l,last,h=>by
  have ih:=fun (h':-1≤t.1)=>Uf7 (l:=l) (last:=t.1) h'
  simp only [okT,aQ,aC,aO,List.all_cons,Bool.and_eq_true] at ih ⊢
  by_cases h1:t.1≤last
  · simp [h1]
  · have h1':=ih (by omega)
    have e0:inC t.1=decide (t.1<2048):=by
     unfold inC
     rw [decide_eq_true (by omega:0≤t.1),Bool.true_and]
    by_cases h2:t.1≥2048
    · have e1:inC t.1=false:=by rw [e0]; simp; omega
      simp [h1,h2,e1]
    · have e1:inC t.1=true:=by rw [e0]; simp; omega
      by_cases h3:t.2=[48]
      · simp [h1,h2,h3]
      · rw [if_neg h1,if_neg h2,if_neg h3,if_neg h3,if_neg h1,Bool.and_eq_true,h1',e1]
        grind
theorem UiC {l:List TermT} {c:List UInt8}:Ujd l c=0↔(okT 2048 (-1) l=true∧qb c=true):=by
 rw [Uf7 (by omega)]
 unfold Ujd
 cases qb c <;> cases aQ l <;> cases aC l <;> cases aO (-1) l <;> simp
theorem Ut7 (n:Nat) (x:Int) (k0:Bool→Option R):p80 n x k0=k0 (inC x):=by
 unfold p80 inC
 by_cases h:x≥0
 · have e:decide (x≥0)=true:=decide_eq_true h
   rw [e]; rfl
 · have e:decide (x≥0)=false:=decide_eq_false h
   rw [e]; rfl
theorem Up6 (n:Nat) (l:List TermT) (hn:l.length<n) (hl:l.length<2 ^ 17) (k0:Int→Option R) (k1:Option R):UdN n (-1) (tms l) ((tms l).length:Int) 0 k0 k1=if aO (-1) l=true then k1 else k0 3:=by
 unfold UdN
 have key:∀ (r:List TermT) (last:Int),Ur0 (fun (s:Int) (t:TermT) K=>if t.2=[48] then k0 3 else if t.1≤s then k0 3 else K t.1) (fun _=>k1) last r=if aO last r=true then k1 else k0 3:=by
  intro r
  induction r with
  | nil=>intro last; rfl
  | cons t r ih =>
   intro last
   simp only [Ur0,aO]
   by_cases h1:t.2=[48]
   · simp [h1]
   · by_cases h2:t.1≤last
     · simp [h1,h2]
     · simp [h1,h2,ih]
 have h:=Ug6 (R:=R) (l:=l) (step:=fun (s:Int) (t:TermT) K=>if t.2=[48] then k0 3 else if t.1≤s then k0 3 else K t.1) (kend:=fun _=>k1)
  (fun m s i=>Ubz n m s (tms l) ((tms l).length:Int) (i:Int) k0 k1)
  (fun m s=>by simp only [Ubz,Udr]; simp (disch:=(first | omega | (simp only [JlE]; omega))) only [↓JlH,JlF,Ua])
  (fun m s i hi=>by
    simp only [Ubz,Udr]
    by_cases h1:(l[i]).2=[48]
    · simp (disch:=(first | omega | (simp only [JlE]; omega))) only [↓JlH,JlF,Ua,Jji,UaE hi,i1,UmT h1]
    · by_cases h2:(l[i]).1≤s
      · simp (disch:=(first | omega | (simp only [JlE]; omega))) only [↓JlH,JlF,Ua,Jji,UaE hi,i1,Ujs h1]
      · simp (disch:=(first | omega | (simp only [JlE]; omega))) only [↓JlH,JlF,Ua,Jji,UaE hi,i1,Ujs h1]) l.length n 0 (-1) (by omega) (by omega)
 rw [List.drop_zero,key] at h
 exact h
theorem UeF (n:Nat) (hn:10 ^ 400≤n) (l:List TermT) (c:List UInt8) (hl:smT l) (hc:c.length<2 ^ 17) (k0:Int→Option R):p52 n (tms l) (bs c) k0=k0 (Ujd l c):=by
 have hN:=UaX hn
 have hL:=hl.1
 have e3:=Up6 (R:=R) n l (by omega) hL k0 (k0 0)
 have h4:=Ual (R:=R) (l:=l) (ok:=fun t=>qb t.2) (kbad:=k0 3) (kend:=if aC l=true then (if aO (-1) l=true then k0 0 else k0 3) else k0 2)
  (fun m i=>UcF n m (tms l) (bs c) (tms l) ((tms l).length:Int) (i:Int) (fun y4 y5 y6=>k0 y6) (fun y7 y8=>UgZ n y7 y8 y7 ((y7).length:Int) 0 (fun y9 y10 y11=>k0 y11) (fun y12 y13=>UdN n (-1) y12 ((y12).length:Int) 0 (fun y14=>k0 y14) (k0 0))))
  (fun m=>by
    have h10:=Ual (R:=R) (l:=l) (ok:=fun t=>inC t.1) (kbad:=k0 2) (kend:=if aO (-1) l=true then k0 0 else k0 3)
     (fun m i=>Uby n m (tms l) (bs c) (tms l) ((tms l).length:Int) (i:Int) (fun y9 y10 y11=>k0 y11) (fun y12 y13=>UdN n (-1) y12 ((y12).length:Int) 0 (fun y14=>k0 y14) (k0 0)))
     (fun m=>by
       simp only [Uby,Udq]
       simp (disch:=(first | omega | (simp only [JlE]; omega))) only [↓JlH,JlF,Ua]
       rw [Ua] at e3
       exact e3)
     (fun m i hi=>by
       have hv:=fun k=>Ut7 (R:=R) n (l[i]).1 k
       simp only [Uby,Udq]
       simp (disch:=(first | omega | (simp only [JlE]; omega))) only [↓JlH,JlF,Ua,Jji,UaE hi,i1,hv]
       cases inC (l[i]).1 <;> rfl) l.length n 0 (by omega) (by omega)
    rw [List.drop_zero] at h10
    simp only [UcF,Ufg]
    unfold UgZ
    simp (disch:=(first | omega | (simp only [JlE]; omega))) only [↓JlH,JlF,Ua]
    rw [Ua] at h10
    exact h10)
  (fun m i hi=>by
    have hv:=fun k=>Ubo (R:=R) n hn (l[i]).2 (hl.2 _ (List.getElem_mem hi)) k
    simp only [UcF,Ufg]
    simp (disch:=(first | omega | (simp only [JlE]; omega))) only [↓JlH,JlF,Ua,Jji,UaE hi,i1,hv]
    cases qb (l[i]).2 <;> rfl) l.length n 0 (by omega) (by omega)
 rw [List.drop_zero] at h4
 unfold p52
 rw [Ubo n hn c hc]
 unfold Ujd Uo0
 cases qb c with
 | false=>rfl
 | true =>
  refine Eq.trans h4 ?_
  unfold aQ
  cases (l.all fun t=>qb t.2) <;> cases aC l <;> cases aO (-1) l <;> rfl
theorem Ufx {q:Rat} (h:fits q):(Uaf q).length<2 ^ 17:=Nat.lt_of_le_of_lt (UaQ h) (by decide)
theorem UuQ {cols:Int} {l:List SpT} (h:okN cols l) (hl:l.length<2 ^ 17):smT (vt l):=by
 refine ⟨by rw [Uan]; exact hl,fun t ht=>?_⟩
 unfold vt at ht
 obtain ⟨x,hx,rfl⟩:=List.mem_map.1 ht
 exact Ufx (h x hx).2.1
theorem Ujp {cols:Int}:∀ {l:List SpT} {a:Int},asc a l→okN cols l→a<cols→(l.length:Int)≤cols - a - 1
 | [],a,_,_,h=>by simp only [List.length_nil]; omega
 | t::l,a,h1,h2,h=>by
  have h3:=(h2 t (List.mem_cons_self ..)).2.2
  have:=Ujp h1.2 (fun x hx=>h2 x (List.mem_cons_of_mem _ hx)) h3
  have:=h1.1
  rw [List.length_cons]
  omega
theorem Ua0 {l:List SpT} (h:okS 2048 l):l.length≤2048:=by
 have:=Ujp h.1 h.2 (by decide)
 omega
theorem UdB (n:Nat) (hn:10 ^ 400≤n) {r:SpR} (hr:okF 2048 r) (k0:Int→Option R):p52 n (tms (vt r.1)) (bs (Uaf r.2)) k0=k0 0:=by
 have:=Ua0 hr.1
 rw [UeF n hn (vt r.1) (Uaf r.2) (UuQ hr.1.2 (by omega)) (Ufx hr.2),UiC.2 ⟨UlT hr.1.1 hr.1.2,Ub6 hr.2⟩]
noncomputable def Usw (cols:Int) (l:List TermT):Bool:=okT cols (-1) l
theorem UiF {cols:Int} (hc:cols≤2048):∀ {l:List TermT} {last:Int},okT cols last l=true↔((l.all fun t=>decide (t.1<cols))=true∧okT 2048 last l=true)
 | [],last=>by simp [okT]
 | t::l,last=>by
  have ih:=UiF hc (l:=l) (last:=t.1)
  simp only [okT,List.all_cons,Bool.and_eq_true]
  by_cases h1:t.1≤last
  · simp [h1]
  · by_cases h2:t.1≥cols
    · have:¬ t.1<cols:=by omega
      simp [h1,h2,this]
    · have h3:¬ t.1≥2048:=by omega
      have h4:t.1<cols:=by omega
      by_cases h5:t.2=[48]
      · simp [h1,h5]
      · rw [if_neg h1,if_neg h1,if_neg h2,if_neg h3,if_neg h5,if_neg h5,Bool.and_eq_true,Bool.and_eq_true,ih,decide_eq_true h4]
        grind
theorem UBl:qb [48]=true:=by rw [←Uja]; exact Ub6 UqH
theorem UmY (n:Nat) (hn:10 ^ 400≤n) (cols:Int) (hcol:cols≤2048) (l:List TermT) (hl:smT l) (k0:Bool→Option R):p76 n cols (tms l) k0=k0 (Usw cols l):=by
 have hN:=UaX hn
 have hL:=hl.1
 have hc:=fun k=>UeF (R:=R) n hn l [48] hl (by decide) k
 have hc':∀ k:Int→Option R,p52 n (tms l) (⟨#[48]⟩:ByteArray) k=k (Ujd l [48]):=hc
 unfold p76 Uo5
 have h:=Ual (R:=R) (l:=l) (ok:=fun t=>decide (t.1<cols)) (kbad:=k0 false) (kend:=k0 (Ujd l [48] == 0))
  (fun m i=>UcK n m cols (tms l) (tms l) ((tms l).length:Int) (i:Int) (fun y3 y4=>k0 y4) (fun y5=>p52 n y5 ⟨#[48]⟩ (fun y6=>k0 (y6 == 0))))
  (fun m=>by simp only [UcK,Ufn]; simp (disch:=(first | omega | (simp only [JlE]; omega))) only [↓JlH,JlF,Ua,hc])
  (fun m i hi=>by
    simp only [UcK,Ufn]
    by_cases h1:(l[i]).1<cols
    · simp (disch:=(first | omega | (simp only [JlE]; omega))) only [↓JlH,JlF,Ua,Jji,UaE hi,i1]
    · simp (disch:=(first | omega | (simp only [JlE]; omega))) only [↓JlH,JlF,Ua,Jji,UaE hi,i1]
      simp [h1]) l.length n 0 (by omega) (by omega)
 rw [List.drop_zero] at h
 refine Eq.trans h ?_
 unfold Usw
 have e1:(Ujd l [48] == 0)=okT 2048 (-1) l:=by
  rw [Bool.eq_iff_iff,beq_iff_eq,UiC,UBl]
  simp
 have e2:=UiF hcol (l:=l) (last:=-1)
 rw [e1]
 cases h3:(l.all fun t=>decide (t.1<cols)) with
 | true =>
  rw [h3] at e2
  rw [if_pos rfl]
  congr 1
  rw [Bool.eq_iff_iff,e2]; simp
 | false =>
  rw [h3] at e2
  rw [if_neg (by decide)]
  congr 1
  symm
  rw [Bool.eq_false_iff]
  intro h4
  cases (e2.1 h4).1
end Go.Proofs.YtmgfmlhdnadglaaGreatDoor
set_option linter.unusedVariables false
set_option maxRecDepth 100000
namespace Go.Proofs.YtmgfmlhdnadglaaGreatDoor
open Go Th Go.Proofs
noncomputable section
variable {R:Type}
def Uex:Ann:={ loops:=[(3,ids [1,2,4,6,13,14],ids [4,5,6])],cuts:=[],frz:=[],rm:=[.id,.id] }
abbrev Uqk (n:Nat):Env:=eC 75 (Uye n) (eC 74 (Uyd n) eN)
theorem Ukw (n:Nat):EnvOK Tryz.prog GI (Uqk n):=.cons (.cons (.nil) (UAp n)) (UAq n)
def Uf (n:Nat) (l0:LP→Int→LP→ByteArray→LP→ByteArray→Int→Int→O R) (x1:LP) (x2:Int) (x3:LP) (x4:ByteArray) (x5:LP) (x6:ByteArray) (x7 x8:Int) (k0:LP→ByteArray→Int→LP→ByteArray→O R) (k1:ByteArray→LP→ByteArray→O R):O R :=
 bif (decide (x8<x7)) then (bif (inR x8 ((x1).length)) then (Jj3 ((x1).getD ((x8:Int).toNat) (.v (.bool false))) fun e9=>bif (eqS e9 (⟨#[48]⟩:ByteArray)) then (l0 x1 x2 x3 x4 x5 x6 x7 (IntKind.i64.wrap (x8 + 1))) else (bif (inR x8 ((x3).length)) then (Jh2 ((x3).getD ((x8:Int).toNat) (.v (.bool false))) fun a10=>JdT a10 fun h11 t12=>Jkr h11 fun e13=>JdT t12 fun h14 t15=>Jj3 h14 fun e16=>JdT t15 fun h17 t18=>Jj2 h17 fun e19=>JdT t18 fun h20 t21=>Jj .i64 h20 fun e22=>Ji2 t21 (bif (inR x8 ((x3).length)) then (Jh2 ((x3).getD ((x8:Int).toNat) (.v (.bool false))) fun a23=>JdT a23 fun h24 t25=>Jkr h24 fun e26=>JdT t25 fun h27 t28=>Jj3 h27 fun e29=>JdT t28 fun h30 t31=>Jj2 h30 fun e32=>JdT t31 fun h33 t34=>Jj .i64 h33 fun e35=>Ji2 t34 (bif (inR x8 ((x1).length)) then (Jj3 ((x1).getD ((x8:Int).toNat) (.v (.bool false))) fun e36=>p74 n e13 e29 e36 (fun y37 y38 y39=>bif (y39 != 0) then (k0 [] ByteArray.empty y39 x5 x6) else (p75 n x5 x6 y37 y38 (fun y40 y41 y42=>bif (y42 != 0) then (k0 [] ByteArray.empty y42 y40 y41) else (l0 x1 x2 x3 x4 y40 y41 x7 (IntKind.i64.wrap (x8 + 1))))))) else none)) else none)) else none)) else none) else (k1 x4 x5 x6)
def UcA (n:Nat):Nat→LP→Int→LP→ByteArray→LP→ByteArray→Int→Int→(LP→ByteArray→Int→LP→ByteArray→O R)→(ByteArray→LP→ByteArray→O R)→O R
 | 0,_,_,_,_,_,_,_,_,_,_=>none
 | m + 1,x1,x2,x3,x4,x5,x6,x7,x8,k0,k1=>Uf n (fun x1 x2 x3 x4 x5 x6 x7 x8=>UcA n m x1 x2 x3 x4 x5 x6 x7 x8 k0 k1) x1 x2 x3 x4 x5 x6 x7 x8 k0 k1
def UoV (n:Nat) (x1:LP) (x2:Int) (x3:LP) (x4:ByteArray) (x5:LP) (x6:ByteArray) (x7 x8:Int) (k0:LP→ByteArray→Int→LP→ByteArray→O R) (k1:ByteArray→LP→ByteArray→O R):O R:=UcA n n x1 x2 x3 x4 x5 x6 x7 x8 k0 k1
def p30 (n:Nat) (x1:Int) (x2 x3:LP) (k0:LP→ByteArray→Int→O R):O R :=
 UoV n x3 x1 x2 ByteArray.empty [] ⟨#[48]⟩ ((x2).length:Int) 0 (fun y4 y5 y6 y7 y8=>k0 y4 y5 y6) (fun y9 y10 y11=>k0 y10 y11 0)
abbrev E30 (n:Nat):Code→Fr→Kc R→O R:=evC Tryz.prog (Uqk n) Uex n (59,[])
noncomputable def Un0:Code:=Jj4 (Jll Tryz.f30) [1,1,0,1,0,0]
abbrev Uef:Sl (List SV):=(cH (.c (sBx 24 (cI (cH .n))) (.c (sBx 43 (.c sNl (cS .n))) (.c (sBx 43 (cH (cS .n))) (cI (cI .n))))))
abbrev Ulj (n m:Nat) (K:Kc R):Uef.T (O R):=fun x1 x2 x3 x4 x5 x6 x7 x8=>UcA n m x1 x2 x3 x4 x5 x6 x7 x8 (fun y1 y2 y3 y4 y5=>xL Uex 3 K .ret [.bx 43 [vH y1,vS y2],vI y3,.bx 43 [vH y4,vS y5]]) (fun y1 y2 y3=>xL Uex 3 K (.exit 0) [.bx 43 [.nl,vS y1],dD,.bx 43 [vH y2,vS y3]])
abbrev Usd (n:Nat) (K:Kc R) (l0:Uef.T (O R)):Uef.T (O R):=fun x1 x2 x3 x4 x5 x6 x7 x8=>Uf n l0 x1 x2 x3 x4 x5 x6 x7 x8 (fun y1 y2 y3 y4 y5=>xL Uex 3 K .ret [.bx 43 [vH y1,vS y2],vI y3,.bx 43 [vH y4,vS y5]]) (fun y1 y2 y3=>xL Uex 3 K (.exit 0) [.bx 43 [.nl,vS y1],dD,.bx 43 [vH y2,vS y3]])
abbrev Uyq (n:Nat):Orc R:=oL Uex (E30 n) n 3 Un0 Uef (Ulj n n) oN
abbrev UxA (n:Nat):Orc R:=oN
abbrev K30 (R:Type) (n:Nat):=JcH (R:=R) Tryz.prog (Uqk n) Uex n (59,[]) (Uyq n) (UxA n)
theorem Uuf (n:Nat):K30 R n (false,3,Un0):=JkF (lo:=Uyq n) (cu:=UxA n) (pO pN (by kernel_rfl)) Uef (Ulj n n) (JiE (F:=Ulj n) Uef (Usd n) (fun K _ _ _ _ _ _ _ _=>rfl) (fun _ _=>rfl) (fun L K _ _ _ _ _ _ _ _=>by show _=_; kernel_rfl) n) fun _ _=>rfl
theorem UAN (n:Nat):Je6 (K30 R n) (JaJ Uex (Jll Tryz.f30)):=pO (pC (Uuf n) pN) (by kernel_rfl)
abbrev t30:Sl (List SV):=(.c (sP (JlI (.c (Jlv .i64) (.c sSh .n)))) (cH .n))
abbrev f30 (n:Nat) (K:List SV→O R):t30.T (O R):=fun x1 x2 x3=>p30 n x1 x2 x3 (fun y1 y2 y3=>K [.p (.agg [.sh y1,.v (.string y2)]),vI y3])
abbrev Uu2 (n:Nat):FS:=fT [false,false] t30 (f30 n)
theorem Uwp (n:Nat):FSound Tryz.prog GI 30 (Uu2 n):=gd Uex n (Ukw n) Tryz.func30 (.cons (Ukw n) t30 (f30 n) (fun K _ _ _=>(Jkq (c:=Jll Tryz.f30) (by kernel_rfl) (UAN n) K).trans (by kernel_rfl)) .nil) (by kernel_rfl)
def UiX:Ann:={ loops:=[],cuts:=[(3,ids [1,2,4],ids [4,5])],frz:=[],rm:=[.id,.id] }
abbrev Uqh (n:Nat):Env:=eC 66 (UvL n) (eC 65 (Uu6 n) (eC 30 (Uu2 n) eN))
theorem Uks (n:Nat):EnvOK Tryz.prog GI (Uqh n):=.cons (.cons (.cons (.nil) (Uwp n)) (Uwt n)) (UyK n)
def UoR (n:Nat) (x1:LP) (x2:Int) (x3:LP) (x4:ByteArray) (k0:LP→ByteArray→Int→O R):O R :=
 bif (((x1).length:Int) != ((x3).length:Int)) then (k0 [] ByteArray.empty 6) else (p30 n x2 x3 x1 (fun y5 y6 y7=>k0 y5 y6 y7))
def p23 (n:Nat) (x1:Int) (x2 x3:LP) (k0:LP→ByteArray→Int→O R):O R :=
 p65 n x1 x2 (fun y4=>bif (y4 != 0) then (k0 [] ByteArray.empty 3) else (p66 n x3 (fun y5=>bif (bif false then true else (!y5)) then (k0 [] ByteArray.empty 3) else (UoR n x3 x1 x2 ByteArray.empty (fun y6 y7 y8=>k0 y6 y7 y8)))))
abbrev E23 (n:Nat):Code→Fr→Kc R→O R:=evC Tryz.prog (Uqh n) UiX n (27,[])
noncomputable def UnV:Code:=Jj4 (Jll Tryz.f23) [1,1]
abbrev Umn:Sl (List SV):=(cH (.c (sBx 24 (cI (cH .n))) (.c (sBx 43 (.c sNl (cS .n))) .n)))
abbrev Uox (n:Nat) (K:Kc R):Umn.T (O R):=fun x1 x2 x3 x4=>UoR n x1 x2 x3 x4 (fun y1 y2 y3=>xC UiX 3 K .ret [.bx 43 [vH y1,vS y2],vI y3])
abbrev Uyo (n:Nat):Orc R:=oN
abbrev Uxy (n:Nat):Orc R:=oC UiX (E23 n) 3 UnV Umn (Uox n) oN
abbrev K23 (R:Type) (n:Nat):=JcH (R:=R) Tryz.prog (Uqh n) UiX n (27,[]) (Uyo n) (Uxy n)
theorem Uua (n:Nat):K23 R n (true,3,UnV):=JkW (lo:=Uyo n) (cu:=Uxy n) (pO pN (by kernel_rfl)) Umn (Uox n) (fun K _ _ _ _=>by show _=_; kernel_rfl) fun _ _=>rfl
theorem UAJ (n:Nat):Je6 (K23 R n) (JaJ UiX (Jll Tryz.f23)):=pO (pC (Uua n) pN) (by kernel_rfl)
abbrev t23:Sl (List SV):=(.c (sP (JlI (.c (Jlv .i64) (.c sSh .n)))) (cH .n))
abbrev f23 (n:Nat) (K:List SV→O R):t23.T (O R):=fun x1 x2 x3=>p23 n x1 x2 x3 (fun y1 y2 y3=>K [.p (.agg [.sh y1,.v (.string y2)]),vI y3])
abbrev UxZ (n:Nat):FS:=fT [false,false] t23 (f23 n)
theorem UAa (n:Nat):FSound Tryz.prog GI 23 (UxZ n):=gd UiX n (Uks n) Tryz.func23 (.cons (Uks n) t23 (f23 n) (fun K _ _ _=>(Jkq (c:=Jll Tryz.f23) (by kernel_rfl) (UAJ n) K).trans (by kernel_rfl)) .nil) (by kernel_rfl)
def Uey:Ann:={ loops:=[(2,ids [1,2,8,9],ids [4])],cuts:=[],frz:=[],rm:=[.id] }
abbrev Uql (n:Nat):Env:=eC 19 (UqL n) eN
theorem Ukx (n:Nat):EnvOK Tryz.prog GI (Uql n):=.cons (.nil) (UrX n)
def Ufa (n:Nat) (l0:LP→Int→LP→Int→Int→O R) (x1:LP) (x2:Int) (x3:LP) (x4 x5:Int) (k0:Bool→O R) (k1:O R):O R :=
 bif (decide (x5<x4)) then (bif (inR x5 ((x3).length)) then (Jh2 ((x3).getD ((x5:Int).toNat) (.v (.bool false))) fun a6=>JdT a6 fun h7 t8=>Jkr h7 fun e9=>JdT t8 fun h10 t11=>Jj3 h10 fun e12=>JdT t11 fun h13 t14=>Jj2 h13 fun e15=>JdT t14 fun h16 t17=>Jj .i64 h16 fun e18=>Ji2 t17 (bif (!e15) then (bif (inR x5 ((x1).length)) then (Jj3 ((x1).getD ((x5:Int).toNat) (.v (.bool false))) fun e19=>p19 n e19 ⟨#[48]⟩ (fun y20=>bif (bif true then (decide (y20<0)) else false) then (k0 false) else (l0 x1 x2 x3 x4 (IntKind.i64.wrap (x5 + 1))))) else none) else (l0 x1 x2 x3 x4 (IntKind.i64.wrap (x5 + 1))))) else none) else (k1)
def UcB (n:Nat):Nat→LP→Int→LP→Int→Int→(Bool→O R)→(O R)→O R
 | 0,_,_,_,_,_,_,_=>none
 | m + 1,x1,x2,x3,x4,x5,k0,k1=>Ufa n (fun x1 x2 x3 x4 x5=>UcB n m x1 x2 x3 x4 x5 k0 k1) x1 x2 x3 x4 x5 k0 k1
def UoW (n:Nat) (x1:LP) (x2:Int) (x3:LP) (x4 x5:Int) (k0:Bool→O R) (k1:O R):O R:=UcB n n x1 x2 x3 x4 x5 k0 k1
def p31 (n:Nat) (x1:Int) (x2 x3:LP) (k0:Bool→O R):O R :=
 UoW n x3 x1 x2 ((x2).length:Int) 0 (fun y4=>k0 y4) (k0 true)
abbrev E31 (n:Nat):Code→Fr→Kc R→O R:=evC Tryz.prog (Uql n) Uey n (28,[])
noncomputable def Un1:Code:=Jj4 (Jll Tryz.f31) [1,0,1,0,0]
abbrev Ueg:Sl (List SV):=(cH (.c (sBx 24 (cI (cH .n))) (cI (cI .n))))
abbrev Ulk (n m:Nat) (K:Kc R):Ueg.T (O R):=fun x1 x2 x3 x4 x5=>UcB n m x1 x2 x3 x4 x5 (fun y1=>xL Uey 2 K .ret [vB y1]) (xL Uey 2 K (.exit 0) [dD])
abbrev Use (n:Nat) (K:Kc R) (l0:Ueg.T (O R)):Ueg.T (O R):=fun x1 x2 x3 x4 x5=>Ufa n l0 x1 x2 x3 x4 x5 (fun y1=>xL Uey 2 K .ret [vB y1]) (xL Uey 2 K (.exit 0) [dD])
abbrev Uyr (n:Nat):Orc R:=oL Uey (E31 n) n 2 Un1 Ueg (Ulk n n) oN
abbrev UxB (n:Nat):Orc R:=oN
abbrev K31 (R:Type) (n:Nat):=JcH (R:=R) Tryz.prog (Uql n) Uey n (28,[]) (Uyr n) (UxB n)
theorem Uug (n:Nat):K31 R n (false,2,Un1):=JkF (lo:=Uyr n) (cu:=UxB n) (pO pN (by kernel_rfl)) Ueg (Ulk n n) (JiE (F:=Ulk n) Ueg (Use n) (fun K _ _ _ _ _=>rfl) (fun _ _=>rfl) (fun L K _ _ _ _ _=>by show _=_; kernel_rfl) n) fun _ _=>rfl
theorem UAO (n:Nat):Je6 (K31 R n) (JaJ Uey (Jll Tryz.f31)):=pO (pC (Uug n) pN) (by kernel_rfl)
abbrev t31:Sl (List SV):=(.c (sP (JlI (.c (Jlv .i64) (.c sSh .n)))) (cH .n))
abbrev f31 (n:Nat) (K:List SV→O R):t31.T (O R):=fun x1 x2 x3=>p31 n x1 x2 x3 (fun y1=>K [vB y1])
abbrev UvG (n:Nat):FS:=fT [false,false] t31 (f31 n)
theorem UyF (n:Nat):FSound Tryz.prog GI 31 (UvG n):=gd Uey n (Ukx n) Tryz.func31 (.cons (Ukx n) t31 (f31 n) (fun K _ _ _=>(Jkq (c:=Jll Tryz.f31) (by kernel_rfl) (UAO n) K).trans (by kernel_rfl)) .nil) (by kernel_rfl)
end
end Go.Proofs.YtmgfmlhdnadglaaGreatDoor
set_option linter.unusedVariables false
set_option linter.unusedSimpArgs false
namespace Go.Proofs.YtmgfmlhdnadglaaGreatDoor
open Go Th Go.Proofs
variable {R:Type}
theorem UrV:((5:Int) != 0)=true:=rfl
theorem Ugn:((0:Int) != 0)=false:=rfl
theorem Uay {l:List SpT} {i:Nat} {d:PV} (h:i<l.length) (K:Int→ByteArray→Option R) :
 (Jh2 ((tms (vt l)).getD i d) fun a=>JdT a fun h1 t1=>Jj .i64 h1 fun e1=>JdT t1 fun h2 t2=>Jj3 h2 fun e2=>Ji2 t2 (K e1 e2))=K ((l[i]).1:Int) (bs (Uaf (l[i]).2)):=by
 rw [UaE (by rw [Uan]; exact h),Upb]
theorem Uc5 (acc:List SpT) (k:Nat) (y:Rat):tms (vt acc)++[.agg [.v (.int .i64 (k:Int)),.v (.string (bs (Uaf y)))]]=tms (vt (acc++[(k,y)])):=by
 unfold tms vt
 rw [List.map_append,List.map_append]; rfl
theorem UzC (q:Rat):eqS (bs (Uaf q)) (⟨#[48]⟩:ByteArray)=decide (q=0):=by
 rw [e48,Bool.eq_iff_iff,decide_eq_true_iff,decide_eq_true_iff,Ud8]
noncomputable def UmH (k0:List PV→ByteArray→Int→Option R):Option SpR→Option R
 | none=>k0 [] (bs []) 5
 | some x=>k0 (tms (vt x.1)) (bs (Uaf x.2)) 0
open Classical in
noncomputable def scS (q:Rat) (acc:List SpT) (t:SpT):Option (List SpT):=if fits (t.2 * q) then some (acc++[(t.1,t.2 * q)]) else none
theorem Uml (q:Rat):∀ (l acc:List SpT),UaR (scS q) acc l=(scO q l).map (acc++·)
 | [],acc=>by simp [UaR,scO]
 | t::l,acc=>by
  rw [UaR,scS]
  by_cases h:fits (t.2 * q)
  · rw [if_pos h,Option.bind_some,Uml q l]
    unfold scO
    by_cases h2:∀ x∈l,fits (x.2 * q)
    · rw [if_pos h2,if_pos (by intro x hx; rcases List.mem_cons.1 hx with rfl | hx; exact h; exact h2 x hx)]
      simp
    · rw [if_neg h2,if_neg (fun h3=>h2 fun x hx=>h3 x (List.mem_cons_of_mem _ hx))]; rfl
  · rw [if_neg h]
    unfold scO
    rw [if_neg (fun h3=>h (h3 t (List.mem_cons_self ..)))]; rfl
theorem UlJ (n:Nat) (hn:10 ^ 1000≤n) {r:SpR} (hr:okF 2048 r) {q:Rat} (hq:fits q) (h0:q≠0) (k0:List PV→ByteArray→Int→Option R) :
 Uvd n (tms (vt r.1)) (bs (Uaf r.2)) (bs (Uaf q)) k0=UmH k0 (tmO q r):=by
 have hN:=UaX (Ub9 hn)
 have hL:=Ua0 hr.1
 have hm:=fun (t:Rat) (ht:fits t) k=>UnP (R:=R) n hn t q ht hq k
 unfold Uvd
 rw [UzC,decide_eq_false h0,Uak,hm r.2 hr.2]
 unfold tmO
 by_cases hf:fits (r.2 * q)
 · rw [UbA hf,if_pos hf,Ugn,Uak]
   have h:=Udu (R:=R) (l:=r.1) (step:=scS q) (kerr:=k0 [] (bs []) 5) (kend:=fun acc=>k0 (tms (vt acc)) (bs (Uaf (r.2 * q))) 0) (Inv:=fun i acc=>acc.length=i)
    (fun m acc i=>Ubt n m (bs (Uaf q)) ByteArray.empty (tms (vt acc)) (bs (Uaf (r.2 * q))) (tms (vt r.1)) ((tms (vt r.1)).length:Int) (i:Int) (fun y6 y7 y8 y9=>k0 [] y6 y7) (fun y10 y11 y12=>k0 y11 y12 0))
    (fun m acc ha=>by simp only [Ubt,Udj]; simp (disch:=(first | omega | (simp only [JlE]; omega))) only [↓JlH,JlF,Ua,Uan])
    (fun acc acc' i hi ha he=>by
      unfold scS at he
      split at he
      · simp only [Option.some.injEq] at he
        rw [←he,List.length_append,ha]; rfl
      · cases he)
    (fun m acc i hi ha=>by
      have hv:=hm (r.1[i]).2 (hr.1.2 _ (List.getElem_mem hi)).2.1
      simp only [Ubt,Udj]
      unfold scS
      by_cases h1:fits ((r.1[i]).2 * q)
      · have hv':∀ k,p21 n (bs (Uaf (r.1[i]).2)) (bs (Uaf q)) k=k (bs (Uaf ((r.1[i]).2 * q))) 0:=fun k=>by rw [hv,UbA h1]
        rw [if_pos h1]
        simp (disch:=(first | omega | (simp only [JlE]; omega))) only [↓JlH,JlF,Ua,Uan,Jji,Uay hi,i1,hv',Ugn,Uc5]
        rfl
      · have hv':∀ k,p21 n (bs (Uaf (r.1[i]).2)) (bs (Uaf q)) k=k (bs []) 5:=fun k=>by rw [hv]; unfold Ugo; rw [if_neg h1]
        rw [if_neg h1]
        simp (disch:=(first | omega | (simp only [JlE]; omega))) only [↓JlH,JlF,Ua,Uan,Jji,Uay hi,i1,hv',UrV]
        rfl) r.1.length n 0 [] (by omega) (by omega) rfl
   rw [List.drop_zero,Uml] at h
   unfold Ul0
   refine Eq.trans h ?_
   cases scO q r.1 <;> rfl
 · unfold Ugo
   rw [if_neg hf,if_neg hf]; rfl
theorem UlI (n:Nat) (hn:10 ^ 1000≤n) {r:SpR} (hr:okF 2048 r) {q:Rat} (hq:fits q) (h0:q≠0) (k0:List PV→ByteArray→Int→Option R) :
 p74 n (tms (vt r.1)) (bs (Uaf r.2)) (bs (Uaf q)) k0=UmH k0 (tmO q r):=by
 have hN:=UaX (Ub9 hn)
 unfold p74
 rw [UdB n (Ub9 hn) hr,Ugn,Uak,Ubo n (Ub9 hn) _ (Ufx hq),Ub6 hq]
 exact UlJ n hn hr hq h0 k0
theorem UaA (n:Nat) (hn:10 ^ 1000≤n) {a b:List SpT} (ha:okS 2048 a) (hb:okS 2048 b) (x2 x4 x7:ByteArray) (k0:List PV→ByteArray→Int→Option R) (k1:ByteArray→List PV→ByteArray→Option R) :
 ∀ (d m i k:Nat) (acc:List SpT),a.length - i + (b.length - k)=d→i≤a.length→k≤b.length→d<m→acc.length≤i + k →
  Ucd n m (tms (vt a)) x2 (tms (vt b)) x4 (bs []) (tms (vt acc)) x7 (i:Int) (k:Int) (fun y7 y8 y9 y10=>k0 [] y7 y8) k1 =
   match UdV (a.drop i) (b.drop k) with
   | none=>k0 [] (bs []) 5
   | some r=>k1 (bs []) (tms (vt (acc++r))) x7
 | d,0,i,k,acc,hd,hi,hk,hm,hl=>by omega
 | d,m + 1,i,k,acc,hd,hi,hk,hm,hl=>by
  have la:=Ua0 ha
  have lb:=Ua0 hb
  have hN:=UaX (Ub9 hn)
  simp only [Ucd,UeY]
  by_cases hi':i<a.length
  · have hda:=UaK hi'
    by_cases hk':k<b.length
    · have hdb:=UaK hk'
      have e1:((k:Int) == (b.length:Int))=false:=by simp; omega
      have e2:((i:Int) == (a.length:Int))=false:=by simp; omega
      by_cases hlt:(a[i]).1<(b[k]).1
      · have ih:=UaA n hn ha hb x2 x4 x7 k0 k1 (d - 1) m (i + 1) k (acc++[((a[i]).1,(a[i]).2)]) (by omega) (by omega) hk (by omega) (by simp; omega)
        simp (disch:=(first | omega | (simp only [JlE]; omega))) only [↓JlH,JlF,UaB,Uaw,Ua,Uan,e1,Jji,Uay hi',Uay hk',Uc5,i1]
        rw [ih,hda,hdb,UdV,if_pos hlt]
        cases UdV (a.drop (i + 1)) (b[k]::b.drop (k + 1)) <;> simp
      · by_cases hgt:(b[k]).1<(a[i]).1
        · have ih:=UaA n hn ha hb x2 x4 x7 k0 k1 (d - 1) m i (k + 1) (acc++[((b[k]).1,(b[k]).2)]) (by omega) hi (by omega) (by omega) (by simp; omega)
          simp (disch:=(first | omega | (simp only [JlE]; omega))) only [↓JlH,JlF,UaB,Uaw,UaP,Ua,Uan,e1,e2,Jji,Uay hi',Uay hk',Uc5,i1]
          rw [ih,hda,hdb,UdV,if_neg hlt,if_pos hgt]
          cases UdV (a[i]::a.drop (i + 1)) (b.drop (k + 1)) <;> simp
        · have hv:=Uje (R:=R) n hn (a[i]).2 (b[k]).2 (ha.2 _ (List.getElem_mem hi')).2.1 (hb.2 _ (List.getElem_mem hk')).2.1
          rw [hda,hdb,UdV,if_neg hlt,if_neg hgt]
          by_cases hf:fits ((a[i]).2 + (b[k]).2)
          · have hv':∀ kk,p22 n (bs (Uaf (a[i]).2)) (bs (Uaf (b[k]).2)) kk=kk (bs (Uaf ((a[i]).2 + (b[k]).2))) 0:=fun kk=>by rw [hv,UbA hf]
            rw [if_pos hf]
            by_cases hz:(a[i]).2 + (b[k]).2=0
            · have ih:=UaA n hn ha hb x2 x4 x7 k0 k1 (d - 2) m (i + 1) (k + 1) acc (by omega) (by omega) (by omega) (by omega) (by omega)
              have e3:=UmT (Ud8.2 hz)
              simp (disch:=(first | omega | (simp only [JlE]; omega))) only [↓JlH,JlF,UaB,Uaw,UaP,Ubu,Ua,Uan,e1,e2,Jji,Uay hi',Uay hk',Uc5,i1,hv',Ugn,e3]
              rw [ih]
              cases UdV (a.drop (i + 1)) (b.drop (k + 1)) <;> simp
            · have ih:=UaA n hn ha hb x2 x4 x7 k0 k1 (d - 2) m (i + 1) (k + 1) (acc++[((a[i]).1,(a[i]).2 + (b[k]).2)]) (by omega) (by omega) (by omega) (by omega) (by simp; omega)
              have e3:=Ujs (fun q=>hz (Ud8.1 q))
              simp (disch:=(first | omega | (simp only [JlE]; omega))) only [↓JlH,JlF,UaB,Uaw,UaP,Ubu,Ua,Uan,e1,e2,Jji,Uay hi',Uay hk',Uc5,i1,hv',Ugn,e3]
              rw [ih]
              cases UdV (a.drop (i + 1)) (b.drop (k + 1)) <;> simp
          · have hv':∀ kk,p22 n (bs (Uaf (a[i]).2)) (bs (Uaf (b[k]).2)) kk=kk (bs []) 5:=fun kk=>by rw [hv]; unfold Ugo; rw [if_neg hf]
            rw [if_neg hf]
            simp (disch:=(first | omega | (simp only [JlE]; omega))) only [↓JlH,JlF,UaB,Uaw,UaP,Ubu,Ua,Uan,e1,e2,Jji,Uay hi',Uay hk',Uc5,i1,hv',UrV]
    · have hk'':k=b.length:=by omega
      have e1:((k:Int) == (b.length:Int))=true:=by simp; omega
      have ih:=UaA n hn ha hb x2 x4 x7 k0 k1 (d - 1) m (i + 1) k (acc++[((a[i]).1,(a[i]).2)]) (by omega) (by omega) hk (by omega) (by simp; omega)
      simp (disch:=(first | omega | (simp only [JlE]; omega))) only [↓JlH,JlF,UaB,Uaw,Ua,Uan,e1,Jji,Uay hi',Uc5,i1]
      rw [ih,hda,List.drop_eq_nil_of_le (by omega:b.length≤k),UlO,UlO]
      simp only [List.append_assoc,List.singleton_append]
  · have hi'':i=a.length:=by omega
    have e2:((i:Int) == (a.length:Int))=true:=by simp; omega
    rw [List.drop_eq_nil_of_le (by omega:a.length≤i)]
    by_cases hk':k<b.length
    · have hdb:=UaK hk'
      have e1:((k:Int) == (b.length:Int))=false:=by simp; omega
      have ih:=UaA n hn ha hb x2 x4 x7 k0 k1 (d - 1) m i (k + 1) (acc++[((b[k]).1,(b[k]).2)]) (by omega) hi (by omega) (by omega) (by simp; omega)
      rw [List.drop_eq_nil_of_le (by omega:a.length≤i)] at ih
      simp (disch:=(first | omega | (simp only [JlE]; omega))) only [↓JlH,JlF,UaB,Uaw,UaP,Ua,Uan,e1,e2,Jji,Uay hk',Uc5,i1]
      rw [ih,hdb]
      simp only [UdV,List.append_assoc,List.singleton_append]
    · simp (disch:=(first | omega | (simp only [JlE]; omega))) only [↓JlH,JlF,Ua,Uan]
      rw [List.drop_eq_nil_of_le (by omega:b.length≤k)]
      simp [UdV,JfF]
theorem Um9 (n:Nat) (hn:10 ^ 1000≤n) {a b:SpR} (ha:okF 2048 a) (hb:okF 2048 b) (k0:List PV→ByteArray→Int→Option R) :
 Uve n (tms (vt a.1)) (bs (Uaf a.2)) (tms (vt b.1)) (bs (Uaf b.2)) k0=UmH k0 (plO a b):=by
 have hN:=UaX (Ub9 hn)
 have la:=Ua0 ha.1
 have lb:=Ua0 hb.1
 unfold Uve
 rw [Uje n hn a.2 b.2 ha.2 hb.2]
 unfold plO
 by_cases hf:fits (a.2 + b.2)
 · rw [UbA hf,if_pos hf,Ugn,Uak]
   unfold Ul1
   refine Eq.trans (UaA n hn ha.1 hb.1 _ _ _ k0 _ (a.1.length + b.1.length) n 0 0 [] (by omega) (by omega) (by omega) (by omega) (by simp)) ?_
   rw [List.drop_zero,List.drop_zero]
   cases UdV a.1 b.1 <;> rfl
 · unfold Ugo
   rw [if_neg hf,if_neg hf]; rfl
theorem UqE (n:Nat) (hn:10 ^ 1000≤n) {a b:SpR} (ha:okF 2048 a) (hb:okF 2048 b) (k0:List PV→ByteArray→Int→Option R) :
 p75 n (tms (vt a.1)) (bs (Uaf a.2)) (tms (vt b.1)) (bs (Uaf b.2)) k0=UmH k0 (plO a b):=by
 unfold p75
 rw [UdB n (Ub9 hn) ha,Ugn,Uak,UdB n (Ub9 hn) hb]
 exact Um9 n hn ha hb k0
end Go.Proofs.YtmgfmlhdnadglaaGreatDoor
set_option linter.unusedVariables false
set_option maxRecDepth 100000
namespace Go.Proofs.YtmgfmlhdnadglaaGreatDoor
open Go Th Go.Proofs
noncomputable section
variable {R:Type}
def UbH:Ann:={ loops:=[(4,ids [1,2,17,18,19],ids [1,2,4,5]),(14,ids [1,9,47,48,49],ids [4,5,9])],cuts:=[(12,ids [1,2],ids [4,5])],frz:=[],rm:=[.id,.id] }
abbrev Uqf (n:Nat):Env:=eC 53 (UqM n) (eC 52 (UrS n) (eC 22 (UvF n) (eC 21 (UvE n) eN)))
theorem Ukn (n:Nat):EnvOK Tryz.prog GI (Uqf n):=.cons (.cons (.cons (.cons (.nil) (UyD n)) (UyE n)) (UtW n)) (UrY n)
def Ue6 (n:Nat) (l0:LP→LP→ByteArray→LP→Int→Int→O R) (x1 x2:LP) (x3:ByteArray) (x4:LP) (x5 x6:Int) (k0:LP→LP→ByteArray→ByteArray→Int→O R) (k1:LP→LP→ByteArray→O R):O R :=
 bif (decide (x6<x5)) then (bif (inR x6 ((x4).length)) then (Jj3 ((x4).getD ((x6:Int).toNat) (.v (.bool false))) fun e7=>p53 n e7 (fun y8=>bif (!y8) then (k0 x1 x2 x3 ⟨#[]⟩ 3) else (l0 x1 x2 x3 x4 x5 (IntKind.i64.wrap (x6 + 1))))) else none) else (k1 x1 x2 x3)
def Ucw (n:Nat):Nat→LP→LP→ByteArray→LP→Int→Int→(LP→LP→ByteArray→ByteArray→Int→O R)→(LP→LP→ByteArray→O R)→O R
 | 0,_,_,_,_,_,_,_,_=>none
 | m + 1,x1,x2,x3,x4,x5,x6,k0,k1=>Ue6 n (fun x1 x2 x3 x4 x5 x6=>Ucw n m x1 x2 x3 x4 x5 x6 k0 k1) x1 x2 x3 x4 x5 x6 k0 k1
def UoQ (n:Nat) (x1 x2:LP) (x3:ByteArray) (x4:LP) (x5 x6:Int) (k0:LP→LP→ByteArray→ByteArray→Int→O R) (k1:LP→LP→ByteArray→O R):O R:=Ucw n n x1 x2 x3 x4 x5 x6 k0 k1
def Udo (n:Nat) (l0:LP→ByteArray→LP→Int→Int→O R) (x1:LP) (x2:ByteArray) (x3:LP) (x4 x5:Int) (k0:ByteArray→Int→ByteArray→O R) (k1:ByteArray→O R):O R :=
 bif (decide (x5<x4)) then (bif (inR x5 ((x3).length)) then (Jh2 ((x3).getD ((x5:Int).toNat) (.v (.bool false))) fun a6=>JdT a6 fun h7 t8=>Jj .i64 h7 fun e9=>JdT t8 fun h10 t11=>Jj3 h10 fun e12=>Ji2 t11 (bif (inR e9 ((x1).length)) then (Jj3 ((x1).getD ((e9:Int).toNat) (.v (.bool false))) fun e13=>p21 n e12 e13 (fun y14 y15=>bif (y15 != 0) then (k0 ⟨#[]⟩ y15 x2) else (p22 n x2 y14 (fun y16 y17=>bif (y17 != 0) then (k0 ⟨#[]⟩ y17 y16) else (l0 x1 y16 x3 x4 (IntKind.i64.wrap (x5 + 1))))))) else none)) else none) else (k1 x2)
def Ubx (n:Nat):Nat→LP→ByteArray→LP→Int→Int→(ByteArray→Int→ByteArray→O R)→(ByteArray→O R)→O R
 | 0,_,_,_,_,_,_,_=>none
 | m + 1,x1,x2,x3,x4,x5,k0,k1=>Udo n (fun x1 x2 x3 x4 x5=>Ubx n m x1 x2 x3 x4 x5 k0 k1) x1 x2 x3 x4 x5 k0 k1
def Ul5 (n:Nat) (x1:LP) (x2:ByteArray) (x3:LP) (x4 x5:Int) (k0:ByteArray→Int→ByteArray→O R) (k1:ByteArray→O R):O R:=Ubx n n x1 x2 x3 x4 x5 k0 k1
def Ua3 (n:Nat) (x1 x2:LP) (x3:ByteArray) (k0:ByteArray→Int→O R):O R :=
 Ul5 n x1 x3 x2 ((x2).length:Int) 0 (fun y4 y5 y6=>k0 y4 y5) (fun y7=>k0 y7 0)
def p18 (n:Nat) (x1:LP) (x2:ByteArray) (x3:LP) (k0:ByteArray→Int→O R):O R :=
 p52 n x1 x2 (fun y4=>bif (y4 != 0) then (k0 ⟨#[]⟩ 3) else (UoQ n x3 x1 x2 x3 ((x3).length:Int) 0 (fun y5 y6 y7 y8 y9=>k0 y8 y9) (fun y10 y11 y12=>bif (decide (((y11).length:Int)>0)) then (let v13:=IntKind.i64.wrap (((y11).length:Int) - 1); bif (inR v13 ((y11).length)) then (Jh2 ((y11).getD ((v13:Int).toNat) (.v (.bool false))) fun a14=>JdT a14 fun h15 t16=>Jj .i64 h15 fun e17=>JdT t16 fun h18 t19=>Jj3 h18 fun e20=>Ji2 t19 (bif (bif true then (decide (e17≥((y10).length:Int))) else false) then (k0 ⟨#[]⟩ 2) else (Ua3 n y10 y11 y12 (fun y21 y22=>k0 y21 y22)))) else none) else (Ua3 n y10 y11 y12 (fun y23 y24=>k0 y23 y24)))))
abbrev E18 (n:Nat):Code→Fr→Kc R→O R:=evC Tryz.prog (Uqf n) UbH n (78,[])
noncomputable def UjL:Code:=Jj4 (Jll Tryz.f18) [1,1,1,1]
abbrev Uhf:Sl (List SV):=(cH (.c (sBx 43 (cH (cS .n))) .n))
abbrev Uld (n:Nat) (K:Kc R):Uhf.T (O R):=fun x1 x2 x3=>Ua3 n x1 x2 x3 (fun y1 y2=>xC UbH 12 K .ret [vS y1,vI y2])
noncomputable def UnT:Code:=Jj4 (Jll Tryz.f18) [1,1,0,1,0,0]
abbrev Ueb:Sl (List SV):=(cH (.c (sBx 43 (cH (cS .n))) (cH (cI (cI .n)))))
abbrev Ule (n m:Nat) (K:Kc R):Ueb.T (O R):=fun x1 x2 x3 x4 x5 x6=>Ucw n m x1 x2 x3 x4 x5 x6 (fun y1 y2 y3 y4 y5=>xL UbH 4 K .ret [vH y1,.bx 43 [vH y2,vS y3],vS y4,vI y5]) (fun y1 y2 y3=>xL UbH 4 K (.exit 0) [vH y1,.bx 43 [vH y2,vS y3],dD,dD])
abbrev Us (n:Nat) (K:Kc R) (l0:Ueb.T (O R)):Ueb.T (O R):=fun x1 x2 x3 x4 x5 x6=>Ue6 n l0 x1 x2 x3 x4 x5 x6 (fun y1 y2 y3 y4 y5=>xL UbH 4 K .ret [vH y1,.bx 43 [vH y2,vS y3],vS y4,vI y5]) (fun y1 y2 y3=>xL UbH 4 K (.exit 0) [vH y1,.bx 43 [vH y2,vS y3],dD,dD])
noncomputable def UjM:Code:=Jj4 (Jll Tryz.f18) [1,1,1,1,1,0,1,0,0]
abbrev UcZ:Sl (List SV):=(cH (cS (cH (cI (cI .n)))))
abbrev UgN (n m:Nat) (K:Kc R):UcZ.T (O R):=fun x1 x2 x3 x4 x5=>Ubx n m x1 x2 x3 x4 x5 (fun y1 y2 y3=>xL UbH 14 K .ret [vS y1,vI y2,vS y3]) (fun y1=>xL UbH 14 K (.exit 2) [dD,dD,vS y1])
abbrev UpW (n:Nat) (K:Kc R) (l0:UcZ.T (O R)):UcZ.T (O R):=fun x1 x2 x3 x4 x5=>Udo n l0 x1 x2 x3 x4 x5 (fun y1 y2 y3=>xL UbH 14 K .ret [vS y1,vI y2,vS y3]) (fun y1=>xL UbH 14 K (.exit 2) [dD,dD,vS y1])
abbrev Uu7 (n:Nat):Orc R:=oL UbH (E18 n) n 14 UjM UcZ (UgN n n) (oL UbH (E18 n) n 4 UnT Ueb (Ule n n) oN)
abbrev UuY (n:Nat):Orc R:=oC UbH (E18 n) 12 UjL Uhf (Uld n) oN
abbrev K18 (R:Type) (n:Nat):=JcH (R:=R) Tryz.prog (Uqf n) UbH n (78,[]) (Uu7 n) (UuY n)
theorem Ut9 (n:Nat):K18 R n (false,4,UnT):=JkF (lo:=Uu7 n) (cu:=UuY n) (pO pN (by kernel_rfl)) Ueb (Ule n n) (JiE (F:=Ule n) Ueb (Us n) (fun K _ _ _ _ _ _=>rfl) (fun _ _=>rfl) (fun L K _ _ _ _ _ _=>by show _=_; kernel_rfl) n) fun _ _=>rfl
theorem Url (n:Nat):K18 R n (false,14,UjM):=JkF (lo:=Uu7 n) (cu:=UuY n) (pO pN (by kernel_rfl)) UcZ (UgN n n) (JiE (F:=UgN n) UcZ (UpW n) (fun K _ _ _ _ _=>rfl) (fun _ _=>rfl) (fun L K _ _ _ _ _=>by show _=_; kernel_rfl) n) fun _ _=>rfl
theorem Urk (n:Nat):K18 R n (true,12,UjL):=JkW (lo:=Uu7 n) (cu:=UuY n) (pO (pC (Url n) pN) (by kernel_rfl)) Uhf (Uld n) (fun K _ _ _=>by show _=_; kernel_rfl) fun _ _=>rfl
theorem UAE (n:Nat):Je6 (K18 R n) (JaJ UbH (Jll Tryz.f18)):=pO (pC (Ut9 n) (pC (Urk n) pN)) (by kernel_rfl)
abbrev t18:Sl (List SV):=(.c (sP (JlI (.c sSh (.c Jly .n)))) (cH .n))
abbrev f18 (n:Nat) (K:List SV→O R):t18.T (O R):=fun x1 x2 x3=>p18 n x1 x2 x3 (fun y1 y2=>K [vS y1,vI y2])
abbrev UvD (n:Nat):FS:=fT [false,false] t18 (f18 n)
theorem UyC (n:Nat):FSound Tryz.prog GI 18 (UvD n):=gd UbH n (Ukn n) Tryz.func18 (.cons (Ukn n) t18 (f18 n) (fun K _ _ _=>(Jkq (c:=Jll Tryz.f18) (by kernel_rfl) (UAE n) K).trans (by kernel_rfl)) .nil) (by kernel_rfl)
def UeA:Ann:={ loops:=[(2,ids [1,12,13,14],ids [4,5])],cuts:=[],frz:=[],rm:=[.id,.id] }
abbrev Uqo (n:Nat):Env:=eC 19 (UqL n) (eC 18 (UvD n) eN)
theorem UkE (n:Nat):EnvOK Tryz.prog GI (Uqo n):=.cons (.cons (.nil) (UyC n)) (UrX n)
def Uff (n:Nat) (l0:LP→LP→Int→Int→O R) (x1 x2:LP) (x3 x4:Int) (k0:Int→Int→O R) (k1:O R):O R :=
 bif (decide (x4<x3)) then (bif (inR x4 ((x2).length)) then (Jh2 ((x2).getD ((x4:Int).toNat) (.v (.bool false))) fun a5=>JdT a5 fun h6 t7=>Jkr h6 fun e8=>JdT t7 fun h9 t10=>Jj3 h9 fun e11=>JdT t10 fun h12 t13=>Jj2 h12 fun e14=>JdT t13 fun h15 t16=>Jj .i64 h15 fun e17=>Ji2 t16 (p18 n e8 e11 x1 (fun y18 y19=>bif (y19 != 0) then (k0 0 y19) else (p19 n y18 ⟨#[48]⟩ (fun y20=>bif (decide (y20<0)) then (k0 x4 0) else (bif (decide (y20>0)) then (bif (bif false then true else (bif true then e14 else false)) then (k0 x4 0) else (l0 x1 x2 x3 (IntKind.i64.wrap (x4 + 1)))) else (l0 x1 x2 x3 (IntKind.i64.wrap (x4 + 1))))))))) else none) else (k1)
def UcE (n:Nat):Nat→LP→LP→Int→Int→(Int→Int→O R)→(O R)→O R
 | 0,_,_,_,_,_,_=>none
 | m + 1,x1,x2,x3,x4,k0,k1=>Uff n (fun x1 x2 x3 x4=>UcE n m x1 x2 x3 x4 k0 k1) x1 x2 x3 x4 k0 k1
def UoZ (n:Nat) (x1 x2:LP) (x3 x4:Int) (k0:Int→Int→O R) (k1:O R):O R:=UcE n n x1 x2 x3 x4 k0 k1
def p51 (n:Nat) (x1:Int) (x2 x3:LP) (k0:Int→Int→O R):O R :=
 UoZ n x3 x2 ((x2).length:Int) 0 (fun y4 y5=>k0 y4 y5) (k0 (-1) 0)
abbrev E51 (n:Nat):Code→Fr→Kc R→O R:=evC Tryz.prog (Uqo n) UeA n (46,[])
noncomputable def Un5:Code:=Jj4 (Jll Tryz.f51) [1,0,1,0,0]
abbrev Uei:Sl (List SV):=(cH (cH (cI (cI .n))))
abbrev Ulp (n m:Nat) (K:Kc R):Uei.T (O R):=fun x1 x2 x3 x4=>UcE n m x1 x2 x3 x4 (fun y1 y2=>xL UeA 2 K .ret [vI y1,vI y2]) (xL UeA 2 K (.exit 0) [dD,dD])
abbrev Usg (n:Nat) (K:Kc R) (l0:Uei.T (O R)):Uei.T (O R):=fun x1 x2 x3 x4=>Uff n l0 x1 x2 x3 x4 (fun y1 y2=>xL UeA 2 K .ret [vI y1,vI y2]) (xL UeA 2 K (.exit 0) [dD,dD])
abbrev Uyt (n:Nat):Orc R:=oL UeA (E51 n) n 2 Un5 Uei (Ulp n n) oN
abbrev UxD (n:Nat):Orc R:=oN
abbrev K51 (R:Type) (n:Nat):=JcH (R:=R) Tryz.prog (Uqo n) UeA n (46,[]) (Uyt n) (UxD n)
theorem Uum (n:Nat):K51 R n (false,2,Un5):=JkF (lo:=Uyt n) (cu:=UxD n) (pO pN (by kernel_rfl)) Uei (Ulp n n) (JiE (F:=Ulp n) Uei (Usg n) (fun K _ _ _ _=>rfl) (fun _ _=>rfl) (fun L K _ _ _ _=>by show _=_; kernel_rfl) n) fun _ _=>rfl
theorem UAV (n:Nat):Je6 (K51 R n) (JaJ UeA (Jll Tryz.f51)):=pO (pC (Uum n) pN) (by kernel_rfl)
abbrev t51:Sl (List SV):=(.c (sP (JlI (.c (Jlv .i64) (.c sSh .n)))) (cH .n))
abbrev f51 (n:Nat) (K:List SV→O R):t51.T (O R):=fun x1 x2 x3=>p51 n x1 x2 x3 (fun y1 y2=>K [vI y1,vI y2])
abbrev Ux8 (n:Nat):FS:=fT [false,false] t51 (f51 n)
theorem UAj (n:Nat):FSound Tryz.prog GI 51 (Ux8 n):=gd UeA n (UkE n) Tryz.func51 (.cons (UkE n) t51 (f51 n) (fun K _ _ _=>(Jkq (c:=Jll Tryz.f51) (by kernel_rfl) (UAV n) K).trans (by kernel_rfl)) .nil) (by kernel_rfl)
def Upk:Ann:={ loops:=[],cuts:=[],frz:=[],rm:=[.id,.id] }
abbrev UsJ (n:Nat):Env:=eC 51 (Ux8 n) (eC 49 (UvI n) (eC 48 (Ux6 n) eN))
theorem Ukm (n:Nat):EnvOK Tryz.prog GI (UsJ n):=.cons (.cons (.cons (.nil) (UAh n)) (UyH n)) (UAj n)
def p17 (n:Nat) (x1:Int) (x2 x3:LP) (k0:Bool→Int→O R):O R :=
 p48 n x1 x2 x3 (fun y4=>bif (y4 != 0) then (k0 false y4) else (Unk n x3 (fun y5=>bif y5 then (k0 false 0) else (p51 n x1 x2 x3 (fun y6 y7=>bif (y7 == 0) then (k0 (bif true then (decide (y6<0)) else false) y7) else (k0 false y7))))))
abbrev UzH (n:Nat):Orc R:=oN
abbrev Uzc (n:Nat):Orc R:=oN
abbrev K17 (R:Type) (n:Nat):=JcH (R:=R) Tryz.prog (UsJ n) Upk n (30,[]) (UzH n) (Uzc n)
theorem UAD (n:Nat):Je6 (K17 R n) (JaJ Upk (Jll Tryz.f17)):=pO pN (by kernel_rfl)
abbrev t17:Sl (List SV):=(.c (sP (JlI (.c (Jlv .i64) (.c sSh .n)))) (cH .n))
abbrev f17 (n:Nat) (K:List SV→O R):t17.T (O R):=fun x1 x2 x3=>p17 n x1 x2 x3 (fun y1 y2=>K [vB y1,vI y2])
abbrev UvC (n:Nat):FS:=fT [false,false] t17 (f17 n)
theorem UyB (n:Nat):FSound Tryz.prog GI 17 (UvC n):=gd Upk n (Ukm n) Tryz.func17 (.cons (Ukm n) t17 (f17 n) (fun K _ _ _=>(Jkq (c:=Jll Tryz.f17) (by kernel_rfl) (UAD n) K).trans (by kernel_rfl)) .nil) (by kernel_rfl)
def Uew:Ann:={ loops:=[(5,ids [0,1,4,18,19,20],ids [0,1,2,3,4])],cuts:=[],frz:=[],rm:=[.id,.id] }
abbrev Uqj (n:Nat):Env:=eC 31 (UvG n) (eC 30 (Uu2 n) (eC 19 (UqL n) eN))
theorem Ukv (n:Nat):EnvOK Tryz.prog GI (Uqj n):=.cons (.cons (.cons (.nil) (UrX n)) (Uwp n)) (UyF n)
def Ue9 (n:Nat) (l0:Int→LP→LP→LP→ByteArray→LP→Int→Int→O R) (x1:Int) (x2 x3 x4:LP) (x5:ByteArray) (x6:LP) (x7 x8:Int) (k0:Int→LP→LP→Bool→Int→LP→ByteArray→O R) (k1:Int→LP→LP→LP→ByteArray→O R):O R :=
 bif (decide (x8<x7)) then (bif (inR x8 ((x6).length)) then (Jh2 ((x6).getD ((x8:Int).toNat) (.v (.bool false))) fun a9=>JdT a9 fun h10 t11=>Jj .i64 h10 fun e12=>JdT t11 fun h13 t14=>Jj3 h13 fun e15=>Ji2 t14 (p19 n e15 ⟨#[48]⟩ (fun y16=>bif (decide (y16>0)) then (k0 x1 x2 x3 false 0 x4 x5) else (l0 x1 x2 x3 x4 x5 x6 x7 (IntKind.i64.wrap (x8 + 1)))))) else none) else (k1 x1 x2 x3 x4 x5)
def Ucz (n:Nat):Nat→Int→LP→LP→LP→ByteArray→LP→Int→Int→(Int→LP→LP→Bool→Int→LP→ByteArray→O R)→(Int→LP→LP→LP→ByteArray→O R)→O R
 | 0,_,_,_,_,_,_,_,_,_,_=>none
 | m + 1,x1,x2,x3,x4,x5,x6,x7,x8,k0,k1=>Ue9 n (fun x1 x2 x3 x4 x5 x6 x7 x8=>Ucz n m x1 x2 x3 x4 x5 x6 x7 x8 k0 k1) x1 x2 x3 x4 x5 x6 x7 x8 k0 k1
def UoU (n:Nat) (x1:Int) (x2 x3 x4:LP) (x5:ByteArray) (x6:LP) (x7 x8:Int) (k0:Int→LP→LP→Bool→Int→LP→ByteArray→O R) (k1:Int→LP→LP→LP→ByteArray→O R):O R:=Ucz n n x1 x2 x3 x4 x5 x6 x7 x8 k0 k1
def p29 (n:Nat) (x1:Int) (x2 x3:LP) (k0:Bool→Int→O R):O R :=
 p30 n x1 x2 x3 (fun y4 y5 y6=>bif (y6 != 0) then (k0 false y6) else (UoU n x1 x2 x3 y4 y5 y4 ((y4).length:Int) 0 (fun y7 y8 y9 y10 y11 y12 y13=>k0 y10 y11) (fun y14 y15 y16 y17 y18=>p31 n y14 y15 y16 (fun y19=>bif y19 then (p19 n y18 ⟨#[48]⟩ (fun y20=>k0 (bif true then (decide (y20<0)) else false) 0)) else (k0 false 0)))))
abbrev E29 (n:Nat):Code→Fr→Kc R→O R:=evC Tryz.prog (Uqj n) Uew n (38,[])
noncomputable def UnZ:Code:=Jj4 (Jll Tryz.f29) [1,1,1,0,1,0,0]
abbrev Uee:Sl (List SV):=(.c (sP (sFb (.c (Jlv .i64) (.c sSh .n)))) (.c (sP (sFb (.c sSh .n))) (.c (sBx 43 (cH (cS .n))) (cH (cI (cI .n))))))
abbrev Uli (n m:Nat) (K:Kc R):Uee.T (O R):=fun x1 x2 x3 x4 x5 x6 x7 x8=>Ucz n m x1 x2 x3 x4 x5 x6 x7 x8 (fun y1 y2 y3 y4 y5 y6 y7=>xL Uew 5 K .ret [.p (.fb [.v (.int .i64 y1),.sh y2]),.p (.fb [.sh y3]),vB y4,vI y5,.bx 43 [vH y6,vS y7]]) (fun y1 y2 y3 y4 y5=>xL Uew 5 K (.exit 0) [.p (.fb [.v (.int .i64 y1),.sh y2]),.p (.fb [.sh y3]),dD,dD,.bx 43 [vH y4,vS y5]])
abbrev Usc (n:Nat) (K:Kc R) (l0:Uee.T (O R)):Uee.T (O R):=fun x1 x2 x3 x4 x5 x6 x7 x8=>Ue9 n l0 x1 x2 x3 x4 x5 x6 x7 x8 (fun y1 y2 y3 y4 y5 y6 y7=>xL Uew 5 K .ret [.p (.fb [.v (.int .i64 y1),.sh y2]),.p (.fb [.sh y3]),vB y4,vI y5,.bx 43 [vH y6,vS y7]]) (fun y1 y2 y3 y4 y5=>xL Uew 5 K (.exit 0) [.p (.fb [.v (.int .i64 y1),.sh y2]),.p (.fb [.sh y3]),dD,dD,.bx 43 [vH y4,vS y5]])
abbrev Uyp (n:Nat):Orc R:=oL Uew (E29 n) n 5 UnZ Uee (Uli n n) oN
abbrev Uxz (n:Nat):Orc R:=oN
abbrev K29 (R:Type) (n:Nat):=JcH (R:=R) Tryz.prog (Uqj n) Uew n (38,[]) (Uyp n) (Uxz n)
theorem Uue (n:Nat):K29 R n (false,5,UnZ):=JkF (lo:=Uyp n) (cu:=Uxz n) (pO pN (by kernel_rfl)) Uee (Uli n n) (JiE (F:=Uli n) Uee (Usc n) (fun K _ _ _ _ _ _ _ _=>rfl) (fun _ _=>rfl) (fun L K _ _ _ _ _ _ _ _=>by show _=_; kernel_rfl) n) fun _ _=>rfl
theorem UAM (n:Nat):Je6 (K29 R n) (JaJ Uew (Jll Tryz.f29)):=pO (pC (Uue n) pN) (by kernel_rfl)
abbrev t29:Sl (List SV):=(.c (sP (sFb (.c (Jlv .i64) (.c sSh .n)))) (.c (sP (sFb (.c sSh .n))) .n))
abbrev f29 (n:Nat) (K:List SV→O R):t29.T (O R):=fun x1 x2 x3=>p29 n x1 x2 x3 (fun y1 y2=>K [vB y1,vI y2])
abbrev Ux2 (n:Nat):FS:=fT [false,false] t29 (f29 n)
theorem UAd (n:Nat):FSound Tryz.prog GI 29 (Ux2 n):=gd Uew n (Ukv n) Tryz.func29 (.cons (Ukv n) t29 (f29 n) (fun K _ _ _=>(Jkq (c:=Jll Tryz.f29) (by kernel_rfl) (UAM n) K).trans (by kernel_rfl)) .nil) (by kernel_rfl)
def Upp:Ann:={ loops:=[],cuts:=[],frz:=[],rm:=[.id,.id] }
abbrev UsO (n:Nat):Env:=eC 18 (UvD n) eN
theorem Ukz (n:Nat):EnvOK Tryz.prog GI (UsO n):=.cons (.nil) (UyC n)
def p36 (n:Nat) (x1 x2:LP) (k0:ByteArray→Int→O R):O R :=
 p18 n x1 ⟨#[48]⟩ x2 (fun y3 y4=>k0 y3 y4)
abbrev UzM (n:Nat):Orc R:=oN
abbrev Uzh (n:Nat):Orc R:=oN
abbrev K36 (R:Type) (n:Nat):=JcH (R:=R) Tryz.prog (UsO n) Upp n (12,[]) (UzM n) (Uzh n)
theorem UAQ (n:Nat):Je6 (K36 R n) (JaJ Upp (Jll Tryz.f36)):=pO pN (by kernel_rfl)
abbrev t36:Sl (List SV):=(cH (cH .n))
abbrev f36 (n:Nat) (K:List SV→O R):t36.T (O R):=fun x1 x2=>p36 n x1 x2 (fun y1 y2=>K [vS y1,vI y2])
abbrev UvH (n:Nat):FS:=fT [false,false] t36 (f36 n)
theorem UyG (n:Nat):FSound Tryz.prog GI 36 (UvH n):=gd Upp n (Ukz n) Tryz.func36 (.cons (Ukz n) t36 (f36 n) (fun K _ _=>(Jkq (c:=Jll Tryz.f36) (by kernel_rfl) (UAQ n) K).trans (by kernel_rfl)) .nil) (by kernel_rfl)
def Uji:Ann:={ loops:=[],cuts:=[],frz:=[],rm:=[.id] }
abbrev Uoo (n:Nat):Env:=eN
theorem Uh7 (n:Nat):EnvOK Tryz.prog GI (Uoo n):=.nil
def Uww (n:Nat) (x1:Int) (x2:ByteArray) (x3:Int) (k0:Int→O R):O R :=
 k0 (IntKind.i64.wrap (x1 - x3))
abbrev UvT (n:Nat):Orc R:=oN
abbrev Uvp (n:Nat):Orc R:=oN
abbrev Uy4 (R:Type) (n:Nat):=JcH (R:=R) Tryz.prog (Uoo n) Uji n (9,[]) (UvT n) (Uvp n)
theorem UwN (n:Nat):Je6 (Uy4 R n) (JaJ Uji (Jll Tryz.f118)):=pO pN (by kernel_rfl)
abbrev Uw8:Sl (List SV):=(.c (sP (JlI (.c (Jlv .i64) (.c Jly .n)))) (cI .n))
abbrev f118 (n:Nat) (K:List SV→O R):Uw8.T (O R):=fun x1 x2 x3=>Uww n x1 x2 x3 (fun y1=>K [vI y1])
abbrev Utp (n:Nat):FS:=fT [false,false] Uw8 (f118 n)
theorem Uwb (n:Nat):FSound Tryz.prog GI 118 (Utp n):=gd Uji n (Uh7 n) Tryz.func118 (.cons (Uh7 n) Uw8 (f118 n) (fun K _ _ _=>(Jkq (c:=Jll Tryz.f118) (by kernel_rfl) (UwN n) K).trans (by kernel_rfl)) .nil) (by kernel_rfl)
def Udy:Ann:={ loops:=[(3,ids [0,1,2,8,9,10],ids [0,1,2,6,7,8,9])],cuts:=[],frz:=[],rm:=[.id,.id] }
abbrev Uke (n:Nat):Env:=eC 118 (Utp n) eN
theorem Uh6 (n:Nat):EnvOK Tryz.prog GI (Uke n):=.cons (.nil) (Uwb n)
def UiI (n:Nat) (l0:LP→Int→Int→Int→Int→O R) (x1:LP) (x2 x3 x4 x5:Int) (k0:LP→Int→Int→Int→O R):O R :=
 bif (decide (x4<x5)) then (let v6:=IntKind.u64.wrap (IntKind.i64.wrap (x4 + x5)); bif decide ((1:Int)<0) then none else (let v7:=Int.fdiv v6 (2 ^ (min ((1:Int)).toNat IntKind.u64.bits)); bif (inR (IntKind.i64.wrap (v7)) ((x1).length)) then (Jh2 ((x1).getD ((IntKind.i64.wrap (v7):Int).toNat) (.v (.bool false))) fun a8=>JdT a8 fun h9 t10=>Jj .i64 h9 fun e11=>JdT t10 fun h12 t13=>Jj3 h12 fun e14=>Ji2 t13 (Uww n e11 e14 x2 (fun y15=>bif (decide (y15<0)) then (let v16:=IntKind.i64.wrap ((IntKind.i64.wrap (v7)) + 1); l0 x1 x2 x3 v16 x5) else (l0 x1 x2 x3 x4 (IntKind.i64.wrap (v7)))))) else none)) else (k0 x1 x2 x3 x4)
def Ue5 (n:Nat):Nat→LP→Int→Int→Int→Int→(LP→Int→Int→Int→O R)→O R
 | 0,_,_,_,_,_,_=>none
 | m + 1,x1,x2,x3,x4,x5,k0=>UiI n (fun x1 x2 x3 x4 x5=>Ue5 n m x1 x2 x3 x4 x5 k0) x1 x2 x3 x4 x5 k0
def UqW (n:Nat) (x1:LP) (x2 x3 x4 x5:Int) (k0:LP→Int→Int→Int→O R):O R:=Ue5 n n x1 x2 x3 x4 x5 k0
def UyP (n:Nat) (x1:LP) (x2:Int) (k0:Int→Bool→O R):O R :=
 UqW n x1 x2 ((x1).length:Int) 0 ((x1).length:Int) (fun y3 y4 y5 y6=>bif (decide (y6<y5)) then (bif (inR y6 ((y3).length)) then (Jh2 ((y3).getD ((y6:Int).toNat) (.v (.bool false))) fun a7=>JdT a7 fun h8 t9=>Jj .i64 h8 fun e10=>JdT t9 fun h11 t12=>Jj3 h11 fun e13=>Ji2 t12 (Uww n e10 e13 y4 (fun y14=>k0 y6 (bif true then (y14 == 0) else false)))) else none) else (k0 y6 false))
abbrev UyZ (n:Nat):Code→Fr→Kc R→O R:=evC Tryz.prog (Uke n) Udy n (49,[])
noncomputable def UjI:Code:=Jj4 (Jll Tryz.f117) [1,1,1,0,0,0]
abbrev UcW:Sl (List SV):=(cH (cI (.c (sP (sFn 118)) (cI (cI (cI .n))))))
abbrev UgK (n m:Nat) (K:Kc R):UcW.T (O R):=fun x1 x2 x3 x4 x5=>Ue5 n m x1 x2 x3 x4 x5 (fun y1 y2 y3 y4=>xL Udy 3 K (.exit 0) [vH y1,vI y2,.p (.v (.func (.func 118) #[] #[])),dD,dD,vI y3,vI y4])
abbrev UpT (n:Nat) (K:Kc R) (l0:UcW.T (O R)):UcW.T (O R):=fun x1 x2 x3 x4 x5=>UiI n l0 x1 x2 x3 x4 x5 (fun y1 y2 y3 y4=>xL Udy 3 K (.exit 0) [vH y1,vI y2,.p (.v (.func (.func 118) #[] #[])),dD,dD,vI y3,vI y4])
abbrev UtL (n:Nat):Orc R:=oL Udy (UyZ n) n 3 UjI UcW (UgK n n) oN
abbrev UsB (n:Nat):Orc R:=oN
abbrev Uxt (R:Type) (n:Nat):=JcH (R:=R) Tryz.prog (Uke n) Udy n (49,[]) (UtL n) (UsB n)
theorem Urh (n:Nat):Uxt R n (false,3,UjI):=JkF (lo:=UtL n) (cu:=UsB n) (pO pN (by kernel_rfl)) UcW (UgK n n) (JiE (F:=UgK n) UcW (UpT n) (fun K _ _ _ _ _=>rfl) (fun _ _=>rfl) (fun L K _ _ _ _ _=>by show _=_; kernel_rfl) n) fun _ _=>rfl
theorem UwM (n:Nat):Je6 (Uxt R n) (JaJ Udy (Jll Tryz.f117)):=pO (pC (Urh n) pN) (by kernel_rfl)
abbrev t117:Sl (List SV):=(cH (cI (.c (sP (sFn 118)) .n)))
abbrev f117 (n:Nat) (K:List SV→O R):t117.T (O R):=fun x1 x2=>UyP n x1 x2 (fun y1 y2=>K [vI y1,vB y2])
abbrev Uto (n:Nat):FS:=fT [false,false,false] t117 (f117 n)
theorem Uwa (n:Nat):FSound Tryz.prog GI 117 (Uto n):=gd Udy n (Uh6 n) Tryz.func117 (.cons (Uh6 n) t117 (f117 n) (fun K _ _=>(Jkq (c:=Jll Tryz.f117) (by kernel_rfl) (UwM n) K).trans (by kernel_rfl)) .nil) (by kernel_rfl)
def UpF:Ann:={ loops:=[],cuts:=[],frz:=[],rm:=[.id,.id] }
abbrev Us4 (n:Nat):Env:=eC 117 (Uto n) eN
theorem UkY (n:Nat):EnvOK Tryz.prog GI (Us4 n):=.cons (.nil) (Uwa n)
def p81 (n:Nat) (x1:LP) (x2:ByteArray) (x3:Int) (k0:Int→Bool→O R):O R :=
 UyP n x1 x3 (fun y4 y5=>k0 y4 y5)
abbrev Uz2 (n:Nat):Orc R:=oN
abbrev Uzx (n:Nat):Orc R:=oN
abbrev K81 (R:Type) (n:Nat):=JcH (R:=R) Tryz.prog (Us4 n) UpF n (12,[]) (Uz2 n) (Uzx n)
theorem UBe (n:Nat):Je6 (K81 R n) (JaJ UpF (Jll Tryz.f81)):=pO pN (by kernel_rfl)
abbrev t81:Sl (List SV):=(.c (sP (JlI (.c sSh (.c Jly .n)))) (cI .n))
abbrev f81 (n:Nat) (K:List SV→O R):t81.T (O R):=fun x1 x2 x3=>p81 n x1 x2 x3 (fun y1 y2=>K [vI y1,vB y2])
abbrev Uyh (n:Nat):FS:=fT [false,false] t81 (f81 n)
theorem UAt (n:Nat):FSound Tryz.prog GI 81 (Uyh n):=gd UpF n (UkY n) Tryz.func81 (.cons (UkY n) t81 (f81 n) (fun K _ _ _=>(Jkq (c:=Jll Tryz.f81) (by kernel_rfl) (UBe n) K).trans (by kernel_rfl)) .nil) (by kernel_rfl)
def UiY:Ann:={ loops:=[],cuts:=[(3,ids [1,2],ids [4])],frz:=[],rm:=[.id] }
abbrev Uqn (n:Nat):Env:=eC 81 (Uyh n) (eC 80 (UvN n) (eC 52 (UrS n) eN))
theorem UkB (n:Nat):EnvOK Tryz.prog GI (Uqn n):=.cons (.cons (.cons (.nil) (UtW n)) (UyM n)) (UAt n)
def UoY (n:Nat) (x1:Int) (x2:LP) (x3:ByteArray) (k0:ByteArray→O R):O R :=
 p81 n x2 x3 x1 (fun y4 y5=>bif y5 then (bif (inR y4 ((x2).length)) then (Jh2 ((x2).getD ((y4:Int).toNat) (.v (.bool false))) fun a6=>JdT a6 fun h7 t8=>Jj .i64 h7 fun e9=>JdT t8 fun h10 t11=>Jj3 h10 fun e12=>Ji2 t11 (k0 e12)) else none) else (k0 ⟨#[48]⟩))
def p38 (n:Nat) (x1:LP) (x2:ByteArray) (x3:Int) (k0:ByteArray→O R):O R :=
 p52 n x1 x2 (fun y4=>bif (y4 != 0) then (k0 ⟨#[48]⟩) else (p80 n x3 (fun y5=>bif (bif false then true else (!y5)) then (k0 ⟨#[48]⟩) else (UoY n x3 x1 x2 (fun y6=>k0 y6)))))
abbrev E38 (n:Nat):Code→Fr→Kc R→O R:=evC Tryz.prog (Uqn n) UiY n (28,[])
noncomputable def Un4:Code:=Jj4 (Jll Tryz.f38) [1,1]
abbrev Umq:Sl (List SV):=(cI (.c (sBx 43 (cH (cS .n))) .n))
abbrev UoA (n:Nat) (K:Kc R):Umq.T (O R):=fun x1 x2 x3=>UoY n x1 x2 x3 (fun y1=>xC UiY 3 K .ret [vS y1])
abbrev Uys (n:Nat):Orc R:=oN
abbrev UxC (n:Nat):Orc R:=oC UiY (E38 n) 3 Un4 Umq (UoA n) oN
abbrev K38 (R:Type) (n:Nat):=JcH (R:=R) Tryz.prog (Uqn n) UiY n (28,[]) (Uys n) (UxC n)
theorem Uul (n:Nat):K38 R n (true,3,Un4):=JkW (lo:=Uys n) (cu:=UxC n) (pO pN (by kernel_rfl)) Umq (UoA n) (fun K _ _ _=>by show _=_; kernel_rfl) fun _ _=>rfl
theorem UAS (n:Nat):Je6 (K38 R n) (JaJ UiY (Jll Tryz.f38)):=pO (pC (Uul n) pN) (by kernel_rfl)
abbrev t38:Sl (List SV):=(.c (sP (JlI (.c sSh (.c Jly .n)))) (cI .n))
abbrev f38 (n:Nat) (K:List SV→O R):t38.T (O R):=fun x1 x2 x3=>p38 n x1 x2 x3 (fun y1=>K [vS y1])
abbrev Ux5 (n:Nat):FS:=fT [false,false] t38 (f38 n)
theorem UAg (n:Nat):FSound Tryz.prog GI 38 (Ux5 n):=gd UiY n (UkB n) Tryz.func38 (.cons (UkB n) t38 (f38 n) (fun K _ _ _=>(Jkq (c:=Jll Tryz.f38) (by kernel_rfl) (UAS n) K).trans (by kernel_rfl)) .nil) (by kernel_rfl)
def Uez:Ann:={ loops:=[(9,ids [2,6,9,40,41],ids [4,5,9])],cuts:=[(8,ids [0,2,6,9],ids [4,5])],frz:=[],rm:=[.id,.id] }
abbrev Uqm (n:Nat):Env:=eC 38 (Ux5 n) (eC 37 (Ux4 n) (eC 36 (UvH n) (eC 31 (UvG n) (eC 30 (Uu2 n) (eC 19 (UqL n) eN)))))
theorem Uky (n:Nat):EnvOK Tryz.prog GI (Uqm n):=.cons (.cons (.cons (.cons (.cons (.cons (.nil) (UrX n)) (Uwp n)) (UyF n)) (UyG n)) (UAf n)) (UAg n)
def Umb (n:Nat) (l0:LP→LP→ByteArray→Bool→Int→Int→O R) (x1 x2:LP) (x3:ByteArray) (x4:Bool) (x5 x6:Int) (k0:Bool→O R):O R :=
 bif (decide (x6<x5)) then (bif x4 then (bif true then (bif true then (p38 n x2 x3 x6 (fun y7=>bif true then (bif true then (bif true then (bif true then (p38 n x1 ⟨#[48]⟩ x6 (fun y8=>bif true then (p19 n y7 y8 (fun y9=>bif true then (l0 x1 x2 x3 (bif true then (decide (y9≤0)) else false) x5 (IntKind.i64.wrap (x6 + 1))) else none)) else none)) else none) else none) else none) else none)) else none) else none) else (bif false then none else (bif false then none else (bif false then none else (bif false then none else (bif false then none else (bif false then none else (bif false then none else (bif false then none else (bif false then none else (l0 x1 x2 x3 false x5 (IntKind.i64.wrap (x6 + 1))))))))))))) else (k0 x4)
def UgY (n:Nat):Nat→LP→LP→ByteArray→Bool→Int→Int→(Bool→O R)→O R
 | 0,_,_,_,_,_,_,_=>none
 | m + 1,x1,x2,x3,x4,x5,x6,k0=>Umb n (fun x1 x2 x3 x4 x5 x6=>UgY n m x1 x2 x3 x4 x5 x6 k0) x1 x2 x3 x4 x5 x6 k0
def Ut4 (n:Nat) (x1 x2:LP) (x3:ByteArray) (x4:Bool) (x5 x6:Int) (k0:Bool→O R):O R:=UgY n n x1 x2 x3 x4 x5 x6 k0
def Uma (n:Nat) (x1:Int) (x2 x3 x4:LP) (x5:ByteArray) (x6:Bool) (k0:Bool→Int→O R):O R :=
 Ut4 n x3 x4 x5 x6 x1 0 (fun y7=>k0 y7 0)
def p35 (n:Nat) (x1:Int) (x2 x3 x4 x5:LP) (k0:Bool→Int→O R):O R :=
 p30 n x1 x2 x3 (fun y6 y7 y8=>bif (y8 != 0) then (k0 false y8) else (p36 n x4 x5 (fun y9 y10=>bif (y10 != 0) then (k0 false y10) else (p31 n x1 x2 x3 (fun y11=>bif y11 then (bif true then (bif true then (bif true then (p37 n y7 (fun y12=>bif true then (Uma n x1 x2 x4 y6 y7 (bif true then eqS y9 y12 else false) (fun y13 y14=>k0 y13 y14)) else none)) else none) else none) else none) else (bif false then none else (bif false then none else (bif false then none else (bif false then none else (bif false then none else (Uma n x1 x2 x4 y6 y7 false (fun y15 y16=>k0 y15 y16))))))))))))
abbrev E35 (n:Nat):Code→Fr→Kc R→O R:=evC Tryz.prog (Uqm n) Uez n (58,[])
noncomputable def Un2:Code:=Jj4 (Jll Tryz.f35) [1,1,1,1,1,1]
abbrev Ump:Sl (List SV):=(.c (sP (sFb (.c (Jlv .i64) (.c sSh .n)))) (.c (sP (sFb (.c sSh .n))) (.c (sBx 43 (cH (cS .n))) (cB .n))))
abbrev Uoz (n:Nat) (K:Kc R):Ump.T (O R):=fun x1 x2 x3 x4 x5 x6=>Uma n x1 x2 x3 x4 x5 x6 (fun y1 y2=>xC Uez 8 K .ret [vB y1,vI y2])
noncomputable def Un3:Code:=Jj4 (Jll Tryz.f35) [1,1,1,1,1,1,0,1,0,0]
abbrev Ueh:Sl (List SV):=(.c (sP (sFb (.c sSh .n))) (.c (sBx 43 (cH (cS .n))) (cB (cI (cI .n)))))
abbrev Ulo (n m:Nat) (K:Kc R):Ueh.T (O R):=fun x1 x2 x3 x4 x5 x6=>UgY n m x1 x2 x3 x4 x5 x6 (fun y1=>xL Uez 9 K (.exit 0) [dD,dD,vB y1])
abbrev Usf (n:Nat) (K:Kc R) (l0:Ueh.T (O R)):Ueh.T (O R):=fun x1 x2 x3 x4 x5 x6=>Umb n l0 x1 x2 x3 x4 x5 x6 (fun y1=>xL Uez 9 K (.exit 0) [dD,dD,vB y1])
abbrev UvZ (n:Nat):Orc R:=oL Uez (E35 n) n 9 Un3 Ueh (Ulo n n) oN
abbrev Uvv (n:Nat):Orc R:=oC Uez (E35 n) 8 Un2 Ump (Uoz n) oN
abbrev K35 (R:Type) (n:Nat):=JcH (R:=R) Tryz.prog (Uqm n) Uez n (58,[]) (UvZ n) (Uvv n)
theorem Uuk (n:Nat):K35 R n (false,9,Un3):=JkF (lo:=UvZ n) (cu:=Uvv n) (pO pN (by kernel_rfl)) Ueh (Ulo n n) (JiE (F:=Ulo n) Ueh (Usf n) (fun K _ _ _ _ _ _=>rfl) (fun _ _=>rfl) (fun L K _ _ _ _ _ _=>by show _=_; kernel_rfl) n) fun _ _=>rfl
theorem Uuj (n:Nat):K35 R n (true,8,Un2):=JkW (lo:=UvZ n) (cu:=Uvv n) (pO (pC (Uuk n) pN) (by kernel_rfl)) Ump (Uoz n) (fun K _ _ _ _ _ _=>by show _=_; kernel_rfl) fun _ _=>rfl
theorem UAP (n:Nat):Je6 (K35 R n) (JaJ Uez (Jll Tryz.f35)):=pO (pC (Uuj n) pN) (by kernel_rfl)
abbrev t35:Sl (List SV):=(.c (sP (sFb (.c (Jlv .i64) (.c sSh .n)))) (.c (sP (sFb (.c sSh .n))) (.c (sP (sFb (.c sSh .n))) (.c (sP (sFb (.c sSh .n))) .n))))
abbrev f35 (n:Nat) (K:List SV→O R):t35.T (O R):=fun x1 x2 x3 x4 x5=>p35 n x1 x2 x3 x4 x5 (fun y1 y2=>K [vB y1,vI y2])
abbrev Ux3 (n:Nat):FS:=fT [false,false,false,false] t35 (f35 n)
theorem UAe (n:Nat):FSound Tryz.prog GI 35 (Ux3 n):=gd Uez n (Uky n) Tryz.func35 (.cons (Uky n) t35 (f35 n) (fun K _ _ _ _ _=>(Jkq (c:=Jll Tryz.f35) (by kernel_rfl) (UAP n) K).trans (by kernel_rfl)) .nil) (by kernel_rfl)
def Uc6:Ann:={ loops:=[(3,ids [0,1,2,5,15,16,17],ids [0,1,2,3,4,5]),(8,ids [0,2,5,29,30,31],ids [0,2,3,4,5])],cuts:=[],frz:=[],rm:=[.id,.id] }
abbrev Uqt (n:Nat):Env:=eC 36 (UvH n) (eC 19 (UqL n) eN)
theorem UkM (n:Nat):EnvOK Tryz.prog GI (Uqt n):=.cons (.cons (.nil) (UrX n)) (UyG n)
def Umc (n:Nat) (l0:LP→Int→LP→LP→Bool→LP→Int→Int→O R) (x1:LP) (x2:Int) (x3 x4:LP) (x5:Bool) (x6:LP) (x7 x8:Int) (k0:LP→Int→LP→LP→Bool→O R):O R :=
 bif (decide (x8<x7)) then (bif (inR x8 ((x6).length)) then (Jj3 ((x6).getD ((x8:Int).toNat) (.v (.bool false))) fun e9=>bif x5 then (bif true then (p19 n e9 ⟨#[48]⟩ (fun y10=>bif true then (l0 x1 x2 x3 x4 (bif true then (decide (y10≥0)) else false) x6 x7 (IntKind.i64.wrap (x8 + 1))) else none)) else none) else (bif false then none else (bif false then none else (bif false then none else (l0 x1 x2 x3 x4 false x6 x7 (IntKind.i64.wrap (x8 + 1))))))) else none) else (k0 x1 x2 x3 x4 x5)
def Ug0 (n:Nat):Nat→LP→Int→LP→LP→Bool→LP→Int→Int→(LP→Int→LP→LP→Bool→O R)→O R
 | 0,_,_,_,_,_,_,_,_,_=>none
 | m + 1,x1,x2,x3,x4,x5,x6,x7,x8,k0=>Umc n (fun x1 x2 x3 x4 x5 x6 x7 x8=>Ug0 n m x1 x2 x3 x4 x5 x6 x7 x8 k0) x1 x2 x3 x4 x5 x6 x7 x8 k0
def Ut5 (n:Nat) (x1:LP) (x2:Int) (x3 x4:LP) (x5:Bool) (x6:LP) (x7 x8:Int) (k0:LP→Int→LP→LP→Bool→O R):O R:=Ug0 n n x1 x2 x3 x4 x5 x6 x7 x8 k0
def Umd (n:Nat) (l0:LP→LP→Bool→LP→Int→Int→O R) (x1 x2:LP) (x3:Bool) (x4:LP) (x5 x6:Int) (k0:LP→LP→Bool→Int→Bool→O R) (k1:LP→LP→Bool→O R):O R :=
 bif (decide (x6<x5)) then (bif (inR x6 ((x4).length)) then (Jh2 ((x4).getD ((x6:Int).toNat) (.v (.bool false))) fun a7=>JdT a7 fun h8 t9=>Jkr h8 fun e10=>JdT t9 fun h11 t12=>Jj3 h11 fun e13=>JdT t12 fun h14 t15=>Jj2 h14 fun e16=>JdT t15 fun h17 t18=>Jj .i64 h17 fun e19=>Ji2 t18 (p36 n e10 x1 (fun y20 y21=>bif (y21 != 0) then (k0 x1 x2 false y21 x3) else (p19 n y20 ⟨#[48]⟩ (fun y22=>bif x3 then (bif true then (bif true then (bif (y22 == 0) then (bif true then (bif true then (bif true then (bif true then (bif true then (l0 x1 x2 true x4 x5 (IntKind.i64.wrap (x6 + 1))) else none) else none) else none) else none) else none) else (bif false then none else (bif false then none else (bif (decide (y22>0)) then (bif true then (bif true then (bif false then none else (bif true then (l0 x1 x2 (bif true then (bif false then true else (bif true then (!e16) else false)) else false) x4 x5 (IntKind.i64.wrap (x6 + 1))) else none)) else none) else none) else (bif false then none else (bif false then none else (bif false then none else (bif false then none else (bif true then (l0 x1 x2 false x4 x5 (IntKind.i64.wrap (x6 + 1))) else none))))))))) else none) else none) else (bif false then none else (bif false then none else (bif false then none else (bif false then none else (l0 x1 x2 false x4 x5 (IntKind.i64.wrap (x6 + 1)))))))))))) else none) else (k1 x1 x2 x3)
def Ug1 (n:Nat):Nat→LP→LP→Bool→LP→Int→Int→(LP→LP→Bool→Int→Bool→O R)→(LP→LP→Bool→O R)→O R
 | 0,_,_,_,_,_,_,_,_=>none
 | m + 1,x1,x2,x3,x4,x5,x6,k0,k1=>Umd n (fun x1 x2 x3 x4 x5 x6=>Ug1 n m x1 x2 x3 x4 x5 x6 k0 k1) x1 x2 x3 x4 x5 x6 k0 k1
def Ut6 (n:Nat) (x1 x2:LP) (x3:Bool) (x4:LP) (x5 x6:Int) (k0:LP→LP→Bool→Int→Bool→O R) (k1:LP→LP→Bool→O R):O R:=Ug1 n n x1 x2 x3 x4 x5 x6 k0 k1
def p59 (n:Nat) (x1:LP) (x2:Int) (x3 x4:LP) (k0:Bool→Int→O R):O R :=
 Ut5 n x1 x2 x3 x4 true x1 ((x1).length:Int) 0 (fun y5 y6 y7 y8 y9=>Ut6 n y5 y8 y9 y7 ((y7).length:Int) 0 (fun y10 y11 y12 y13 y14=>k0 y12 y13) (fun y15 y16 y17=>p36 n y16 y15 (fun y18 y19=>bif y17 then (bif true then (p19 n y18 ⟨#[48]⟩ (fun y20=>bif true then (k0 (bif true then (decide (y20<0)) else false) y19) else none)) else none) else (bif false then none else (bif false then none else (bif false then none else (k0 false y19)))))))
abbrev E59 (n:Nat):Code→Fr→Kc R→O R:=evC Tryz.prog (Uqt n) Uc6 n (75,[])
noncomputable def Uo:Code:=Jj4 (Jll Tryz.f59) [1,1,0,1,0,0]
abbrev Uen:Sl (List SV):=(.c (sP (sFb (.c sSh .n))) (.c (sP (sFb (.c (Jlv .i64) (.c sSh .n)))) (.c (sP (sFb (.c sSh .n))) (cB (cH (cI (cI .n)))))))
abbrev Ulv (n m:Nat) (K:Kc R):Uen.T (O R):=fun x1 x2 x3 x4 x5 x6 x7 x8=>Ug0 n m x1 x2 x3 x4 x5 x6 x7 x8 (fun y1 y2 y3 y4 y5=>xL Uc6 3 K (.exit 0) [.p (.fb [.sh y1]),.p (.fb [.v (.int .i64 y2),.sh y3]),.p (.fb [.sh y4]),dD,dD,vB y5])
abbrev Usl (n:Nat) (K:Kc R) (l0:Uen.T (O R)):Uen.T (O R):=fun x1 x2 x3 x4 x5 x6 x7 x8=>Umc n l0 x1 x2 x3 x4 x5 x6 x7 x8 (fun y1 y2 y3 y4 y5=>xL Uc6 3 K (.exit 0) [.p (.fb [.sh y1]),.p (.fb [.v (.int .i64 y2),.sh y3]),.p (.fb [.sh y4]),dD,dD,vB y5])
noncomputable def Uoa:Code:=Jj4 (Jll Tryz.f59) [1,1,1,0,1,0,0]
abbrev Ueo:Sl (List SV):=(.c (sP (sFb (.c sSh .n))) (.c (sP (sFb (.c sSh .n))) (cB (cH (cI (cI .n))))))
abbrev Ulw (n m:Nat) (K:Kc R):Ueo.T (O R):=fun x1 x2 x3 x4 x5 x6=>Ug1 n m x1 x2 x3 x4 x5 x6 (fun y1 y2 y3 y4 y5=>xL Uc6 8 K .ret [.p (.fb [.sh y1]),.p (.fb [.sh y2]),vB y3,vI y4,vB y5]) (fun y1 y2 y3=>xL Uc6 8 K (.exit 2) [.p (.fb [.sh y1]),.p (.fb [.sh y2]),dD,dD,vB y3])
abbrev Usm (n:Nat) (K:Kc R) (l0:Ueo.T (O R)):Ueo.T (O R):=fun x1 x2 x3 x4 x5 x6=>Umd n l0 x1 x2 x3 x4 x5 x6 (fun y1 y2 y3 y4 y5=>xL Uc6 8 K .ret [.p (.fb [.sh y1]),.p (.fb [.sh y2]),vB y3,vI y4,vB y5]) (fun y1 y2 y3=>xL Uc6 8 K (.exit 2) [.p (.fb [.sh y1]),.p (.fb [.sh y2]),dD,dD,vB y3])
abbrev Uv1 (n:Nat):Orc R:=oL Uc6 (E59 n) n 8 Uoa Ueo (Ulw n n) (oL Uc6 (E59 n) n 3 Uo Uen (Ulv n n) oN)
abbrev Uvx (n:Nat):Orc R:=oN
abbrev K59 (R:Type) (n:Nat):=JcH (R:=R) Tryz.prog (Uqt n) Uc6 n (75,[]) (Uv1 n) (Uvx n)
theorem Uur (n:Nat):K59 R n (false,3,Uo):=JkF (lo:=Uv1 n) (cu:=Uvx n) (pO pN (by kernel_rfl)) Uen (Ulv n n) (JiE (F:=Ulv n) Uen (Usl n) (fun K _ _ _ _ _ _ _ _=>rfl) (fun _ _=>rfl) (fun L K _ _ _ _ _ _ _ _=>by show _=_; kernel_rfl) n) fun _ _=>rfl
theorem Uus (n:Nat):K59 R n (false,8,Uoa):=JkF (lo:=Uv1 n) (cu:=Uvx n) (pO pN (by kernel_rfl)) Ueo (Ulw n n) (JiE (F:=Ulw n) Ueo (Usm n) (fun K _ _ _ _ _ _=>rfl) (fun _ _=>rfl) (fun L K _ _ _ _ _ _=>by show _=_; kernel_rfl) n) fun _ _=>rfl
theorem UA3 (n:Nat):Je6 (K59 R n) (JaJ Uc6 (Jll Tryz.f59)):=pO (pC (Uur n) (pC (Uus n) pN)) (by kernel_rfl)
abbrev t59:Sl (List SV):=(.c (sP (sFb (.c sSh .n))) (.c (sP (sFb (.c (Jlv .i64) (.c sSh .n)))) (.c (sP (sFb (.c sSh .n))) .n)))
abbrev f59 (n:Nat) (K:List SV→O R):t59.T (O R):=fun x1 x2 x3 x4=>p59 n x1 x2 x3 x4 (fun y1 y2=>K [vB y1,vI y2])
abbrev Uy (n:Nat):FS:=fT [false,false,false] t59 (f59 n)
theorem UAl (n:Nat):FSound Tryz.prog GI 59 (Uy n):=gd Uc6 n (UkM n) Tryz.func59 (.cons (UkM n) t59 (f59 n) (fun K _ _ _ _=>(Jkq (c:=Jll Tryz.f59) (by kernel_rfl) (UA3 n) K).trans (by kernel_rfl)) .nil) (by kernel_rfl)
end
end Go.Proofs.YtmgfmlhdnadglaaGreatDoor
